/- rules, arithmetic and contracts: part 10
   Proved without conditions of its own: each theorem bears its own. -/
import Derived.Test.YtcmiiammekgooaaGreatSd03
import Derived.Test.YtcmiiammekgooaaGreatSd02
import Derived.Test.YtcmiiammekgooaaGreatSd01
import Derived.Test.YtcmiiammekgooaaGreatSd07
import Derived.Test.YtcmiiammekgooaaGreatSd08
set_option linter.all false
namespace Go.Sky
open Go.Proofs.Tryz
open Go.Proofs
set_option maxRecDepth 20000
set_option maxHeartbeats 4000000
set_option linter.unusedSimpArgs false
theorem Fm(b:Bool)(s:ByteArray):Mv prog 103 #[.agg #[.bool b,.string s]] [] (.bool (okW b s)):=by
 refine Yd func103 J ntmps103 J trivial ?_
 intro w0 sc hw hsc
 simp only [Zq,Zp]
 refine Zc<|Zg<|tt (Xa (i:=1) J J J J J hw) J fun b _=>as_ J<|Zf<|Za<|Zc<|Zc<|Zg<|dt (Xk J J Cm J zT9 J J)<|dt (Pr (i:=1) J J J iA9 J)<|dt (Zi9 J J J J)<|Zf<|Za<|Zr J (fun h264=>?_) (fun h264=>?_)
 ·exact Zc<|Zg<|dt (Xk J J Cm J zT4 J J)<|dt (Pr (i:=1) J J J iA4 J)<|dt (Yr J J)<|as_ J<|Zf<|Za<|Zt<|Ys<|xU hsc results103 J J (by unfold okW;rw [if_pos h264])
 ·refine Zj<|Za<|Zc<|Zg<|dt (Xk J J Cm J zT9 J J)<|dt (Pr (i:=1) J J J iA9 J)<|dt (Zsx (i:=0) J J J uT9 J)<|dt (Xo J J J)<|mv J<|Qp (d:=13) J (fun s267=>?_) (fun s267=>?_)
  ·exact gdt (Xk J J Cm J zT9 J J) J J<|gdt (Pr (i:=1) J J J iA9 J) J J<|gdt (Ie J J uT9) J J<|gdt (Ac J J J) J J<|dt (Yi J J J)<|as_ J<|Zf<|Za<|Zt<|xU hsc results103 J J (by unfold okW;rw [if_neg h264];simp_all<;>omega)
  ·exact gsk J J J<|gsk J J J<|gsk J J J<|gsk J J J<|dt (Zo J J J)<|as_ J<|Zf<|Za<|Zt<|xU hsc results103 J J (by unfold okW;rw [if_neg h264];simp_all<;>omega)
theorem Lo(x:Int)(hx:bl x.natAbs≤65536):Cal prog 103 #[wv x] [] false (G:=Unit) (fun _=>True) (fun _=> .bool true) (fun _=>[]):=Zaa hx▸Fm _ _
theorem Zhz(b:Bool)(s:ByteArray)(c:Bool)(t:ByteArray):Mv prog 129 #[.agg #[.bool b,.string s],.agg #[.bool c,.string t]] [] (.bool (okW b s && okW c t)):=by
 refine Yd func129 J ntmps129 J trivial ?_
 intro w0 sc hw hsc
 simp only [Zq,Zp]
 refine Zc<|Zg<|tt (Xa (i:=1) J J J J J hw) J fun b _=>tt (Xa (i:=2) J J J J J hw) J fun b_2 _=>as_ J<|Zf<|Za<|Zc<|Zg<|dt (Yb (i:=1) J J J Qg Ye J J)<|tt (Zh (n:=2) (Fm _ _) J J J K1 Ze9 Ze J hw) J fun _ _=>mv J<|Oj (d:=7) J (fun s271=>?_) (fun s271=>?_)
 ·exact gdt (Yb (i:=2) J J J Qg Ye J J) J J<|gtt (Zh (n:=2) (Fm _ _) J J J K1 Ze9 Ze J hw) J J J fun _ _=>dt (Yi J J J)<|as_ J<|Zf<|Za<|Zt<|xU hsc results129 J J (by simp_all)
 ·exact gsk J J J<|gsk J J J<|dt (Zo J J J)<|as_ J<|Zf<|Za<|Zt<|xU hsc results129 J J (by simp_all)
theorem Lj(x y:Int)(hx:bl x.natAbs≤65536)(hy:bl y.natAbs≤65536):Mv prog 129 #[wv x,wv y] [] (.bool true):=by
 have h:=Zhz (decide (x<0)) (Qc x.natAbs) (decide (y<0)) (Qc y.natAbs)
 rw [Zaa hx,Zaa hy]at h;exact h
theorem Mg(x:Int)(hx:bl x.natAbs≤65536):Mv prog 104 #[wv x] [] (.int .i64 x.sign):=by
 refine Yd func104 J ntmps104 J trivial ?_
 intro w0 sc hw hsc
 simp only [Zq,Zp]
 exact Zc<|Zg<|tt (Xa (i:=1) J J J J J hw) J fun b _=>as_ J<|Zf<|Za<|Zc<|Zc<|Zg<|dt (Yb (i:=1) J J J Qg Ye J J)<|tt (Zh (n:=1) (Lo _ ‹_›) J J J K1 Ze9 Ze J hw) J fun _ _=>dt (Yr J J)<|Zf<|Za<|Zw J<|Zj<|Za<|Zc<|Zg<|dt (Yb (i:=1) J J J Qg Ye J J)<|tt (Zh (n:=2) (Qs _ _ (Xh _)) J J J K1 Mz Ze J hw) J fun g hg=>tt (Zh (n:=2) (Zg7 _ _ _ ‹_›) J J J K1 call135 (Zd 2 J J J Ze) J hw) J fun _ _=>as_ J<|Zf<|Za<|Zt<|xU hsc results104 J J J
theorem Zf9(x:Int)(hx:bl x.natAbs≤65536):Mv prog 145 #[wv x] [] (.int .i64 (bl x.natAbs:Int)):=by
 refine Yd func145 J ntmps145 J trivial ?_
 intro w0 sc hw hsc
 simp only [Zq,Zp]
 exact Zc<|Zg<|tt (Xa (i:=1) J J J J J hw) J fun b _=>as_ J<|Zf<|Za<|Zc<|Zc<|Zg<|dt (Yb (i:=1) J J J Qg Ye J J)<|tt (Zh (n:=1) (Lo _ ‹_›) J J J K1 Ze9 Ze J hw) J fun _ _=>dt (Yr J J)<|Zf<|Za<|Zw J<|Zj<|Za<|Zc<|Zg<|dt (Xk J J Cm J zT9 J J)<|dt (Pr (i:=1) J J J iA9 J)<|tt (Zh (n:=2) (Al _) J J J K1 call170 Ze J hw) J fun v _=>tt (Zh (n:=2) (Zg8 _ _) J J J K1 call168 (Zd 2 J J J Ze) J hw) J fun _ _=>as_ J<|Zf<|Za<|Zt<|xU hsc results145 J J J
theorem Gk(x y:Int)(hx:bl x.natAbs≤65536:=by omega)(hy:bl y.natAbs≤65536:=by omega):Mv prog 82 #[wv x,wv y] [] (Zcb (x+y)):=by
 refine Yd func82 J ntmps82 J trivial ?_
 intro w0 sc hw hsc
 simp only [Zq,Zp]
 have hb:=Lv x y
 refine Zc<|Zg<|tt (Xa (i:=1) J J J J J hw) J fun b _=>tt (Xa (i:=2) J J J J J hw) J fun b_2 _=>tt (Zl (i:=3) J J zeroValue31 J J hw) J fun b_3 _=>as_ J<|Zf<|Za<|Zc<|Zc<|Zg<|dt (Yb (i:=1) J J J Qg Ye J J)<|dt (Yb (i:=2) J J J Qg Ye J J)<|tt (Zh (n:=3) (Lj _ _ ‹_› ‹_›) J J J K2 call129 Ze J hw) J fun _ _=>dt (Yr J J)<|Zf<|Za<|Zw J<|Zj<|Za<|Zc<|Qf (fun _=>False) [(0,0),(2,0),(1,1),(3,1),(4,1),(5,1),(6,0),(7,0),(8,3),(9,3)] ?_ ?_
 ·kernel_rfl
 exact r0' J J (st0 (Yb (i:=1) J J J Qg Ye J J))<|r0' J J (st0 (Yb (i:=2) J J J Qg Ye J J))<|r1' J (Zh (n:=4) (Qs _ _ (Xh _)) J J J K1 Mz Ze J hw) fun g hg=>r1' J (Zh (n:=5) (Qs _ _ (Xh _)) J J J K1 Mz Ze J hw) fun g_2 hg_2=>r1' J (Zh (n:=6) (Zd6 _ _ _ _ _ _ ‹_› ‹_›) J J J K2 call131 (Zd 4 J J J (Zd 5 J J J Ze)) J hw) fun g_3 hg_3=>r1' J (Zh (n:=6) (Kf _ _ _ ‹_›) J J J K1 call128 (Zd 6 J J J Ze) J hw) fun _ _=>r0' J J (st0 (Ya J J J))<|r0' J J (st0 (Ya J J J))<|r3' J (Zn (i:=3) J J J J J (by decide) J Ye J J ⟨Zb J,Zb J,trivial⟩ J hw trivial) fun _ _=>r3' J (Qq (Ot J J) J) fun _ _=>Py<|Za<|Zt<|Yl (.inl J) hsc () _ (fun a w hs=>Ns hs results82 (Yp (i:=3) J J Qg Ye J) J) J trivial J Zk
theorem Zlq(x y:Int)(hx:bl x.natAbs≤65536)(hy:bl y.natAbs≤65536):Mv prog 140 #[wv x,wv y] [] (Zcb (x-y)):=by
 refine Yd func140 J ntmps140 J trivial ?_
 intro w0 sc hw hsc
 simp only [Zq,Zp]
 have hb:=Ah x y
 have hny:=Znw y
 refine Zc<|Zg<|tt (Xa (i:=1) J J J J J hw) J fun b _=>tt (Xa (i:=2) J J J J J hw) J fun b_2 _=>tt (Zl (i:=3) J J zeroValue31 J J hw) J fun b_3 _=>as_ J<|Zf<|Za<|Zc<|Zc<|Zg<|dt (Yb (i:=1) J J J Qg Ye J J)<|dt (Yb (i:=2) J J J Qg Ye J J)<|tt (Zh (n:=3) (Lj _ _ ‹_› ‹_›) J J J K2 call129 Ze J hw) J fun _ _=>dt (Yr J J)<|Zf<|Za<|Zw J<|Zj<|Za<|Zc<|Qf (fun _=>False) [(0,0),(2,0),(1,1),(3,1),(4,1),(5,1),(6,1),(7,0),(8,0),(9,3),(10,3)] ?_ ?_
 ·kernel_rfl
 exact r0' J J (st0 (Yb (i:=1) J J J Qg Ye J J))<|r0' J J (st0 (Yb (i:=2) J J J Qg Ye J J))<|r1' J (Zh (n:=4) (Qs _ _ (Xh _)) J J J K1 Mz Ze J hw) fun g hg=>r1' J (Zh (n:=5) (Qs _ _ (Xh _)) J J J K1 Mz Ze J hw) fun g_2 hg_2=>r1' J (Zh (n:=6) (Zkh _ _ _ ‹_›) J J J K1 call134 (Zd 5 J J J Ze) J hw) fun g_3 hg_3=>r1' J (Zh (n:=7) (Zd6 _ _ _ _ _ _ ‹_› ‹_›) J J J K2 call131 (Zd 4 J J J (Zd 6 J J J Ze)) J hw) fun g_4 hg_4=>r1' J (Zh (n:=7) (Kf _ _ _ ‹_› (by rw [←Int.sub_eq_add_neg];omega)) J J J K1 call128 (Zd 7 J J J Ze) J hw) fun _ _=>r0' J J (st0 (Ya J J J))<|r0' J J (st0 (Ya J J J))<|r3' J (Zn (i:=3) J J J J J (by decide) J Ye J J ⟨Zb J,Zb J,trivial⟩ J hw trivial) fun _ _=>r3' J (Qq (Ot J J) J) fun _ _=>Py<|Za<|Zt<|Yl (.inl J) hsc () _ (fun a w hs=>Ns hs results140 (Yp (i:=3) J J Qg Ye J) J) (by rw [Int.sub_eq_add_neg]<;>rfl) trivial J Zk
theorem Ej(x y:Int)(hx:bl x.natAbs≤65536:=by omega)(hy:bl y.natAbs≤65536:=by omega):Mv prog 139 #[wv x,wv y] [] (Zcb (x*y)):=by
 refine Yd func139 J ntmps139 J trivial ?_
 intro w0 sc hw hsc
 simp only [Zq,Zp]
 have hb:=Qb x y
 refine Zc<|Zg<|tt (Xa (i:=1) J J J J J hw) J fun b _=>tt (Xa (i:=2) J J J J J hw) J fun b_2 _=>tt (Zl (i:=3) J J zeroValue31 J J hw) J fun b_3 _=>as_ J<|Zf<|Za<|Zc<|Zc<|Zg<|dt (Yb (i:=1) J J J Qg Ye J J)<|dt (Yb (i:=2) J J J Qg Ye J J)<|tt (Zh (n:=3) (Lj _ _ ‹_› ‹_›) J J J K2 call129 Ze J hw) J fun _ _=>dt (Yr J J)<|Zf<|Za<|Zw J<|Zj<|Za<|Zc<|Qf (fun _=>False) [(0,0),(2,0),(1,1),(3,1),(4,1),(5,1),(6,0),(7,0),(8,3),(9,3)] ?_ ?_
 ·kernel_rfl
 exact r0' J J (st0 (Yb (i:=1) J J J Qg Ye J J))<|r0' J J (st0 (Yb (i:=2) J J J Qg Ye J J))<|r1' J (Zh (n:=4) (Qs _ _ (Xh _)) J J J K1 Mz Ze J hw) fun g hg=>r1' J (Zh (n:=5) (Qs _ _ (Xh _)) J J J K1 Mz Ze J hw) fun g_2 hg_2=>r1' J (Zh (n:=6) (Zbc _ _ _ _ _ _ ‹_› ‹_›) J J J K2 call176 (Zd 4 J J J (Zd 5 J J J Ze)) J hw) fun g_3 hg_3=>r1' J (Zh (n:=6) (Kf _ _ _ ‹_›) J J J K1 call128 (Zd 6 J J J Ze) J hw) fun _ _=>r0' J J (st0 (Ya J J J))<|r0' J J (st0 (Ya J J J))<|r3' J (Zn (i:=3) J J J J J (by decide) J Ye J J ⟨Zb J,Zb J,trivial⟩ J hw trivial) fun _ _=>r3' J (Qq (Ot J J) J) fun _ _=>Py<|Za<|Zt<|Yl (.inl J) hsc () _ (fun a w hs=>Ns hs results139 (Yp (i:=3) J J Qg Ye J) J) J trivial J Zk
theorem Zt1(x y:Int)(hx:bl x.natAbs≤65536)(hy:bl y.natAbs≤65536):Mv prog 196 #[wv x,wv y] [] (Zcb (Int.gcd x y:Int)):=by
 refine Yd func196 J ntmps196 J trivial ?_
 intro w0 sc hw hsc
 simp only [Zq,Zp]
 have hb:=Ztl x.natAbs y.natAbs
 refine Zc<|Zg<|tt (Xa (i:=1) J J J J J hw) J fun b _=>tt (Xa (i:=2) J J J J J hw) J fun b_2 _=>tt (Zl (i:=3) J J zeroValue31 J J hw) J fun b_3 _=>as_ J<|Zf<|Za<|Zc<|Zc<|Zg<|dt (Yb (i:=1) J J J Qg Ye J J)<|dt (Yb (i:=2) J J J Qg Ye J J)<|tt (Zh (n:=3) (Lj _ _ ‹_› ‹_›) J J J K2 call129 Ze J hw) J fun _ _=>dt (Yr J J)<|Zf<|Za<|Zw J<|Zj<|Za<|Zc<|Qf (fun _=>False) [(0,0),(1,0),(3,0),(4,0),(2,1),(5,1),(6,1),(7,0),(8,1),(9,0),(10,0),(11,3),(12,3)] ?_ ?_
 ·kernel_rfl
 exact r0' J J (st0 (Xk J J Cm J zT9 J J))<|r0' J J (st0 (Pr (i:=1) J J J iA9 J))<|r0' J J (st0 (Xk J J Cm J zT9 J J))<|r0' J J (st0 (Pr (i:=2) J J J iA9 J))<|r1' J (Zh (n:=4) (Al _) J J J K1 call170 Ze J hw) fun v _=>r1' J (Zh (n:=5) (Al _) J J J K1 call170 Ze J hw) fun v_2 _=>r1' J (Zh (n:=6) (Zkk _ _ _ _) J J J K2 call185 (Zd 4 J J J (Zd 5 J J J Ze)) J hw) fun v_3 _=>r0' J J (st0 (Oh (ivs:=[(0,_),(1,_)]) J K4 (fun a w hs=>Ol ((Zb J) a w hs) ((Zx (i:=6) J Zi) a w hs))))<|r1' J (Zh (n:=6) (Kf false _ (Int.gcd x y:Int) (by simp [sg]) (by show bl (Nat.gcd x.natAbs y.natAbs)≤_;omega)) J J J K1 call128 (Zd 6 J J J Ze) J hw) fun _ _=>r0' J J (st0 (Ya J J J))<|r0' J J (st0 (Ya J J J))<|r3' J (Zn (i:=3) J J J J J (by decide) J Ye J J ⟨Zb J,Zb J,trivial⟩ J hw trivial) fun _ _=>r3' J (Qq (Ot J J) J) fun _ _=>Py<|Za<|Zt<|Yl (.inl J) hsc () _ (fun a w hs=>Ns hs results196 (Yp (i:=3) J J Qg Ye J) J) J trivial J Zk
theorem Cl(x y:Int)(hx:bl x.natAbs≤65536)(hy:bl y.natAbs≤65536)(hy0:y≠0):Mv prog 158 #[wv x,wv y] [] (.tuple #[wv (Zf2 (x/y)),wv (Zf2 (x%y)),.int .i64 0]):=by
 refine Yd func158 J ntmps158 J trivial ?_
 intro w0 sc hw hsc
 simp only [Zq,Zp]
 have hb:=Zhv x y
 have hb2:=Ztk x y hy0
 refine Zc<|Zg<|tt (Xa (i:=1) J J J J J hw) J fun b _=>tt (Xa (i:=2) J J J J J hw) J fun b_2 _=>tt (Zl (i:=3) J J zeroValue31 J J hw) J fun b_3 _=>tt (Zl (i:=4) J J zeroValue31 J J hw) J fun b_4 _=>as_ J<|Zf<|Za<|Zc<|Zc<|Zg<|dt (Yb (i:=1) J J J Qg Ye J J)<|dt (Yb (i:=2) J J J Qg Ye J J)<|tt (Zh (n:=4) (Lj _ _ ‹_› ‹_›) J J J K2 call129 Ze J hw) J fun _ _=>dt (Yr J J)<|Zf<|Za<|Zw J<|Zj<|Za<|Zc<|Zc<|Zg<|dt (Xk J J Cm J zT9 J J)<|dt (Pr (i:=2) J J J iA9 J)<|dt (Zi9 J J J J)<|Zf<|Za<|Zr J (fun h337=>?_) (fun h337=>?_)
 ·rw [Lm]at h337
  exfalso;exact hy0 (by have:=(Po (by omega:2≤256) y.natAbs).1 h337;omega)
 ·refine Zj<|Za<|Dc [(4,_),(5,_)] [(0,_),(1,_),(2,_),(3,_),(4,_)] (fun(q:Bool×Value×Value×Nat×Nat)=>[(7,.pointer (some ⟨q.2.2.2.1,0,none⟩)),(8,.pointer (some ⟨q.2.2.2.2,0,none⟩))]) (fun(q:Bool×Value×Value×Nat×Nat)=>[(84,dgp q.2.1 (x/y).natAbs),(85,dgp q.2.2.1 (x%y).natAbs),(86,box q.2.2.2.1 154 #[.bool q.1,q.2.1]),(87,box q.2.2.2.2 154 #[.bool false,q.2.2.1])]) (fun(q:Bool×Value×Value×Nat×Nat)=>sg q.1 (x/y)) K2 K5 ?_ ?_
  ·refine Mc [1,2] [11]<|Zz (n:=10) [(0,0),(2,0)]<|r0' J J (stf (Yb (i:=1) J J J Qg Ye J J) K2)<|r0' J J (stf (Yb (i:=2) J J J Qg Ye J J) K2)<|Yt<|Zfa (n:=9) 1 8 9 ?_ ?_ ?_
   ·refine Yo J (Zh (n:=81) (Qs _ _ (Xh _)) J J J K1 Mz Ze J hw) fun g hg=>Zfa (n:=8) 3 8 9 ?_ ?_ ?_
    ·refine Yo J (Zh (n:=82) (Qs _ _ (Xh _)) J J J K1 Mz Ze J hw) fun g_2 hg_2=>Zfa (n:=7) 4 8 9 ?_ ?_ ?_
     ·refine Yo J (Zh (n:=84) (Qn _ _ _ _ _ _ ‹_› ‹_› (by omega) (by omega) hy0) J J J K2 Me (Zd 81 J J J (Zd 82 J J J Ze)) J hw) fun g_3 hg_3=>Zz (n:=4) [(5,0),(6,0),(7,0)]<|r0' J J (stf (Yf J J) K2)<|r0' J J (stf (Ya J J J) K2)<|r0' J J (stf (Ya J J J) K2)<|Yt<|Pf (n:=3) 8 9 ?_ ?_
      ·exact Yo J (Zv (i:=86) J J zeroValue154 J J hw K2) fun b_5 ho=>Zz (n:=0) [(9,1),(10,1),(11,3)]<|r1' J (Zv (i:=87) J J zeroValue154 J J hw K2) fun b_6 ho2=>r1' J (Zn (i:=86) J J J J J (by decide) J Yy J J ⟨Zb J,Zx (i:=84) J Zi,trivial⟩ J hw ho) fun _ _=>r3' J (Zn (i:=87) J J J J J (by decide) J Yy J J ⟨Zb J,Zx (i:=85) J Zi,trivial⟩ J hw trivial) fun _ _=>Yt<|Yj<|Qz (_,_,_,_,_) ‹_› K4 K9
      ·exact Yo J (Zv (i:=87) J J zeroValue154 J J hw K2) fun b_7 ho3=>Zz (n:=0) [(8,1),(10,1),(11,3)]<|r1' J (Zv (i:=86) J J zeroValue154 J J hw K2) fun b_8 ho4=>r1' J (Zn (i:=86) J J J J J (by decide) J Yy J J ⟨Zb J,Zx (i:=84) J Zi,trivial⟩ J hw ho4) fun _ _=>r3' J (Zn (i:=87) J J J J J (by decide) J Yy J J ⟨Zb J,Zx (i:=85) J Zi,trivial⟩ J hw trivial) fun _ _=>Yt<|Yj<|Qz (_,_,_,_,_) ‹_› K4 K9
     ·refine Yo J (Zv (i:=86) J J zeroValue154 J J hw K2) fun b_9 ho5=>Pf (n:=6) 4 9 ?_ ?_
      ·exact Yo J (Zh (n:=84) (Qn _ _ _ _ _ _ ‹_› ‹_› (by omega) (by omega) hy0) J J J K2 Me (Zd 81 J J J (Zd 82 J J J Ze)) J hw) fun g_4 hg_4=>Zz (n:=0) [(5,0),(6,0),(7,0),(9,1),(10,1),(11,3)]<|r0' J J (stf (Yf J J) K2)<|r0' J J (stf (Ya J J J) K2)<|r0' J J (stf (Ya J J J) K2)<|r1' J (Zv (i:=87) J J zeroValue154 J J hw K2) fun b_10 ho6=>r1' J (Zn (i:=86) J J J J J (by decide) J Yy J J ⟨Zb J,Zx (i:=84) J Zi,trivial⟩ J hw ho5) fun _ _=>r3' J (Zn (i:=87) J J J J J (by decide) J Yy J J ⟨Zb J,Zx (i:=85) J Zi,trivial⟩ J hw trivial) fun _ _=>Yt<|Yj<|Qz (_,_,_,_,_) ‹_› K4 K9
      ·exact Yo J (Zv (i:=87) J J zeroValue154 J J hw K2) fun b_11 ho7=>Zz (n:=0) [(4,1),(5,0),(6,0),(7,0),(10,1),(11,3)]<|r1' J (Zh (n:=84) (Qn _ _ _ _ _ _ ‹_› ‹_› (by omega) (by omega) hy0) J J J K2 Me (Zd 81 J J J (Zd 82 J J J Ze)) J hw) fun g_5 hg_5=>r0' J J (stf (Yf J J) K2)<|r0' J J (stf (Ya J J J) K2)<|r0' J J (stf (Ya J J J) K2)<|r1' J (Zn (i:=86) J J J J J (by decide) J Yy J J ⟨Zb J,Zx (i:=84) J Zi,trivial⟩ J hw ho5) fun _ _=>r3' J (Zn (i:=87) J J J J J (by decide) J Yy J J ⟨Zb J,Zx (i:=85) J Zi,trivial⟩ J hw trivial) fun _ _=>Yt<|Yj<|Qz (_,_,_,_,_) ‹_› K4 K9
     ·refine Yo J (Zv (i:=87) J J zeroValue154 J J hw K2) fun b_12 ho8=>Pf (n:=6) 4 8 ?_ ?_
      ·exact Yo J (Zh (n:=84) (Qn _ _ _ _ _ _ ‹_› ‹_› (by omega) (by omega) hy0) J J J K2 Me (Zd 81 J J J (Zd 82 J J J Ze)) J hw) fun g_6 hg_6=>Zz (n:=0) [(5,0),(6,0),(7,0),(8,1),(10,1),(11,3)]<|r0' J J (stf (Yf J J) K2)<|r0' J J (stf (Ya J J J) K2)<|r0' J J (stf (Ya J J J) K2)<|r1' J (Zv (i:=86) J J zeroValue154 J J hw K2) fun b_13 ho9=>r1' J (Zn (i:=86) J J J J J (by decide) J Yy J J ⟨Zb J,Zx (i:=84) J Zi,trivial⟩ J hw ho9) fun _ _=>r3' J (Zn (i:=87) J J J J J (by decide) J Yy J J ⟨Zb J,Zx (i:=85) J Zi,trivial⟩ J hw trivial) fun _ _=>Yt<|Yj<|Qz (_,_,_,_,_) ‹_› K4 K9
      ·exact Yo J (Zv (i:=86) J J zeroValue154 J J hw K2) fun b_14 ho10=>Zz (n:=0) [(4,1),(5,0),(6,0),(7,0),(10,1),(11,3)]<|r1' J (Zh (n:=84) (Qn _ _ _ _ _ _ ‹_› ‹_› (by omega) (by omega) hy0) J J J K2 Me (Zd 81 J J J (Zd 82 J J J Ze)) J hw) fun g_7 hg_7=>r0' J J (stf (Yf J J) K2)<|r0' J J (stf (Ya J J J) K2)<|r0' J J (stf (Ya J J J) K2)<|r1' J (Zn (i:=86) J J J J J (by decide) J Yy J J ⟨Zb J,Zx (i:=84) J Zi,trivial⟩ J hw ho10) fun _ _=>r3' J (Zn (i:=87) J J J J J (by decide) J Yy J J ⟨Zb J,Zx (i:=85) J Zi,trivial⟩ J hw trivial) fun _ _=>Yt<|Yj<|Qz (_,_,_,_,_) ‹_› K4 K9
    ·refine Yo J (Zv (i:=86) J J zeroValue154 J J hw K2) fun b_15 ho11=>Pf (n:=7) 3 9 ?_ ?_
     ·refine Yo J (Zh (n:=82) (Qs _ _ (Xh _)) J J J K1 Mz Ze J hw) fun g_8 hg_8=>Pf (n:=6) 4 9 ?_ ?_
      ·exact Yo J (Zh (n:=84) (Qn _ _ _ _ _ _ ‹_› ‹_› (by omega) (by omega) hy0) J J J K2 Me (Zd 81 J J J (Zd 82 J J J Ze)) J hw) fun g_9 hg_9=>Zz (n:=0) [(5,0),(6,0),(7,0),(9,1),(10,1),(11,3)]<|r0' J J (stf (Yf J J) K2)<|r0' J J (stf (Ya J J J) K2)<|r0' J J (stf (Ya J J J) K2)<|r1' J (Zv (i:=87) J J zeroValue154 J J hw K2) fun b_16 ho12=>r1' J (Zn (i:=86) J J J J J (by decide) J Yy J J ⟨Zb J,Zx (i:=84) J Zi,trivial⟩ J hw ho11) fun _ _=>r3' J (Zn (i:=87) J J J J J (by decide) J Yy J J ⟨Zb J,Zx (i:=85) J Zi,trivial⟩ J hw trivial) fun _ _=>Yt<|Yj<|Qz (_,_,_,_,_) ‹_› K4 K9
      ·exact Yo J (Zv (i:=87) J J zeroValue154 J J hw K2) fun b_17 ho13=>Zz (n:=0) [(4,1),(5,0),(6,0),(7,0),(10,1),(11,3)]<|r1' J (Zh (n:=84) (Qn _ _ _ _ _ _ ‹_› ‹_› (by omega) (by omega) hy0) J J J K2 Me (Zd 81 J J J (Zd 82 J J J Ze)) J hw) fun g_10 hg_10=>r0' J J (stf (Yf J J) K2)<|r0' J J (stf (Ya J J J) K2)<|r0' J J (stf (Ya J J J) K2)<|r1' J (Zn (i:=86) J J J J J (by decide) J Yy J J ⟨Zb J,Zx (i:=84) J Zi,trivial⟩ J hw ho11) fun _ _=>r3' J (Zn (i:=87) J J J J J (by decide) J Yy J J ⟨Zb J,Zx (i:=85) J Zi,trivial⟩ J hw trivial) fun _ _=>Yt<|Yj<|Qz (_,_,_,_,_) ‹_› K4 K9
     ·exact Yo J (Zv (i:=87) J J zeroValue154 J J hw K2) fun b_18 ho14=>Zz (n:=0) [(3,1),(4,1),(5,0),(6,0),(7,0),(10,1),(11,3)]<|r1' J (Zh (n:=82) (Qs _ _ (Xh _)) J J J K1 Mz Ze J hw) fun g_11 hg_11=>r1' J (Zh (n:=84) (Qn _ _ _ _ _ _ ‹_› ‹_› (by omega) (by omega) hy0) J J J K2 Me (Zd 81 J J J (Zd 82 J J J Ze)) J hw) fun g_12 hg_12=>r0' J J (stf (Yf J J) K2)<|r0' J J (stf (Ya J J J) K2)<|r0' J J (stf (Ya J J J) K2)<|r1' J (Zn (i:=86) J J J J J (by decide) J Yy J J ⟨Zb J,Zx (i:=84) J Zi,trivial⟩ J hw ho11) fun _ _=>r3' J (Zn (i:=87) J J J J J (by decide) J Yy J J ⟨Zb J,Zx (i:=85) J Zi,trivial⟩ J hw trivial) fun _ _=>Yt<|Yj<|Qz (_,_,_,_,_) ‹_› K4 K9
    ·refine Yo J (Zv (i:=87) J J zeroValue154 J J hw K2) fun b_19 ho15=>Pf (n:=7) 3 8 ?_ ?_
     ·refine Yo J (Zh (n:=82) (Qs _ _ (Xh _)) J J J K1 Mz Ze J hw) fun g_13 hg_13=>Pf (n:=6) 4 8 ?_ ?_
      ·exact Yo J (Zh (n:=84) (Qn _ _ _ _ _ _ ‹_› ‹_› (by omega) (by omega) hy0) J J J K2 Me (Zd 81 J J J (Zd 82 J J J Ze)) J hw) fun g_14 hg_14=>Zz (n:=0) [(5,0),(6,0),(7,0),(8,1),(10,1),(11,3)]<|r0' J J (stf (Yf J J) K2)<|r0' J J (stf (Ya J J J) K2)<|r0' J J (stf (Ya J J J) K2)<|r1' J (Zv (i:=86) J J zeroValue154 J J hw K2) fun b_20 ho16=>r1' J (Zn (i:=86) J J J J J (by decide) J Yy J J ⟨Zb J,Zx (i:=84) J Zi,trivial⟩ J hw ho16) fun _ _=>r3' J (Zn (i:=87) J J J J J (by decide) J Yy J J ⟨Zb J,Zx (i:=85) J Zi,trivial⟩ J hw trivial) fun _ _=>Yt<|Yj<|Qz (_,_,_,_,_) ‹_› K4 K9
      ·exact Yo J (Zv (i:=86) J J zeroValue154 J J hw K2) fun b_21 ho17=>Zz (n:=0) [(4,1),(5,0),(6,0),(7,0),(10,1),(11,3)]<|r1' J (Zh (n:=84) (Qn _ _ _ _ _ _ ‹_› ‹_› (by omega) (by omega) hy0) J J J K2 Me (Zd 81 J J J (Zd 82 J J J Ze)) J hw) fun g_15 hg_15=>r0' J J (stf (Yf J J) K2)<|r0' J J (stf (Ya J J J) K2)<|r0' J J (stf (Ya J J J) K2)<|r1' J (Zn (i:=86) J J J J J (by decide) J Yy J J ⟨Zb J,Zx (i:=84) J Zi,trivial⟩ J hw ho17) fun _ _=>r3' J (Zn (i:=87) J J J J J (by decide) J Yy J J ⟨Zb J,Zx (i:=85) J Zi,trivial⟩ J hw trivial) fun _ _=>Yt<|Yj<|Qz (_,_,_,_,_) ‹_› K4 K9
     ·exact Yo J (Zv (i:=86) J J zeroValue154 J J hw K2) fun b_22 ho18=>Zz (n:=0) [(3,1),(4,1),(5,0),(6,0),(7,0),(10,1),(11,3)]<|r1' J (Zh (n:=82) (Qs _ _ (Xh _)) J J J K1 Mz Ze J hw) fun g_16 hg_16=>r1' J (Zh (n:=84) (Qn _ _ _ _ _ _ ‹_› ‹_› (by omega) (by omega) hy0) J J J K2 Me (Zd 81 J J J (Zd 82 J J J Ze)) J hw) fun g_17 hg_17=>r0' J J (stf (Yf J J) K2)<|r0' J J (stf (Ya J J J) K2)<|r0' J J (stf (Ya J J J) K2)<|r1' J (Zn (i:=86) J J J J J (by decide) J Yy J J ⟨Zb J,Zx (i:=84) J Zi,trivial⟩ J hw ho18) fun _ _=>r3' J (Zn (i:=87) J J J J J (by decide) J Yy J J ⟨Zb J,Zx (i:=85) J Zi,trivial⟩ J hw trivial) fun _ _=>Yt<|Yj<|Qz (_,_,_,_,_) ‹_› K4 K9
   ·refine Yo J (Zv (i:=86) J J zeroValue154 J J hw K2) fun b_23 ho19=>Pf (n:=8) 1 9 ?_ ?_
    ·refine Yo J (Zh (n:=81) (Qs _ _ (Xh _)) J J J K1 Mz Ze J hw) fun g_18 hg_18=>Pf (n:=7) 3 9 ?_ ?_
     ·refine Yo J (Zh (n:=82) (Qs _ _ (Xh _)) J J J K1 Mz Ze J hw) fun g_19 hg_19=>Pf (n:=6) 4 9 ?_ ?_
      ·exact Yo J (Zh (n:=84) (Qn _ _ _ _ _ _ ‹_› ‹_› (by omega) (by omega) hy0) J J J K2 Me (Zd 81 J J J (Zd 82 J J J Ze)) J hw) fun g_20 hg_20=>Zz (n:=0) [(5,0),(6,0),(7,0),(9,1),(10,1),(11,3)]<|r0' J J (stf (Yf J J) K2)<|r0' J J (stf (Ya J J J) K2)<|r0' J J (stf (Ya J J J) K2)<|r1' J (Zv (i:=87) J J zeroValue154 J J hw K2) fun b_24 ho20=>r1' J (Zn (i:=86) J J J J J (by decide) J Yy J J ⟨Zb J,Zx (i:=84) J Zi,trivial⟩ J hw ho19) fun _ _=>r3' J (Zn (i:=87) J J J J J (by decide) J Yy J J ⟨Zb J,Zx (i:=85) J Zi,trivial⟩ J hw trivial) fun _ _=>Yt<|Yj<|Qz (_,_,_,_,_) ‹_› K4 K9
      ·exact Yo J (Zv (i:=87) J J zeroValue154 J J hw K2) fun b_25 ho21=>Zz (n:=0) [(4,1),(5,0),(6,0),(7,0),(10,1),(11,3)]<|r1' J (Zh (n:=84) (Qn _ _ _ _ _ _ ‹_› ‹_› (by omega) (by omega) hy0) J J J K2 Me (Zd 81 J J J (Zd 82 J J J Ze)) J hw) fun g_21 hg_21=>r0' J J (stf (Yf J J) K2)<|r0' J J (stf (Ya J J J) K2)<|r0' J J (stf (Ya J J J) K2)<|r1' J (Zn (i:=86) J J J J J (by decide) J Yy J J ⟨Zb J,Zx (i:=84) J Zi,trivial⟩ J hw ho19) fun _ _=>r3' J (Zn (i:=87) J J J J J (by decide) J Yy J J ⟨Zb J,Zx (i:=85) J Zi,trivial⟩ J hw trivial) fun _ _=>Yt<|Yj<|Qz (_,_,_,_,_) ‹_› K4 K9
     ·exact Yo J (Zv (i:=87) J J zeroValue154 J J hw K2) fun b_26 ho22=>Zz (n:=0) [(3,1),(4,1),(5,0),(6,0),(7,0),(10,1),(11,3)]<|r1' J (Zh (n:=82) (Qs _ _ (Xh _)) J J J K1 Mz Ze J hw) fun g_22 hg_22=>r1' J (Zh (n:=84) (Qn _ _ _ _ _ _ ‹_› ‹_› (by omega) (by omega) hy0) J J J K2 Me (Zd 81 J J J (Zd 82 J J J Ze)) J hw) fun g_23 hg_23=>r0' J J (stf (Yf J J) K2)<|r0' J J (stf (Ya J J J) K2)<|r0' J J (stf (Ya J J J) K2)<|r1' J (Zn (i:=86) J J J J J (by decide) J Yy J J ⟨Zb J,Zx (i:=84) J Zi,trivial⟩ J hw ho19) fun _ _=>r3' J (Zn (i:=87) J J J J J (by decide) J Yy J J ⟨Zb J,Zx (i:=85) J Zi,trivial⟩ J hw trivial) fun _ _=>Yt<|Yj<|Qz (_,_,_,_,_) ‹_› K4 K9
    ·exact Yo J (Zv (i:=87) J J zeroValue154 J J hw K2) fun b_27 ho23=>Zz (n:=0) [(1,1),(3,1),(4,1),(5,0),(6,0),(7,0),(10,1),(11,3)]<|r1' J (Zh (n:=81) (Qs _ _ (Xh _)) J J J K1 Mz Ze J hw) fun g_24 hg_24=>r1' J (Zh (n:=82) (Qs _ _ (Xh _)) J J J K1 Mz Ze J hw) fun g_25 hg_25=>r1' J (Zh (n:=84) (Qn _ _ _ _ _ _ ‹_› ‹_› (by omega) (by omega) hy0) J J J K2 Me (Zd 81 J J J (Zd 82 J J J Ze)) J hw) fun g_26 hg_26=>r0' J J (stf (Yf J J) K2)<|r0' J J (stf (Ya J J J) K2)<|r0' J J (stf (Ya J J J) K2)<|r1' J (Zn (i:=86) J J J J J (by decide) J Yy J J ⟨Zb J,Zx (i:=84) J Zi,trivial⟩ J hw ho19) fun _ _=>r3' J (Zn (i:=87) J J J J J (by decide) J Yy J J ⟨Zb J,Zx (i:=85) J Zi,trivial⟩ J hw trivial) fun _ _=>Yt<|Yj<|Qz (_,_,_,_,_) ‹_› K4 K9
   ·refine Yo J (Zv (i:=87) J J zeroValue154 J J hw K2) fun b_28 ho24=>Pf (n:=8) 1 8 ?_ ?_
    ·refine Yo J (Zh (n:=81) (Qs _ _ (Xh _)) J J J K1 Mz Ze J hw) fun g_27 hg_27=>Pf (n:=7) 3 8 ?_ ?_
     ·refine Yo J (Zh (n:=82) (Qs _ _ (Xh _)) J J J K1 Mz Ze J hw) fun g_28 hg_28=>Pf (n:=6) 4 8 ?_ ?_
      ·exact Yo J (Zh (n:=84) (Qn _ _ _ _ _ _ ‹_› ‹_› (by omega) (by omega) hy0) J J J K2 Me (Zd 81 J J J (Zd 82 J J J Ze)) J hw) fun g_29 hg_29=>Zz (n:=0) [(5,0),(6,0),(7,0),(8,1),(10,1),(11,3)]<|r0' J J (stf (Yf J J) K2)<|r0' J J (stf (Ya J J J) K2)<|r0' J J (stf (Ya J J J) K2)<|r1' J (Zv (i:=86) J J zeroValue154 J J hw K2) fun b_29 ho25=>r1' J (Zn (i:=86) J J J J J (by decide) J Yy J J ⟨Zb J,Zx (i:=84) J Zi,trivial⟩ J hw ho25) fun _ _=>r3' J (Zn (i:=87) J J J J J (by decide) J Yy J J ⟨Zb J,Zx (i:=85) J Zi,trivial⟩ J hw trivial) fun _ _=>Yt<|Yj<|Qz (_,_,_,_,_) ‹_› K4 K9
      ·exact Yo J (Zv (i:=86) J J zeroValue154 J J hw K2) fun b_30 ho26=>Zz (n:=0) [(4,1),(5,0),(6,0),(7,0),(10,1),(11,3)]<|r1' J (Zh (n:=84) (Qn _ _ _ _ _ _ ‹_› ‹_› (by omega) (by omega) hy0) J J J K2 Me (Zd 81 J J J (Zd 82 J J J Ze)) J hw) fun g_30 hg_30=>r0' J J (stf (Yf J J) K2)<|r0' J J (stf (Ya J J J) K2)<|r0' J J (stf (Ya J J J) K2)<|r1' J (Zn (i:=86) J J J J J (by decide) J Yy J J ⟨Zb J,Zx (i:=84) J Zi,trivial⟩ J hw ho26) fun _ _=>r3' J (Zn (i:=87) J J J J J (by decide) J Yy J J ⟨Zb J,Zx (i:=85) J Zi,trivial⟩ J hw trivial) fun _ _=>Yt<|Yj<|Qz (_,_,_,_,_) ‹_› K4 K9
     ·exact Yo J (Zv (i:=86) J J zeroValue154 J J hw K2) fun b_31 ho27=>Zz (n:=0) [(3,1),(4,1),(5,0),(6,0),(7,0),(10,1),(11,3)]<|r1' J (Zh (n:=82) (Qs _ _ (Xh _)) J J J K1 Mz Ze J hw) fun g_31 hg_31=>r1' J (Zh (n:=84) (Qn _ _ _ _ _ _ ‹_› ‹_› (by omega) (by omega) hy0) J J J K2 Me (Zd 81 J J J (Zd 82 J J J Ze)) J hw) fun g_32 hg_32=>r0' J J (stf (Yf J J) K2)<|r0' J J (stf (Ya J J J) K2)<|r0' J J (stf (Ya J J J) K2)<|r1' J (Zn (i:=86) J J J J J (by decide) J Yy J J ⟨Zb J,Zx (i:=84) J Zi,trivial⟩ J hw ho27) fun _ _=>r3' J (Zn (i:=87) J J J J J (by decide) J Yy J J ⟨Zb J,Zx (i:=85) J Zi,trivial⟩ J hw trivial) fun _ _=>Yt<|Yj<|Qz (_,_,_,_,_) ‹_› K4 K9
    ·exact Yo J (Zv (i:=86) J J zeroValue154 J J hw K2) fun b_32 ho28=>Zz (n:=0) [(1,1),(3,1),(4,1),(5,0),(6,0),(7,0),(10,1),(11,3)]<|r1' J (Zh (n:=81) (Qs _ _ (Xh _)) J J J K1 Mz Ze J hw) fun g_33 hg_33=>r1' J (Zh (n:=82) (Qs _ _ (Xh _)) J J J K1 Mz Ze J hw) fun g_34 hg_34=>r1' J (Zh (n:=84) (Qn _ _ _ _ _ _ ‹_› ‹_› (by omega) (by omega) hy0) J J J K2 Me (Zd 81 J J J (Zd 82 J J J Ze)) J hw) fun g_35 hg_35=>r0' J J (stf (Yf J J) K2)<|r0' J J (stf (Ya J J J) K2)<|r0' J J (stf (Ya J J J) K2)<|r1' J (Zn (i:=86) J J J J J (by decide) J Yy J J ⟨Zb J,Zx (i:=84) J Zi,trivial⟩ J hw ho28) fun _ _=>r3' J (Zn (i:=87) J J J J J (by decide) J Yy J J ⟨Zb J,Zx (i:=85) J Zi,trivial⟩ J hw trivial) fun _ _=>Yt<|Yj<|Qz (_,_,_,_,_) ‹_› K4 K9
  ·rintro⟨qb,qv,rv,b7,b8⟩ hq
   dsimp only at hq
   simp only [CA,NA]
   refine Zc<|Zg<|dt (Yb (i:=86) J J J Lg Yy J J)<|tt (Zh (n:=4) (Kf _ _ _ ‹_›) J J J K1 call128 (Zd 84 J J J Ze) J hw) J fun _ _=>mv J<|dt (Ya J J J)<|dt (Ya J J J)<|tt (Zn (i:=3) J J J J J (by decide) J Ye J J ⟨Zb J,Zb J,trivial⟩ J hw trivial) J fun _ _=>Zf<|Za<|Zc<|Zg<|dt (Yb (i:=87) J J J Lg Yy J J)<|tt (Zh (n:=4) (Kf _ _ _ (sg_emod x hy0)) J J J K1 call128 (Zd 85 J J J Ze) J hw) J fun _ _=>mv J<|dt (Ya J J J)<|dt (Ya J J J)<|tt (Zn (i:=4) J J J J J (by decide) J Ye J J ⟨Zb J,Zb J,trivial⟩ J hw trivial) J fun _ _=>Zf<|Za<|Zc<|Mc [4] [3,4]<|Zz (n:=0) [(1,0),(0,1),(2,1),(3,3),(4,3)]<|r0' J J (stf (Yb (i:=4) J J J Qg Ye J J) K1)<|r1' J (Qq (Yb (i:=3) J J J Qg Ye J J) J) fun _ _=>r1' J (Zh6 3 J J K1 (fun ob=>(Zn (i:=3) J J J J J (by decide) J Ye J J ⟨Zb J,Zb J,trivial⟩ J hw ob))) fun _ _=>r3' J (Zn (i:=4) J J J J J (by decide) J Ye J J ⟨Zb J,Zb J,trivial⟩ J hw trivial) fun _ _=>r3' J (Qq (Ot J J) J) fun _ _=>Yt<|Yj<|Za<|Zt ?_
   exact Yl (.inl J) hsc () _ (fun a w hs=>res3 hs results158 (Yp (i:=3) J J Qg Ye J) (Yp (i:=4) J J Qg Ye J) J) J trivial J Zk
theorem Bq(s t:Bool)(v w:Value)(x y:Int)(hs:sg s x)(ht:sg t y)(hy0:y≠0)(hx:bl x.natAbs≤1000000000:=by omega)(hy:bl y.natAbs≤1000000000:=by omega):Mv prog 163 #[.agg #[.bool s,v],.agg #[.bool t,w]] [dgp v x.natAbs,dgp w y.natAbs] (Zb1 x y):=by
 refine Yd func163 J ntmps163 J K2 ?_
 intro w0 sc hw hsc
 simp only [Zq,Zp]
 have hb:=Ztl x.natAbs y.natAbs
 have hg0:Ga x y≠0:=lgcd_ne hy0
 have hgs:sg t (Ga x y):=sg_lgcd ht hy0
 have hga:=Zaf x y
 have hq1:=Zhv x (Ga x y)
 have hq2:=Zhv y (Ga x y)
 refine Zc<|Zg<|tt (Xa (i:=3) J J J J J hw) J fun b _=>tt (Xa (i:=4) J J J J J hw) J fun b_2 _=>tt (Zl (i:=5) J J zeroValue41 J J hw) J fun b_3 _=>as_ J<|Zf<|Za<|Zc<|Fh (fun _=>False) [9]<|Zz (n:=4) [(0,0),(1,0),(2,0),(3,0),(4,0),(5,0)]<|r0' J J (st0 (Xk J J Mn J zT4 J J))<|r0' J J (st0 (Pr (i:=4) J J J iA4 J))<|r0' J J (st0 (Xk J J Mn J Fa J J))<|r0' J J (st0 (Pr (i:=3) J J J Fg J))<|r0' J J (st0 (Xk J J Mn J Fa J J))<|r0' J J (st0 (Pr (i:=4) J J J Fg J))<|Yt<|Pf (n:=3) 6 8 ?_ ?_
 ·refine Yo J (Zh (n:=81) (Zkk _ _ _ _) J J J K2 call185 (Zd 1 J J J (Zd 2 J J J Ze)) J hw) fun v _=>Zz (n:=0) [(7,0),(8,1),(9,3)]<|r0' J J (st0 (Oh (ivs:=[(0,_),(1,_)]) J K4 (fun a w hs=>Ol ((Zb J) a w hs) ((Zx (i:=81) J Zi) a w hs))))<|r1' J (Zl (i:=82) J J zeroValue154 J J hw) fun b_4 _=>r3' J (Zn (i:=82) J J J J J (by decide) J Yy J J ⟨Zb J,Zx (i:=81) J Zi,trivial⟩ J hw trivial) fun _ _=>Yt<|Yj<|Za<|Zc<|Xc (Fe 81 (Zrp _ x y) J J)<|Zg<|dt (Yb (i:=3) J J J Lg Yy J J)<|dt (Yb (i:=82) J J J Lg Yy J J)<|tt (Zh (n:=6) (Qn _ _ _ _ x (Ga x y) hs hgs (by omega) (by rw [hga];omega) hg0) J J J K2 Me (Zd 1 J J J (Zd 81 J J J Ze)) J hw) J fun g hg=>mv J<|dt (Ya J J J)<|dt (Ya J J J)<|tt (Zn (i:=3) J J J J J (by decide) J Yy J J ⟨Zb J,Zx (i:=6) J Zi,trivial⟩ J hw trivial) J fun _ _=>Zf<|Za<|Zc<|Zg<|dt (Yb (i:=4) J J J Lg Yy J J)<|dt (Yb (i:=82) J J J Lg Yy J J)<|tt (Zh (n:=8) (Qn _ _ _ _ y (Ga x y) ht hgs (by omega) (by rw [hga];omega) hg0) J J J K2 Me (Zd 2 J J J (Zd 81 J J J Ze)) J hw) J fun g_2 hg_2=>mv J ?_
  refine dt (Ya J J J)<|dt (Ya J J J)<|tt (Zn (i:=4) J J J J J (by decide) J Yy J J ⟨Zb J,Zx (i:=8) J Zi,trivial⟩ J hw trivial) J fun _ _=>Zf<|Za<|Zc<|Zg<|dt (Yb (i:=3) J J J Lg Yy J J)<|tt (Zh (n:=9) (Kf _ _ _ ‹_›) J J J K1 call128 (Zd 6 J J J Ze) J hw) J fun _ _=>mv J<|dt (Ya J J J)<|dt (Ya J J J)<|tt (Zl (i:=10) J J zeroValue31 J J hw) J fun b_5 _=>tt (Zn (i:=10) J J J J J (by decide) J Ye J J ⟨Zb J,Zb J,trivial⟩ J hw trivial) J fun _ _=>as_ J<|Zf<|Za<|Zc<|Zg<|dt (Yb (i:=4) J J J Lg Yy J J)<|tt (Zh (n:=10) (Kf _ _ _ ‹_›) J J J K1 call128 (Zd 8 J J J Ze) J hw) J fun _ _=>mv J<|dt (Ya J J J)<|dt (Ya J J J)<|tt (Zl (i:=11) J J zeroValue31 J J hw) J fun b_6 _=>tt (Zn (i:=11) J J J J J (by decide) J Ye J J ⟨Zb J,Zb J,trivial⟩ J hw trivial) J fun _ _=>as_ J<|Zf<|Za<|Zc<|Zc<|Zg<|mv J<|dt (Xo J J J)<|mv J<|Qp (d:=43) J (fun s460=>?_) (fun s460=>?_)
  ·exact gsk J J J<|gsk J J J<|dt (Yi J J J)<|Zf<|Za<|Pd J<|Zc<|Zg<|dt (Oh (ivs:=[]) J trivial (fun a w hs=>b41_))<|tt (Zn (i:=5) J J J J J (by decide) J Yq J J ⟨Zb J,Zb J,Zb J,Zb J,trivial⟩ J hw trivial) J fun _ _=>as_ J<|Zf<|Za<|Zt<|Ys<|Yl (.inl J) hsc () _ (fun a w hs=>Ns hs results163 (Yp (i:=5) J J Xt Yq J) J) (Cs (by unfold Ik;first | exact .inl (Cb ‹_›) | exact .inr (Cb ‹_›))) trivial J Zk
  ·refine gdt (Yf J J) J J<|gdt (Xo J J J) J J<|dt (Zo J J J)<|Zf<|Za<|Zr J (fun h460=>?_) (fun h460=>?_)
   ·exact Zc<|Zg<|dt (Oh (ivs:=[]) J trivial (fun a w hs=>b41_))<|tt (Zn (i:=5) J J J J J (by decide) J Yq J J ⟨Zb J,Zb J,Zb J,Zb J,trivial⟩ J hw trivial) J fun _ _=>as_ J<|Zf<|Za<|Zt<|Ys<|Yl (.inl J) hsc () _ (fun a w hs=>Ns hs results163 (Yp (i:=5) J J Xt Yq J) J) (Cs (by unfold Ik;first | exact .inl (Cb ‹_›) | exact .inr (Cb ‹_›))) trivial J Zk
   ·exact Zj<|Za<|Zc<|Zg<|dt (Yb (i:=10) J J J Qg Ye J J)<|dt (Yb (i:=11) J J J Qg Ye J J)<|dt (Oh (ivs:=[(0,_),(1,_)]) J K4 (fun a w hs=>Zeu))<|tt (Zn (i:=5) J J J J J (by decide) J Yq J J ⟨Zb J,Zb J,Zb J,Zb J,trivial⟩ J hw trivial) J fun _ _=>as_ J<|Zf<|Za<|Zt<|Yl (.inl J) hsc () _ (fun a w hs=>Ns hs results163 (Yp (i:=5) J J Xt Yq J) J) (Zme (Decidable.byContradiction ‹_›) (Decidable.byContradiction ‹_›)) trivial J Zk
 ·refine Yo J (Zl (i:=82) J J zeroValue154 J J hw) fun b_7 _=>Zz (n:=0) [(6,1),(7,0),(9,3)]<|r1' J (Zh (n:=81) (Zkk _ _ _ _) J J J K2 call185 (Zd 1 J J J (Zd 2 J J J Ze)) J hw) fun v_2 _=>r0' J J (st0 (Oh (ivs:=[(0,_),(1,_)]) J K4 (fun a w hs=>Ol ((Zb J) a w hs) ((Zx (i:=81) J Zi) a w hs))))<|r3' J (Zn (i:=82) J J J J J (by decide) J Yy J J ⟨Zb J,Zx (i:=81) J Zi,trivial⟩ J hw trivial) fun _ _=>Yt<|Yj<|Za<|Zc<|Xc (Fe 81 (Zrp _ x y) J J)<|Zg<|dt (Yb (i:=3) J J J Lg Yy J J)<|dt (Yb (i:=82) J J J Lg Yy J J)<|tt (Zh (n:=12) (Qn _ _ _ _ x (Ga x y) hs hgs (by omega) (by rw [hga];omega) hg0) J J J K2 Me (Zd 1 J J J (Zd 81 J J J Ze)) J hw) J fun g_3 hg_3=>mv J<|dt (Ya J J J)<|dt (Ya J J J)<|tt (Zn (i:=3) J J J J J (by decide) J Yy J J ⟨Zb J,Zx (i:=12) J Zi,trivial⟩ J hw trivial) J fun _ _=>Zf<|Za<|Zc<|Zg<|dt (Yb (i:=4) J J J Lg Yy J J)<|dt (Yb (i:=82) J J J Lg Yy J J) ?_
  refine tt (Zh (n:=14) (Qn _ _ _ _ y (Ga x y) ht hgs (by omega) (by rw [hga];omega) hg0) J J J K2 Me (Zd 2 J J J (Zd 81 J J J Ze)) J hw) J fun g_4 hg_4=>mv J<|dt (Ya J J J)<|dt (Ya J J J)<|tt (Zn (i:=4) J J J J J (by decide) J Yy J J ⟨Zb J,Zx (i:=14) J Zi,trivial⟩ J hw trivial) J fun _ _=>Zf<|Za<|Zc<|Zg<|dt (Yb (i:=3) J J J Lg Yy J J)<|tt (Zh (n:=15) (Kf _ _ _ ‹_›) J J J K1 call128 (Zd 12 J J J Ze) J hw) J fun _ _=>mv J<|dt (Ya J J J)<|dt (Ya J J J)<|tt (Zl (i:=16) J J zeroValue31 J J hw) J fun b_8 _=>tt (Zn (i:=16) J J J J J (by decide) J Ye J J ⟨Zb J,Zb J,trivial⟩ J hw trivial) J fun _ _=>as_ J<|Zf<|Za<|Zc<|Zg<|dt (Yb (i:=4) J J J Lg Yy J J)<|tt (Zh (n:=16) (Kf _ _ _ ‹_›) J J J K1 call128 (Zd 14 J J J Ze) J hw) J fun _ _=>mv J<|dt (Ya J J J)<|dt (Ya J J J)<|tt (Zl (i:=17) J J zeroValue31 J J hw) J fun b_9 _=>tt (Zn (i:=17) J J J J J (by decide) J Ye J J ⟨Zb J,Zb J,trivial⟩ J hw trivial) J fun _ _=>as_ J<|Zf<|Za<|Zc<|Zc<|Zg<|mv J<|dt (Xo J J J)<|mv J<|Qp (d:=43) J (fun s460_2=>?_) (fun s460_2=>?_)
  ·exact gsk J J J<|gsk J J J<|dt (Yi J J J)<|Zf<|Za<|Pd J<|Zc<|Zg<|dt (Oh (ivs:=[]) J trivial (fun a w hs=>b41_))<|tt (Zn (i:=5) J J J J J (by decide) J Yq J J ⟨Zb J,Zb J,Zb J,Zb J,trivial⟩ J hw trivial) J fun _ _=>as_ J<|Zf<|Za<|Zt<|Ys<|Yl (.inl J) hsc () _ (fun a w hs=>Ns hs results163 (Yp (i:=5) J J Xt Yq J) J) (Cs (by unfold Ik;first | exact .inl (Cb ‹_›) | exact .inr (Cb ‹_›))) trivial J Zk
  ·refine gdt (Yf J J) J J<|gdt (Xo J J J) J J<|dt (Zo J J J)<|Zf<|Za<|Zr J (fun h460_2=>?_) (fun h460_2=>?_)
   ·exact Zc<|Zg<|dt (Oh (ivs:=[]) J trivial (fun a w hs=>b41_))<|tt (Zn (i:=5) J J J J J (by decide) J Yq J J ⟨Zb J,Zb J,Zb J,Zb J,trivial⟩ J hw trivial) J fun _ _=>as_ J<|Zf<|Za<|Zt<|Ys<|Yl (.inl J) hsc () _ (fun a w hs=>Ns hs results163 (Yp (i:=5) J J Xt Yq J) J) (Cs (by unfold Ik;first | exact .inl (Cb ‹_›) | exact .inr (Cb ‹_›))) trivial J Zk
   ·exact Zj<|Za<|Zc<|Zg<|dt (Yb (i:=16) J J J Qg Ye J J)<|dt (Yb (i:=17) J J J Qg Ye J J)<|dt (Oh (ivs:=[(0,_),(1,_)]) J K4 (fun a w hs=>Zeu))<|tt (Zn (i:=5) J J J J J (by decide) J Yq J J ⟨Zb J,Zb J,Zb J,Zb J,trivial⟩ J hw trivial) J fun _ _=>as_ J<|Zf<|Za<|Zt<|Yl (.inl J) hsc () _ (fun a w hs=>Ns hs results163 (Yp (i:=5) J J Xt Yq J) J) (Zme (Decidable.byContradiction ‹_›) (Decidable.byContradiction ‹_›)) trivial J Zk
theorem Zfc(x y:Int)(hx:bl x.natAbs≤65536)(hy:bl y.natAbs≤65536)(hy0:y≠0:=by omega):Mv prog 119 #[wv x,wv y] [] (Zb1 x y):=by
 refine Yd func119 J ntmps119 J trivial ?_
 intro w0 sc hw hsc
 simp only [Zq,Zp]
 refine Zc<|Zg<|tt (Xa (i:=1) J J J J J hw) J fun b _=>tt (Xa (i:=2) J J J J J hw) J fun b_2 _=>tt (Zl (i:=3) J J zeroValue41 J J hw) J fun b_3 _=>as_ J<|Zf<|Za<|Zc<|Zc<|Zg<|dt (Yb (i:=1) J J J Qg Ye J J)<|dt (Yb (i:=2) J J J Qg Ye J J)<|tt (Zh (n:=3) (Lj _ _ ‹_› ‹_›) J J J K2 call129 Ze J hw) J fun _ _=>dt (Yr J J)<|Zf<|Za<|Zw J<|Zj<|Za<|Zc<|Zc<|Zg<|dt (Xk J J Cm J zT9 J J)<|dt (Pr (i:=2) J J J iA9 J)<|dt (Zi9 J J J J)<|Zf<|Za<|Zr J (fun h471=>?_) (fun h471=>?_)
 ·rw [Lm]at h471
  exfalso;exact hy0 (by have:=(Po (by omega:2≤256) y.natAbs).1 h471;omega)
 ·refine Zj<|Za<|Zc<|Qf (fun _=>False) [(0,0),(2,0),(1,1),(3,1),(4,1),(5,0),(6,0),(7,3),(8,3)] ?_ ?_
  ·kernel_rfl
  exact r0' J J (st0 (Yb (i:=1) J J J Qg Ye J J))<|r0' J J (st0 (Yb (i:=2) J J J Qg Ye J J))<|r1' J (Zh (n:=4) (Qs _ _ (Xh _)) J J J K1 Mz Ze J hw) fun g hg=>r1' J (Zh (n:=5) (Qs _ _ (Xh _)) J J J K1 Mz Ze J hw) fun g_2 hg_2=>r1' J (Zh (n:=5) (Bq _ _ _ _ _ _ ‹_› ‹_› hy0) J J J K2 call163 (Zd 4 J J J (Zd 5 J J J Ze)) J hw) fun _ _=>r0' J J (st0 (Ya J J J))<|r0' J J (st0 (Ya J J J))<|r3' J (Zn (i:=3) J J J J J (by decide) J Yq J J ⟨Zb J,Zb J,Zb J,Zb J,trivial⟩ J hw trivial) fun _ _=>r3' J (Qq (Ot J J) J) fun _ _=>Py<|Za<|Zt<|Yl (.inl J) hsc () _ (fun a w hs=>Ns hs results119 (Yp (i:=3) J J Xt Yq J) J) J trivial J Zk
theorem Li(b:Bool)(s:ByteArray)(c:Bool)(t:ByteArray):Mv prog 117 #[.agg #[.bool b,.string s,.bool c,.string t]] [] (.bool (okR b s c t)):=by
 refine Yd func117 J ntmps117 J trivial ?_
 intro w0 sc hw hsc
 simp only [Zq,Zp]
 refine Zc<|Zg<|tt (Xa (i:=1) J J J J J hw) J fun b _=>as_ J<|Zf<|Za<|Zc<|Zg<|dt (Xk J J Fb J Ye J J)<|dt (Yb (i:=1) J J J Qg Ye J J)<|dt (Xk J J Fb J Ye J J)<|dt (Yb (i:=1) J J J Qg Ye J J)<|tt (Zh (n:=1) (Zhz _ _ _ _) J J J K2 call129 Ze J hw) J fun _ _=>mv J<|Oj (d:=8) J (fun s451=>?_) (fun s451=>?_)
 ·have hcc:okW c t=true:=by simp_all
  have hok:=Zms hcc
  obtain⟨hk1,hk2,hk3⟩:=Classical.choose_spec hok
  generalize Classical.choose hok=z at hk1 hk2 hk3 ⊢
  subst hk2;subst hk3
  try clear hok
  exact gdt (Xk J J Fb J Ye J J) J J<|gdt (Yb (i:=1) J J J Qg Ye J J) J J<|gtt (Zh (n:=1) (Mg z hk1) J J J K1 call104 Ze J hw) J J J fun _ _=>gdt (Qr J J J) J J<|dt (Yi J J J)<|as_ J<|Zf<|Za<|Zt<|xU hsc results117 J J (by first | rw [Zmt (by simp_all) hk1] | (unfold okR;simp_all))
 ·exact gsk J J J<|gsk J J J<|gsk J J J<|gsk J J J<|dt (Zo J J J)<|as_ J<|Zf<|Za<|Zt<|xU hsc results117 J J (by first | rw [Zmt (by simp_all) hk1] | (unfold okR;simp_all))
theorem Xv(x y:Int)(hy0:0<y)(hx:bl x.natAbs≤65536:=by omega)(hy:bl y.natAbs≤65536:=by omega):Cal prog 117 #[rX x y] [] false (G:=Unit) (fun _=>True) (fun _=> .bool true) (fun _=>[]):=okR_wv hx hy hy0▸Li _ _ _ _
theorem Xb(x:Int)(hx:inI x):Mv prog 81 #[.int .i64 x] [] (wv x):=by
 refine Yd func81 J ntmps81 J trivial ?_
 intro w0 sc hw hsc
 simp only [Zq,Zp]
 have hxa:=hx.1
 have hxb:=hx.2
 have hxU:x.natAbs<U:=by simp only [U];omega
 have hxl:bl x.natAbs≤64:=(Md 64 _).2 (by rw [←U_eq];exact hxU)
 refine Zc<|Zg<|tt (Zl (i:=1) J J zeroValue31 J J hw) J fun b _=>Zf<|Za<|Zc<|Zg<|mv J<|dt (cv_u64i (r:=x%18446744073709551616) J J uT3 Zc8 J)<|as_ J<|Zf<|Za<|Dc [(0,_),(2,_)] [(0,_),(1,_)] (fun(_:Unit)=>[(3,.int .u64 ((x.natAbs:Nat):Int))]) (fun(_:Unit)=>[]) (fun(_:Unit)=>True) K2 K2 ?_ ?_
 ·refine Zc<|Zg<|mv J<|dt (Qd J J J)<|Zf<|Za<|Zr J (fun h276=>?_) (fun h276=>?_)
  ·exact Zg<|mv J<|dt (u_negm (r:=x.natAbs) J J (by omega))<|as_ J<|Zf<|Qz () trivial ⟨by first | rfl | (rw [show x%18446744073709551616=((x.natAbs:Nat):Int) by omega];rfl),rfl,rfl,trivial⟩ K2
  ·exact Zj<|Qz () trivial ⟨by first | rfl | (rw [show x%18446744073709551616=((x.natAbs:Nat):Int) by omega];rfl),rfl,rfl,trivial⟩ K2
 ·rintro _ -
  simp only [CA,NA]
  exact Zc<|Zg<|mv J<|dt (Qd J J J)<|mv J<|tt (Ps (i:=2) (ivs:=[(0,_)]) (enc:=It) [x.natAbs] J J K2 Xp ti149 J J J J J pU.cells J J hw) J fun v _=>tt (Zh (n:=2) (Oa _ _) J J J K1 call127 (Xw 2 J J pU Ze) J hw) J fun _ _=>Px (Zhx 2 J J pU)<|Px (Zgs 2 (Zda hxU) J J)<|dt (Oh (ivs:=[(0,_),(1,_)]) J K4 (fun a w hs=>Ol ((Zb J) a w hs) ((Zx (i:=2) J (Yk pU)) a w hs)))<|tt (Zh (n:=2) (Kf _ _ x (Xh _)) J J J K1 call128 (Xw 2 J J pU Ze) J hw) J fun _ _=>mv J<|dt (Ya J J J)<|dt (Ya J J J)<|tt (Zl (i:=3) J J zeroValue31 J J hw) J fun b_2 _=>tt (Zn (i:=3) J J J J J (by decide) J Ye J J ⟨Zb J,Zb J,trivial⟩ J hw trivial) J fun _ _=>as_ J<|Zf<|Za<|Zc<|Zg<|dt (Yb (i:=3) J J J Qg Ye J J)<|tt (Zn (i:=1) J J J J J (by decide) J Ye J J ⟨Zb J,Zb J,trivial⟩ J hw trivial) J fun _ _=>Zf<|Za<|Zt<|Yl (.inl J) hsc () _ (fun a w hs=>Np hs results81 (Yp (i:=1) J J Qg Ye J)) (by rw [Ok (by omega)]<;>rfl) trivial J Zk
theorem Ax(v:Value)(xs:List Int)(hs:Sz 65536 xs):Cal prog 152 #[v] [slp 2 wv v xs] true (G:=Unit) (fun _=>True) (fun _=>Fl v (tzl xs).length) (fun _=>[slp 2 wv (Fl v (tzl xs).length) (tzl xs)]):=by
 refine Yd func152 J ntmps152 J K1 ?_
 intro w0 sc hw hsc
 simp only [Zq,Zp]
 refine Oe (Zr6 (i:=1) J Zi) fun hself=>Oe (Lu (i:=1) J Zi) fun hlen=>Zc<|Zg<|as_ J<|Zf<|Za<|Zc<|Zm<|Mm [] [(0,_)] (fun(k:Nat)=>[(0,Fl v k)]) (fun(k:Nat)=>[(1,slp 2 wv (Fl v k) (xs.take k))]) (fun(k:Nat)=>(k≤xs.length)∧(tzl (xs.take k)=tzl xs)) (fun(k:Nat)=>k) xs.length ⟨Nat.le_refl _,by rw [List.take_length]⟩ ⟨by rw [hself];rfl,trivial⟩ ⟨by rw [hself,List.take_length];rfl,rfl,trivial⟩ ?_
 rintro k ⟨hk,ht⟩
 simp only [CA,NA]
 have hl:(xs.take k).length=k:=by rw [List.length_take];omega
 refine Zc<|Zc<|Zg<|mv J<|dt (Yc J J (i:=1) J Zi Qi)<|dt (Qr J J J)<|mv J<|Qp (d:=6) J (fun s35=>?_) (fun s35=>?_)
 ·refine gdt (Yf J J) J J<|gdt (Yf J J) J J<|gdt (Yc J J (i:=1) J Zi Qi) J J<|gdt (Qo J J J ⟨by omega,by omega⟩) J J<|gdt (Xf (ii:=1) (i:=k-1) J J J J Zi Qi Ye) J J<|gdt (Xx (ii:=1) 0 J J J Zi pV) J J<|gtt (Zh (n:=1) (Mg _ ((hs.take _).getD _)) J J J K1 call104 Ze J hw) J J J fun _ _=>gdt (Pg J J J) J J<|dt (Yi J J J)<|Zf<|Za<|Zr J (fun h35=>?_) (fun h35=>?_)
  ·have hstep:=Zlw hk (by omega) (Zfe (k:=k) (by omega) (Int.sign_eq_zero_iff_zero.1 ‹_›):cf xs (k-1)=0)
   exact Zj<|Za<|Zm<|Zg<|mv J<|mv J<|dt (Yc J J (i:=1) J Zi Qi)<|dt (Qo J J J ⟨by omega,by omega⟩)<|dt (Zwf (ii:=1) (i:=k-1) J J J J Zi Qi Ye)<|as_ J<|Zf<|Og<|Nq (s_pre 1 1 (k-1) J J)<|Xq (k-1) ⟨by first | omega | (dsimp only<;>omega),by rw [←ht,←hstep]⟩ (by first | omega | (dsimp only<;>omega)) ⟨by rw [←Ha v k (k-1)];rfl,trivial⟩ ⟨by rw [Ha,List.take_take,Nat.min_eq_left (by omega)];rfl,rfl,trivial⟩
  ·refine Yx<|Zu<|Zu<|Nc<|Za<|Zc<|Zg<|mv J<|as_ J<|Zf<|Za<|Zt ?_
   have hx:tzl xs=xs.take k:=by rw [←ht];exact Zcj hk (by first | (left;omega) | (right;exact Zck (k:=k) (by omega) ‹_›))
   exact Yl (.inl J) hsc () _ (fun a w hs=>Np hs results152 J) (by rw [hx,hl]) trivial J (Yh 1 J J J (by rw [hx,hl]) Zk)
 ·refine gsk J J J<|gsk J J J<|gsk J J J<|gsk J J J<|gsk J J J<|gsk J J J<|gsk J J J<|gsk J J J<|dt (Zo J J J)<|Zf<|Za<|Zw J<|Yx<|Zu<|Zu<|Nc<|Za<|Zc<|Zg<|mv J<|as_ J<|Zf<|Za<|Zt ?_
  have hx:tzl xs=xs.take k:=by rw [←ht];exact Zcj hk (by first | (left;omega) | (right;exact Zck (k:=k) (by omega) ‹_›))
  exact Yl (.inl J) hsc () _ (fun a w hs=>Np hs results152 J) (by rw [hx,hl]) trivial J (Yh 1 J J J (by rw [hx,hl]) Zk)
theorem Zok(v:Value)(r:List (Bool×ByteArray)):Mv prog 49 #[v] [slp 2 Zeg v r] (.bool (okP r)):=by
 refine Yd func49 J ntmps49 J K1 ?_
 intro w0 sc hw hsc
 simp only [Zq,Zp]
 refine Oe (Lu (i:=1) J Zi) fun hlen=>Zc<|Zg<|as_ J<|Zf<|Za<|Zc<|Zc<|Zg<|mv J<|dt (Yc J J (i:=1) J Zi Qi)<|mv J<|Zf<|Za<|Zm<|Mm [(0,_),(5,_),(6,_)] [(0,_),(1,_)] (fun(k:Nat)=>[(7,.int .i64 (k:Int))]) (fun(k:Nat)=>[]) (fun(k:Nat)=>(k≤r.length)∧((r.take k).all (fun w=>okW w.1 w.2)=true)) (fun(k:Nat)=>r.length-k) 0 ⟨by first | omega | (dsimp only<;>omega),by simp⟩ K4 K2 ?_
 rintro k ⟨hk,ha⟩
 simp only [CA,NA]
 refine Zc<|Zg<|dt (Qd J J J)<|Zf<|Za<|Zc<|Zr J (fun h51=>?_) (fun h51=>?_)
 ·refine Zj<|Za<|Zc<|Zm<|Zc<|Zg<|dt (Xf (ii:=1) J J J J Zi Qi Ye J (by first | omega | (simp only [List.length_set];omega)))<|dt (Xx (ii:=1) (false,⟨#[]⟩) J J J Zi pW (by first | omega | (simp only [List.length_set];omega)))<|tt (Zl (i:=2) J J zeroValue31 J J hw) J fun b _=>tt (Zn (i:=2) J J J J J (by decide) J Ye J J ⟨Zb J,Zb J,trivial⟩ J hw trivial) J fun _ _=>Zf<|Za<|Zc<|Zg<|dt (Yb (i:=2) J J J Qg Ye J J)<|tt (Zh (n:=2) (Fm _ _) J J J K1 Ze9 Ze J hw) J fun _ _=>dt (Yr J J)<|Zf<|Za<|Nn J (fun h52=>?_) (fun h52=>?_)
  ·exact Zc<|Zg<|as_ J<|Zf<|Za<|Zt<|Lx<|Ys<|Ys<|Lx<|Ys<|xU hsc results49 J J (by rw [Zq3 (Pu (i:=k) (d:=(false,⟨#[]⟩))) (by simp_all)])
  ·exact Zj<|Og<|Za<|Zg<|dt (Yu J J J ⟨by omega,by omega⟩)<|mv J<|Zf<|Xq (k+1) ⟨by first | omega | (dsimp only<;>omega),by rw [On (false,⟨#[]⟩) _ _ (by omega),List.all_append,ha];simpa using h52⟩ (by first | omega | (dsimp only<;>omega)) K4 K2
 ·refine Yx<|Zu<|Zu<|Nc<|Za<|Zc ?_
  obtain rfl:k=r.length:=by omega
  rw [List.take_length]at ha
  obtain⟨xs,hxs,rfl⟩:=Zmr (List.all_eq_true.1 ha)
  have hsz:=Sz.of_mem hxs
  rw [List.length_map]at hlen
  refine Xc (Zl6 1 (q:=slp 2 wv v xs) J J (Zpv v xs) (fun _ h=>h) J)<|Zg<|mv J<|dt (Yc J J (i:=1) J Zi Qi)<|dt (Ac J J J)<|mv J<|Qp (d:=18) J (fun s56=>?_) (fun s56=>?_)
  ·refine gdt (Yf J J) J J<|gdt (Yc J J (i:=1) J Zi Qi) J J<|gdt (Pg J J J) J J<|gdt (Yf J J) J J<|Qp (d:=22) J (fun s56_2=>?_) (fun s56_2=>?_)
   ·exact gsk J J J<|gsk J J J<|gsk J J J<|gsk J J J<|gsk J J J<|gsk J J J<|gsk J J J<|gsk J J J<|gdt (Yi J J J) J J<|dt (Yi J J J)<|as_ J<|Zf<|Za<|Zt<|xU hsc results49 J J (by rw [Zkg hxs];first | (simp_all;done) | (simp_all;omega))
   ·exact gdt (Yf J J) J J<|gdt (Yf J J) J J<|gdt (Yc J J (i:=1) J Zi Qi) J J<|gdt (Qo J J J ⟨by omega,by omega⟩) J J<|gdt (Xf (ii:=1) (i:=xs.length-1) J J J J Zi Qi Ye) J J<|gdt (Xx (ii:=1) 0 J J J Zi pV) J J<|gtt (Zh (n:=2) (Mg _ (hsz.getD _)) J J J K1 call104 Ze J hw) J J J fun _ _=>gdt (Xo J J J) J J<|gdt (Zo J J J) J J<|dt (Yi J J J)<|as_ J<|Zf<|Za<|Zt<|xU hsc results49 J J (by rw [Zkg hxs];first | (simp_all;done) | (simp_all;omega))
  ·exact gsk J J J<|gsk J J J<|gsk J J J<|gsk J J J<|Ziy J J<|Ziy J J<|Ziy J J<|Ziy J J<|Ziy J J<|Ziy J J<|Ziy J J<|Ziy J J<|gsk J J J<|dt (Zo J J J)<|as_ J<|Zf<|Za<|Zt<|xU hsc results49 J J (by rw [Zkg hxs];first | (simp_all;done) | (simp_all;omega))
theorem Xm(v:Value)(xs:List Int)(h:Vp xs):Cal prog 49 #[v] [slp 2 wv v xs] false (G:=Unit) (fun _=>True) (fun _=> .bool true) (fun _=>[]):=okP_wr h▸(Zok v (xs.map wr)).imp (Zpw v xs) (fun _ h=>h)
theorem Nl(v:Value)(xs:List Int)(hs:Sz 65536 xs):Mv prog 149 #[v] [slp 2 wv v xs] (.int .i64 (msz xs:Int)):=by
 refine Yd func149 J ntmps149 J K1 ?_
 intro w0 sc hw hsc
 simp only [Zq,Zp]
 refine Oe (Lu (i:=1) J Zi) fun hlen=>Zc<|Zg<|as_ J<|Zf<|Za<|Zc<|Zg<|as_ J<|Zf<|Za<|Zc<|Zc<|Zg<|mv J<|dt (Yc J J (i:=1) J Zi uT22)<|mv J<|Zf<|Za<|Zm<|Mm [(6,_),(7,_)] [(0,_),(1,_)] (fun(k:Nat)=>[(8,.int .i64 (k:Int)),(3,.int .i64 (msz (xs.take k):Int))]) (fun(k:Nat)=>[]) (fun(k:Nat)=>k≤xs.length) (fun(k:Nat)=>xs.length-k) 0 (by first | omega | (dsimp only<;>omega)) K4 K2 ?_
 rintro k hk
 simp only [CA,NA]
 refine Zc<|Zg<|dt (Qd J J J)<|Zf<|Za<|Zc<|Zr J (fun h83=>?_) (fun h83=>?_)
 ·exact Zj<|Za<|Zc<|Zm<|Zc<|Zg<|dt (Xf (ii:=1) J J J J Zi uT22 Ye J (by first | omega | (simp only [List.length_set];omega)))<|dt (Xx (ii:=1) 0 J J J Zi pV (by first | omega | (simp only [List.length_set];omega)))<|tt (Zl (i:=2) J J zeroValue31 J J hw) J fun b _=>tt (Zn (i:=2) J J J J J (by decide) J Ye J J ⟨Zb J,Zb J,trivial⟩ J hw trivial) J fun _ _=>Zf<|Za<|Zg<|mv J<|dt (Yb (i:=2) J J J Qg Ye J J)<|tt (Zh (n:=2) (Zf9 _ (hs.getD _)) J J J K1 call145 Ze J hw) J fun _ _=>dt (Zsw J J J)<|as_ J<|Zf<|Og<|Za<|Zg<|dt (Yu J J J ⟨by omega,by omega⟩)<|mv J<|Zf<|Xq (k+1) (by first | omega | (dsimp only<;>omega)) (by first | omega | (dsimp only<;>omega)) ⟨J,by rw [On 0 _ _ (by omega),Zvr];exact congrArg some (Zb5 (by omega)),rfl,rfl,trivial⟩ K2
 ·exact Yx<|Zu<|Zu<|Nc<|Za<|Zc<|Zg<|mv J<|as_ J<|Zf<|Za<|Zt<|xU hsc results149 J J (by rw [List.take_of_length_le (by omega)])
theorem Zm9(bd:Nat)(t:TypeId)(e e2:Int)(n:Bool)(s:ByteArray):Zo5 prog 175 #[.pointer (some ⟨bd,0,none⟩),.agg #[.bool n,.string s],.int .i64 e2] [] false bd t #[.int .i64 e] (G:=Unit) (fun _=>True) (fun _=> .agg #[.bool n,.string s]) (fun _=>#[.int .i64 (if e=0 then e2 else e)]) (fun _=>[]):=by
 refine Zbo func175 J ntmps175 J trivial ?_
 intro w0 sc hw hsc
 simp only [Zq,Zp]
 refine Zc<|Zg<|tt (Xa (i:=2) J J J J J hw) J fun b _=>tt (Zl (i:=3) J J zeroValue31 J J hw) J fun b_2 _=>Zf<|Za<|Zc<|Zc<|Zg<|mv J<|dt (Ze5 J J)<|dt (Xk J J Zjl J Gj J J)<|dt (Pr (i:=1) J J J Ai J)<|dt (Pg J J J)<|Zf<|Za<|Zr J (fun h19=>?_) (fun h19=>?_)
 ·exact Zg<|mv J<|mv J<|dt (Ze5 J J)<|dt (Xk J J Zjl J Gj J J)<|tt (Zn (i:=1) J J J J J (by decide) J Gj J J ⟨Zb J,trivial⟩ J hw trivial) J fun _ _=>Zf<|Za<|Zc<|Zg<|dt (Yb (i:=2) J J J Qg Ye J J)<|tt (Zn (i:=3) J J J J J (by decide) J Ye J J ⟨Zb J,Zb J,trivial⟩ J hw trivial) J fun _ _=>Zf<|Za<|Zt<|Zc3 (.inl J) hsc () _ (fun a w hs=>Np hs results175 (Yp (i:=3) J J Qg Ye J)) J trivial 1 J (by simp_all [Bx]) J J Zk
 ·exact Zj<|Za<|Zc<|Zg<|dt (Yb (i:=2) J J J Qg Ye J J)<|tt (Zn (i:=3) J J J J J (by decide) J Ye J J ⟨Zb J,Zb J,trivial⟩ J hw trivial) J fun _ _=>Zf<|Za<|Zt<|Zc3 (.inl J) hsc () _ (fun a w hs=>Np hs results175 (Yp (i:=3) J J Qg Ye J)) J trivial 1 J (by simp_all [Bx]) J J Zk
theorem d_mul_(bd:Nat)(e x y:Int)(hx:bl x.natAbs≤65536)(hy:bl y.natAbs≤65536):Zo5 prog 153 #[.pointer (some ⟨bd,0,none⟩),wv x,wv y] [] false bd 167 #[.int .i64 e] (G:=Unit) (fun _=>True) (fun _=>wv (Zf2 (x*y))) (fun _=>#[.int .i64 (err e (x*y))]) (fun _=>[]):=by
 refine Zbo func153 J ntmps153 J trivial ?_
 intro w0 sc hw hsc
 simp only [Zq,Zp]
 refine Zc<|Zg<|tt (Xa (i:=2) J J J J J hw) J fun b _=>tt (Xa (i:=3) J J J J J hw) J fun b_2 _=>tt (Zl (i:=4) J J zeroValue31 J J hw) J fun b_3 _=>Zf<|Za<|Zc<|Qf (fun x=>x=bd) [(0,0),(1,0),(2,0),(3,0),(4,0),(5,1),(6,0),(7,0),(8,1),(9,3)] ?_ ?_
 ·kernel_rfl
 exact r0' J J (st1 1 J (Yf J J))<|r0' J J (st1 1 J (Ze5 J J))<|r0' J J (st1 1 J (Xk J J Zgf J Zf7 J J))<|r0' J J (st1 1 J (Yb (i:=2) J J J Qg Ye J J))<|r0' J J (st1 1 J (Yb (i:=3) J J J Qg Ye J J))<|r1' J (Zh (n:=4) (Ej _ _ ‹_› ‹_›) J J J K2 call139 Ze J hw) fun _ _=>r0' J J (st1 1 J (Ya J J J))<|r0' J J (st1 1 J (Ya J J J))<|r1' J (Ob (n:=4) (i:=1) (Zm9 _ _ _ _ _ _) J J J K3 call175 J (by decide) Ze J hw J) fun _ _=>r3' J (Zn (i:=4) J J J J J (by decide) J Ye J J ⟨Zb J,Zb J,trivial⟩ J hw trivial) fun _ _=>Py<|Za<|Zt<|Zc3 (.inl J) hsc () _ (fun a w hs=>Np hs results153 (Yp (i:=4) J J Qg Ye J)) J trivial 1 J J J J Zk
theorem Eg(bd:Nat)(x y:Int)(hx:bl x.natAbs≤65536)(hy:bl y.natAbs≤65536)(hz:bl (x*y).natAbs≤65536):Zo5 prog 153 #[.pointer (some ⟨bd,0,none⟩),wv x,wv y] [] false bd 167 #[.int .i64 0] (G:=Unit) (fun _=>True) (fun _=>wv (x*y)) (fun _=>#[.int .i64 0]) (fun _=>[]):=by
 have h:=d_mul_ bd 0 x y hx hy
 rw [Ok hz,Zsd hz]at h;exact h
theorem d_add_(bd:Nat)(e x y:Int)(hx:bl x.natAbs≤65536)(hy:bl y.natAbs≤65536):Zo5 prog 159 #[.pointer (some ⟨bd,0,none⟩),wv x,wv y] [] false bd 167 #[.int .i64 e] (G:=Unit) (fun _=>True) (fun _=>wv (Zf2 (x+y))) (fun _=>#[.int .i64 (err e (x+y))]) (fun _=>[]):=by
 refine Zbo func159 J ntmps159 J trivial ?_
 intro w0 sc hw hsc
 simp only [Zq,Zp]
 refine Zc<|Zg<|tt (Xa (i:=2) J J J J J hw) J fun b _=>tt (Xa (i:=3) J J J J J hw) J fun b_2 _=>tt (Zl (i:=4) J J zeroValue31 J J hw) J fun b_3 _=>Zf<|Za<|Zc<|Qf (fun x=>x=bd) [(0,0),(1,0),(2,0),(3,0),(4,0),(5,1),(6,0),(7,0),(8,1),(9,3)] ?_ ?_
 ·kernel_rfl
 exact r0' J J (st1 1 J (Yf J J))<|r0' J J (st1 1 J (Ze5 J J))<|r0' J J (st1 1 J (Xk J J Zgf J Zf7 J J))<|r0' J J (st1 1 J (Yb (i:=2) J J J Qg Ye J J))<|r0' J J (st1 1 J (Yb (i:=3) J J J Qg Ye J J))<|r1' J (Zh (n:=4) (Gk _ _ ‹_› ‹_›) J J J K2 call82 Ze J hw) fun _ _=>r0' J J (st1 1 J (Ya J J J))<|r0' J J (st1 1 J (Ya J J J))<|r1' J (Ob (n:=4) (i:=1) (Zm9 _ _ _ _ _ _) J J J K3 call175 J (by decide) Ze J hw J) fun _ _=>r3' J (Zn (i:=4) J J J J J (by decide) J Ye J J ⟨Zb J,Zb J,trivial⟩ J hw trivial) fun _ _=>Py<|Za<|Zt<|Zc3 (.inl J) hsc () _ (fun a w hs=>Np hs results159 (Yp (i:=4) J J Qg Ye J)) J trivial 1 J J J J Zk
theorem Znf(bd:Nat)(x y:Int)(hx:bl x.natAbs≤65536)(hy:bl y.natAbs≤65536)(hz:bl (x+y).natAbs≤65536):Zo5 prog 159 #[.pointer (some ⟨bd,0,none⟩),wv x,wv y] [] false bd 167 #[.int .i64 0] (G:=Unit) (fun _=>True) (fun _=>wv (x+y)) (fun _=>#[.int .i64 0]) (fun _=>[]):=by
 have h:=d_add_ bd 0 x y hx hy
 rw [Ok hz,Zsd hz]at h;exact h
theorem d_sub_(bd:Nat)(e x y:Int)(hx:bl x.natAbs≤65536)(hy:bl y.natAbs≤65536):Zo5 prog 137 #[.pointer (some ⟨bd,0,none⟩),wv x,wv y] [] false bd 167 #[.int .i64 e] (G:=Unit) (fun _=>True) (fun _=>wv (Zf2 (x-y))) (fun _=>#[.int .i64 (err e (x-y))]) (fun _=>[]):=by
 refine Zbo func137 J ntmps137 J trivial ?_
 intro w0 sc hw hsc
 simp only [Zq,Zp]
 refine Zc<|Zg<|tt (Xa (i:=2) J J J J J hw) J fun b _=>tt (Xa (i:=3) J J J J J hw) J fun b_2 _=>tt (Zl (i:=4) J J zeroValue31 J J hw) J fun b_3 _=>Zf<|Za<|Zc<|Qf (fun x=>x=bd) [(0,0),(1,0),(2,0),(3,0),(4,0),(5,1),(6,0),(7,0),(8,1),(9,3)] ?_ ?_
 ·kernel_rfl
 exact r0' J J (st1 1 J (Yf J J))<|r0' J J (st1 1 J (Ze5 J J))<|r0' J J (st1 1 J (Xk J J Zgf J Zf7 J J))<|r0' J J (st1 1 J (Yb (i:=2) J J J Qg Ye J J))<|r0' J J (st1 1 J (Yb (i:=3) J J J Qg Ye J J))<|r1' J (Zh (n:=4) (Zlq _ _ ‹_› ‹_›) J J J K2 call140 Ze J hw) fun _ _=>r0' J J (st1 1 J (Ya J J J))<|r0' J J (st1 1 J (Ya J J J))<|r1' J (Ob (n:=4) (i:=1) (Zm9 _ _ _ _ _ _) J J J K3 call175 J (by decide) Ze J hw J) fun _ _=>r3' J (Zn (i:=4) J J J J J (by decide) J Ye J J ⟨Zb J,Zb J,trivial⟩ J hw trivial) fun _ _=>Py<|Za<|Zt<|Zc3 (.inl J) hsc () _ (fun a w hs=>Np hs results137 (Yp (i:=4) J J Qg Ye J)) J trivial 1 J J J J Zk
theorem Zsr(bd:Nat)(x y:Int)(hx:bl x.natAbs≤65536)(hy:bl y.natAbs≤65536)(hz:bl (x-y).natAbs≤65536):Zo5 prog 137 #[.pointer (some ⟨bd,0,none⟩),wv x,wv y] [] false bd 167 #[.int .i64 0] (G:=Unit) (fun _=>True) (fun _=>wv (x-y)) (fun _=>#[.int .i64 0]) (fun _=>[]):=by
 have h:=d_sub_ bd 0 x y hx hy
 rw [Ok hz,Zsd hz]at h;exact h
theorem d_done(bd:Nat)(v:Value)(xs:List Int)(hs:Sz 65536 xs):Cal prog 154 #[.pointer (some ⟨bd,0,none⟩),v] [Zfo bd 167 #[.int .i64 0],slp 2 wv v xs] true (G:=Unit) (fun _=>True) (fun _=> .tuple #[Fl v (tzl xs).length,.int .i64 0]) (fun _=>[slp 2 wv (Fl v (tzl xs).length) (tzl xs)]):=by
 refine Yd func154 J ntmps154 J K2 ?_
 intro w0 sc hw hsc
 simp only [Zq,Zp]
 refine Zc<|Zg<|as_ J<|as_ J<|Zf<|Za<|Zc<|Zc<|Zg<|mv J<|dt (Ze5 J J)<|dt (Xk J J Zgf J Zf7 J J)<|dt (Xk J J Zjl J Gj J J)<|dt (Zwg (i:=1) J J J Ai J)<|dt (Xo J J J)<|Zf<|Za<|Zr J (fun h43=>?_) (fun h43=>?_)
 ·exfalso;simp_all
 ·exact Zj<|Za<|Zc<|Zg<|mv J<|tt (Zh (n:=3) (Ax _ _ ‹_›) J J J K1 call152 (Zd 2 J J J Ze) J hw) J fun _ _=>as_ J<|as_ J<|Zf<|Za<|Zt<|Yl (.inl J) hsc () _ (fun a w hs=>Ns hs results154 J J) J trivial J (Qx 3 J J J Zk)
end Go.Sky

