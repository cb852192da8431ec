/- rules, arithmetic and contracts: part 6
   Proved without conditions of its own: each theorem bears its own. -/
import Derived.Test.YtcmiiammekgooaaGreatSf03
import Derived.Test.YtcmiiammekgooaaGreatSf02
import Derived.Test.YtcmiiammekgooaaGreatSf01
import Derived.Test.YtcmiiammekgooaaGreatSf04
set_option linter.all false
namespace Go.Sky
open Go.Proofs.Tryz
open Go.Proofs
set_option maxRecDepth 20000
set_option maxHeartbeats 4000000
set_option linter.unusedSimpArgs false
theorem Ec(b:Bool)(s:ByteArray):Mc prog 103 #[.agg #[.bool b,.string s]] [] (.bool (okW b s)):=by
 refine Yc func103 J ntmps103 J trivial ?_
 intro w0 sc hw hsc
 simp only [Zq,Zp]
 refine Zd<|Zg<|tt (Yu (i:=1) J J J J J hw) fun b _=>as_ J<|Zf<|Za<|Zd<|Zd<|Zg<|dt (Xs J J Zam J zT9 J J)<|dt (Oj (i:=1) J J J iA9 J)<|dt (Zk1 J J J J)<|Zf<|Za<|Zs J (fun h264=>?_) (fun h264=>?_)
 ·exact Zd<|Zg<|dt (Xs J J Zam J zT4 J J)<|dt (Oj (i:=1) J J J iA4 J)<|dt (Xg J J)<|as_ J<|Zf<|Za<|Zu<|Xa<|xU hsc results103 J J (by unfold okW;rw [if_pos h264])
 ·refine Zj<|Za<|Zd<|Zg<|dt (Xs J J Zam J zT9 J J)<|dt (Oj (i:=1) J J J iA9 J)<|dt (Zqm (i:=0) J J J uT9 J)<|dt (Qc J J J)<|mv J<|Qm (d:=13) J (fun s267=>?_) (fun s267=>?_)
  ·exact gdt (Xs J J Zam J zT9 J J) J J<|gdt (Oj (i:=1) J J J iA9 J) J J<|gdt (Fi J J uT9) J J<|gdt (Cf J J J) J J<|dt (Ys J J J)<|as_ J<|Zf<|Za<|Zu<|xU hsc results103 J J (by unfold okW;rw [if_neg h264];simp_all<;>omega)
  ·exact gsk J J J<|gsk J J J<|gsk J J J<|gsk J J J<|dt (Zz J J J)<|as_ J<|Zf<|Za<|Zu<|xU hsc results103 J J (by unfold okW;rw [if_neg h264];simp_all<;>omega)
theorem Kf(x:Int)(hx:bl x.natAbs≤65536):Cal prog 103 #[wv x] [] false (G:=Unit) (fun _=>True) (fun _=> .bool true) (fun _=>[]):=Za7 hx▸Ec _ _
theorem Zje(b:Bool)(s:ByteArray)(c:Bool)(t:ByteArray):Mc prog 129 #[.agg #[.bool b,.string s],.agg #[.bool c,.string t]] [] (.bool (okW b s && okW c t)):=by
 refine Yc func129 J ntmps129 J trivial ?_
 intro w0 sc hw hsc
 simp only [Zq,Zp]
 refine Zd<|Zg<|tt (Yu (i:=1) J J J J J hw) fun b _=>tt (Yu (i:=2) J J J J J hw) fun b_2 _=>as_ J<|Zf<|Za<|Zd<|Zg<|dt (Zy (i:=1) J J J Qq Yq J J)<|tt (Zh (n:=2) (Ec _ _) J J J K1 Zga Ze J hw) fun _ _=>mv J<|Ll (d:=7) J (fun s271=>?_) (fun s271=>?_)
 ·exact gdt (Zy (i:=2) J J J Qq Yq J J) J J<|gtt (Zh (n:=2) (Ec _ _) J J J K1 Zga Ze J hw) J J J fun _ _=>dt (Ys J J J)<|as_ J<|Zf<|Za<|Zu<|xU hsc results129 J J (by simp_all)
 ·exact gsk J J J<|gsk J J J<|dt (Zz J J J)<|as_ J<|Zf<|Za<|Zu<|xU hsc results129 J J (by simp_all)
theorem Kc(x y:Int)(hx:bl x.natAbs≤65536)(hy:bl y.natAbs≤65536):Mc prog 129 #[wv x,wv y] [] (.bool true):=by
 have h:=Zje (decide (x<0)) (Qo x.natAbs) (decide (y<0)) (Qo y.natAbs)
 rw [Za7 hx,Za7 hy]at h;exact h
theorem Ms(x:Int)(hx:bl x.natAbs≤65536):Mc prog 104 #[wv x] [] (.int .i64 x.sign):=by
 refine Yc func104 J ntmps104 J trivial ?_
 intro w0 sc hw hsc
 simp only [Zq,Zp]
 exact Zd<|Zg<|tt (Yu (i:=1) J J J J J hw) fun b _=>as_ J<|Zf<|Za<|Zd<|Zd<|Zg<|dt (Zy (i:=1) J J J Qq Yq J J)<|tt (Zh (n:=1) (Kf _ ‹_›) J J J K1 Zga Ze J hw) fun _ _=>dt (Xg J J)<|Zf<|Za<|Ye J<|Zj<|Za<|Zd<|Zg<|dt (Zy (i:=1) J J J Qq Yq J J)<|tt (Zh (n:=2) (Ph _ _ (Xq _)) J J J K1 Lq Ze J hw) fun g hg=>tt (Zh (n:=2) (Zik _ _ _ ‹_›) J J J K1 call135 (Zc 2 J J J Ze) J hw) fun _ _=>as_ J<|Zf<|Za<|Zu<|xU hsc results104 J J J
theorem Zhe(x:Int)(hx:bl x.natAbs≤65536):Mc prog 145 #[wv x] [] (.int .i64 (bl x.natAbs:Int)):=by
 refine Yc func145 J ntmps145 J trivial ?_
 intro w0 sc hw hsc
 simp only [Zq,Zp]
 exact Zd<|Zg<|tt (Yu (i:=1) J J J J J hw) fun b _=>as_ J<|Zf<|Za<|Zd<|Zd<|Zg<|dt (Zy (i:=1) J J J Qq Yq J J)<|tt (Zh (n:=1) (Kf _ ‹_›) J J J K1 Zga Ze J hw) fun _ _=>dt (Xg J J)<|Zf<|Za<|Ye J<|Zj<|Za<|Zd<|Zg<|dt (Xs J J Zam J zT9 J J)<|dt (Oj (i:=1) J J J iA9 J)<|tt (Zh (n:=2) (Zak _) J J J K1 call170 Ze J hw) fun v _=>tt (Zh (n:=2) (Zin _ _) J J J K1 call168 (Zc 2 J J J Ze) J hw) fun _ _=>as_ J<|Zf<|Za<|Zu<|xU hsc results145 J J J
theorem Gx(x y:Int)(hx:bl x.natAbs≤65536:=by omega)(hy:bl y.natAbs≤65536:=by omega):Mc prog 82 #[wv x,wv y] [] (Zdf (x+y)):=by
 refine Yc func82 J ntmps82 J trivial ?_
 intro w0 sc hw hsc
 simp only [Zq,Zp]
 have hb:=Lu x y
 refine Zd<|Zg<|tt (Yu (i:=1) J J J J J hw) fun b _=>tt (Yu (i:=2) J J J J J hw) fun b_2 _=>tt (Zn (i:=3) J J zeroValue31 J J hw) fun b_3 _=>as_ J<|Zf<|Za<|Zd<|Zd<|Zg<|dt (Zy (i:=1) J J J Qq Yq J J)<|dt (Zy (i:=2) J J J Qq Yq J J)<|tt (Zh (n:=3) (Kc _ _ ‹_› ‹_›) J J J K2 call129 Ze J hw) fun _ _=>dt (Xg J J)<|Zf<|Za<|Ye J<|Zj<|Za<|Zd<|Qi (fun _=>False) [(0,0),(2,0),(1,1),(3,1),(4,1),(5,1),(6,0),(7,0),(8,3),(9,3)] ?_ ?_
 ·kernel_rfl
 exact r0' J J (st0 (Zy (i:=1) J J J Qq Yq J J))<|r0' J J (st0 (Zy (i:=2) J J J Qq Yq J J))<|r1' J (Zh (n:=4) (Ph _ _ (Xq _)) J J J K1 Lq Ze J hw) fun g hg=>r1' J (Zh (n:=5) (Ph _ _ (Xq _)) J J J K1 Lq Ze J hw) fun g_2 hg_2=>r1' J (Zh (n:=6) (Ze8 _ _ _ _ _ _ ‹_› ‹_›) J J J K2 call131 (Zc 4 J J J (Zc 5 J J J Ze)) J hw) fun g_3 hg_3=>r1' J (Zh (n:=6) (Ks _ _ _ ‹_›) J J J K1 call128 (Zc 6 J J J Ze) J hw) fun _ _=>r0' J J (st0 (Yh J J J))<|r0' J J (st0 (Yh J J J))<|r3' J (Zm (i:=3) J J J J J (by decide) J Yq J J ⟨Zb J,Zb J,trivial⟩ J hw trivial) fun _ _=>r3' J (Py (Mf J J) J) fun _ _=>Of<|Za<|Zu<|Ym (.inl J) hsc () _ (fun a w hs=>Nl hs results82 (Yn (i:=3) J J Qq Yq J) J) J trivial J Zk
theorem Zne(x y:Int)(hx:bl x.natAbs≤65536)(hy:bl y.natAbs≤65536):Mc prog 140 #[wv x,wv y] [] (Zdf (x-y)):=by
 refine Yc func140 J ntmps140 J trivial ?_
 intro w0 sc hw hsc
 simp only [Zq,Zp]
 have hb:=Fx x y
 have hny:=Zk8 y
 refine Zd<|Zg<|tt (Yu (i:=1) J J J J J hw) fun b _=>tt (Yu (i:=2) J J J J J hw) fun b_2 _=>tt (Zn (i:=3) J J zeroValue31 J J hw) fun b_3 _=>as_ J<|Zf<|Za<|Zd<|Zd<|Zg<|dt (Zy (i:=1) J J J Qq Yq J J)<|dt (Zy (i:=2) J J J Qq Yq J J)<|tt (Zh (n:=3) (Kc _ _ ‹_› ‹_›) J J J K2 call129 Ze J hw) fun _ _=>dt (Xg J J)<|Zf<|Za<|Ye J<|Zj<|Za<|Zd<|Qi (fun _=>False) [(0,0),(2,0),(1,1),(3,1),(4,1),(5,1),(6,1),(7,0),(8,0),(9,3),(10,3)] ?_ ?_
 ·kernel_rfl
 exact r0' J J (st0 (Zy (i:=1) J J J Qq Yq J J))<|r0' J J (st0 (Zy (i:=2) J J J Qq Yq J J))<|r1' J (Zh (n:=4) (Ph _ _ (Xq _)) J J J K1 Lq Ze J hw) fun g hg=>r1' J (Zh (n:=5) (Ph _ _ (Xq _)) J J J K1 Lq Ze J hw) fun g_2 hg_2=>r1' J (Zh (n:=6) (Zma _ _ _ ‹_›) J J J K1 call134 (Zc 5 J J J Ze) J hw) fun g_3 hg_3=>r1' J (Zh (n:=7) (Ze8 _ _ _ _ _ _ ‹_› ‹_›) J J J K2 call131 (Zc 4 J J J (Zc 6 J J J Ze)) J hw) fun g_4 hg_4=>r1' J (Zh (n:=7) (Ks _ _ _ ‹_› (by rw [←Int.sub_eq_add_neg];omega)) J J J K1 call128 (Zc 7 J J J Ze) J hw) fun _ _=>r0' J J (st0 (Yh J J J))<|r0' J J (st0 (Yh J J J))<|r3' J (Zm (i:=3) J J J J J (by decide) J Yq J J ⟨Zb J,Zb J,trivial⟩ J hw trivial) fun _ _=>r3' J (Py (Mf J J) J) fun _ _=>Of<|Za<|Zu<|Ym (.inl J) hsc () _ (fun a w hs=>Nl hs results140 (Yn (i:=3) J J Qq Yq J) J) (by rw [Int.sub_eq_add_neg]<;>rfl) trivial J Zk
theorem De(x y:Int)(hx:bl x.natAbs≤65536:=by omega)(hy:bl y.natAbs≤65536:=by omega):Mc prog 139 #[wv x,wv y] [] (Zdf (x*y)):=by
 refine Yc func139 J ntmps139 J trivial ?_
 intro w0 sc hw hsc
 simp only [Zq,Zp]
 have hb:=Xm x y
 refine Zd<|Zg<|tt (Yu (i:=1) J J J J J hw) fun b _=>tt (Yu (i:=2) J J J J J hw) fun b_2 _=>tt (Zn (i:=3) J J zeroValue31 J J hw) fun b_3 _=>as_ J<|Zf<|Za<|Zd<|Zd<|Zg<|dt (Zy (i:=1) J J J Qq Yq J J)<|dt (Zy (i:=2) J J J Qq Yq J J)<|tt (Zh (n:=3) (Kc _ _ ‹_› ‹_›) J J J K2 call129 Ze J hw) fun _ _=>dt (Xg J J)<|Zf<|Za<|Ye J<|Zj<|Za<|Zd<|Qi (fun _=>False) [(0,0),(2,0),(1,1),(3,1),(4,1),(5,1),(6,0),(7,0),(8,3),(9,3)] ?_ ?_
 ·kernel_rfl
 exact r0' J J (st0 (Zy (i:=1) J J J Qq Yq J J))<|r0' J J (st0 (Zy (i:=2) J J J Qq Yq J J))<|r1' J (Zh (n:=4) (Ph _ _ (Xq _)) J J J K1 Lq Ze J hw) fun g hg=>r1' J (Zh (n:=5) (Ph _ _ (Xq _)) J J J K1 Lq Ze J hw) fun g_2 hg_2=>r1' J (Zh (n:=6) (Zcl _ _ _ _ _ _ ‹_› ‹_›) J J J K2 call176 (Zc 4 J J J (Zc 5 J J J Ze)) J hw) fun g_3 hg_3=>r1' J (Zh (n:=6) (Ks _ _ _ ‹_›) J J J K1 call128 (Zc 6 J J J Ze) J hw) fun _ _=>r0' J J (st0 (Yh J J J))<|r0' J J (st0 (Yh J J J))<|r3' J (Zm (i:=3) J J J J J (by decide) J Yq J J ⟨Zb J,Zb J,trivial⟩ J hw trivial) fun _ _=>r3' J (Py (Mf J J) J) fun _ _=>Of<|Za<|Zu<|Ym (.inl J) hsc () _ (fun a w hs=>Nl hs results139 (Yn (i:=3) J J Qq Yq J) J) J trivial J Zk
theorem Zvz(x y:Int)(hx:bl x.natAbs≤65536)(hy:bl y.natAbs≤65536):Mc prog 196 #[wv x,wv y] [] (Zdf (Int.gcd x y:Int)):=by
 refine Yc func196 J ntmps196 J trivial ?_
 intro w0 sc hw hsc
 simp only [Zq,Zp]
 have hb:=Zla x.natAbs y.natAbs
 refine Zd<|Zg<|tt (Yu (i:=1) J J J J J hw) fun b _=>tt (Yu (i:=2) J J J J J hw) fun b_2 _=>tt (Zn (i:=3) J J zeroValue31 J J hw) fun b_3 _=>as_ J<|Zf<|Za<|Zd<|Zd<|Zg<|dt (Zy (i:=1) J J J Qq Yq J J)<|dt (Zy (i:=2) J J J Qq Yq J J)<|tt (Zh (n:=3) (Kc _ _ ‹_› ‹_›) J J J K2 call129 Ze J hw) fun _ _=>dt (Xg J J)<|Zf<|Za<|Ye J<|Zj<|Za<|Zd<|Qi (fun _=>False) [(0,0),(1,0),(3,0),(4,0),(2,1),(5,1),(6,1),(7,0),(8,1),(9,0),(10,0),(11,3),(12,3)] ?_ ?_
 ·kernel_rfl
 exact r0' J J (st0 (Xs J J Zam J zT9 J J))<|r0' J J (st0 (Oj (i:=1) J J J iA9 J))<|r0' J J (st0 (Xs J J Zam J zT9 J J))<|r0' J J (st0 (Oj (i:=2) J J J iA9 J))<|r1' J (Zh (n:=4) (Zak _) J J J K1 call170 Ze J hw) fun v _=>r1' J (Zh (n:=5) (Zak _) J J J K1 call170 Ze J hw) fun v_2 _=>r1' J (Zh (n:=6) (Zmc _ _ _ _) J J J K2 call185 (Zc 4 J J J (Zc 5 J J J Ze)) J hw) fun v_3 _=>r0' J J (st0 (Pv (ivs:=[(0,_),(1,_)]) J K4 (fun a w hs=>Nc ((Zb J) a w hs) ((Zl (i:=6) J Zi) a w hs))))<|r1' J (Zh (n:=6) (Ks false _ (Int.gcd x y:Int) (by simp [sg]) (by show bl (Nat.gcd x.natAbs y.natAbs)≤_;omega)) J J J K1 call128 (Zc 6 J J J Ze) J hw) fun _ _=>r0' J J (st0 (Yh J J J))<|r0' J J (st0 (Yh J J J))<|r3' J (Zm (i:=3) J J J J J (by decide) J Yq J J ⟨Zb J,Zb J,trivial⟩ J hw trivial) fun _ _=>r3' J (Py (Mf J J) J) fun _ _=>Of<|Za<|Zu<|Ym (.inl J) hsc () _ (fun a w hs=>Nl hs results196 (Yn (i:=3) J J Qq Yq J) J) J trivial J Zk
theorem Bc(x y:Int)(hx:bl x.natAbs≤65536)(hy:bl y.natAbs≤65536)(hy0:y≠0):Mc prog 158 #[wv x,wv y] [] (.tuple #[wv (Zg7 (x/y)),wv (Zg7 (x%y)),.int .i64 0]):=by
 refine Yc func158 J ntmps158 J trivial ?_
 intro w0 sc hw hsc
 simp only [Zq,Zp]
 have hb:=Zja x y
 have hb2:=Zm8 x y hy0
 refine Zd<|Zg<|tt (Yu (i:=1) J J J J J hw) fun b _=>tt (Yu (i:=2) J J J J J hw) fun b_2 _=>tt (Zn (i:=3) J J zeroValue31 J J hw) fun b_3 _=>tt (Zn (i:=4) J J zeroValue31 J J hw) fun b_4 _=>as_ J<|Zf<|Za<|Zd<|Zd<|Zg<|dt (Zy (i:=1) J J J Qq Yq J J)<|dt (Zy (i:=2) J J J Qq Yq J J)<|tt (Zh (n:=4) (Kc _ _ ‹_› ‹_›) J J J K2 call129 Ze J hw) fun _ _=>dt (Xg J J)<|Zf<|Za<|Ye J<|Zj<|Za<|Zd<|Zd<|Zg<|dt (Xs J J Zam J zT9 J J)<|dt (Oj (i:=2) J J J iA9 J)<|dt (Zk1 J J J J)<|Zf<|Za<|Zs J (fun h337=>?_) (fun h337=>?_)
 ·rw [Lc]at h337
  exfalso;exact hy0 (by have:=(Pp (by omega:2≤256) y.natAbs).1 h337;omega)
 ·refine Zj<|Za<|Ez [(4,_),(5,_)] [(0,_),(1,_),(2,_),(3,_),(4,_)] (fun(q:Bool×Value×Value×Nat×Nat)=>[(7,.pointer (some ⟨q.2.2.2.1,0,none⟩)),(8,.pointer (some ⟨q.2.2.2.2,0,none⟩))]) (fun(q:Bool×Value×Value×Nat×Nat)=>[(84,dgp q.2.1 (x/y).natAbs),(85,dgp q.2.2.1 (x%y).natAbs),(86,box q.2.2.2.1 154 #[.bool q.1,q.2.1]),(87,box q.2.2.2.2 154 #[.bool false,q.2.2.1])]) (fun(q:Bool×Value×Value×Nat×Nat)=>sg q.1 (x/y)) K2 K5 ?_ ?_
  ·refine Oi [1,2] [11]<|Zx (n:=10) [(0,0),(2,0)]<|r0' J J (stf (Zy (i:=1) J J J Qq Yq J J) K2)<|r0' J J (stf (Zy (i:=2) J J J Qq Yq J J) K2)<|Yk<|Ba (n:=9) 1 8 9 ?_ ?_ ?_
   ·refine Yj J (Zh (n:=81) (Ph _ _ (Xq _)) J J J K1 Lq Ze J hw) fun g hg=>Ba (n:=8) 3 8 9 ?_ ?_ ?_
    ·refine Yj J (Zh (n:=82) (Ph _ _ (Xq _)) J J J K1 Lq Ze J hw) fun g_2 hg_2=>Ba (n:=7) 4 8 9 ?_ ?_ ?_
     ·refine Yj J (Zh (n:=84) (Qy _ _ _ _ _ _ ‹_› ‹_› (by omega) (by omega) hy0) J J J K2 Mo (Zc 81 J J J (Zc 82 J J J Ze)) J hw) fun g_3 hg_3=>Zx (n:=4) [(5,0),(6,0),(7,0)]<|r0' J J (stf (Yo J J) K2)<|r0' J J (stf (Yh J J J) K2)<|r0' J J (stf (Yh J J J) K2)<|Yk<|Pb (n:=3) 8 9 ?_ ?_
      ·exact Yj J (Zr (i:=86) J J zeroValue154 J J hw K2) fun b_5 ho=>Zx (n:=0) [(9,1),(10,1),(11,3)]<|r1' J (Zr (i:=87) J J zeroValue154 J J hw K2) fun b_6 ho2=>r1' J (Zm (i:=86) J J J J J (by decide) J Xe J J ⟨Zb J,Zl (i:=84) J Zi,trivial⟩ J hw ho) fun _ _=>r3' J (Zm (i:=87) J J J J J (by decide) J Xe J J ⟨Zb J,Zl (i:=85) J Zi,trivial⟩ J hw trivial) fun _ _=>Yk<|Yf<|Qt (_,_,_,_,_) ‹_› K4 K9
      ·exact Yj J (Zr (i:=87) J J zeroValue154 J J hw K2) fun b_7 ho3=>Zx (n:=0) [(8,1),(10,1),(11,3)]<|r1' J (Zr (i:=86) J J zeroValue154 J J hw K2) fun b_8 ho4=>r1' J (Zm (i:=86) J J J J J (by decide) J Xe J J ⟨Zb J,Zl (i:=84) J Zi,trivial⟩ J hw ho4) fun _ _=>r3' J (Zm (i:=87) J J J J J (by decide) J Xe J J ⟨Zb J,Zl (i:=85) J Zi,trivial⟩ J hw trivial) fun _ _=>Yk<|Yf<|Qt (_,_,_,_,_) ‹_› K4 K9
     ·refine Yj J (Zr (i:=86) J J zeroValue154 J J hw K2) fun b_9 ho5=>Pb (n:=6) 4 9 ?_ ?_
      ·exact Yj J (Zh (n:=84) (Qy _ _ _ _ _ _ ‹_› ‹_› (by omega) (by omega) hy0) J J J K2 Mo (Zc 81 J J J (Zc 82 J J J Ze)) J hw) fun g_4 hg_4=>Zx (n:=0) [(5,0),(6,0),(7,0),(9,1),(10,1),(11,3)]<|r0' J J (stf (Yo J J) K2)<|r0' J J (stf (Yh J J J) K2)<|r0' J J (stf (Yh J J J) K2)<|r1' J (Zr (i:=87) J J zeroValue154 J J hw K2) fun b_10 ho6=>r1' J (Zm (i:=86) J J J J J (by decide) J Xe J J ⟨Zb J,Zl (i:=84) J Zi,trivial⟩ J hw ho5) fun _ _=>r3' J (Zm (i:=87) J J J J J (by decide) J Xe J J ⟨Zb J,Zl (i:=85) J Zi,trivial⟩ J hw trivial) fun _ _=>Yk<|Yf<|Qt (_,_,_,_,_) ‹_› K4 K9
      ·exact Yj J (Zr (i:=87) J J zeroValue154 J J hw K2) fun b_11 ho7=>Zx (n:=0) [(4,1),(5,0),(6,0),(7,0),(10,1),(11,3)]<|r1' J (Zh (n:=84) (Qy _ _ _ _ _ _ ‹_› ‹_› (by omega) (by omega) hy0) J J J K2 Mo (Zc 81 J J J (Zc 82 J J J Ze)) J hw) fun g_5 hg_5=>r0' J J (stf (Yo J J) K2)<|r0' J J (stf (Yh J J J) K2)<|r0' J J (stf (Yh J J J) K2)<|r1' J (Zm (i:=86) J J J J J (by decide) J Xe J J ⟨Zb J,Zl (i:=84) J Zi,trivial⟩ J hw ho5) fun _ _=>r3' J (Zm (i:=87) J J J J J (by decide) J Xe J J ⟨Zb J,Zl (i:=85) J Zi,trivial⟩ J hw trivial) fun _ _=>Yk<|Yf<|Qt (_,_,_,_,_) ‹_› K4 K9
     ·refine Yj J (Zr (i:=87) J J zeroValue154 J J hw K2) fun b_12 ho8=>Pb (n:=6) 4 8 ?_ ?_
      ·exact Yj J (Zh (n:=84) (Qy _ _ _ _ _ _ ‹_› ‹_› (by omega) (by omega) hy0) J J J K2 Mo (Zc 81 J J J (Zc 82 J J J Ze)) J hw) fun g_6 hg_6=>Zx (n:=0) [(5,0),(6,0),(7,0),(8,1),(10,1),(11,3)]<|r0' J J (stf (Yo J J) K2)<|r0' J J (stf (Yh J J J) K2)<|r0' J J (stf (Yh J J J) K2)<|r1' J (Zr (i:=86) J J zeroValue154 J J hw K2) fun b_13 ho9=>r1' J (Zm (i:=86) J J J J J (by decide) J Xe J J ⟨Zb J,Zl (i:=84) J Zi,trivial⟩ J hw ho9) fun _ _=>r3' J (Zm (i:=87) J J J J J (by decide) J Xe J J ⟨Zb J,Zl (i:=85) J Zi,trivial⟩ J hw trivial) fun _ _=>Yk<|Yf<|Qt (_,_,_,_,_) ‹_› K4 K9
      ·exact Yj J (Zr (i:=86) J J zeroValue154 J J hw K2) fun b_14 ho10=>Zx (n:=0) [(4,1),(5,0),(6,0),(7,0),(10,1),(11,3)]<|r1' J (Zh (n:=84) (Qy _ _ _ _ _ _ ‹_› ‹_› (by omega) (by omega) hy0) J J J K2 Mo (Zc 81 J J J (Zc 82 J J J Ze)) J hw) fun g_7 hg_7=>r0' J J (stf (Yo J J) K2)<|r0' J J (stf (Yh J J J) K2)<|r0' J J (stf (Yh J J J) K2)<|r1' J (Zm (i:=86) J J J J J (by decide) J Xe J J ⟨Zb J,Zl (i:=84) J Zi,trivial⟩ J hw ho10) fun _ _=>r3' J (Zm (i:=87) J J J J J (by decide) J Xe J J ⟨Zb J,Zl (i:=85) J Zi,trivial⟩ J hw trivial) fun _ _=>Yk<|Yf<|Qt (_,_,_,_,_) ‹_› K4 K9
    ·refine Yj J (Zr (i:=86) J J zeroValue154 J J hw K2) fun b_15 ho11=>Pb (n:=7) 3 9 ?_ ?_
     ·refine Yj J (Zh (n:=82) (Ph _ _ (Xq _)) J J J K1 Lq Ze J hw) fun g_8 hg_8=>Pb (n:=6) 4 9 ?_ ?_
      ·exact Yj J (Zh (n:=84) (Qy _ _ _ _ _ _ ‹_› ‹_› (by omega) (by omega) hy0) J J J K2 Mo (Zc 81 J J J (Zc 82 J J J Ze)) J hw) fun g_9 hg_9=>Zx (n:=0) [(5,0),(6,0),(7,0),(9,1),(10,1),(11,3)]<|r0' J J (stf (Yo J J) K2)<|r0' J J (stf (Yh J J J) K2)<|r0' J J (stf (Yh J J J) K2)<|r1' J (Zr (i:=87) J J zeroValue154 J J hw K2) fun b_16 ho12=>r1' J (Zm (i:=86) J J J J J (by decide) J Xe J J ⟨Zb J,Zl (i:=84) J Zi,trivial⟩ J hw ho11) fun _ _=>r3' J (Zm (i:=87) J J J J J (by decide) J Xe J J ⟨Zb J,Zl (i:=85) J Zi,trivial⟩ J hw trivial) fun _ _=>Yk<|Yf<|Qt (_,_,_,_,_) ‹_› K4 K9
      ·exact Yj J (Zr (i:=87) J J zeroValue154 J J hw K2) fun b_17 ho13=>Zx (n:=0) [(4,1),(5,0),(6,0),(7,0),(10,1),(11,3)]<|r1' J (Zh (n:=84) (Qy _ _ _ _ _ _ ‹_› ‹_› (by omega) (by omega) hy0) J J J K2 Mo (Zc 81 J J J (Zc 82 J J J Ze)) J hw) fun g_10 hg_10=>r0' J J (stf (Yo J J) K2)<|r0' J J (stf (Yh J J J) K2)<|r0' J J (stf (Yh J J J) K2)<|r1' J (Zm (i:=86) J J J J J (by decide) J Xe J J ⟨Zb J,Zl (i:=84) J Zi,trivial⟩ J hw ho11) fun _ _=>r3' J (Zm (i:=87) J J J J J (by decide) J Xe J J ⟨Zb J,Zl (i:=85) J Zi,trivial⟩ J hw trivial) fun _ _=>Yk<|Yf<|Qt (_,_,_,_,_) ‹_› K4 K9
     ·exact Yj J (Zr (i:=87) J J zeroValue154 J J hw K2) fun b_18 ho14=>Zx (n:=0) [(3,1),(4,1),(5,0),(6,0),(7,0),(10,1),(11,3)]<|r1' J (Zh (n:=82) (Ph _ _ (Xq _)) J J J K1 Lq Ze J hw) fun g_11 hg_11=>r1' J (Zh (n:=84) (Qy _ _ _ _ _ _ ‹_› ‹_› (by omega) (by omega) hy0) J J J K2 Mo (Zc 81 J J J (Zc 82 J J J Ze)) J hw) fun g_12 hg_12=>r0' J J (stf (Yo J J) K2)<|r0' J J (stf (Yh J J J) K2)<|r0' J J (stf (Yh J J J) K2)<|r1' J (Zm (i:=86) J J J J J (by decide) J Xe J J ⟨Zb J,Zl (i:=84) J Zi,trivial⟩ J hw ho11) fun _ _=>r3' J (Zm (i:=87) J J J J J (by decide) J Xe J J ⟨Zb J,Zl (i:=85) J Zi,trivial⟩ J hw trivial) fun _ _=>Yk<|Yf<|Qt (_,_,_,_,_) ‹_› K4 K9
    ·refine Yj J (Zr (i:=87) J J zeroValue154 J J hw K2) fun b_19 ho15=>Pb (n:=7) 3 8 ?_ ?_
     ·refine Yj J (Zh (n:=82) (Ph _ _ (Xq _)) J J J K1 Lq Ze J hw) fun g_13 hg_13=>Pb (n:=6) 4 8 ?_ ?_
      ·exact Yj J (Zh (n:=84) (Qy _ _ _ _ _ _ ‹_› ‹_› (by omega) (by omega) hy0) J J J K2 Mo (Zc 81 J J J (Zc 82 J J J Ze)) J hw) fun g_14 hg_14=>Zx (n:=0) [(5,0),(6,0),(7,0),(8,1),(10,1),(11,3)]<|r0' J J (stf (Yo J J) K2)<|r0' J J (stf (Yh J J J) K2)<|r0' J J (stf (Yh J J J) K2)<|r1' J (Zr (i:=86) J J zeroValue154 J J hw K2) fun b_20 ho16=>r1' J (Zm (i:=86) J J J J J (by decide) J Xe J J ⟨Zb J,Zl (i:=84) J Zi,trivial⟩ J hw ho16) fun _ _=>r3' J (Zm (i:=87) J J J J J (by decide) J Xe J J ⟨Zb J,Zl (i:=85) J Zi,trivial⟩ J hw trivial) fun _ _=>Yk<|Yf<|Qt (_,_,_,_,_) ‹_› K4 K9
      ·exact Yj J (Zr (i:=86) J J zeroValue154 J J hw K2) fun b_21 ho17=>Zx (n:=0) [(4,1),(5,0),(6,0),(7,0),(10,1),(11,3)]<|r1' J (Zh (n:=84) (Qy _ _ _ _ _ _ ‹_› ‹_› (by omega) (by omega) hy0) J J J K2 Mo (Zc 81 J J J (Zc 82 J J J Ze)) J hw) fun g_15 hg_15=>r0' J J (stf (Yo J J) K2)<|r0' J J (stf (Yh J J J) K2)<|r0' J J (stf (Yh J J J) K2)<|r1' J (Zm (i:=86) J J J J J (by decide) J Xe J J ⟨Zb J,Zl (i:=84) J Zi,trivial⟩ J hw ho17) fun _ _=>r3' J (Zm (i:=87) J J J J J (by decide) J Xe J J ⟨Zb J,Zl (i:=85) J Zi,trivial⟩ J hw trivial) fun _ _=>Yk<|Yf<|Qt (_,_,_,_,_) ‹_› K4 K9
     ·exact Yj J (Zr (i:=86) J J zeroValue154 J J hw K2) fun b_22 ho18=>Zx (n:=0) [(3,1),(4,1),(5,0),(6,0),(7,0),(10,1),(11,3)]<|r1' J (Zh (n:=82) (Ph _ _ (Xq _)) J J J K1 Lq Ze J hw) fun g_16 hg_16=>r1' J (Zh (n:=84) (Qy _ _ _ _ _ _ ‹_› ‹_› (by omega) (by omega) hy0) J J J K2 Mo (Zc 81 J J J (Zc 82 J J J Ze)) J hw) fun g_17 hg_17=>r0' J J (stf (Yo J J) K2)<|r0' J J (stf (Yh J J J) K2)<|r0' J J (stf (Yh J J J) K2)<|r1' J (Zm (i:=86) J J J J J (by decide) J Xe J J ⟨Zb J,Zl (i:=84) J Zi,trivial⟩ J hw ho18) fun _ _=>r3' J (Zm (i:=87) J J J J J (by decide) J Xe J J ⟨Zb J,Zl (i:=85) J Zi,trivial⟩ J hw trivial) fun _ _=>Yk<|Yf<|Qt (_,_,_,_,_) ‹_› K4 K9
   ·refine Yj J (Zr (i:=86) J J zeroValue154 J J hw K2) fun b_23 ho19=>Pb (n:=8) 1 9 ?_ ?_
    ·refine Yj J (Zh (n:=81) (Ph _ _ (Xq _)) J J J K1 Lq Ze J hw) fun g_18 hg_18=>Pb (n:=7) 3 9 ?_ ?_
     ·refine Yj J (Zh (n:=82) (Ph _ _ (Xq _)) J J J K1 Lq Ze J hw) fun g_19 hg_19=>Pb (n:=6) 4 9 ?_ ?_
      ·exact Yj J (Zh (n:=84) (Qy _ _ _ _ _ _ ‹_› ‹_› (by omega) (by omega) hy0) J J J K2 Mo (Zc 81 J J J (Zc 82 J J J Ze)) J hw) fun g_20 hg_20=>Zx (n:=0) [(5,0),(6,0),(7,0),(9,1),(10,1),(11,3)]<|r0' J J (stf (Yo J J) K2)<|r0' J J (stf (Yh J J J) K2)<|r0' J J (stf (Yh J J J) K2)<|r1' J (Zr (i:=87) J J zeroValue154 J J hw K2) fun b_24 ho20=>r1' J (Zm (i:=86) J J J J J (by decide) J Xe J J ⟨Zb J,Zl (i:=84) J Zi,trivial⟩ J hw ho19) fun _ _=>r3' J (Zm (i:=87) J J J J J (by decide) J Xe J J ⟨Zb J,Zl (i:=85) J Zi,trivial⟩ J hw trivial) fun _ _=>Yk<|Yf<|Qt (_,_,_,_,_) ‹_› K4 K9
      ·exact Yj J (Zr (i:=87) J J zeroValue154 J J hw K2) fun b_25 ho21=>Zx (n:=0) [(4,1),(5,0),(6,0),(7,0),(10,1),(11,3)]<|r1' J (Zh (n:=84) (Qy _ _ _ _ _ _ ‹_› ‹_› (by omega) (by omega) hy0) J J J K2 Mo (Zc 81 J J J (Zc 82 J J J Ze)) J hw) fun g_21 hg_21=>r0' J J (stf (Yo J J) K2)<|r0' J J (stf (Yh J J J) K2)<|r0' J J (stf (Yh J J J) K2)<|r1' J (Zm (i:=86) J J J J J (by decide) J Xe J J ⟨Zb J,Zl (i:=84) J Zi,trivial⟩ J hw ho19) fun _ _=>r3' J (Zm (i:=87) J J J J J (by decide) J Xe J J ⟨Zb J,Zl (i:=85) J Zi,trivial⟩ J hw trivial) fun _ _=>Yk<|Yf<|Qt (_,_,_,_,_) ‹_› K4 K9
     ·exact Yj J (Zr (i:=87) J J zeroValue154 J J hw K2) fun b_26 ho22=>Zx (n:=0) [(3,1),(4,1),(5,0),(6,0),(7,0),(10,1),(11,3)]<|r1' J (Zh (n:=82) (Ph _ _ (Xq _)) J J J K1 Lq Ze J hw) fun g_22 hg_22=>r1' J (Zh (n:=84) (Qy _ _ _ _ _ _ ‹_› ‹_› (by omega) (by omega) hy0) J J J K2 Mo (Zc 81 J J J (Zc 82 J J J Ze)) J hw) fun g_23 hg_23=>r0' J J (stf (Yo J J) K2)<|r0' J J (stf (Yh J J J) K2)<|r0' J J (stf (Yh J J J) K2)<|r1' J (Zm (i:=86) J J J J J (by decide) J Xe J J ⟨Zb J,Zl (i:=84) J Zi,trivial⟩ J hw ho19) fun _ _=>r3' J (Zm (i:=87) J J J J J (by decide) J Xe J J ⟨Zb J,Zl (i:=85) J Zi,trivial⟩ J hw trivial) fun _ _=>Yk<|Yf<|Qt (_,_,_,_,_) ‹_› K4 K9
    ·exact Yj J (Zr (i:=87) J J zeroValue154 J J hw K2) fun b_27 ho23=>Zx (n:=0) [(1,1),(3,1),(4,1),(5,0),(6,0),(7,0),(10,1),(11,3)]<|r1' J (Zh (n:=81) (Ph _ _ (Xq _)) J J J K1 Lq Ze J hw) fun g_24 hg_24=>r1' J (Zh (n:=82) (Ph _ _ (Xq _)) J J J K1 Lq Ze J hw) fun g_25 hg_25=>r1' J (Zh (n:=84) (Qy _ _ _ _ _ _ ‹_› ‹_› (by omega) (by omega) hy0) J J J K2 Mo (Zc 81 J J J (Zc 82 J J J Ze)) J hw) fun g_26 hg_26=>r0' J J (stf (Yo J J) K2)<|r0' J J (stf (Yh J J J) K2)<|r0' J J (stf (Yh J J J) K2)<|r1' J (Zm (i:=86) J J J J J (by decide) J Xe J J ⟨Zb J,Zl (i:=84) J Zi,trivial⟩ J hw ho19) fun _ _=>r3' J (Zm (i:=87) J J J J J (by decide) J Xe J J ⟨Zb J,Zl (i:=85) J Zi,trivial⟩ J hw trivial) fun _ _=>Yk<|Yf<|Qt (_,_,_,_,_) ‹_› K4 K9
   ·refine Yj J (Zr (i:=87) J J zeroValue154 J J hw K2) fun b_28 ho24=>Pb (n:=8) 1 8 ?_ ?_
    ·refine Yj J (Zh (n:=81) (Ph _ _ (Xq _)) J J J K1 Lq Ze J hw) fun g_27 hg_27=>Pb (n:=7) 3 8 ?_ ?_
     ·refine Yj J (Zh (n:=82) (Ph _ _ (Xq _)) J J J K1 Lq Ze J hw) fun g_28 hg_28=>Pb (n:=6) 4 8 ?_ ?_
      ·exact Yj J (Zh (n:=84) (Qy _ _ _ _ _ _ ‹_› ‹_› (by omega) (by omega) hy0) J J J K2 Mo (Zc 81 J J J (Zc 82 J J J Ze)) J hw) fun g_29 hg_29=>Zx (n:=0) [(5,0),(6,0),(7,0),(8,1),(10,1),(11,3)]<|r0' J J (stf (Yo J J) K2)<|r0' J J (stf (Yh J J J) K2)<|r0' J J (stf (Yh J J J) K2)<|r1' J (Zr (i:=86) J J zeroValue154 J J hw K2) fun b_29 ho25=>r1' J (Zm (i:=86) J J J J J (by decide) J Xe J J ⟨Zb J,Zl (i:=84) J Zi,trivial⟩ J hw ho25) fun _ _=>r3' J (Zm (i:=87) J J J J J (by decide) J Xe J J ⟨Zb J,Zl (i:=85) J Zi,trivial⟩ J hw trivial) fun _ _=>Yk<|Yf<|Qt (_,_,_,_,_) ‹_› K4 K9
      ·exact Yj J (Zr (i:=86) J J zeroValue154 J J hw K2) fun b_30 ho26=>Zx (n:=0) [(4,1),(5,0),(6,0),(7,0),(10,1),(11,3)]<|r1' J (Zh (n:=84) (Qy _ _ _ _ _ _ ‹_› ‹_› (by omega) (by omega) hy0) J J J K2 Mo (Zc 81 J J J (Zc 82 J J J Ze)) J hw) fun g_30 hg_30=>r0' J J (stf (Yo J J) K2)<|r0' J J (stf (Yh J J J) K2)<|r0' J J (stf (Yh J J J) K2)<|r1' J (Zm (i:=86) J J J J J (by decide) J Xe J J ⟨Zb J,Zl (i:=84) J Zi,trivial⟩ J hw ho26) fun _ _=>r3' J (Zm (i:=87) J J J J J (by decide) J Xe J J ⟨Zb J,Zl (i:=85) J Zi,trivial⟩ J hw trivial) fun _ _=>Yk<|Yf<|Qt (_,_,_,_,_) ‹_› K4 K9
     ·exact Yj J (Zr (i:=86) J J zeroValue154 J J hw K2) fun b_31 ho27=>Zx (n:=0) [(3,1),(4,1),(5,0),(6,0),(7,0),(10,1),(11,3)]<|r1' J (Zh (n:=82) (Ph _ _ (Xq _)) J J J K1 Lq Ze J hw) fun g_31 hg_31=>r1' J (Zh (n:=84) (Qy _ _ _ _ _ _ ‹_› ‹_› (by omega) (by omega) hy0) J J J K2 Mo (Zc 81 J J J (Zc 82 J J J Ze)) J hw) fun g_32 hg_32=>r0' J J (stf (Yo J J) K2)<|r0' J J (stf (Yh J J J) K2)<|r0' J J (stf (Yh J J J) K2)<|r1' J (Zm (i:=86) J J J J J (by decide) J Xe J J ⟨Zb J,Zl (i:=84) J Zi,trivial⟩ J hw ho27) fun _ _=>r3' J (Zm (i:=87) J J J J J (by decide) J Xe J J ⟨Zb J,Zl (i:=85) J Zi,trivial⟩ J hw trivial) fun _ _=>Yk<|Yf<|Qt (_,_,_,_,_) ‹_› K4 K9
    ·exact Yj J (Zr (i:=86) J J zeroValue154 J J hw K2) fun b_32 ho28=>Zx (n:=0) [(1,1),(3,1),(4,1),(5,0),(6,0),(7,0),(10,1),(11,3)]<|r1' J (Zh (n:=81) (Ph _ _ (Xq _)) J J J K1 Lq Ze J hw) fun g_33 hg_33=>r1' J (Zh (n:=82) (Ph _ _ (Xq _)) J J J K1 Lq Ze J hw) fun g_34 hg_34=>r1' J (Zh (n:=84) (Qy _ _ _ _ _ _ ‹_› ‹_› (by omega) (by omega) hy0) J J J K2 Mo (Zc 81 J J J (Zc 82 J J J Ze)) J hw) fun g_35 hg_35=>r0' J J (stf (Yo J J) K2)<|r0' J J (stf (Yh J J J) K2)<|r0' J J (stf (Yh J J J) K2)<|r1' J (Zm (i:=86) J J J J J (by decide) J Xe J J ⟨Zb J,Zl (i:=84) J Zi,trivial⟩ J hw ho28) fun _ _=>r3' J (Zm (i:=87) J J J J J (by decide) J Xe J J ⟨Zb J,Zl (i:=85) J Zi,trivial⟩ J hw trivial) fun _ _=>Yk<|Yf<|Qt (_,_,_,_,_) ‹_› K4 K9
  ·rintro⟨qb,qv,rv,b7,b8⟩ hq
   dsimp only at hq
   simp only [CA,NA]
   refine Zd<|Zg<|dt (Zy (i:=86) J J J Kb Xe J J)<|tt (Zh (n:=4) (Ks _ _ _ ‹_›) J J J K1 call128 (Zc 84 J J J Ze) J hw) fun _ _=>mv J<|dt (Yh J J J)<|dt (Yh J J J)<|tt (Zm (i:=3) J J J J J (by decide) J Yq J J ⟨Zb J,Zb J,trivial⟩ J hw trivial) fun _ _=>Zf<|Za<|Zd<|Zg<|dt (Zy (i:=87) J J J Kb Xe J J)<|tt (Zh (n:=4) (Ks _ _ _ (sg_emod x hy0)) J J J K1 call128 (Zc 85 J J J Ze) J hw) fun _ _=>mv J<|dt (Yh J J J)<|dt (Yh J J J)<|tt (Zm (i:=4) J J J J J (by decide) J Yq J J ⟨Zb J,Zb J,trivial⟩ J hw trivial) fun _ _=>Zf<|Za<|Zd<|Oi [4] [3,4]<|Zx (n:=0) [(1,0),(0,1),(2,1),(3,3),(4,3)]<|r0' J J (stf (Zy (i:=4) J J J Qq Yq J J) K1)<|r1' J (Py (Zy (i:=3) J J J Qq Yq J J) J) fun _ _=>r1' J (Zar 3 J J K1 (fun ob=>(Zm (i:=3) J J J J J (by decide) J Yq J J ⟨Zb J,Zb J,trivial⟩ J hw ob))) fun _ _=>r3' J (Zm (i:=4) J J J J J (by decide) J Yq J J ⟨Zb J,Zb J,trivial⟩ J hw trivial) fun _ _=>r3' J (Py (Mf J J) J) fun _ _=>Yk<|Yf<|Za<|Zu ?_
   exact Ym (.inl J) hsc () _ (fun a w hs=>res3 hs results158 (Yn (i:=3) J J Qq Yq J) (Yn (i:=4) J J Qq Yq J) J) J trivial J Zk
theorem Aj(s t:Bool)(v w:Value)(x y:Int)(hs:sg s x)(ht:sg t y)(hy0:y≠0)(hx:bl x.natAbs≤1000000000:=by omega)(hy:bl y.natAbs≤1000000000:=by omega):Mc prog 163 #[.agg #[.bool s,v],.agg #[.bool t,w]] [dgp v x.natAbs,dgp w y.natAbs] (Zc6 x y):=by
 refine Yc func163 J ntmps163 J K2 ?_
 intro w0 sc hw hsc
 simp only [Zq,Zp]
 have hb:=Zla x.natAbs y.natAbs
 have hg0:Mz x y≠0:=Ztj hy0
 have hgs:sg t (Mz x y):=sg_lgcd ht hy0
 have hga:=Bo x y
 have hq1:=Zja x (Mz x y)
 have hq2:=Zja y (Mz x y)
 refine Zd<|Zg<|tt (Yu (i:=3) J J J J J hw) fun b _=>tt (Yu (i:=4) J J J J J hw) fun b_2 _=>tt (Zn (i:=5) J J zeroValue41 J J hw) fun b_3 _=>as_ J<|Zf<|Za<|Zd<|Hy (fun _=>False) [9]<|Zx (n:=4) [(0,0),(1,0),(2,0),(3,0),(4,0),(5,0)]<|r0' J J (st0 (Xs J J Ld J zT4 J J))<|r0' J J (st0 (Oj (i:=4) J J J iA4 J))<|r0' J J (st0 (Xs J J Ld J Fn J J))<|r0' J J (st0 (Oj (i:=3) J J J Ft J))<|r0' J J (st0 (Xs J J Ld J Fn J J))<|r0' J J (st0 (Oj (i:=4) J J J Ft J))<|Yk<|Pb (n:=3) 6 8 ?_ ?_
 ·refine Yj J (Zh (n:=81) (Zmc _ _ _ _) J J J K2 call185 (Zc 1 J J J (Zc 2 J J J Ze)) J hw) fun v _=>Zx (n:=0) [(7,0),(8,1),(9,3)]<|r0' J J (st0 (Pv (ivs:=[(0,_),(1,_)]) J K4 (fun a w hs=>Nc ((Zb J) a w hs) ((Zl (i:=81) J Zi) a w hs))))<|r1' J (Zn (i:=82) J J zeroValue154 J J hw) fun b_4 _=>r3' J (Zm (i:=82) J J J J J (by decide) J Xe J J ⟨Zb J,Zl (i:=81) J Zi,trivial⟩ J hw trivial) fun _ _=>Yk<|Yf<|Za<|Zd<|Yr (Gv 81 (Zti _ x y) J J)<|Zg<|dt (Zy (i:=3) J J J Kb Xe J J)<|dt (Zy (i:=82) J J J Kb Xe J J)<|tt (Zh (n:=6) (Qy _ _ _ _ x (Mz x y) hs hgs (by omega) (by rw [hga];omega) hg0) J J J K2 Mo (Zc 1 J J J (Zc 81 J J J Ze)) J hw) fun g hg=>mv J<|dt (Yh J J J)<|dt (Yh J J J)<|tt (Zm (i:=3) J J J J J (by decide) J Xe J J ⟨Zb J,Zl (i:=6) J Zi,trivial⟩ J hw trivial) fun _ _=>Zf<|Za<|Zd<|Zg<|dt (Zy (i:=4) J J J Kb Xe J J)<|dt (Zy (i:=82) J J J Kb Xe J J)<|tt (Zh (n:=8) (Qy _ _ _ _ y (Mz x y) ht hgs (by omega) (by rw [hga];omega) hg0) J J J K2 Mo (Zc 2 J J J (Zc 81 J J J Ze)) J hw) fun g_2 hg_2=>mv J ?_
  refine dt (Yh J J J)<|dt (Yh J J J)<|tt (Zm (i:=4) J J J J J (by decide) J Xe J J ⟨Zb J,Zl (i:=8) J Zi,trivial⟩ J hw trivial) fun _ _=>Zf<|Za<|Zd<|Zg<|dt (Zy (i:=3) J J J Kb Xe J J)<|tt (Zh (n:=9) (Ks _ _ _ ‹_›) J J J K1 call128 (Zc 6 J J J Ze) J hw) fun _ _=>mv J<|dt (Yh J J J)<|dt (Yh J J J)<|tt (Zn (i:=10) J J zeroValue31 J J hw) fun b_5 _=>tt (Zm (i:=10) J J J J J (by decide) J Yq J J ⟨Zb J,Zb J,trivial⟩ J hw trivial) fun _ _=>as_ J<|Zf<|Za<|Zd<|Zg<|dt (Zy (i:=4) J J J Kb Xe J J)<|tt (Zh (n:=10) (Ks _ _ _ ‹_›) J J J K1 call128 (Zc 8 J J J Ze) J hw) fun _ _=>mv J<|dt (Yh J J J)<|dt (Yh J J J)<|tt (Zn (i:=11) J J zeroValue31 J J hw) fun b_6 _=>tt (Zm (i:=11) J J J J J (by decide) J Yq J J ⟨Zb J,Zb J,trivial⟩ J hw trivial) fun _ _=>as_ J<|Zf<|Za<|Zd<|Zd<|Zg<|mv J<|dt (Qc J J J)<|mv J<|Qm (d:=43) J (fun s460=>?_) (fun s460=>?_)
  ·exact gsk J J J<|gsk J J J<|dt (Ys J J J)<|Zf<|Za<|Pf J<|Zd<|Zg<|dt (Pv (ivs:=[]) J trivial (fun a w hs=>b41_))<|tt (Zm (i:=5) J J J J J (by decide) J Xk J J ⟨Zb J,Zb J,Zb J,Zb J,trivial⟩ J hw trivial) fun _ _=>as_ J<|Zf<|Za<|Zu<|Xa<|Ym (.inl J) hsc () _ (fun a w hs=>Nl hs results163 (Yn (i:=5) J J Qp Xk J) J) (Bi (by unfold Ha;first | exact .inl (Ct ‹_›) | exact .inr (Ct ‹_›))) trivial J Zk
  ·refine gdt (Yo J J) J J<|gdt (Qc J J J) J J<|dt (Zz J J J)<|Zf<|Za<|Zs J (fun h460=>?_) (fun h460=>?_)
   ·exact Zd<|Zg<|dt (Pv (ivs:=[]) J trivial (fun a w hs=>b41_))<|tt (Zm (i:=5) J J J J J (by decide) J Xk J J ⟨Zb J,Zb J,Zb J,Zb J,trivial⟩ J hw trivial) fun _ _=>as_ J<|Zf<|Za<|Zu<|Xa<|Ym (.inl J) hsc () _ (fun a w hs=>Nl hs results163 (Yn (i:=5) J J Qp Xk J) J) (Bi (by unfold Ha;first | exact .inl (Ct ‹_›) | exact .inr (Ct ‹_›))) trivial J Zk
   ·exact Zj<|Za<|Zd<|Zg<|dt (Zy (i:=10) J J J Qq Yq J J)<|dt (Zy (i:=11) J J J Qq Yq J J)<|dt (Pv (ivs:=[(0,_),(1,_)]) J K4 (fun a w hs=>Zdd))<|tt (Zm (i:=5) J J J J J (by decide) J Xk J J ⟨Zb J,Zb J,Zb J,Zb J,trivial⟩ J hw trivial) fun _ _=>as_ J<|Zf<|Za<|Zu<|Ym (.inl J) hsc () _ (fun a w hs=>Nl hs results163 (Yn (i:=5) J J Qp Xk J) J) (Zn5 (Decidable.byContradiction ‹_›) (Decidable.byContradiction ‹_›)) trivial J Zk
 ·refine Yj J (Zn (i:=82) J J zeroValue154 J J hw) fun b_7 _=>Zx (n:=0) [(6,1),(7,0),(9,3)]<|r1' J (Zh (n:=81) (Zmc _ _ _ _) J J J K2 call185 (Zc 1 J J J (Zc 2 J J J Ze)) J hw) fun v_2 _=>r0' J J (st0 (Pv (ivs:=[(0,_),(1,_)]) J K4 (fun a w hs=>Nc ((Zb J) a w hs) ((Zl (i:=81) J Zi) a w hs))))<|r3' J (Zm (i:=82) J J J J J (by decide) J Xe J J ⟨Zb J,Zl (i:=81) J Zi,trivial⟩ J hw trivial) fun _ _=>Yk<|Yf<|Za<|Zd<|Yr (Gv 81 (Zti _ x y) J J)<|Zg<|dt (Zy (i:=3) J J J Kb Xe J J)<|dt (Zy (i:=82) J J J Kb Xe J J)<|tt (Zh (n:=12) (Qy _ _ _ _ x (Mz x y) hs hgs (by omega) (by rw [hga];omega) hg0) J J J K2 Mo (Zc 1 J J J (Zc 81 J J J Ze)) J hw) fun g_3 hg_3=>mv J<|dt (Yh J J J)<|dt (Yh J J J)<|tt (Zm (i:=3) J J J J J (by decide) J Xe J J ⟨Zb J,Zl (i:=12) J Zi,trivial⟩ J hw trivial) fun _ _=>Zf<|Za<|Zd<|Zg<|dt (Zy (i:=4) J J J Kb Xe J J)<|dt (Zy (i:=82) J J J Kb Xe J J)<|tt (Zh (n:=14) (Qy _ _ _ _ y (Mz x y) ht hgs (by omega) (by rw [hga];omega) hg0) J J J K2 Mo (Zc 2 J J J (Zc 81 J J J Ze)) J hw) fun g_4 hg_4=>mv J ?_
  refine dt (Yh J J J)<|dt (Yh J J J)<|tt (Zm (i:=4) J J J J J (by decide) J Xe J J ⟨Zb J,Zl (i:=14) J Zi,trivial⟩ J hw trivial) fun _ _=>Zf<|Za<|Zd<|Zg<|dt (Zy (i:=3) J J J Kb Xe J J)<|tt (Zh (n:=15) (Ks _ _ _ ‹_›) J J J K1 call128 (Zc 12 J J J Ze) J hw) fun _ _=>mv J<|dt (Yh J J J)<|dt (Yh J J J)<|tt (Zn (i:=16) J J zeroValue31 J J hw) fun b_8 _=>tt (Zm (i:=16) J J J J J (by decide) J Yq J J ⟨Zb J,Zb J,trivial⟩ J hw trivial) fun _ _=>as_ J<|Zf<|Za<|Zd<|Zg<|dt (Zy (i:=4) J J J Kb Xe J J)<|tt (Zh (n:=16) (Ks _ _ _ ‹_›) J J J K1 call128 (Zc 14 J J J Ze) J hw) fun _ _=>mv J<|dt (Yh J J J)<|dt (Yh J J J)<|tt (Zn (i:=17) J J zeroValue31 J J hw) fun b_9 _=>tt (Zm (i:=17) J J J J J (by decide) J Yq J J ⟨Zb J,Zb J,trivial⟩ J hw trivial) fun _ _=>as_ J<|Zf<|Za<|Zd<|Zd<|Zg<|mv J<|dt (Qc J J J)<|mv J<|Qm (d:=43) J (fun s460_2=>?_) (fun s460_2=>?_)
  ·exact gsk J J J<|gsk J J J<|dt (Ys J J J)<|Zf<|Za<|Pf J<|Zd<|Zg<|dt (Pv (ivs:=[]) J trivial (fun a w hs=>b41_))<|tt (Zm (i:=5) J J J J J (by decide) J Xk J J ⟨Zb J,Zb J,Zb J,Zb J,trivial⟩ J hw trivial) fun _ _=>as_ J<|Zf<|Za<|Zu<|Xa<|Ym (.inl J) hsc () _ (fun a w hs=>Nl hs results163 (Yn (i:=5) J J Qp Xk J) J) (Bi (by unfold Ha;first | exact .inl (Ct ‹_›) | exact .inr (Ct ‹_›))) trivial J Zk
  ·refine gdt (Yo J J) J J<|gdt (Qc J J J) J J<|dt (Zz J J J)<|Zf<|Za<|Zs J (fun h460_2=>?_) (fun h460_2=>?_)
   ·exact Zd<|Zg<|dt (Pv (ivs:=[]) J trivial (fun a w hs=>b41_))<|tt (Zm (i:=5) J J J J J (by decide) J Xk J J ⟨Zb J,Zb J,Zb J,Zb J,trivial⟩ J hw trivial) fun _ _=>as_ J<|Zf<|Za<|Zu<|Xa<|Ym (.inl J) hsc () _ (fun a w hs=>Nl hs results163 (Yn (i:=5) J J Qp Xk J) J) (Bi (by unfold Ha;first | exact .inl (Ct ‹_›) | exact .inr (Ct ‹_›))) trivial J Zk
   ·exact Zj<|Za<|Zd<|Zg<|dt (Zy (i:=16) J J J Qq Yq J J)<|dt (Zy (i:=17) J J J Qq Yq J J)<|dt (Pv (ivs:=[(0,_),(1,_)]) J K4 (fun a w hs=>Zdd))<|tt (Zm (i:=5) J J J J J (by decide) J Xk J J ⟨Zb J,Zb J,Zb J,Zb J,trivial⟩ J hw trivial) fun _ _=>as_ J<|Zf<|Za<|Zu<|Ym (.inl J) hsc () _ (fun a w hs=>Nl hs results163 (Yn (i:=5) J J Qp Xk J) J) (Zn5 (Decidable.byContradiction ‹_›) (Decidable.byContradiction ‹_›)) trivial J Zk
theorem Zgb(x y:Int)(hx:bl x.natAbs≤65536)(hy:bl y.natAbs≤65536)(hy0:y≠0:=by omega):Mc prog 119 #[wv x,wv y] [] (Zc6 x y):=by
 refine Yc func119 J ntmps119 J trivial ?_
 intro w0 sc hw hsc
 simp only [Zq,Zp]
 refine Zd<|Zg<|tt (Yu (i:=1) J J J J J hw) fun b _=>tt (Yu (i:=2) J J J J J hw) fun b_2 _=>tt (Zn (i:=3) J J zeroValue41 J J hw) fun b_3 _=>as_ J<|Zf<|Za<|Zd<|Zd<|Zg<|dt (Zy (i:=1) J J J Qq Yq J J)<|dt (Zy (i:=2) J J J Qq Yq J J)<|tt (Zh (n:=3) (Kc _ _ ‹_› ‹_›) J J J K2 call129 Ze J hw) fun _ _=>dt (Xg J J)<|Zf<|Za<|Ye J<|Zj<|Za<|Zd<|Zd<|Zg<|dt (Xs J J Zam J zT9 J J)<|dt (Oj (i:=2) J J J iA9 J)<|dt (Zk1 J J J J)<|Zf<|Za<|Zs J (fun h471=>?_) (fun h471=>?_)
 ·rw [Lc]at h471
  exfalso;exact hy0 (by have:=(Pp (by omega:2≤256) y.natAbs).1 h471;omega)
 ·refine Zj<|Za<|Zd<|Qi (fun _=>False) [(0,0),(2,0),(1,1),(3,1),(4,1),(5,0),(6,0),(7,3),(8,3)] ?_ ?_
  ·kernel_rfl
  exact r0' J J (st0 (Zy (i:=1) J J J Qq Yq J J))<|r0' J J (st0 (Zy (i:=2) J J J Qq Yq J J))<|r1' J (Zh (n:=4) (Ph _ _ (Xq _)) J J J K1 Lq Ze J hw) fun g hg=>r1' J (Zh (n:=5) (Ph _ _ (Xq _)) J J J K1 Lq Ze J hw) fun g_2 hg_2=>r1' J (Zh (n:=5) (Aj _ _ _ _ _ _ ‹_› ‹_› hy0) J J J K2 call163 (Zc 4 J J J (Zc 5 J J J Ze)) J hw) fun _ _=>r0' J J (st0 (Yh J J J))<|r0' J J (st0 (Yh J J J))<|r3' J (Zm (i:=3) J J J J J (by decide) J Xk J J ⟨Zb J,Zb J,Zb J,Zb J,trivial⟩ J hw trivial) fun _ _=>r3' J (Py (Mf J J) J) fun _ _=>Of<|Za<|Zu<|Ym (.inl J) hsc () _ (fun a w hs=>Nl hs results119 (Yn (i:=3) J J Qp Xk J) J) J trivial J Zk
theorem Gl(b:Bool)(s:ByteArray)(c:Bool)(t:ByteArray):Mc prog 117 #[.agg #[.bool b,.string s,.bool c,.string t]] [] (.bool (okR b s c t)):=by
 refine Yc func117 J ntmps117 J trivial ?_
 intro w0 sc hw hsc
 simp only [Zq,Zp]
 refine Zd<|Zg<|tt (Yu (i:=1) J J J J J hw) fun b _=>as_ J<|Zf<|Za<|Zd<|Zg<|dt (Xs J J Cd J Yq J J)<|dt (Zy (i:=1) J J J Qq Yq J J)<|dt (Xs J J Cd J Yq J J)<|dt (Zy (i:=1) J J J Qq Yq J J)<|tt (Zh (n:=1) (Zje _ _ _ _) J J J K2 call129 Ze J hw) fun _ _=>mv J<|Ll (d:=8) J (fun s451=>?_) (fun s451=>?_)
 ·have hcc:okW c t=true:=by simp_all
  have hok:=Zoh hcc
  obtain⟨hk1,hk2,hk3⟩:=Classical.choose_spec hok
  generalize Classical.choose hok=z at hk1 hk2 hk3 ⊢
  subst hk2;subst hk3
  try clear hok
  exact gdt (Xs J J Cd J Yq J J) J J<|gdt (Zy (i:=1) J J J Qq Yq J J) J J<|gtt (Zh (n:=1) (Ms z hk1) J J J K1 call104 Ze J hw) J J J fun _ _=>gdt (Pm J J J) J J<|dt (Ys J J J)<|as_ J<|Zf<|Za<|Zu<|xU hsc results117 J J (by first | rw [Zoi (by simp_all) hk1] | (unfold okR;simp_all))
 ·exact gsk J J J<|gsk J J J<|gsk J J J<|gsk J J J<|dt (Zz J J J)<|as_ J<|Zf<|Za<|Zu<|xU hsc results117 J J (by first | rw [Zoi (by simp_all) hk1] | (unfold okR;simp_all))
theorem Qv(x y:Int)(hy0:0<y)(hx:bl x.natAbs≤65536:=by omega)(hy:bl y.natAbs≤65536:=by omega):Cal prog 117 #[rX x y] [] false (G:=Unit) (fun _=>True) (fun _=> .bool true) (fun _=>[]):=Zsu hx hy hy0▸Gl _ _ _ _
theorem Xf(x:Int)(hx:inI x):Mc prog 81 #[.int .i64 x] [] (wv x):=by
 refine Yc func81 J ntmps81 J trivial ?_
 intro w0 sc hw hsc
 simp only [Zq,Zp]
 have hxa:=hx.1
 have hxb:=hx.2
 have hxU:x.natAbs<U:=by simp only [U];omega
 have hxl:bl x.natAbs≤64:=(Mp 64 _).2 (by rw [←U_eq];exact hxU)
 refine Zd<|Zg<|tt (Zn (i:=1) J J zeroValue31 J J hw) fun b _=>Zf<|Za<|Zd<|Zg<|mv J<|dt (cv_u64i (r:=x%18446744073709551616) J J uT3 Zeg J)<|as_ J<|Zf<|Za<|Ez [(0,_),(2,_)] [(0,_),(1,_)] (fun(_:Unit)=>[(3,.int .u64 ((x.natAbs:Nat):Int))]) (fun(_:Unit)=>[]) (fun(_:Unit)=>True) K2 K2 ?_ ?_
 ·refine Zd<|Zg<|mv J<|dt (Xr J J J)<|Zf<|Za<|Zs J (fun h276=>?_) (fun h276=>?_)
  ·exact Zg<|mv J<|dt (u_negm (r:=x.natAbs) J J (by omega))<|as_ J<|Zf<|Qt () trivial ⟨by first | rfl | (rw [show x%18446744073709551616=((x.natAbs:Nat):Int) by omega];rfl),rfl,rfl,trivial⟩ K2
  ·exact Zj<|Qt () trivial ⟨by first | rfl | (rw [show x%18446744073709551616=((x.natAbs:Nat):Int) by omega];rfl),rfl,rfl,trivial⟩ K2
 ·rintro _ -
  simp only [CA,NA]
  exact Zd<|Zg<|mv J<|dt (Xr J J J)<|mv J<|tt (Po (i:=2) (ivs:=[(0,_)]) (enc:=Hg) [x.natAbs] J J K2 Qa ti149 J J J J J pU.cells J J hw) fun v _=>tt (Zh (n:=2) (Ol _ _) J J J K1 call127 (Xu 2 J J pU Ze) J hw) fun _ _=>Oc (Zgi 2 J J pU)<|Oc (Zfz 2 (Zei hxU) J J)<|dt (Pv (ivs:=[(0,_),(1,_)]) J K4 (fun a w hs=>Nc ((Zb J) a w hs) ((Zl (i:=2) J (Yt pU)) a w hs)))<|tt (Zh (n:=2) (Ks _ _ x (Xq _)) J J J K1 call128 (Xu 2 J J pU Ze) J hw) fun _ _=>mv J<|dt (Yh J J J)<|dt (Yh J J J)<|tt (Zn (i:=3) J J zeroValue31 J J hw) fun b_2 _=>tt (Zm (i:=3) J J J J J (by decide) J Yq J J ⟨Zb J,Zb J,trivial⟩ J hw trivial) fun _ _=>as_ J<|Zf<|Za<|Zd<|Zg<|dt (Zy (i:=3) J J J Qq Yq J J)<|tt (Zm (i:=1) J J J J J (by decide) J Yq J J ⟨Zb J,Zb J,trivial⟩ J hw trivial) fun _ _=>Zf<|Za<|Zu<|Ym (.inl J) hsc () _ (fun a w hs=>Ni hs results81 (Yn (i:=1) J J Qq Yq J)) (by rw [Nb (by omega)]<;>rfl) trivial J Zk
theorem Za4(v:Value)(xs:List Int)(hs:Sz 65536 xs):Cal prog 152 #[v] [slp 2 wv v xs] true (G:=Unit) (fun _=>True) (fun _=>Ea v (tzl xs).length) (fun _=>[slp 2 wv (Ea v (tzl xs).length) (tzl xs)]):=by
 refine Yc func152 J ntmps152 J K1 ?_
 intro w0 sc hw hsc
 simp only [Zq,Zp]
 refine Md (Zt2 (i:=1) J Zi) fun hself=>Md (Ge (i:=1) J Zi) fun hlen=>Zd<|Zg<|as_ J<|Zf<|Za<|Zd<|Zo<|Nt [] [(0,_)] (fun(k:Nat)=>[(0,Ea v k)]) (fun(k:Nat)=>[(1,slp 2 wv (Ea v k) (xs.take k))]) (fun(k:Nat)=>(k≤xs.length)∧(tzl (xs.take k)=tzl xs)) (fun(k:Nat)=>k) xs.length ⟨Nat.le_refl _,by rw [List.take_length]⟩ ⟨by rw [hself];rfl,trivial⟩ ⟨by rw [hself,List.take_length];rfl,rfl,trivial⟩ ?_
 rintro k ⟨hk,ht⟩
 simp only [CA,NA]
 have hl:(xs.take k).length=k:=by rw [List.length_take];omega
 refine Zd<|Zd<|Zg<|mv J<|dt (Yd J J (i:=1) J Zi Qx)<|dt (Pm J J J)<|mv J<|Qm (d:=6) J (fun s35=>?_) (fun s35=>?_)
 ·refine gdt (Yo J J) J J<|gdt (Yo J J) J J<|gdt (Yd J J (i:=1) J Zi Qx) J J<|gdt (Qd J J J ⟨by omega,by omega⟩) J J<|gdt (Xb (ii:=1) (i:=k-1) J J J J Zi Qx Yq) J J<|gdt (Xv (ii:=1) 0 J J J Zi pV) J J<|gtt (Zh (n:=1) (Ms _ ((hs.take _).getD _)) J J J K1 call104 Ze J hw) J J J fun _ _=>gdt (Pg J J J) J J<|dt (Ys J J J)<|Zf<|Za<|Zs J (fun h35=>?_) (fun h35=>?_)
  ·have hstep:=Znj hk (by omega) (Zgd (k:=k) (by omega) (Int.sign_eq_zero_iff_zero.1 ‹_›):cf xs (k-1)=0)
   exact Zj<|Za<|Zo<|Zg<|mv J<|mv J<|dt (Yd J J (i:=1) J Zi Qx)<|dt (Qd J J J ⟨by omega,by omega⟩)<|dt (Zym (ii:=1) (i:=k-1) J J J J Zi Qx Yq)<|as_ J<|Zf<|Oe<|Qu (s_pre 1 1 (k-1) J J)<|Xn (k-1) ⟨by first | omega | (dsimp only<;>omega),by rw [←ht,←hstep]⟩ (by first | omega | (dsimp only<;>omega)) ⟨by rw [←Ho v k (k-1)];rfl,trivial⟩ ⟨by rw [Ho,List.take_take,Nat.min_eq_left (by omega)];rfl,rfl,trivial⟩
  ·refine Yv<|Zv<|Zv<|Ox<|Za<|Zd<|Zg<|mv J<|as_ J<|Zf<|Za<|Zu ?_
   have hx:tzl xs=xs.take k:=by rw [←ht];exact Zdn hk (by first | (left;omega) | (right;exact Zdo (k:=k) (by omega) ‹_›))
   exact Ym (.inl J) hsc () _ (fun a w hs=>Ni hs results152 J) (by rw [hx,hl]) trivial J (Yi 1 J J J (by rw [hx,hl]) Zk)
 ·refine gsk J J J<|gsk J J J<|gsk J J J<|gsk J J J<|gsk J J J<|gsk J J J<|gsk J J J<|gsk J J J<|dt (Zz J J J)<|Zf<|Za<|Ye J<|Yv<|Zv<|Zv<|Ox<|Za<|Zd<|Zg<|mv J<|as_ J<|Zf<|Za<|Zu ?_
  have hx:tzl xs=xs.take k:=by rw [←ht];exact Zdn hk (by first | (left;omega) | (right;exact Zdo (k:=k) (by omega) ‹_›))
  exact Ym (.inl J) hsc () _ (fun a w hs=>Ni hs results152 J) (by rw [hx,hl]) trivial J (Yi 1 J J J (by rw [hx,hl]) Zk)
theorem Zgr(v:Value)(r:List (Bool×ByteArray)):Mc prog 49 #[v] [slp 2 Zfg v r] (.bool (okP r)):=by
 refine Yc func49 J ntmps49 J K1 ?_
 intro w0 sc hw hsc
 simp only [Zq,Zp]
 refine Md (Ge (i:=1) J Zi) fun hlen=>Zd<|Zg<|as_ J<|Zf<|Za<|Zd<|Zd<|Zg<|mv J<|dt (Yd J J (i:=1) J Zi Qx)<|mv J<|Zf<|Za<|Zo<|Nt [(0,_),(5,_),(6,_)] [(0,_),(1,_)] (fun(k:Nat)=>[(7,.int .i64 (k:Int))]) (fun(k:Nat)=>[]) (fun(k:Nat)=>(k≤r.length)∧((r.take k).all (fun w=>okW w.1 w.2)=true)) (fun(k:Nat)=>r.length-k) 0 ⟨by first | omega | (dsimp only<;>omega),by simp⟩ K4 K2 ?_
 rintro k ⟨hk,ha⟩
 simp only [CA,NA]
 refine Zd<|Zg<|dt (Xr J J J)<|Zf<|Za<|Zd<|Zs J (fun h51=>?_) (fun h51=>?_)
 ·refine Zj<|Za<|Zd<|Zo<|Zd<|Zg<|dt (Xb (ii:=1) J J J J Zi Qx Yq J (by first | omega | (simp only [List.length_set];omega)))<|dt (Xv (ii:=1) (false,⟨#[]⟩) J J J Zi pW (by first | omega | (simp only [List.length_set];omega)))<|tt (Zn (i:=2) J J zeroValue31 J J hw) fun b _=>tt (Zm (i:=2) J J J J J (by decide) J Yq J J ⟨Zb J,Zb J,trivial⟩ J hw trivial) fun _ _=>Zf<|Za<|Zd<|Zg<|dt (Zy (i:=2) J J J Qq Yq J J)<|tt (Zh (n:=2) (Ec _ _) J J J K1 Zga Ze J hw) fun _ _=>dt (Xg J J)<|Zf<|Za<|Mm J (fun h52=>?_) (fun h52=>?_)
  ·exact Zd<|Zg<|as_ J<|Zf<|Za<|Zu<|Ix<|Xa<|Xa<|Ix<|Xa<|xU hsc results49 J J (by rw [Zsw (Yz (i:=k) (d:=(false,⟨#[]⟩))) (by simp_all)])
  ·exact Zj<|Oe<|Za<|Zg<|dt (Yx J J J ⟨by omega,by omega⟩)<|mv J<|Zf<|Xn (k+1) ⟨by first | omega | (dsimp only<;>omega),by rw [Oo (false,⟨#[]⟩) _ _ (by omega),List.all_append,ha];simpa using h52⟩ (by first | omega | (dsimp only<;>omega)) K4 K2
 ·refine Yv<|Zv<|Zv<|Ox<|Za<|Zd ?_
  obtain rfl:k=r.length:=by omega
  rw [List.take_length]at ha
  obtain⟨xs,hxs,rfl⟩:=Zog (List.all_eq_true.1 ha)
  have hsz:=Sz.of_mem hxs
  rw [List.length_map]at hlen
  refine Yr (Znw 1 (q:=slp 2 wv v xs) J J (Zrm v xs) (fun _ h=>h) J)<|Zg<|mv J<|dt (Yd J J (i:=1) J Zi Qx)<|dt (Cf J J J)<|mv J<|Qm (d:=18) J (fun s56=>?_) (fun s56=>?_)
  ·refine gdt (Yo J J) J J<|gdt (Yd J J (i:=1) J Zi Qx) J J<|gdt (Pg J J J) J J<|gdt (Yo J J) J J<|Qm (d:=22) J (fun s56_2=>?_) (fun s56_2=>?_)
   ·exact gsk J J J<|gsk J J J<|gsk J J J<|gsk J J J<|gsk J J J<|gsk J J J<|gsk J J J<|gsk J J J<|gdt (Ys J J J) J J<|dt (Ys J J J)<|as_ J<|Zf<|Za<|Zu<|xU hsc results49 J J (by rw [Zl9 hxs];first | (simp_all;done) | (simp_all;omega))
   ·exact gdt (Yo J J) J J<|gdt (Yo J J) J J<|gdt (Yd J J (i:=1) J Zi Qx) J J<|gdt (Qd J J J ⟨by omega,by omega⟩) J J<|gdt (Xb (ii:=1) (i:=xs.length-1) J J J J Zi Qx Yq) J J<|gdt (Xv (ii:=1) 0 J J J Zi pV) J J<|gtt (Zh (n:=2) (Ms _ (hsz.getD _)) J J J K1 call104 Ze J hw) J J J fun _ _=>gdt (Qc J J J) J J<|gdt (Zz J J J) J J<|dt (Ys J J J)<|as_ J<|Zf<|Za<|Zu<|xU hsc results49 J J (by rw [Zl9 hxs];first | (simp_all;done) | (simp_all;omega))
  ·exact gsk J J J<|gsk J J J<|gsk J J J<|gsk J J J<|Zf4 J J<|Zf4 J J<|Zf4 J J<|Zf4 J J<|Zf4 J J<|Zf4 J J<|Zf4 J J<|Zf4 J J<|gsk J J J<|dt (Zz J J J)<|as_ J<|Zf<|Za<|Zu<|xU hsc results49 J J (by rw [Zl9 hxs];first | (simp_all;done) | (simp_all;omega))
theorem Xy(v:Value)(xs:List Int)(h:Vp xs):Cal prog 49 #[v] [slp 2 wv v xs] false (G:=Unit) (fun _=>True) (fun _=> .bool true) (fun _=>[]):=okP_wr h▸(Zgr v (xs.map wr)).imp (Zrn v xs) (fun _ h=>h)
theorem Ma(v:Value)(xs:List Int)(hs:Sz 65536 xs):Mc prog 149 #[v] [slp 2 wv v xs] (.int .i64 (msz xs:Int)):=by
 refine Yc func149 J ntmps149 J K1 ?_
 intro w0 sc hw hsc
 simp only [Zq,Zp]
 refine Md (Ge (i:=1) J Zi) fun hlen=>Zd<|Zg<|as_ J<|Zf<|Za<|Zd<|Zg<|as_ J<|Zf<|Za<|Zd<|Zd<|Zg<|mv J<|dt (Yd J J (i:=1) J Zi uT22)<|mv J<|Zf<|Za<|Zo<|Nt [(6,_),(7,_)] [(0,_),(1,_)] (fun(k:Nat)=>[(8,.int .i64 (k:Int)),(3,.int .i64 (msz (xs.take k):Int))]) (fun(k:Nat)=>[]) (fun(k:Nat)=>k≤xs.length) (fun(k:Nat)=>xs.length-k) 0 (by first | omega | (dsimp only<;>omega)) K4 K2 ?_
 rintro k hk
 simp only [CA,NA]
 refine Zd<|Zg<|dt (Xr J J J)<|Zf<|Za<|Zd<|Zs J (fun h83=>?_) (fun h83=>?_)
 ·exact Zj<|Za<|Zd<|Zo<|Zd<|Zg<|dt (Xb (ii:=1) J J J J Zi uT22 Yq J (by first | omega | (simp only [List.length_set];omega)))<|dt (Xv (ii:=1) 0 J J J Zi pV (by first | omega | (simp only [List.length_set];omega)))<|tt (Zn (i:=2) J J zeroValue31 J J hw) fun b _=>tt (Zm (i:=2) J J J J J (by decide) J Yq J J ⟨Zb J,Zb J,trivial⟩ J hw trivial) fun _ _=>Zf<|Za<|Zg<|mv J<|dt (Zy (i:=2) J J J Qq Yq J J)<|tt (Zh (n:=2) (Zhe _ (hs.getD _)) J J J K1 call145 Ze J hw) fun _ _=>dt (Zur J J J)<|as_ J<|Zf<|Oe<|Za<|Zg<|dt (Yx J J J ⟨by omega,by omega⟩)<|mv J<|Zf<|Xn (k+1) (by first | omega | (dsimp only<;>omega)) (by first | omega | (dsimp only<;>omega)) ⟨J,by rw [Oo 0 _ _ (by omega),Zx0];exact congrArg some (Ag (by omega)),rfl,rfl,trivial⟩ K2
 ·exact Yv<|Zv<|Zv<|Ox<|Za<|Zd<|Zg<|mv J<|as_ J<|Zf<|Za<|Zu<|xU hsc results149 J J (by rw [List.take_of_length_le (by omega)])
theorem Zox(bd:Nat)(t:TypeId)(e e2:Int)(n:Bool)(s:ByteArray):Zqx prog 175 #[.pointer (some ⟨bd,0,none⟩),.agg #[.bool n,.string s],.int .i64 e2] [] false bd t #[.int .i64 e] (G:=Unit) (fun _=>True) (fun _=> .agg #[.bool n,.string s]) (fun _=>#[.int .i64 (if e=0 then e2 else e)]) (fun _=>[]):=by
 refine Zcw func175 J ntmps175 J trivial ?_
 intro w0 sc hw hsc
 simp only [Zq,Zp]
 refine Zd<|Zg<|tt (Yu (i:=2) J J J J J hw) fun b _=>tt (Zn (i:=3) J J zeroValue31 J J hw) fun b_2 _=>Zf<|Za<|Zd<|Zd<|Zg<|mv J<|dt (Zf7 J J)<|dt (Xs J J Zlg J Gw J J)<|dt (Oj (i:=1) J J J Zag J)<|dt (Pg J J J)<|Zf<|Za<|Zs J (fun h19=>?_) (fun h19=>?_)
 ·exact Zg<|mv J<|mv J<|dt (Zf7 J J)<|dt (Xs J J Zlg J Gw J J)<|tt (Zm (i:=1) J J J J J (by decide) J Gw J J ⟨Zb J,trivial⟩ J hw trivial) fun _ _=>Zf<|Za<|Zd<|Zg<|dt (Zy (i:=2) J J J Qq Yq J J)<|tt (Zm (i:=3) J J J J J (by decide) J Yq J J ⟨Zb J,Zb J,trivial⟩ J hw trivial) fun _ _=>Zf<|Za<|Zu<|Zec (.inl J) hsc () _ (fun a w hs=>Ni hs results175 (Yn (i:=3) J J Qq Yq J)) J trivial 1 J (by simp_all [Zaa]) J J Zk
 ·exact Zj<|Za<|Zd<|Zg<|dt (Zy (i:=2) J J J Qq Yq J J)<|tt (Zm (i:=3) J J J J J (by decide) J Yq J J ⟨Zb J,Zb J,trivial⟩ J hw trivial) fun _ _=>Zf<|Za<|Zu<|Zec (.inl J) hsc () _ (fun a w hs=>Ni hs results175 (Yn (i:=3) J J Qq Yq J)) J trivial 1 J (by simp_all [Zaa]) J J Zk
theorem d_mul_(bd:Nat)(e x y:Int)(hx:bl x.natAbs≤65536)(hy:bl y.natAbs≤65536):Zqx prog 153 #[.pointer (some ⟨bd,0,none⟩),wv x,wv y] [] false bd 167 #[.int .i64 e] (G:=Unit) (fun _=>True) (fun _=>wv (Zg7 (x*y))) (fun _=>#[.int .i64 (err e (x*y))]) (fun _=>[]):=by
 refine Zcw func153 J ntmps153 J trivial ?_
 intro w0 sc hw hsc
 simp only [Zq,Zp]
 refine Zd<|Zg<|tt (Yu (i:=2) J J J J J hw) fun b _=>tt (Yu (i:=3) J J J J J hw) fun b_2 _=>tt (Zn (i:=4) J J zeroValue31 J J hw) fun b_3 _=>Zf<|Za<|Zd<|Qi (fun x=>x=bd) [(0,0),(1,0),(2,0),(3,0),(4,0),(5,1),(6,0),(7,0),(8,1),(9,3)] ?_ ?_
 ·kernel_rfl
 exact r0' J J (st1 1 J (Yo J J))<|r0' J J (st1 1 J (Zf7 J J))<|r0' J J (st1 1 J (Xs J J Zhm J Zhc J J))<|r0' J J (st1 1 J (Zy (i:=2) J J J Qq Yq J J))<|r0' J J (st1 1 J (Zy (i:=3) J J J Qq Yq J J))<|r1' J (Zh (n:=4) (De _ _ ‹_› ‹_›) J J J K2 call139 Ze J hw) fun _ _=>r0' J J (st1 1 J (Yh J J J))<|r0' J J (st1 1 J (Yh J J J))<|r1' J (On (n:=4) (i:=1) (Zox _ _ _ _ _ _) J J J K3 call175 J (by decide) Ze J hw J) fun _ _=>r3' J (Zm (i:=4) J J J J J (by decide) J Yq J J ⟨Zb J,Zb J,trivial⟩ J hw trivial) fun _ _=>Of<|Za<|Zu<|Zec (.inl J) hsc () _ (fun a w hs=>Ni hs results153 (Yn (i:=4) J J Qq Yq J)) J trivial 1 J J J J Zk
theorem Da(bd:Nat)(x y:Int)(hx:bl x.natAbs≤65536)(hy:bl y.natAbs≤65536)(hz:bl (x*y).natAbs≤65536):Zqx prog 153 #[.pointer (some ⟨bd,0,none⟩),wv x,wv y] [] false bd 167 #[.int .i64 0] (G:=Unit) (fun _=>True) (fun _=>wv (x*y)) (fun _=>#[.int .i64 0]) (fun _=>[]):=by
 have h:=d_mul_ bd 0 x y hx hy
 rw [Nb hz,Zt8 hz]at h;exact h
theorem d_add_(bd:Nat)(e x y:Int)(hx:bl x.natAbs≤65536)(hy:bl y.natAbs≤65536):Zqx prog 159 #[.pointer (some ⟨bd,0,none⟩),wv x,wv y] [] false bd 167 #[.int .i64 e] (G:=Unit) (fun _=>True) (fun _=>wv (Zg7 (x+y))) (fun _=>#[.int .i64 (err e (x+y))]) (fun _=>[]):=by
 refine Zcw func159 J ntmps159 J trivial ?_
 intro w0 sc hw hsc
 simp only [Zq,Zp]
 refine Zd<|Zg<|tt (Yu (i:=2) J J J J J hw) fun b _=>tt (Yu (i:=3) J J J J J hw) fun b_2 _=>tt (Zn (i:=4) J J zeroValue31 J J hw) fun b_3 _=>Zf<|Za<|Zd<|Qi (fun x=>x=bd) [(0,0),(1,0),(2,0),(3,0),(4,0),(5,1),(6,0),(7,0),(8,1),(9,3)] ?_ ?_
 ·kernel_rfl
 exact r0' J J (st1 1 J (Yo J J))<|r0' J J (st1 1 J (Zf7 J J))<|r0' J J (st1 1 J (Xs J J Zhm J Zhc J J))<|r0' J J (st1 1 J (Zy (i:=2) J J J Qq Yq J J))<|r0' J J (st1 1 J (Zy (i:=3) J J J Qq Yq J J))<|r1' J (Zh (n:=4) (Gx _ _ ‹_› ‹_›) J J J K2 call82 Ze J hw) fun _ _=>r0' J J (st1 1 J (Yh J J J))<|r0' J J (st1 1 J (Yh J J J))<|r1' J (On (n:=4) (i:=1) (Zox _ _ _ _ _ _) J J J K3 call175 J (by decide) Ze J hw J) fun _ _=>r3' J (Zm (i:=4) J J J J J (by decide) J Yq J J ⟨Zb J,Zb J,trivial⟩ J hw trivial) fun _ _=>Of<|Za<|Zu<|Zec (.inl J) hsc () _ (fun a w hs=>Ni hs results159 (Yn (i:=4) J J Qq Yq J)) J trivial 1 J J J J Zk
theorem Zo6(bd:Nat)(x y:Int)(hx:bl x.natAbs≤65536)(hy:bl y.natAbs≤65536)(hz:bl (x+y).natAbs≤65536):Zqx prog 159 #[.pointer (some ⟨bd,0,none⟩),wv x,wv y] [] false bd 167 #[.int .i64 0] (G:=Unit) (fun _=>True) (fun _=>wv (x+y)) (fun _=>#[.int .i64 0]) (fun _=>[]):=by
 have h:=d_add_ bd 0 x y hx hy
 rw [Nb hz,Zt8 hz]at h;exact h
theorem d_sub_(bd:Nat)(e x y:Int)(hx:bl x.natAbs≤65536)(hy:bl y.natAbs≤65536):Zqx prog 137 #[.pointer (some ⟨bd,0,none⟩),wv x,wv y] [] false bd 167 #[.int .i64 e] (G:=Unit) (fun _=>True) (fun _=>wv (Zg7 (x-y))) (fun _=>#[.int .i64 (err e (x-y))]) (fun _=>[]):=by
 refine Zcw func137 J ntmps137 J trivial ?_
 intro w0 sc hw hsc
 simp only [Zq,Zp]
 refine Zd<|Zg<|tt (Yu (i:=2) J J J J J hw) fun b _=>tt (Yu (i:=3) J J J J J hw) fun b_2 _=>tt (Zn (i:=4) J J zeroValue31 J J hw) fun b_3 _=>Zf<|Za<|Zd<|Qi (fun x=>x=bd) [(0,0),(1,0),(2,0),(3,0),(4,0),(5,1),(6,0),(7,0),(8,1),(9,3)] ?_ ?_
 ·kernel_rfl
 exact r0' J J (st1 1 J (Yo J J))<|r0' J J (st1 1 J (Zf7 J J))<|r0' J J (st1 1 J (Xs J J Zhm J Zhc J J))<|r0' J J (st1 1 J (Zy (i:=2) J J J Qq Yq J J))<|r0' J J (st1 1 J (Zy (i:=3) J J J Qq Yq J J))<|r1' J (Zh (n:=4) (Zne _ _ ‹_› ‹_›) J J J K2 call140 Ze J hw) fun _ _=>r0' J J (st1 1 J (Yh J J J))<|r0' J J (st1 1 J (Yh J J J))<|r1' J (On (n:=4) (i:=1) (Zox _ _ _ _ _ _) J J J K3 call175 J (by decide) Ze J hw J) fun _ _=>r3' J (Zm (i:=4) J J J J J (by decide) J Yq J J ⟨Zb J,Zb J,trivial⟩ J hw trivial) fun _ _=>Of<|Za<|Zu<|Zec (.inl J) hsc () _ (fun a w hs=>Ni hs results137 (Yn (i:=4) J J Qq Yq J)) J trivial 1 J J J J Zk
theorem Zum(bd:Nat)(x y:Int)(hx:bl x.natAbs≤65536)(hy:bl y.natAbs≤65536)(hz:bl (x-y).natAbs≤65536):Zqx prog 137 #[.pointer (some ⟨bd,0,none⟩),wv x,wv y] [] false bd 167 #[.int .i64 0] (G:=Unit) (fun _=>True) (fun _=>wv (x-y)) (fun _=>#[.int .i64 0]) (fun _=>[]):=by
 have h:=d_sub_ bd 0 x y hx hy
 rw [Nb hz,Zt8 hz]at h;exact h
theorem d_done(bd:Nat)(v:Value)(xs:List Int)(hs:Sz 65536 xs):Cal prog 154 #[.pointer (some ⟨bd,0,none⟩),v] [Zgm bd 167 #[.int .i64 0],slp 2 wv v xs] true (G:=Unit) (fun _=>True) (fun _=> .tuple #[Ea v (tzl xs).length,.int .i64 0]) (fun _=>[slp 2 wv (Ea v (tzl xs).length) (tzl xs)]):=by
 refine Yc func154 J ntmps154 J K2 ?_
 intro w0 sc hw hsc
 simp only [Zq,Zp]
 refine Zd<|Zg<|as_ J<|as_ J<|Zf<|Za<|Zd<|Zd<|Zg<|mv J<|dt (Zf7 J J)<|dt (Xs J J Zhm J Zhc J J)<|dt (Xs J J Zlg J Gw J J)<|dt (Zyn (i:=1) J J J Zag J)<|dt (Qc J J J)<|Zf<|Za<|Zs J (fun h43=>?_) (fun h43=>?_)
 ·exfalso;simp_all
 ·exact Zj<|Za<|Zd<|Zg<|mv J<|tt (Zh (n:=3) (Za4 _ _ ‹_›) J J J K1 call152 (Zc 2 J J J Ze) J hw) fun _ _=>as_ J<|as_ J<|Zf<|Za<|Zu<|Ym (.inl J) hsc () _ (fun a w hs=>Nl hs results154 J J) J trivial J (Yy 3 J J J Zk)
end Go.Sky

