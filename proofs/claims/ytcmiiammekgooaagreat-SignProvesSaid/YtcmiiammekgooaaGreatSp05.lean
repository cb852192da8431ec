/- Rules, arithmetic and contracts: part 6. No conditions but those that each theorem names. -/
import Derived.Test.YtcmiiammekgooaaGreatSp04
set_option linter.all false
namespace Go.Sky
open Go.Proofs.Tryz
open Go.Proofs
set_option maxRecDepth 20000
set_option maxHeartbeats 4000000
set_option linter.unusedSimpArgs false
theorem Aa(b:Bool)(s:ByteArray):Od prog 103 #[.agg #[.bool b,.string s]] [] (.bool (okW b s)):=by
 refine Yg func103 J ntmps103 J trivial fun w0 sc hw hsc=>?_
 simp only [Zs,Zq]
 refine Zb<|Zf<|tt (Xp (i:=1) K5 hw) fun b _=>Zo J<|Zd<|Za<|Zb<|Zb<|Zf<|dt (Qy K2 Db J zT9 K2)<|dt (Mc (i:=1) K3 iA9 J)<|dt (Zlj J J J J)<|Zd<|Za<|Zr J (fun h264=>?_) (fun h264=>?_)
 ·exact Zb<|Zf<|dt (Qy K2 Db J zT4 K2)<|dt (Mc (i:=1) K3 iA4 J)<|dt (Xh J J)<|Zo J<|Zd<|Za<|Zp<|Yp<|xU hsc results103 J J (by unfold okW;rw [if_pos h264])
 ·refine Zl<|Za<|Zb<|Zf<|dt (Qy K2 Db J zT9 K2)<|dt (Mc (i:=1) K3 iA9 J)<|dt (Znk (i:=0) J J J uT9 J)<|dt (Pk K3)<|mv J<|Pb (d:=13) J (fun s267=>?_) (fun s267=>?_)
  ·exact Zx (Qy K2 Db J zT9 K2) K2<|Zx (Mc (i:=1) K3 iA9 J) K2<|Zx (Dk J J uT9) K2<|Zx (Ev J J J) K2<|dt (Om K3)<|Zo J<|Zd<|Za<|Zp<|xU hsc results103 J J (by unfold okW;rw [if_neg h264];simp_all<;>omega)
  ·exact Yj K3<|Yj K3<|Yj K3<|Yj K3<|dt (Ql K3)<|Zo J<|Zd<|Za<|Zp<|xU hsc results103 J J (by unfold okW;rw [if_neg h264];simp_all<;>omega)
theorem Gb(x:Int)(hx:bl x.natAbs≤65536):Cal prog 103 #[wv x] [] false (G:=Unit) (fun _=>True) (fun _=> .bool true) (fun _=>[]):=Zb8 hx▸Aa _ _
theorem Zme(b:Bool)(s:ByteArray)(c:Bool)(t:ByteArray):Od prog 129 #[.agg #[.bool b,.string s],.agg #[.bool c,.string t]] [] (.bool (okW b s && okW c t)):=by
 refine Yg func129 J ntmps129 J trivial fun w0 sc hw hsc=>?_
 simp only [Zs,Zq]
 refine Zb<|Zf<|tt (Xp (i:=1) K5 hw) fun b _=>tt (Xp (i:=2) K5 hw) fun b_2 _=>Zo J<|Zd<|Za<|Zb<|Zf<|dt (Qm (i:=1) K3 Xl Yb K2)<|tt (Zy (n:=2) (Aa _ _) K4 Zey Ze J hw) fun _ _=>mv J<|Kx (d:=7) J (fun s271=>?_) (fun s271=>?_)
 ·exact Zx (Qm (i:=2) K3 Xl Yb K2) K2<|Pp (Zy (n:=2) (Aa _ _) K4 Zey Ze J hw) K3 fun _ _=>dt (Om K3)<|Zo J<|Zd<|Za<|Zp<|xU hsc results129 J J (by simp_all)
 ·exact Yj K3<|Yj K3<|dt (Ql K3)<|Zo J<|Zd<|Za<|Zp<|xU hsc results129 J J (by simp_all)
theorem Hm(x y:Int)(hx:bl x.natAbs≤65536)(hy:bl y.natAbs≤65536):Od prog 129 #[wv x,wv y] [] (.bool true):=by
 have h:=Zme (decide (x<0)) (Xk x.natAbs) (decide (y<0)) (Xk y.natAbs)
 rw [Zb8 hx,Zb8 hy]at h;exact h
theorem Km(x:Int)(hx:bl x.natAbs≤65536):Od prog 104 #[wv x] [] (.int .i64 x.sign):=by
 refine Yg func104 J ntmps104 J trivial fun w0 sc hw hsc=>?_
 simp only [Zs,Zq]
 exact Zb<|Zf<|tt (Xp (i:=1) K5 hw) fun b _=>Zo J<|Zd<|Za<|Zb<|Zb<|Zf<|dt (Qm (i:=1) K3 Xl Yb K2)<|tt (Zy (n:=1) (Gb _ ‹_›) K4 Zey Ze J hw) fun _ _=>dt (Xh J J)<|Zd<|Za<|Yk J<|Zl<|Za<|Zb<|Zf<|dt (Qm (i:=1) K3 Xl Yb K2)<|tt (Zy (n:=2) (Oe _ _ (Xs _)) K4 Ld Ze J hw) fun g hg=>tt (Zy (n:=2) (Zkv _ _ _ ‹_›) K4 call135 (Zi 2 K3 Ze) J hw) fun _ _=>Zo J<|Zd<|Za<|Zp<|xU hsc results104 J J J
theorem Zjs(x:Int)(hx:bl x.natAbs≤65536):Od prog 145 #[wv x] [] (.int .i64 (bl x.natAbs:Int)):=by
 refine Yg func145 J ntmps145 J trivial fun w0 sc hw hsc=>?_
 simp only [Zs,Zq]
 exact Zb<|Zf<|tt (Xp (i:=1) K5 hw) fun b _=>Zo J<|Zd<|Za<|Zb<|Zb<|Zf<|dt (Qm (i:=1) K3 Xl Yb K2)<|tt (Zy (n:=1) (Gb _ ‹_›) K4 Zey Ze J hw) fun _ _=>dt (Xh J J)<|Zd<|Za<|Yk J<|Zl<|Za<|Zb<|Zf<|dt (Qy K2 Db J zT9 K2)<|dt (Mc (i:=1) K3 iA9 J)<|tt (Zy (n:=2) (Zdt _) K4 call170 Ze J hw) fun v _=>tt (Zy (n:=2) (Zkx _ _) K4 call168 (Zi 2 K3 Ze) J hw) fun _ _=>Zo J<|Zd<|Za<|Zp<|xU hsc results145 J J J
theorem Cr(x y:Int)(hx:bl x.natAbs≤65536:=by omega)(hy:bl y.natAbs≤65536:=by omega):Od prog 82 #[wv x,wv y] [] (Zcl (x+y)):=by
 refine Yg func82 J ntmps82 J trivial fun w0 sc hw hsc=>?_
 simp only [Zs,Zq]
 have hb:=Ia x y
 refine Zb<|Zf<|tt (Xp (i:=1) K5 hw) fun b _=>tt (Xp (i:=2) K5 hw) fun b_2 _=>tt (Xi (i:=3) K2 zeroValue31 K2 hw) fun b_3 _=>Zo J<|Zd<|Za<|Zb<|Zb<|Zf<|dt (Qm (i:=1) K3 Xl Yb K2)<|dt (Qm (i:=2) K3 Xl Yb K2)<|tt (Yf (n:=3) (Hm _ _ ‹_› ‹_›) K5 call129 Ze J hw) fun _ _=>dt (Xh J J)<|Zd<|Za<|Yk J<|Zl<|Za<|Zb<|Qj (fun _=>False) [(0,0),(2,0),(1,1),(3,1),(4,1),(5,1),(6,0),(7,0),(8,3),(9,3)] ?_ ?_
 ·kernel_rfl
 exact Zh K2 (Yo (Qm (i:=1) K3 Xl Yb K2))<|Zh K2 (Yo (Qm (i:=2) K3 Xl Yb K2))<|Yq J (Zy (n:=4) (Oe _ _ (Xs _)) K4 Ld Ze J hw) fun g hg=>Yq J (Zy (n:=5) (Oe _ _ (Xs _)) K4 Ld Ze J hw) fun g_2 hg_2=>Yq J (Yf (n:=6) (Zgo _ _ _ _ _ _ ‹_› ‹_›) K5 call131 (Zi 4 K3 (Zi 5 K3 Ze)) J hw) fun g_3 hg_3=>Yq J (Zy (n:=6) (Ga _ _ _ ‹_›) K4 call128 (Zi 6 K3 Ze) J hw) fun _ _=>Zh K2 (Yo (Xa K3))<|Zh K2 (Yo (Xa K3))<|Qs J (Zt (i:=3) K6 Yb K2 ⟨Zc J,Zc J,trivial⟩ J hw trivial) fun _ _=>Qs J (Pu (Ok J J) J) fun _ _=>Pv<|Za<|Zp<|Yr (.inl J) hsc () _ (fun a w hs=>Pz hs results82 (Yw (i:=3) J J Xl Yb J) J) J trivial J Zm
theorem Zp9(x y:Int)(hx:bl x.natAbs≤65536)(hy:bl y.natAbs≤65536):Od prog 140 #[wv x,wv y] [] (Zcl (x-y)):=by
 refine Yg func140 J ntmps140 J trivial fun w0 sc hw hsc=>?_
 simp only [Zs,Zq]
 have hb:=Cp x y
 have hny:=Zls y
 refine Zb<|Zf<|tt (Xp (i:=1) K5 hw) fun b _=>tt (Xp (i:=2) K5 hw) fun b_2 _=>tt (Xi (i:=3) K2 zeroValue31 K2 hw) fun b_3 _=>Zo J<|Zd<|Za<|Zb<|Zb<|Zf<|dt (Qm (i:=1) K3 Xl Yb K2)<|dt (Qm (i:=2) K3 Xl Yb K2)<|tt (Yf (n:=3) (Hm _ _ ‹_› ‹_›) K5 call129 Ze J hw) fun _ _=>dt (Xh J J)<|Zd<|Za<|Yk J<|Zl<|Za<|Zb<|Qj (fun _=>False) [(0,0),(2,0),(1,1),(3,1),(4,1),(5,1),(6,1),(7,0),(8,0),(9,3),(10,3)] ?_ ?_
 ·kernel_rfl
 exact Zh K2 (Yo (Qm (i:=1) K3 Xl Yb K2))<|Zh K2 (Yo (Qm (i:=2) K3 Xl Yb K2))<|Yq J (Zy (n:=4) (Oe _ _ (Xs _)) K4 Ld Ze J hw) fun g hg=>Yq J (Zy (n:=5) (Oe _ _ (Xs _)) K4 Ld Ze J hw) fun g_2 hg_2=>Yq J (Zy (n:=6) (Zoz _ _ _ ‹_›) K4 call134 (Zi 5 K3 Ze) J hw) fun g_3 hg_3=>Yq J (Yf (n:=7) (Zgo _ _ _ _ _ _ ‹_› ‹_›) K5 call131 (Zi 4 K3 (Zi 6 K3 Ze)) J hw) fun g_4 hg_4=>Yq J (Zy (n:=7) (Ga _ _ _ ‹_› (by rw [←Int.sub_eq_add_neg];omega)) K4 call128 (Zi 7 K3 Ze) J hw) fun _ _=>Zh K2 (Yo (Xa K3))<|Zh K2 (Yo (Xa K3))<|Qs J (Zt (i:=3) K6 Yb K2 ⟨Zc J,Zc J,trivial⟩ J hw trivial) fun _ _=>Qs J (Pu (Ok J J) J) fun _ _=>Pv<|Za<|Zp<|Yr (.inl J) hsc () _ (fun a w hs=>Pz hs results140 (Yw (i:=3) J J Xl Yb J) J) (by rw [Int.sub_eq_add_neg]<;>rfl) trivial J Zm
theorem Ab(x y:Int)(hx:bl x.natAbs≤65536:=by omega)(hy:bl y.natAbs≤65536:=by omega):Od prog 139 #[wv x,wv y] [] (Zcl (x*y)):=by
 refine Yg func139 J ntmps139 J trivial fun w0 sc hw hsc=>?_
 simp only [Zs,Zq]
 have hb:=Qb x y
 refine Zb<|Zf<|tt (Xp (i:=1) K5 hw) fun b _=>tt (Xp (i:=2) K5 hw) fun b_2 _=>tt (Xi (i:=3) K2 zeroValue31 K2 hw) fun b_3 _=>Zo J<|Zd<|Za<|Zb<|Zb<|Zf<|dt (Qm (i:=1) K3 Xl Yb K2)<|dt (Qm (i:=2) K3 Xl Yb K2)<|tt (Yf (n:=3) (Hm _ _ ‹_› ‹_›) K5 call129 Ze J hw) fun _ _=>dt (Xh J J)<|Zd<|Za<|Yk J<|Zl<|Za<|Zb<|Qj (fun _=>False) [(0,0),(2,0),(1,1),(3,1),(4,1),(5,1),(6,0),(7,0),(8,3),(9,3)] ?_ ?_
 ·kernel_rfl
 exact Zh K2 (Yo (Qm (i:=1) K3 Xl Yb K2))<|Zh K2 (Yo (Qm (i:=2) K3 Xl Yb K2))<|Yq J (Zy (n:=4) (Oe _ _ (Xs _)) K4 Ld Ze J hw) fun g hg=>Yq J (Zy (n:=5) (Oe _ _ (Xs _)) K4 Ld Ze J hw) fun g_2 hg_2=>Yq J (Yf (n:=6) (Zd9 _ _ _ _ _ _ ‹_› ‹_›) K5 call176 (Zi 4 K3 (Zi 5 K3 Ze)) J hw) fun g_3 hg_3=>Yq J (Zy (n:=6) (Ga _ _ _ ‹_›) K4 call128 (Zi 6 K3 Ze) J hw) fun _ _=>Zh K2 (Yo (Xa K3))<|Zh K2 (Yo (Xa K3))<|Qs J (Zt (i:=3) K6 Yb K2 ⟨Zc J,Zc J,trivial⟩ J hw trivial) fun _ _=>Qs J (Pu (Ok J J) J) fun _ _=>Pv<|Za<|Zp<|Yr (.inl J) hsc () _ (fun a w hs=>Pz hs results139 (Yw (i:=3) J J Xl Yb J) J) J trivial J Zm
theorem Zza(x y:Int)(hx:bl x.natAbs≤65536)(hy:bl y.natAbs≤65536):Od prog 196 #[wv x,wv y] [] (Zcl (Int.gcd x y:Int)):=by
 refine Yg func196 J ntmps196 J trivial fun w0 sc hw hsc=>?_
 simp only [Zs,Zq]
 have hb:=Zue x.natAbs y.natAbs
 refine Zb<|Zf<|tt (Xp (i:=1) K5 hw) fun b _=>tt (Xp (i:=2) K5 hw) fun b_2 _=>tt (Xi (i:=3) K2 zeroValue31 K2 hw) fun b_3 _=>Zo J<|Zd<|Za<|Zb<|Zb<|Zf<|dt (Qm (i:=1) K3 Xl Yb K2)<|dt (Qm (i:=2) K3 Xl Yb K2)<|tt (Yf (n:=3) (Hm _ _ ‹_› ‹_›) K5 call129 Ze J hw) fun _ _=>dt (Xh J J)<|Zd<|Za<|Yk J<|Zl<|Za<|Zb<|Qj (fun _=>False) [(0,0),(1,0),(3,0),(4,0),(2,1),(5,1),(6,1),(7,0),(8,1),(9,0),(10,0),(11,3),(12,3)] ?_ ?_
 ·kernel_rfl
 exact Zh K2 (Yo (Qy K2 Db J zT9 K2))<|Zh K2 (Yo (Mc (i:=1) K3 iA9 J))<|Zh K2 (Yo (Qy K2 Db J zT9 K2))<|Zh K2 (Yo (Mc (i:=2) K3 iA9 J))<|Yq J (Zy (n:=4) (Zdt _) K4 call170 Ze J hw) fun v _=>Yq J (Zy (n:=5) (Zdt _) K4 call170 Ze J hw) fun v_2 _=>Yq J (Yf (n:=6) (Zo1 _ _ _ _) K5 call185 (Zi 4 K3 (Zi 5 K3 Ze)) J hw) fun v_3 _=>Zh K2 (Yo (Oi (ivs:=[(0,_),(1,_)]) J K4 (fun a w hs=>Mb ((Zc J) a w hs) ((Zj (i:=6) J Zg) a w hs))))<|Yq J (Zy (n:=6) (Ga false _ (Int.gcd x y:Int) (by simp [sg]) (by show bl (Nat.gcd x.natAbs y.natAbs)≤_;omega)) K4 call128 (Zi 6 K3 Ze) J hw) fun _ _=>Zh K2 (Yo (Xa K3))<|Zh K2 (Yo (Xa K3))<|Qs J (Zt (i:=3) K6 Yb K2 ⟨Zc J,Zc J,trivial⟩ J hw trivial) fun _ _=>Qs J (Pu (Ok J J) J) fun _ _=>Pv<|Za<|Zp<|Yr (.inl J) hsc () _ (fun a w hs=>Pz hs results196 (Yw (i:=3) J J Xl Yb J) J) J trivial J Zm
theorem Za1(x y:Int)(hx:bl x.natAbs≤65536)(hy:bl y.natAbs≤65536)(hy0:y≠0):Od prog 158 #[wv x,wv y] [] (.tuple #[wv (Zbl (x/y)),wv (Zbl (x%y)),.int .i64 0]):=by
 refine Yg func158 J ntmps158 J trivial fun w0 sc hw hsc=>?_
 simp only [Zs,Zq]
 have hb:=Zjp x y
 have hb2:=Zp2 x y hy0
 refine Zb<|Zf<|tt (Xp (i:=1) K5 hw) fun b _=>tt (Xp (i:=2) K5 hw) fun b_2 _=>tt (Xi (i:=3) K2 zeroValue31 K2 hw) fun b_3 _=>tt (Xi (i:=4) K2 zeroValue31 K2 hw) fun b_4 _=>Zo J<|Zd<|Za<|Zb<|Zb<|Zf<|dt (Qm (i:=1) K3 Xl Yb K2)<|dt (Qm (i:=2) K3 Xl Yb K2)<|tt (Yf (n:=4) (Hm _ _ ‹_› ‹_›) K5 call129 Ze J hw) fun _ _=>dt (Xh J J)<|Zd<|Za<|Yk J<|Zl<|Za<|Zb<|Zb<|Zf<|dt (Qy K2 Db J zT9 K2)<|dt (Mc (i:=2) K3 iA9 J)<|dt (Zlj J J J J)<|Zd<|Za<|Zr J (fun h337=>?_) (fun h337=>?_)
 ·rw [Kr]at h337
  exfalso;exact hy0 (by have:=(Ox (by omega:2≤256) y.natAbs).1 h337;omega)
 ·refine Zl<|Za<|Iy [(4,_),(5,_)] [(0,_),(1,_),(2,_),(3,_),(4,_)] (fun(q:Bool×Value×Value×Nat×Nat)=>[(7,.pointer (some ⟨q.2.2.2.1,0,none⟩)),(8,.pointer (some ⟨q.2.2.2.2,0,none⟩))]) (fun(q:Bool×Value×Value×Nat×Nat)=>[(84,Dj q.2.1 (x/y).natAbs),(85,Dj q.2.2.1 (x%y).natAbs),(86,box q.2.2.2.1 154 #[.bool q.1,q.2.1]),(87,box q.2.2.2.2 154 #[.bool false,q.2.2.1])]) (fun(q:Bool×Value×Value×Nat×Nat)=>sg q.1 (x/y)) K2 K5 ?_ ?_
  ·refine Ni [1,2] [11]<|Zw (n:=10) [(0,0),(2,0)]<|Zh K2 (Yy (Qm (i:=1) K3 Xl Yb K2) K2)<|Zh K2 (Yy (Qm (i:=2) K3 Xl Yb K2) K2)<|Yi<|Fu (n:=9) 1 8 9 ?_ ?_ ?_
   ·refine Yd J (Zy (n:=81) (Oe _ _ (Xs _)) K4 Ld Ze J hw) fun g hg=>Fu (n:=8) 3 8 9 ?_ ?_ ?_
    ·refine Yd J (Zy (n:=82) (Oe _ _ (Xs _)) K4 Ld Ze J hw) fun g_2 hg_2=>Fu (n:=7) 4 8 9 ?_ ?_ ?_
     ·refine Yd J (Yf (n:=84) (Pt _ _ _ _ _ _ ‹_› ‹_› (by omega) (by omega) hy0) K5 Ml (Zi 81 K3 (Zi 82 K3 Ze)) J hw) fun g_3 hg_3=>Zw (n:=4) [(5,0),(6,0),(7,0)]<|Zh K2 (Yy (Ya K2) K2)<|Zh K2 (Yy (Xa K3) K2)<|Zh K2 (Yy (Xa K3) K2)<|Yi<|Qg (n:=3) 8 9 ?_ ?_
      ·exact Yd J (Xj (i:=86) K2 zeroValue154 K2 hw K2) fun b_5 ho=>Zw (n:=0) [(9,1),(10,1),(11,3)]<|Yq J (Xj (i:=87) K2 zeroValue154 K2 hw K2) fun b_6 ho2=>Yq J (Zt (i:=86) K6 Xb K2 ⟨Zc J,Zj (i:=84) J Zg,trivial⟩ J hw ho) fun _ _=>Qs J (Zt (i:=87) K6 Xb K2 ⟨Zc J,Zj (i:=85) J Zg,trivial⟩ J hw trivial) fun _ _=>Yi<|Yh<|Xd (_,_,_,_,_) ‹_› K4 K9
      ·exact Yd J (Xj (i:=87) K2 zeroValue154 K2 hw K2) fun b_7 ho3=>Zw (n:=0) [(8,1),(10,1),(11,3)]<|Yq J (Xj (i:=86) K2 zeroValue154 K2 hw K2) fun b_8 ho4=>Yq J (Zt (i:=86) K6 Xb K2 ⟨Zc J,Zj (i:=84) J Zg,trivial⟩ J hw ho4) fun _ _=>Qs J (Zt (i:=87) K6 Xb K2 ⟨Zc J,Zj (i:=85) J Zg,trivial⟩ J hw trivial) fun _ _=>Yi<|Yh<|Xd (_,_,_,_,_) ‹_› K4 K9
     ·refine Yd J (Xj (i:=86) K2 zeroValue154 K2 hw K2) fun b_9 ho5=>Qg (n:=6) 4 9 ?_ ?_
      ·exact Yd J (Yf (n:=84) (Pt _ _ _ _ _ _ ‹_› ‹_› (by omega) (by omega) hy0) K5 Ml (Zi 81 K3 (Zi 82 K3 Ze)) J hw) fun g_4 hg_4=>Zw (n:=0) [(5,0),(6,0),(7,0),(9,1),(10,1),(11,3)]<|Zh K2 (Yy (Ya K2) K2)<|Zh K2 (Yy (Xa K3) K2)<|Zh K2 (Yy (Xa K3) K2)<|Yq J (Xj (i:=87) K2 zeroValue154 K2 hw K2) fun b_10 ho6=>Yq J (Zt (i:=86) K6 Xb K2 ⟨Zc J,Zj (i:=84) J Zg,trivial⟩ J hw ho5) fun _ _=>Qs J (Zt (i:=87) K6 Xb K2 ⟨Zc J,Zj (i:=85) J Zg,trivial⟩ J hw trivial) fun _ _=>Yi<|Yh<|Xd (_,_,_,_,_) ‹_› K4 K9
      ·exact Yd J (Xj (i:=87) K2 zeroValue154 K2 hw K2) fun b_11 ho7=>Zw (n:=0) [(4,1),(5,0),(6,0),(7,0),(10,1),(11,3)]<|Yq J (Yf (n:=84) (Pt _ _ _ _ _ _ ‹_› ‹_› (by omega) (by omega) hy0) K5 Ml (Zi 81 K3 (Zi 82 K3 Ze)) J hw) fun g_5 hg_5=>Zh K2 (Yy (Ya K2) K2)<|Zh K2 (Yy (Xa K3) K2)<|Zh K2 (Yy (Xa K3) K2)<|Yq J (Zt (i:=86) K6 Xb K2 ⟨Zc J,Zj (i:=84) J Zg,trivial⟩ J hw ho5) fun _ _=>Qs J (Zt (i:=87) K6 Xb K2 ⟨Zc J,Zj (i:=85) J Zg,trivial⟩ J hw trivial) fun _ _=>Yi<|Yh<|Xd (_,_,_,_,_) ‹_› K4 K9
     ·refine Yd J (Xj (i:=87) K2 zeroValue154 K2 hw K2) fun b_12 ho8=>Qg (n:=6) 4 8 ?_ ?_
      ·exact Yd J (Yf (n:=84) (Pt _ _ _ _ _ _ ‹_› ‹_› (by omega) (by omega) hy0) K5 Ml (Zi 81 K3 (Zi 82 K3 Ze)) J hw) fun g_6 hg_6=>Zw (n:=0) [(5,0),(6,0),(7,0),(8,1),(10,1),(11,3)]<|Zh K2 (Yy (Ya K2) K2)<|Zh K2 (Yy (Xa K3) K2)<|Zh K2 (Yy (Xa K3) K2)<|Yq J (Xj (i:=86) K2 zeroValue154 K2 hw K2) fun b_13 ho9=>Yq J (Zt (i:=86) K6 Xb K2 ⟨Zc J,Zj (i:=84) J Zg,trivial⟩ J hw ho9) fun _ _=>Qs J (Zt (i:=87) K6 Xb K2 ⟨Zc J,Zj (i:=85) J Zg,trivial⟩ J hw trivial) fun _ _=>Yi<|Yh<|Xd (_,_,_,_,_) ‹_› K4 K9
      ·exact Yd J (Xj (i:=86) K2 zeroValue154 K2 hw K2) fun b_14 ho10=>Zw (n:=0) [(4,1),(5,0),(6,0),(7,0),(10,1),(11,3)]<|Yq J (Yf (n:=84) (Pt _ _ _ _ _ _ ‹_› ‹_› (by omega) (by omega) hy0) K5 Ml (Zi 81 K3 (Zi 82 K3 Ze)) J hw) fun g_7 hg_7=>Zh K2 (Yy (Ya K2) K2)<|Zh K2 (Yy (Xa K3) K2)<|Zh K2 (Yy (Xa K3) K2)<|Yq J (Zt (i:=86) K6 Xb K2 ⟨Zc J,Zj (i:=84) J Zg,trivial⟩ J hw ho10) fun _ _=>Qs J (Zt (i:=87) K6 Xb K2 ⟨Zc J,Zj (i:=85) J Zg,trivial⟩ J hw trivial) fun _ _=>Yi<|Yh<|Xd (_,_,_,_,_) ‹_› K4 K9
    ·refine Yd J (Xj (i:=86) K2 zeroValue154 K2 hw K2) fun b_15 ho11=>Qg (n:=7) 3 9 ?_ ?_
     ·refine Yd J (Zy (n:=82) (Oe _ _ (Xs _)) K4 Ld Ze J hw) fun g_8 hg_8=>Qg (n:=6) 4 9 ?_ ?_
      ·exact Yd J (Yf (n:=84) (Pt _ _ _ _ _ _ ‹_› ‹_› (by omega) (by omega) hy0) K5 Ml (Zi 81 K3 (Zi 82 K3 Ze)) J hw) fun g_9 hg_9=>Zw (n:=0) [(5,0),(6,0),(7,0),(9,1),(10,1),(11,3)]<|Zh K2 (Yy (Ya K2) K2)<|Zh K2 (Yy (Xa K3) K2)<|Zh K2 (Yy (Xa K3) K2)<|Yq J (Xj (i:=87) K2 zeroValue154 K2 hw K2) fun b_16 ho12=>Yq J (Zt (i:=86) K6 Xb K2 ⟨Zc J,Zj (i:=84) J Zg,trivial⟩ J hw ho11) fun _ _=>Qs J (Zt (i:=87) K6 Xb K2 ⟨Zc J,Zj (i:=85) J Zg,trivial⟩ J hw trivial) fun _ _=>Yi<|Yh<|Xd (_,_,_,_,_) ‹_› K4 K9
      ·exact Yd J (Xj (i:=87) K2 zeroValue154 K2 hw K2) fun b_17 ho13=>Zw (n:=0) [(4,1),(5,0),(6,0),(7,0),(10,1),(11,3)]<|Yq J (Yf (n:=84) (Pt _ _ _ _ _ _ ‹_› ‹_› (by omega) (by omega) hy0) K5 Ml (Zi 81 K3 (Zi 82 K3 Ze)) J hw) fun g_10 hg_10=>Zh K2 (Yy (Ya K2) K2)<|Zh K2 (Yy (Xa K3) K2)<|Zh K2 (Yy (Xa K3) K2)<|Yq J (Zt (i:=86) K6 Xb K2 ⟨Zc J,Zj (i:=84) J Zg,trivial⟩ J hw ho11) fun _ _=>Qs J (Zt (i:=87) K6 Xb K2 ⟨Zc J,Zj (i:=85) J Zg,trivial⟩ J hw trivial) fun _ _=>Yi<|Yh<|Xd (_,_,_,_,_) ‹_› K4 K9
     ·exact Yd J (Xj (i:=87) K2 zeroValue154 K2 hw K2) fun b_18 ho14=>Zw (n:=0) [(3,1),(4,1),(5,0),(6,0),(7,0),(10,1),(11,3)]<|Yq J (Zy (n:=82) (Oe _ _ (Xs _)) K4 Ld Ze J hw) fun g_11 hg_11=>Yq J (Yf (n:=84) (Pt _ _ _ _ _ _ ‹_› ‹_› (by omega) (by omega) hy0) K5 Ml (Zi 81 K3 (Zi 82 K3 Ze)) J hw) fun g_12 hg_12=>Zh K2 (Yy (Ya K2) K2)<|Zh K2 (Yy (Xa K3) K2)<|Zh K2 (Yy (Xa K3) K2)<|Yq J (Zt (i:=86) K6 Xb K2 ⟨Zc J,Zj (i:=84) J Zg,trivial⟩ J hw ho11) fun _ _=>Qs J (Zt (i:=87) K6 Xb K2 ⟨Zc J,Zj (i:=85) J Zg,trivial⟩ J hw trivial) fun _ _=>Yi<|Yh<|Xd (_,_,_,_,_) ‹_› K4 K9
    ·refine Yd J (Xj (i:=87) K2 zeroValue154 K2 hw K2) fun b_19 ho15=>Qg (n:=7) 3 8 ?_ ?_
     ·refine Yd J (Zy (n:=82) (Oe _ _ (Xs _)) K4 Ld Ze J hw) fun g_13 hg_13=>Qg (n:=6) 4 8 ?_ ?_
      ·exact Yd J (Yf (n:=84) (Pt _ _ _ _ _ _ ‹_› ‹_› (by omega) (by omega) hy0) K5 Ml (Zi 81 K3 (Zi 82 K3 Ze)) J hw) fun g_14 hg_14=>Zw (n:=0) [(5,0),(6,0),(7,0),(8,1),(10,1),(11,3)]<|Zh K2 (Yy (Ya K2) K2)<|Zh K2 (Yy (Xa K3) K2)<|Zh K2 (Yy (Xa K3) K2)<|Yq J (Xj (i:=86) K2 zeroValue154 K2 hw K2) fun b_20 ho16=>Yq J (Zt (i:=86) K6 Xb K2 ⟨Zc J,Zj (i:=84) J Zg,trivial⟩ J hw ho16) fun _ _=>Qs J (Zt (i:=87) K6 Xb K2 ⟨Zc J,Zj (i:=85) J Zg,trivial⟩ J hw trivial) fun _ _=>Yi<|Yh<|Xd (_,_,_,_,_) ‹_› K4 K9
      ·exact Yd J (Xj (i:=86) K2 zeroValue154 K2 hw K2) fun b_21 ho17=>Zw (n:=0) [(4,1),(5,0),(6,0),(7,0),(10,1),(11,3)]<|Yq J (Yf (n:=84) (Pt _ _ _ _ _ _ ‹_› ‹_› (by omega) (by omega) hy0) K5 Ml (Zi 81 K3 (Zi 82 K3 Ze)) J hw) fun g_15 hg_15=>Zh K2 (Yy (Ya K2) K2)<|Zh K2 (Yy (Xa K3) K2)<|Zh K2 (Yy (Xa K3) K2)<|Yq J (Zt (i:=86) K6 Xb K2 ⟨Zc J,Zj (i:=84) J Zg,trivial⟩ J hw ho17) fun _ _=>Qs J (Zt (i:=87) K6 Xb K2 ⟨Zc J,Zj (i:=85) J Zg,trivial⟩ J hw trivial) fun _ _=>Yi<|Yh<|Xd (_,_,_,_,_) ‹_› K4 K9
     ·exact Yd J (Xj (i:=86) K2 zeroValue154 K2 hw K2) fun b_22 ho18=>Zw (n:=0) [(3,1),(4,1),(5,0),(6,0),(7,0),(10,1),(11,3)]<|Yq J (Zy (n:=82) (Oe _ _ (Xs _)) K4 Ld Ze J hw) fun g_16 hg_16=>Yq J (Yf (n:=84) (Pt _ _ _ _ _ _ ‹_› ‹_› (by omega) (by omega) hy0) K5 Ml (Zi 81 K3 (Zi 82 K3 Ze)) J hw) fun g_17 hg_17=>Zh K2 (Yy (Ya K2) K2)<|Zh K2 (Yy (Xa K3) K2)<|Zh K2 (Yy (Xa K3) K2)<|Yq J (Zt (i:=86) K6 Xb K2 ⟨Zc J,Zj (i:=84) J Zg,trivial⟩ J hw ho18) fun _ _=>Qs J (Zt (i:=87) K6 Xb K2 ⟨Zc J,Zj (i:=85) J Zg,trivial⟩ J hw trivial) fun _ _=>Yi<|Yh<|Xd (_,_,_,_,_) ‹_› K4 K9
   ·refine Yd J (Xj (i:=86) K2 zeroValue154 K2 hw K2) fun b_23 ho19=>Qg (n:=8) 1 9 ?_ ?_
    ·refine Yd J (Zy (n:=81) (Oe _ _ (Xs _)) K4 Ld Ze J hw) fun g_18 hg_18=>Qg (n:=7) 3 9 ?_ ?_
     ·refine Yd J (Zy (n:=82) (Oe _ _ (Xs _)) K4 Ld Ze J hw) fun g_19 hg_19=>Qg (n:=6) 4 9 ?_ ?_
      ·exact Yd J (Yf (n:=84) (Pt _ _ _ _ _ _ ‹_› ‹_› (by omega) (by omega) hy0) K5 Ml (Zi 81 K3 (Zi 82 K3 Ze)) J hw) fun g_20 hg_20=>Zw (n:=0) [(5,0),(6,0),(7,0),(9,1),(10,1),(11,3)]<|Zh K2 (Yy (Ya K2) K2)<|Zh K2 (Yy (Xa K3) K2)<|Zh K2 (Yy (Xa K3) K2)<|Yq J (Xj (i:=87) K2 zeroValue154 K2 hw K2) fun b_24 ho20=>Yq J (Zt (i:=86) K6 Xb K2 ⟨Zc J,Zj (i:=84) J Zg,trivial⟩ J hw ho19) fun _ _=>Qs J (Zt (i:=87) K6 Xb K2 ⟨Zc J,Zj (i:=85) J Zg,trivial⟩ J hw trivial) fun _ _=>Yi<|Yh<|Xd (_,_,_,_,_) ‹_› K4 K9
      ·exact Yd J (Xj (i:=87) K2 zeroValue154 K2 hw K2) fun b_25 ho21=>Zw (n:=0) [(4,1),(5,0),(6,0),(7,0),(10,1),(11,3)]<|Yq J (Yf (n:=84) (Pt _ _ _ _ _ _ ‹_› ‹_› (by omega) (by omega) hy0) K5 Ml (Zi 81 K3 (Zi 82 K3 Ze)) J hw) fun g_21 hg_21=>Zh K2 (Yy (Ya K2) K2)<|Zh K2 (Yy (Xa K3) K2)<|Zh K2 (Yy (Xa K3) K2)<|Yq J (Zt (i:=86) K6 Xb K2 ⟨Zc J,Zj (i:=84) J Zg,trivial⟩ J hw ho19) fun _ _=>Qs J (Zt (i:=87) K6 Xb K2 ⟨Zc J,Zj (i:=85) J Zg,trivial⟩ J hw trivial) fun _ _=>Yi<|Yh<|Xd (_,_,_,_,_) ‹_› K4 K9
     ·exact Yd J (Xj (i:=87) K2 zeroValue154 K2 hw K2) fun b_26 ho22=>Zw (n:=0) [(3,1),(4,1),(5,0),(6,0),(7,0),(10,1),(11,3)]<|Yq J (Zy (n:=82) (Oe _ _ (Xs _)) K4 Ld Ze J hw) fun g_22 hg_22=>Yq J (Yf (n:=84) (Pt _ _ _ _ _ _ ‹_› ‹_› (by omega) (by omega) hy0) K5 Ml (Zi 81 K3 (Zi 82 K3 Ze)) J hw) fun g_23 hg_23=>Zh K2 (Yy (Ya K2) K2)<|Zh K2 (Yy (Xa K3) K2)<|Zh K2 (Yy (Xa K3) K2)<|Yq J (Zt (i:=86) K6 Xb K2 ⟨Zc J,Zj (i:=84) J Zg,trivial⟩ J hw ho19) fun _ _=>Qs J (Zt (i:=87) K6 Xb K2 ⟨Zc J,Zj (i:=85) J Zg,trivial⟩ J hw trivial) fun _ _=>Yi<|Yh<|Xd (_,_,_,_,_) ‹_› K4 K9
    ·exact Yd J (Xj (i:=87) K2 zeroValue154 K2 hw K2) fun b_27 ho23=>Zw (n:=0) [(1,1),(3,1),(4,1),(5,0),(6,0),(7,0),(10,1),(11,3)]<|Yq J (Zy (n:=81) (Oe _ _ (Xs _)) K4 Ld Ze J hw) fun g_24 hg_24=>Yq J (Zy (n:=82) (Oe _ _ (Xs _)) K4 Ld Ze J hw) fun g_25 hg_25=>Yq J (Yf (n:=84) (Pt _ _ _ _ _ _ ‹_› ‹_› (by omega) (by omega) hy0) K5 Ml (Zi 81 K3 (Zi 82 K3 Ze)) J hw) fun g_26 hg_26=>Zh K2 (Yy (Ya K2) K2)<|Zh K2 (Yy (Xa K3) K2)<|Zh K2 (Yy (Xa K3) K2)<|Yq J (Zt (i:=86) K6 Xb K2 ⟨Zc J,Zj (i:=84) J Zg,trivial⟩ J hw ho19) fun _ _=>Qs J (Zt (i:=87) K6 Xb K2 ⟨Zc J,Zj (i:=85) J Zg,trivial⟩ J hw trivial) fun _ _=>Yi<|Yh<|Xd (_,_,_,_,_) ‹_› K4 K9
   ·refine Yd J (Xj (i:=87) K2 zeroValue154 K2 hw K2) fun b_28 ho24=>Qg (n:=8) 1 8 ?_ ?_
    ·refine Yd J (Zy (n:=81) (Oe _ _ (Xs _)) K4 Ld Ze J hw) fun g_27 hg_27=>Qg (n:=7) 3 8 ?_ ?_
     ·refine Yd J (Zy (n:=82) (Oe _ _ (Xs _)) K4 Ld Ze J hw) fun g_28 hg_28=>Qg (n:=6) 4 8 ?_ ?_
      ·exact Yd J (Yf (n:=84) (Pt _ _ _ _ _ _ ‹_› ‹_› (by omega) (by omega) hy0) K5 Ml (Zi 81 K3 (Zi 82 K3 Ze)) J hw) fun g_29 hg_29=>Zw (n:=0) [(5,0),(6,0),(7,0),(8,1),(10,1),(11,3)]<|Zh K2 (Yy (Ya K2) K2)<|Zh K2 (Yy (Xa K3) K2)<|Zh K2 (Yy (Xa K3) K2)<|Yq J (Xj (i:=86) K2 zeroValue154 K2 hw K2) fun b_29 ho25=>Yq J (Zt (i:=86) K6 Xb K2 ⟨Zc J,Zj (i:=84) J Zg,trivial⟩ J hw ho25) fun _ _=>Qs J (Zt (i:=87) K6 Xb K2 ⟨Zc J,Zj (i:=85) J Zg,trivial⟩ J hw trivial) fun _ _=>Yi<|Yh<|Xd (_,_,_,_,_) ‹_› K4 K9
      ·exact Yd J (Xj (i:=86) K2 zeroValue154 K2 hw K2) fun b_30 ho26=>Zw (n:=0) [(4,1),(5,0),(6,0),(7,0),(10,1),(11,3)]<|Yq J (Yf (n:=84) (Pt _ _ _ _ _ _ ‹_› ‹_› (by omega) (by omega) hy0) K5 Ml (Zi 81 K3 (Zi 82 K3 Ze)) J hw) fun g_30 hg_30=>Zh K2 (Yy (Ya K2) K2)<|Zh K2 (Yy (Xa K3) K2)<|Zh K2 (Yy (Xa K3) K2)<|Yq J (Zt (i:=86) K6 Xb K2 ⟨Zc J,Zj (i:=84) J Zg,trivial⟩ J hw ho26) fun _ _=>Qs J (Zt (i:=87) K6 Xb K2 ⟨Zc J,Zj (i:=85) J Zg,trivial⟩ J hw trivial) fun _ _=>Yi<|Yh<|Xd (_,_,_,_,_) ‹_› K4 K9
     ·exact Yd J (Xj (i:=86) K2 zeroValue154 K2 hw K2) fun b_31 ho27=>Zw (n:=0) [(3,1),(4,1),(5,0),(6,0),(7,0),(10,1),(11,3)]<|Yq J (Zy (n:=82) (Oe _ _ (Xs _)) K4 Ld Ze J hw) fun g_31 hg_31=>Yq J (Yf (n:=84) (Pt _ _ _ _ _ _ ‹_› ‹_› (by omega) (by omega) hy0) K5 Ml (Zi 81 K3 (Zi 82 K3 Ze)) J hw) fun g_32 hg_32=>Zh K2 (Yy (Ya K2) K2)<|Zh K2 (Yy (Xa K3) K2)<|Zh K2 (Yy (Xa K3) K2)<|Yq J (Zt (i:=86) K6 Xb K2 ⟨Zc J,Zj (i:=84) J Zg,trivial⟩ J hw ho27) fun _ _=>Qs J (Zt (i:=87) K6 Xb K2 ⟨Zc J,Zj (i:=85) J Zg,trivial⟩ J hw trivial) fun _ _=>Yi<|Yh<|Xd (_,_,_,_,_) ‹_› K4 K9
    ·exact Yd J (Xj (i:=86) K2 zeroValue154 K2 hw K2) fun b_32 ho28=>Zw (n:=0) [(1,1),(3,1),(4,1),(5,0),(6,0),(7,0),(10,1),(11,3)]<|Yq J (Zy (n:=81) (Oe _ _ (Xs _)) K4 Ld Ze J hw) fun g_33 hg_33=>Yq J (Zy (n:=82) (Oe _ _ (Xs _)) K4 Ld Ze J hw) fun g_34 hg_34=>Yq J (Yf (n:=84) (Pt _ _ _ _ _ _ ‹_› ‹_› (by omega) (by omega) hy0) K5 Ml (Zi 81 K3 (Zi 82 K3 Ze)) J hw) fun g_35 hg_35=>Zh K2 (Yy (Ya K2) K2)<|Zh K2 (Yy (Xa K3) K2)<|Zh K2 (Yy (Xa K3) K2)<|Yq J (Zt (i:=86) K6 Xb K2 ⟨Zc J,Zj (i:=84) J Zg,trivial⟩ J hw ho28) fun _ _=>Qs J (Zt (i:=87) K6 Xb K2 ⟨Zc J,Zj (i:=85) J Zg,trivial⟩ J hw trivial) fun _ _=>Yi<|Yh<|Xd (_,_,_,_,_) ‹_› K4 K9
  ·rintro⟨qb,qv,rv,b7,b8⟩ hq
   dsimp only at hq
   simp only [CA,NA]
   exact Zb<|Zf<|dt (Qm (i:=86) K3 Ln Xb K2)<|tt (Zy (n:=4) (Ga _ _ _ ‹_›) K4 call128 (Zi 84 K3 Ze) J hw) fun _ _=>mv J<|dt (Xa K3)<|dt (Xa K3)<|tt (Zt (i:=3) K6 Yb K2 ⟨Zc J,Zc J,trivial⟩ J hw trivial) fun _ _=>Zd<|Za<|Zb<|Zf<|dt (Qm (i:=87) K3 Ln Xb K2)<|tt (Zy (n:=4) (Ga _ _ _ (Yef x hy0)) K4 call128 (Zi 85 K3 Ze) J hw) fun _ _=>mv J<|dt (Xa K3)<|dt (Xa K3)<|tt (Zt (i:=4) K6 Yb K2 ⟨Zc J,Zc J,trivial⟩ J hw trivial) fun _ _=>Zd<|Za<|Zb<|Ni [4] [3,4]<|Zw (n:=0) [(1,0),(0,1),(2,1),(3,3),(4,3)]<|Zh K2 (Yy (Qm (i:=4) K3 Xl Yb K2) K1)<|Yq J (Pu (Qm (i:=3) K3 Xl Yb K2) J) fun _ _=>Yq J (Zcz 3 J J K1 (fun ob=>Zt (i:=3) K6 Yb K2 ⟨Zc J,Zc J,trivial⟩ J hw ob)) fun _ _=>Qs J (Zt (i:=4) K6 Yb K2 ⟨Zc J,Zc J,trivial⟩ J hw trivial) fun _ _=>Qs J (Pu (Ok J J) J) fun _ _=>Yi<|Yh<|Za<|Zp<|Yr (.inl J) hsc () _ (fun a w hs=>Ztg hs results158 (Yw (i:=3) J J Xl Yb J) (Yw (i:=4) J J Xl Yb J) J) J trivial J Zm
theorem Zcw(s t:Bool)(v w:Value)(x y:Int)(hs:sg s x)(ht:sg t y)(hy0:y≠0)(hx:bl x.natAbs≤1000000000:=by omega)(hy:bl y.natAbs≤1000000000:=by omega):Od prog 163 #[.agg #[.bool s,v],.agg #[.bool t,w]] [Dj v x.natAbs,Dj w y.natAbs] (Zc7 x y):=by
 refine Yg func163 J ntmps163 J K2 fun w0 sc hw hsc=>?_
 simp only [Zs,Zq]
 have hb:=Zue x.natAbs y.natAbs
 have hg0:Kw x y≠0:=Yfc hy0
 have hgs:sg t (Kw x y):=Yed ht hy0
 have hga:=Zdd x y
 have hq1:=Zjp x (Kw x y)
 have hq2:=Zjp y (Kw x y)
 refine Zb<|Zf<|tt (Xp (i:=3) K5 hw) fun b _=>tt (Xp (i:=4) K5 hw) fun b_2 _=>tt (Xi (i:=5) K2 zeroValue41 K2 hw) fun b_3 _=>Zo J<|Zd<|Za<|Zb<|Fy (fun _=>False) [9]<|Zw (n:=4) [(0,0),(1,0),(2,0),(3,0),(4,0),(5,0)]<|Zh K2 (Yo (Qy K2 Mt J zT4 K2))<|Zh K2 (Yo (Mc (i:=4) K3 iA4 J))<|Zh K2 (Yo (Qy K2 Mt J Fh K2))<|Zh K2 (Yo (Mc (i:=3) K3 Fq J))<|Zh K2 (Yo (Qy K2 Mt J Fh K2))<|Zh K2 (Yo (Mc (i:=4) K3 Fq J))<|Yi<|Qg (n:=3) 6 8 ?_ ?_
 ·refine Yd J (Yf (n:=81) (Zo1 _ _ _ _) K5 call185 (Zi 1 K3 (Zi 2 K3 Ze)) J hw) fun v _=>Zw (n:=0) [(7,0),(8,1),(9,3)]<|Zh K2 (Yo (Oi (ivs:=[(0,_),(1,_)]) J K4 (fun a w hs=>Mb ((Zc J) a w hs) ((Zj (i:=81) J Zg) a w hs))))<|Yq J (Xi (i:=82) K2 zeroValue154 K2 hw) fun b_4 _=>Qs J (Zt (i:=82) K6 Xb K2 ⟨Zc J,Zj (i:=81) J Zg,trivial⟩ J hw trivial) fun _ _=>Yi<|Yh<|Za<|Zb<|Yl (Fc 81 (Zwa _ x y) J J)<|Zf<|dt (Qm (i:=3) K3 Ln Xb K2)<|dt (Qm (i:=82) K3 Ln Xb K2)<|tt (Yf (n:=6) (Pt _ _ _ _ x (Kw x y) hs hgs (by omega) (by rw [hga];omega) hg0) K5 Ml (Zi 1 K3 (Zi 81 K3 Ze)) J hw) fun g hg=>mv J<|dt (Xa K3)<|dt (Xa K3)<|tt (Zt (i:=3) K6 Xb K2 ⟨Zc J,Zj (i:=6) J Zg,trivial⟩ J hw trivial) fun _ _=>Zd<|Za<|Zb<|Zf<|dt (Qm (i:=4) K3 Ln Xb K2)<|dt (Qm (i:=82) K3 Ln Xb K2)<|tt (Yf (n:=8) (Pt _ _ _ _ y (Kw x y) ht hgs (by omega) (by rw [hga];omega) hg0) K5 Ml (Zi 2 K3 (Zi 81 K3 Ze)) J hw) fun g_2 hg_2=>mv J<|dt (Xa K3) ?_
  refine dt (Xa K3)<|tt (Zt (i:=4) K6 Xb K2 ⟨Zc J,Zj (i:=8) J Zg,trivial⟩ J hw trivial) fun _ _=>Zd<|Za<|Zb<|Zf<|dt (Qm (i:=3) K3 Ln Xb K2)<|tt (Zy (n:=9) (Ga _ _ _ ‹_›) K4 call128 (Zi 6 K3 Ze) J hw) fun _ _=>mv J<|dt (Xa K3)<|dt (Xa K3)<|tt (Xi (i:=10) K2 zeroValue31 K2 hw) fun b_5 _=>tt (Zt (i:=10) K6 Yb K2 ⟨Zc J,Zc J,trivial⟩ J hw trivial) fun _ _=>Zo J<|Zd<|Za<|Zb<|Zf<|dt (Qm (i:=4) K3 Ln Xb K2)<|tt (Zy (n:=10) (Ga _ _ _ ‹_›) K4 call128 (Zi 8 K3 Ze) J hw) fun _ _=>mv J<|dt (Xa K3)<|dt (Xa K3)<|tt (Xi (i:=11) K2 zeroValue31 K2 hw) fun b_6 _=>tt (Zt (i:=11) K6 Yb K2 ⟨Zc J,Zc J,trivial⟩ J hw trivial) fun _ _=>Zo J<|Zd<|Za<|Zb<|Zb<|Zf<|mv J<|dt (Pk K3)<|mv J<|Pb (d:=43) J (fun s460=>?_) (fun s460=>?_)
  ·exact Yj K3<|Yj K3<|dt (Om K3)<|Zd<|Za<|Of J<|Zb<|Zf<|dt (Oi (ivs:=[]) J trivial (fun a w hs=>Zug))<|tt (Zt (i:=5) K6 Ym K2 ⟨Zc J,Zc J,Zc J,Zc J,trivial⟩ J hw trivial) fun _ _=>Zo J<|Zd<|Za<|Zp<|Yp<|Yr (.inl J) hsc () _ (fun a w hs=>Pz hs results163 (Yw (i:=5) J J Xf Ym J) J) (Zb5 (by unfold Hd;first | exact .inl (Zal ‹_›) | exact .inr (Zal ‹_›))) trivial J Zm
  ·refine Zx (Ya K2) K2<|Zx (Pk K3) K2<|dt (Ql K3)<|Zd<|Za<|Zr J (fun h460=>?_) (fun h460=>?_)
   ·exact Zb<|Zf<|dt (Oi (ivs:=[]) J trivial (fun a w hs=>Zug))<|tt (Zt (i:=5) K6 Ym K2 ⟨Zc J,Zc J,Zc J,Zc J,trivial⟩ J hw trivial) fun _ _=>Zo J<|Zd<|Za<|Zp<|Yp<|Yr (.inl J) hsc () _ (fun a w hs=>Pz hs results163 (Yw (i:=5) J J Xf Ym J) J) (Zb5 (by unfold Hd;first | exact .inl (Zal ‹_›) | exact .inr (Zal ‹_›))) trivial J Zm
   ·exact Zl<|Za<|Zb<|Zf<|dt (Qm (i:=10) K3 Xl Yb K2)<|dt (Qm (i:=11) K3 Xl Yb K2)<|dt (Oi (ivs:=[(0,_),(1,_)]) J K4 (fun a w hs=>Zfn))<|tt (Zt (i:=5) K6 Ym K2 ⟨Zc J,Zc J,Zc J,Zc J,trivial⟩ J hw trivial) fun _ _=>Zo J<|Zd<|Za<|Zp<|Yr (.inl J) hsc () _ (fun a w hs=>Pz hs results163 (Yw (i:=5) J J Xf Ym J) J) (Zq2 (Decidable.byContradiction ‹_›) (Decidable.byContradiction ‹_›)) trivial J Zm
 ·refine Yd J (Xi (i:=82) K2 zeroValue154 K2 hw) fun b_7 _=>Zw (n:=0) [(6,1),(7,0),(9,3)]<|Yq J (Yf (n:=81) (Zo1 _ _ _ _) K5 call185 (Zi 1 K3 (Zi 2 K3 Ze)) J hw) fun v_2 _=>Zh K2 (Yo (Oi (ivs:=[(0,_),(1,_)]) J K4 (fun a w hs=>Mb ((Zc J) a w hs) ((Zj (i:=81) J Zg) a w hs))))<|Qs J (Zt (i:=82) K6 Xb K2 ⟨Zc J,Zj (i:=81) J Zg,trivial⟩ J hw trivial) fun _ _=>Yi<|Yh<|Za<|Zb<|Yl (Fc 81 (Zwa _ x y) J J)<|Zf<|dt (Qm (i:=3) K3 Ln Xb K2)<|dt (Qm (i:=82) K3 Ln Xb K2)<|tt (Yf (n:=12) (Pt _ _ _ _ x (Kw x y) hs hgs (by omega) (by rw [hga];omega) hg0) K5 Ml (Zi 1 K3 (Zi 81 K3 Ze)) J hw) fun g_3 hg_3=>mv J<|dt (Xa K3)<|dt (Xa K3)<|tt (Zt (i:=3) K6 Xb K2 ⟨Zc J,Zj (i:=12) J Zg,trivial⟩ J hw trivial) fun _ _=>Zd<|Za<|Zb<|Zf<|dt (Qm (i:=4) K3 Ln Xb K2)<|dt (Qm (i:=82) K3 Ln Xb K2)<|tt (Yf (n:=14) (Pt _ _ _ _ y (Kw x y) ht hgs (by omega) (by rw [hga];omega) hg0) K5 Ml (Zi 2 K3 (Zi 81 K3 Ze)) J hw) fun g_4 hg_4=>mv J<|dt (Xa K3) ?_
  refine dt (Xa K3)<|tt (Zt (i:=4) K6 Xb K2 ⟨Zc J,Zj (i:=14) J Zg,trivial⟩ J hw trivial) fun _ _=>Zd<|Za<|Zb<|Zf<|dt (Qm (i:=3) K3 Ln Xb K2)<|tt (Zy (n:=15) (Ga _ _ _ ‹_›) K4 call128 (Zi 12 K3 Ze) J hw) fun _ _=>mv J<|dt (Xa K3)<|dt (Xa K3)<|tt (Xi (i:=16) K2 zeroValue31 K2 hw) fun b_8 _=>tt (Zt (i:=16) K6 Yb K2 ⟨Zc J,Zc J,trivial⟩ J hw trivial) fun _ _=>Zo J<|Zd<|Za<|Zb<|Zf<|dt (Qm (i:=4) K3 Ln Xb K2)<|tt (Zy (n:=16) (Ga _ _ _ ‹_›) K4 call128 (Zi 14 K3 Ze) J hw) fun _ _=>mv J<|dt (Xa K3)<|dt (Xa K3)<|tt (Xi (i:=17) K2 zeroValue31 K2 hw) fun b_9 _=>tt (Zt (i:=17) K6 Yb K2 ⟨Zc J,Zc J,trivial⟩ J hw trivial) fun _ _=>Zo J<|Zd<|Za<|Zb<|Zb<|Zf<|mv J<|dt (Pk K3)<|mv J<|Pb (d:=43) J (fun s460_2=>?_) (fun s460_2=>?_)
  ·exact Yj K3<|Yj K3<|dt (Om K3)<|Zd<|Za<|Of J<|Zb<|Zf<|dt (Oi (ivs:=[]) J trivial (fun a w hs=>Zug))<|tt (Zt (i:=5) K6 Ym K2 ⟨Zc J,Zc J,Zc J,Zc J,trivial⟩ J hw trivial) fun _ _=>Zo J<|Zd<|Za<|Zp<|Yp<|Yr (.inl J) hsc () _ (fun a w hs=>Pz hs results163 (Yw (i:=5) J J Xf Ym J) J) (Zb5 (by unfold Hd;first | exact .inl (Zal ‹_›) | exact .inr (Zal ‹_›))) trivial J Zm
  ·refine Zx (Ya K2) K2<|Zx (Pk K3) K2<|dt (Ql K3)<|Zd<|Za<|Zr J (fun h460_2=>?_) (fun h460_2=>?_)
   ·exact Zb<|Zf<|dt (Oi (ivs:=[]) J trivial (fun a w hs=>Zug))<|tt (Zt (i:=5) K6 Ym K2 ⟨Zc J,Zc J,Zc J,Zc J,trivial⟩ J hw trivial) fun _ _=>Zo J<|Zd<|Za<|Zp<|Yp<|Yr (.inl J) hsc () _ (fun a w hs=>Pz hs results163 (Yw (i:=5) J J Xf Ym J) J) (Zb5 (by unfold Hd;first | exact .inl (Zal ‹_›) | exact .inr (Zal ‹_›))) trivial J Zm
   ·exact Zl<|Za<|Zb<|Zf<|dt (Qm (i:=16) K3 Xl Yb K2)<|dt (Qm (i:=17) K3 Xl Yb K2)<|dt (Oi (ivs:=[(0,_),(1,_)]) J K4 (fun a w hs=>Zfn))<|tt (Zt (i:=5) K6 Ym K2 ⟨Zc J,Zc J,Zc J,Zc J,trivial⟩ J hw trivial) fun _ _=>Zo J<|Zd<|Za<|Zp<|Yr (.inl J) hsc () _ (fun a w hs=>Pz hs results163 (Yw (i:=5) J J Xf Ym J) J) (Zq2 (Decidable.byContradiction ‹_›) (Decidable.byContradiction ‹_›)) trivial J Zm
theorem Zjr(x y:Int)(hx:bl x.natAbs≤65536)(hy:bl y.natAbs≤65536)(hy0:y≠0:=by omega):Od prog 119 #[wv x,wv y] [] (Zc7 x y):=by
 refine Yg func119 J ntmps119 J trivial fun w0 sc hw hsc=>?_
 simp only [Zs,Zq]
 refine Zb<|Zf<|tt (Xp (i:=1) K5 hw) fun b _=>tt (Xp (i:=2) K5 hw) fun b_2 _=>tt (Xi (i:=3) K2 zeroValue41 K2 hw) fun b_3 _=>Zo J<|Zd<|Za<|Zb<|Zb<|Zf<|dt (Qm (i:=1) K3 Xl Yb K2)<|dt (Qm (i:=2) K3 Xl Yb K2)<|tt (Yf (n:=3) (Hm _ _ ‹_› ‹_›) K5 call129 Ze J hw) fun _ _=>dt (Xh J J)<|Zd<|Za<|Yk J<|Zl<|Za<|Zb<|Zb<|Zf<|dt (Qy K2 Db J zT9 K2)<|dt (Mc (i:=2) K3 iA9 J)<|dt (Zlj J J J J)<|Zd<|Za<|Zr J (fun h471=>?_) (fun h471=>?_)
 ·rw [Kr]at h471
  exfalso;exact hy0 (by have:=(Ox (by omega:2≤256) y.natAbs).1 h471;omega)
 ·refine Zl<|Za<|Zb<|Qj (fun _=>False) [(0,0),(2,0),(1,1),(3,1),(4,1),(5,0),(6,0),(7,3),(8,3)] ?_ ?_
  ·kernel_rfl
  exact Zh K2 (Yo (Qm (i:=1) K3 Xl Yb K2))<|Zh K2 (Yo (Qm (i:=2) K3 Xl Yb K2))<|Yq J (Zy (n:=4) (Oe _ _ (Xs _)) K4 Ld Ze J hw) fun g hg=>Yq J (Zy (n:=5) (Oe _ _ (Xs _)) K4 Ld Ze J hw) fun g_2 hg_2=>Yq J (Yf (n:=5) (Zcw _ _ _ _ _ _ ‹_› ‹_› hy0) K5 call163 (Zi 4 K3 (Zi 5 K3 Ze)) J hw) fun _ _=>Zh K2 (Yo (Xa K3))<|Zh K2 (Yo (Xa K3))<|Qs J (Zt (i:=3) K6 Ym K2 ⟨Zc J,Zc J,Zc J,Zc J,trivial⟩ J hw trivial) fun _ _=>Qs J (Pu (Ok J J) J) fun _ _=>Pv<|Za<|Zp<|Yr (.inl J) hsc () _ (fun a w hs=>Pz hs results119 (Yw (i:=3) J J Xf Ym J) J) J trivial J Zm
theorem Bc(b:Bool)(s:ByteArray)(c:Bool)(t:ByteArray):Od prog 117 #[.agg #[.bool b,.string s,.bool c,.string t]] [] (.bool (okR b s c t)):=by
 refine Yg func117 J ntmps117 J trivial fun w0 sc hw hsc=>?_
 simp only [Zs,Zq]
 refine Zb<|Zf<|tt (Xp (i:=1) K5 hw) fun b _=>Zo J<|Zd<|Za<|Zb<|Zf<|dt (Qy K2 Hn J Yb K2)<|dt (Qm (i:=1) K3 Xl Yb K2)<|dt (Qy K2 Hn J Yb K2)<|dt (Qm (i:=1) K3 Xl Yb K2)<|tt (Yf (n:=1) (Zme _ _ _ _) K5 call129 Ze J hw) fun _ _=>mv J<|Kx (d:=8) J (fun s451=>?_) (fun s451=>?_)
 ·have hcc:okW c t=true:=by simp_all
  have hok:=Zow hcc
  obtain⟨hk1,hk2,hk3⟩:=Classical.choose_spec hok
  generalize Classical.choose hok=z at hk1 hk2 hk3 ⊢
  subst hk2;subst hk3
  try clear hok
  exact Zx (Qy K2 Hn J Yb K2) K2<|Zx (Qm (i:=1) K3 Xl Yb K2) K2<|Pp (Zy (n:=1) (Km z hk1) K4 call104 Ze J hw) K3 fun _ _=>Zx (Fd K3) K2<|dt (Om K3)<|Zo J<|Zd<|Za<|Zp<|xU hsc results117 J J (by first | rw [Zrg (by simp_all) hk1] | (unfold okR;simp_all))
 ·exact Yj K3<|Yj K3<|Yj K3<|Yj K3<|dt (Ql K3)<|Zo J<|Zd<|Za<|Zp<|xU hsc results117 J J (by first | rw [Zrg (by simp_all) hk1] | (unfold okR;simp_all))
theorem Oh(x y:Int)(hy0:0<y)(hx:bl x.natAbs≤65536:=by omega)(hy:bl y.natAbs≤65536:=by omega):Cal prog 117 #[rX x y] [] false (G:=Unit) (fun _=>True) (fun _=> .bool true) (fun _=>[]):=Zfd hx hy hy0▸Bc _ _ _ _
theorem Xw(x:Int)(hx:inI x):Od prog 81 #[.int .i64 x] [] (wv x):=by
 refine Yg func81 J ntmps81 J trivial fun w0 sc hw hsc=>?_
 simp only [Zs,Zq]
 have hxa:=hx.1
 have hxb:=hx.2
 have hxU:x.natAbs<U:=by simp only [U];omega
 have hxl:bl x.natAbs≤64:=(Mj 64 _).2 (by rw [←Ydo];exact hxU)
 refine Zb<|Zf<|tt (Xi (i:=1) K2 zeroValue31 K2 hw) fun b _=>Zd<|Za<|Zb<|Zf<|mv J<|dt (Yf3 (r:=x%18446744073709551616) J J uT3 Zcx J)<|Zo J<|Zd<|Za<|Iy [(0,_),(2,_)] [(0,_),(1,_)] (fun(_:Unit)=>[(3,.int .u64 ((x.natAbs:Nat):Int))]) (fun(_:Unit)=>[]) (fun(_:Unit)=>True) K2 K2 ?_ ?_
 ·refine Zb<|Zf<|mv J<|dt (Pa K3)<|Zd<|Za<|Zr J (fun h276=>?_) (fun h276=>?_)
  ·exact Zf<|mv J<|dt (u_negm (r:=x.natAbs) J J (by omega))<|Zo J<|Zd<|Xd () trivial ⟨by first | rfl | (rw [show x%18446744073709551616=((x.natAbs:Nat):Int) by omega];rfl),rfl,rfl,trivial⟩ K2
  ·exact Zl<|Xd () trivial ⟨by first | rfl | (rw [show x%18446744073709551616=((x.natAbs:Nat):Int) by omega];rfl),rfl,rfl,trivial⟩ K2
 ·rintro _ -
  simp only [CA,NA]
  exact Zb<|Zf<|mv J<|dt (Pa K3)<|mv J<|tt (Kp (i:=2) (ivs:=[(0,_)]) (enc:=Lk) [x.natAbs] K4 Xr ti149 K5 pU.cells K2 hw) fun v _=>tt (Zy (n:=2) (Nz _ _) K4 call127 (Qk 2 J J pU Ze) J hw) fun _ _=>Qx (Za6 2 J J pU)<|Qx (Zeo 2 (Zhk hxU) J J)<|dt (Oi (ivs:=[(0,_),(1,_)]) J K4 (fun a w hs=>Mb ((Zc J) a w hs) ((Zj (i:=2) J (Yu pU)) a w hs)))<|tt (Zy (n:=2) (Ga _ _ x (Xs _)) K4 call128 (Qk 2 J J pU Ze) J hw) fun _ _=>mv J<|dt (Xa K3)<|dt (Xa K3)<|tt (Xi (i:=3) K2 zeroValue31 K2 hw) fun b_2 _=>tt (Zt (i:=3) K6 Yb K2 ⟨Zc J,Zc J,trivial⟩ J hw trivial) fun _ _=>Zo J<|Zd<|Za<|Zb<|Zf<|dt (Qm (i:=3) K3 Xl Yb K2)<|tt (Zt (i:=1) K6 Yb K2 ⟨Zc J,Zc J,trivial⟩ J hw trivial) fun _ _=>Zd<|Za<|Zp<|Yr (.inl J) hsc () _ (fun a w hs=>Nr hs results81 (Yw (i:=1) J J Xl Yb J)) (by rw [Ma (by omega)]<;>rfl) trivial J Zm
theorem Zd6(v:Value)(xs:List Int)(hs:Sz 65536 xs):Cal prog 152 #[v] [Pw 2 wv v xs] true (G:=Unit) (fun _=>True) (fun _=>Ix v (tzl xs).length) (fun _=>[Pw 2 wv (Ix v (tzl xs).length) (tzl xs)]):=by
 refine Yg func152 J ntmps152 J K1 fun w0 sc hw hsc=>?_
 simp only [Zs,Zq]
 refine Mi (Zty (i:=1) J Zg) fun hself=>Mi (Hk (i:=1) J Zg) fun hlen=>Zb<|Zf<|Zo J<|Zd<|Za<|Zb<|Zn<|Px [] [(0,_)] (fun(k:Nat)=>[(0,Ix v k)]) (fun(k:Nat)=>[(1,Pw 2 wv (Ix v k) (xs.take k))]) (fun(k:Nat)=>(k≤xs.length)∧(tzl (xs.take k)=tzl xs)) (fun(k:Nat)=>k) xs.length ⟨Nat.le_refl _,by rw [List.take_length]⟩ ⟨by rw [hself];rfl,trivial⟩ ⟨by rw [hself,List.take_length];rfl,rfl,trivial⟩ ?_
 rintro k ⟨hk,ht⟩
 simp only [CA,NA]
 have hl:(xs.take k).length=k:=by rw [List.length_take];omega
 refine Zb<|Zb<|Zf<|mv J<|dt (Yc J J (i:=1) J Zg Xn)<|dt (Fd K3)<|mv J<|Pb (d:=6) J (fun s35=>?_) (fun s35=>?_)
 ·refine Zx (Ya K2) K2<|Zx (Ya K2) K2<|Zx (Yc J J (i:=1) J Zg Xn) K2<|Zx (Pq K3) K2<|Zx (Nj (ii:=1) (i:=k-1) K4 Zg Xn Yb) K2<|Zx (Ms (ii:=1) 0 K3 Zg pV) K2<|Pp (Zy (n:=1) (Km _ ((hs.take _).getD _)) K4 call104 Ze J hw) K3 fun _ _=>Zx (Hf K3) K2<|dt (Om K3)<|Zd<|Za<|Zr J (fun h35=>?_) (fun h35=>?_)
  ·have hstep:=Zqe hk (by omega) (Zj1 (k:=k) (by omega) (Int.sign_eq_zero_iff_zero.1 ‹_›):cf xs (k-1)=0)
   exact Zl<|Za<|Zn<|Zf<|mv J<|mv J<|dt (Yc J J (i:=1) J Zg Xn)<|dt (Pq K3)<|dt (Zwr (ii:=1) (i:=k-1) J J J J Zg Xn Yb)<|Zo J<|Zd<|Qh<|Qn (Yaa 1 1 (k-1) J J)<|Xg (k-1) ⟨by first | omega | (dsimp only<;>omega),by rw [←ht,←hstep]⟩ (by first | omega | (dsimp only<;>omega)) ⟨by rw [←Em v k (k-1)];rfl,trivial⟩ ⟨by rw [Em,List.take_take,Nat.min_eq_left (by omega)];rfl,rfl,trivial⟩
  ·refine Yt<|Zv<|Zv<|Pd<|Za<|Zb<|Zf<|mv J<|Zo J<|Zd<|Za<|Zp ?_
   have hx:tzl xs=xs.take k:=by rw [←ht];exact Zfv hk (by first | (left;omega) | (right;exact Zfx (k:=k) (by omega) ‹_›))
   exact xG hsc () results152 J (by rw [hx,hl]) trivial J (Lg 1 K3 (by rw [hx,hl]) Zm)
 ·refine Yj K3<|Yj K3<|Yj K3<|Yj K3<|Yj K3<|Yj K3<|Yj K3<|Yj K3<|dt (Ql K3)<|Zd<|Za<|Yk J<|Yt<|Zv<|Zv<|Pd<|Za<|Zb<|Zf<|mv J<|Zo J<|Zd<|Za<|Zp ?_
  have hx:tzl xs=xs.take k:=by rw [←ht];exact Zfv hk (by first | (left;omega) | (right;exact Zfx (k:=k) (by omega) ‹_›))
  exact xG hsc () results152 J (by rw [hx,hl]) trivial J (Lg 1 K3 (by rw [hx,hl]) Zm)
theorem Zkm(v:Value)(r:List (Bool×ByteArray)):Od prog 49 #[v] [Pw 2 Zax v r] (.bool (okP r)):=by
 refine Yg func49 J ntmps49 J K1 fun w0 sc hw hsc=>?_
 simp only [Zs,Zq]
 refine Mi (Hk (i:=1) J Zg) fun hlen=>Zb<|Zf<|Zo J<|Zd<|Za<|Zb<|Zb<|Zf<|mv J<|dt (Yc J J (i:=1) J Zg Xn)<|mv J<|Zd<|Za<|Zn<|Px [(0,_),(5,_),(6,_)] [(0,_),(1,_)] (fun(k:Nat)=>[(7,.int .i64 (k:Int))]) (fun(k:Nat)=>[]) (fun(k:Nat)=>(k≤r.length)∧((r.take k).all (fun w=>okW w.1 w.2)=true)) (fun(k:Nat)=>r.length-k) 0 ⟨by first | omega | (dsimp only<;>omega),by simp⟩ K4 K2 ?_
 rintro k ⟨hk,ha⟩
 simp only [CA,NA]
 refine Zb<|Zf<|dt (Pa K3)<|Zd<|Za<|Zb<|Zr J (fun h51=>?_) (fun h51=>?_)
 ·refine Zl<|Za<|Zb<|Zn<|Zb<|Zf<|dt (Nj (ii:=1) K4 Zg Xn Yb J (by first | omega | (simp only [List.length_set];omega)))<|dt (Ms (ii:=1) (false,⟨#[]⟩) K3 Zg pW (by first | omega | (simp only [List.length_set];omega)))<|tt (Xi (i:=2) K2 zeroValue31 K2 hw) fun b _=>tt (Zt (i:=2) K6 Yb K2 ⟨Zc J,Zc J,trivial⟩ J hw trivial) fun _ _=>Zd<|Za<|Zb<|Zf<|dt (Qm (i:=2) K3 Xl Yb K2)<|tt (Zy (n:=2) (Aa _ _) K4 Zey Ze J hw) fun _ _=>dt (Xh J J)<|Zd<|Za<|Mx J (fun h52=>?_) (fun h52=>?_)
  ·exact Zb<|Zf<|Zo J<|Zd<|Za<|Zp<|Md<|Yp<|Yp<|Md<|Yp<|xU hsc results49 J J (by rw [Zvv (Xc (i:=k) (d:=(false,⟨#[]⟩))) (by simp_all)])
  ·exact Zl<|Qh<|Za<|Zf<|dt (Ov K3)<|mv J<|Zd<|Xg (k+1) ⟨by first | omega | (dsimp only<;>omega),by rw [Nw (false,⟨#[]⟩) _ _ (by omega),List.all_append,ha];simpa using h52⟩ (by first | omega | (dsimp only<;>omega)) K4 K2
 ·refine Yt<|Zv<|Zv<|Pd<|Za<|Zb ?_
  obtain rfl:k=r.length:=by omega
  rw [List.take_length]at ha
  obtain⟨xs,hxs,rfl⟩:=Zrf (List.all_eq_true.1 ha)
  have hsz:=Sz.of_mem hxs
  rw [List.length_map]at hlen
  refine Yl (Zn8 1 (q:=Pw 2 wv v xs) J J (Zuw v xs) (fun _ h=>h) J)<|Zf<|mv J<|dt (Yc J J (i:=1) J Zg Xn)<|dt (Ev J J J)<|mv J<|Pb (d:=18) J (fun s56=>?_) (fun s56=>?_)
  ·refine Zx (Ya K2) K2<|Zx (Yc J J (i:=1) J Zg Xn) K2<|Zx (Hf K3) K2<|Zx (Ya K2) K2<|Pb (d:=22) J (fun s56_2=>?_) (fun s56_2=>?_)
   ·exact Yj K3<|Yj K3<|Yj K3<|Yj K3<|Yj K3<|Yj K3<|Yj K3<|Yj K3<|Zx (Om K3) K2<|dt (Om K3)<|Zo J<|Zd<|Za<|Zp<|xU hsc results49 J J (by rw [Zox hxs];first | (simp_all;done) | (simp_all;omega))
   ·exact Zx (Ya K2) K2<|Zx (Ya K2) K2<|Zx (Yc J J (i:=1) J Zg Xn) K2<|Zx (Pq K3) K2<|Zx (Nj (ii:=1) (i:=xs.length-1) K4 Zg Xn Yb) K2<|Zx (Ms (ii:=1) 0 K3 Zg pV) K2<|Pp (Zy (n:=2) (Km _ (hsz.getD _)) K4 call104 Ze J hw) K3 fun _ _=>Zx (Pk K3) K2<|Zx (Ql K3) K2<|dt (Om K3)<|Zo J<|Zd<|Za<|Zp<|xU hsc results49 J J (by rw [Zox hxs];first | (simp_all;done) | (simp_all;omega))
  ·exact Yj K3<|Yj K3<|Yj K3<|Yj K3<|Zdg J J<|Zdg J J<|Zdg J J<|Zdg J J<|Zdg J J<|Zdg J J<|Zdg J J<|Zdg J J<|Yj K3<|dt (Ql K3)<|Zo J<|Zd<|Za<|Zp<|xU hsc results49 J J (by rw [Zox hxs];first | (simp_all;done) | (simp_all;omega))
theorem Qt(v:Value)(xs:List Int)(h:Vp xs):Cal prog 49 #[v] [Pw 2 wv v xs] false (G:=Unit) (fun _=>True) (fun _=> .bool true) (fun _=>[]):=okP_wr h▸(Zkm v (xs.map wr)).imp (Zs6 v xs) (fun _ h=>h)
theorem Lj(v:Value)(xs:List Int)(hs:Sz 65536 xs):Od prog 149 #[v] [Pw 2 wv v xs] (.int .i64 (Pf xs:Int)):=by
 refine Yg func149 J ntmps149 J K1 fun w0 sc hw hsc=>?_
 simp only [Zs,Zq]
 refine Mi (Hk (i:=1) J Zg) fun hlen=>Zb<|Zf<|Zo J<|Zd<|Za<|Zb<|Zf<|Zo J<|Zd<|Za<|Zb<|Zb<|Zf<|mv J<|dt (Yc J J (i:=1) J Zg Zxp)<|mv J<|Zd<|Za<|Zn<|Px [(6,_),(7,_)] [(0,_),(1,_)] (fun(k:Nat)=>[(8,.int .i64 (k:Int)),(3,.int .i64 (Pf (xs.take k):Int))]) (fun(k:Nat)=>[]) (fun(k:Nat)=>k≤xs.length) (fun(k:Nat)=>xs.length-k) 0 (by first | omega | (dsimp only<;>omega)) K4 K2 ?_
 rintro k hk
 simp only [CA,NA]
 refine Zb<|Zf<|dt (Pa K3)<|Zd<|Za<|Zb<|Zr J (fun h83=>?_) (fun h83=>?_)
 ·exact Zl<|Za<|Zb<|Zn<|Zb<|Zf<|dt (Nj (ii:=1) K4 Zg Zxp Yb J (by first | omega | (simp only [List.length_set];omega)))<|dt (Ms (ii:=1) 0 K3 Zg pV (by first | omega | (simp only [List.length_set];omega)))<|tt (Xi (i:=2) K2 zeroValue31 K2 hw) fun b _=>tt (Zt (i:=2) K6 Yb K2 ⟨Zc J,Zc J,trivial⟩ J hw trivial) fun _ _=>Zd<|Za<|Zf<|mv J<|dt (Qm (i:=2) K3 Xl Yb K2)<|tt (Zy (n:=2) (Zjs _ (hs.getD _)) K4 call145 Ze J hw) fun _ _=>dt (Zsi J J J)<|Zo J<|Zd<|Qh<|Za<|Zf<|dt (Ov K3)<|mv J<|Zd<|Xg (k+1) (by first | omega | (dsimp only<;>omega)) (by first | omega | (dsimp only<;>omega)) ⟨J,by rw [Nw 0 _ _ (by omega),Yby];exact congrArg some (Zaw (by omega)),rfl,rfl,trivial⟩ K2
 ·exact Yt<|Zv<|Zv<|Pd<|Za<|Zb<|Zf<|mv J<|Zo J<|Zd<|Za<|Zp<|xU hsc results149 J J (by rw [List.take_of_length_le (by omega)])
theorem Zpc(bd:Nat)(t:TypeId)(e e2:Int)(n:Bool)(s:ByteArray):Zi0 prog 175 #[.pointer (some ⟨bd,0,none⟩),.agg #[.bool n,.string s],.int .i64 e2] [] false bd t #[.int .i64 e] (G:=Unit) (fun _=>True) (fun _=> .agg #[.bool n,.string s]) (fun _=>#[.int .i64 (if e=0 then e2 else e)]) (fun _=>[]):=by
 refine Zel func175 J ntmps175 J trivial fun w0 sc hw hsc=>?_
 simp only [Zs,Zq]
 refine Zb<|Zf<|tt (Xp (i:=2) K5 hw) fun b _=>tt (Xi (i:=3) K2 zeroValue31 K2 hw) fun b_2 _=>Zd<|Za<|Zb<|Zb<|Zf<|mv J<|dt (Zay J J)<|dt (Qy K2 Zjy J Ie K2)<|dt (Mc (i:=1) K3 Ee J)<|dt (Hf K3)<|Zd<|Za<|Zr J (fun h19=>?_) (fun h19=>?_)
 ·exact Zf<|mv J<|mv J<|dt (Zay J J)<|dt (Qy K2 Zjy J Ie K2)<|tt (Zt (i:=1) K6 Ie K2 ⟨Zc J,trivial⟩ J hw trivial) fun _ _=>Zd<|Za<|Zb<|Zf<|dt (Qm (i:=2) K3 Xl Yb K2)<|tt (Zt (i:=3) K6 Yb K2 ⟨Zc J,Zc J,trivial⟩ J hw trivial) fun _ _=>Zd<|Za<|Zp<|Ze0 (.inl J) hsc () _ (fun a w hs=>Nr hs results175 (Yw (i:=3) J J Xl Yb J)) J trivial 1 J (by simp_all [Ap]) J J Zm
 ·exact Zl<|Za<|Zb<|Zf<|dt (Qm (i:=2) K3 Xl Yb K2)<|tt (Zt (i:=3) K6 Yb K2 ⟨Zc J,Zc J,trivial⟩ J hw trivial) fun _ _=>Zd<|Za<|Zp<|Ze0 (.inl J) hsc () _ (fun a w hs=>Nr hs results175 (Yw (i:=3) J J Xl Yb J)) J trivial 1 J (by simp_all [Ap]) J J Zm
theorem d_mul_(bd:Nat)(e x y:Int)(hx:bl x.natAbs≤65536)(hy:bl y.natAbs≤65536):Zi0 prog 153 #[.pointer (some ⟨bd,0,none⟩),wv x,wv y] [] false bd 167 #[.int .i64 e] (G:=Unit) (fun _=>True) (fun _=>wv (Zbl (x*y))) (fun _=>#[.int .i64 (err e (x*y))]) (fun _=>[]):=by
 refine Zel func153 J ntmps153 J trivial fun w0 sc hw hsc=>?_
 simp only [Zs,Zq]
 refine Zb<|Zf<|tt (Xp (i:=2) K5 hw) fun b _=>tt (Xp (i:=3) K5 hw) fun b_2 _=>tt (Xi (i:=4) K2 zeroValue31 K2 hw) fun b_3 _=>Zd<|Za<|Zb<|Qj (fun x=>x=bd) [(0,0),(1,0),(2,0),(3,0),(4,0),(5,1),(6,0),(7,0),(8,1),(9,3)] ?_ ?_
 ·kernel_rfl
 exact Zh K2 (Ka 1 J (Ya K2))<|Zh K2 (Ka 1 J (Zay J J))<|Zh K2 (Ka 1 J (Qy K2 Zfu J Zfo K2))<|Zh K2 (Ka 1 J (Qm (i:=2) K3 Xl Yb K2))<|Zh K2 (Ka 1 J (Qm (i:=3) K3 Xl Yb K2))<|Yq J (Yf (n:=4) (Ab _ _ ‹_› ‹_›) K5 call139 Ze J hw) fun _ _=>Zh K2 (Ka 1 J (Xa K3))<|Zh K2 (Ka 1 J (Xa K3))<|Yq J (Nl (n:=4) (i:=1) (Zpc _ _ _ _ _ _) J J J K3 call175 J (by decide) Ze J hw J) fun _ _=>Qs J (Zt (i:=4) K6 Yb K2 ⟨Zc J,Zc J,trivial⟩ J hw trivial) fun _ _=>Pv<|Za<|Zp<|Ze0 (.inl J) hsc () _ (fun a w hs=>Nr hs results153 (Yw (i:=4) J J Xl Yb J)) J trivial 1 J J J J Zm
theorem Cg(bd:Nat)(x y:Int)(hx:bl x.natAbs≤65536)(hy:bl y.natAbs≤65536)(hz:bl (x*y).natAbs≤65536):Zi0 prog 153 #[.pointer (some ⟨bd,0,none⟩),wv x,wv y] [] false bd 167 #[.int .i64 0] (G:=Unit) (fun _=>True) (fun _=>wv (x*y)) (fun _=>#[.int .i64 0]) (fun _=>[]):=by
 have h:=d_mul_ bd 0 x y hx hy
 rw [Ma hz,Zt1 hz]at h;exact h
theorem d_add_(bd:Nat)(e x y:Int)(hx:bl x.natAbs≤65536)(hy:bl y.natAbs≤65536):Zi0 prog 159 #[.pointer (some ⟨bd,0,none⟩),wv x,wv y] [] false bd 167 #[.int .i64 e] (G:=Unit) (fun _=>True) (fun _=>wv (Zbl (x+y))) (fun _=>#[.int .i64 (err e (x+y))]) (fun _=>[]):=by
 refine Zel func159 J ntmps159 J trivial fun w0 sc hw hsc=>?_
 simp only [Zs,Zq]
 refine Zb<|Zf<|tt (Xp (i:=2) K5 hw) fun b _=>tt (Xp (i:=3) K5 hw) fun b_2 _=>tt (Xi (i:=4) K2 zeroValue31 K2 hw) fun b_3 _=>Zd<|Za<|Zb<|Qj (fun x=>x=bd) [(0,0),(1,0),(2,0),(3,0),(4,0),(5,1),(6,0),(7,0),(8,1),(9,3)] ?_ ?_
 ·kernel_rfl
 exact Zh K2 (Ka 1 J (Ya K2))<|Zh K2 (Ka 1 J (Zay J J))<|Zh K2 (Ka 1 J (Qy K2 Zfu J Zfo K2))<|Zh K2 (Ka 1 J (Qm (i:=2) K3 Xl Yb K2))<|Zh K2 (Ka 1 J (Qm (i:=3) K3 Xl Yb K2))<|Yq J (Yf (n:=4) (Cr _ _ ‹_› ‹_›) K5 call82 Ze J hw) fun _ _=>Zh K2 (Ka 1 J (Xa K3))<|Zh K2 (Ka 1 J (Xa K3))<|Yq J (Nl (n:=4) (i:=1) (Zpc _ _ _ _ _ _) J J J K3 call175 J (by decide) Ze J hw J) fun _ _=>Qs J (Zt (i:=4) K6 Yb K2 ⟨Zc J,Zc J,trivial⟩ J hw trivial) fun _ _=>Pv<|Za<|Zp<|Ze0 (.inl J) hsc () _ (fun a w hs=>Nr hs results159 (Yw (i:=4) J J Xl Yb J)) J trivial 1 J J J J Zm
theorem Zpl(bd:Nat)(x y:Int)(hx:bl x.natAbs≤65536)(hy:bl y.natAbs≤65536)(hz:bl (x+y).natAbs≤65536):Zi0 prog 159 #[.pointer (some ⟨bd,0,none⟩),wv x,wv y] [] false bd 167 #[.int .i64 0] (G:=Unit) (fun _=>True) (fun _=>wv (x+y)) (fun _=>#[.int .i64 0]) (fun _=>[]):=by
 have h:=d_add_ bd 0 x y hx hy
 rw [Ma hz,Zt1 hz]at h;exact h
theorem d_sub_(bd:Nat)(e x y:Int)(hx:bl x.natAbs≤65536)(hy:bl y.natAbs≤65536):Zi0 prog 137 #[.pointer (some ⟨bd,0,none⟩),wv x,wv y] [] false bd 167 #[.int .i64 e] (G:=Unit) (fun _=>True) (fun _=>wv (Zbl (x-y))) (fun _=>#[.int .i64 (err e (x-y))]) (fun _=>[]):=by
 refine Zel func137 J ntmps137 J trivial fun w0 sc hw hsc=>?_
 simp only [Zs,Zq]
 refine Zb<|Zf<|tt (Xp (i:=2) K5 hw) fun b _=>tt (Xp (i:=3) K5 hw) fun b_2 _=>tt (Xi (i:=4) K2 zeroValue31 K2 hw) fun b_3 _=>Zd<|Za<|Zb<|Qj (fun x=>x=bd) [(0,0),(1,0),(2,0),(3,0),(4,0),(5,1),(6,0),(7,0),(8,1),(9,3)] ?_ ?_
 ·kernel_rfl
 exact Zh K2 (Ka 1 J (Ya K2))<|Zh K2 (Ka 1 J (Zay J J))<|Zh K2 (Ka 1 J (Qy K2 Zfu J Zfo K2))<|Zh K2 (Ka 1 J (Qm (i:=2) K3 Xl Yb K2))<|Zh K2 (Ka 1 J (Qm (i:=3) K3 Xl Yb K2))<|Yq J (Yf (n:=4) (Zp9 _ _ ‹_› ‹_›) K5 call140 Ze J hw) fun _ _=>Zh K2 (Ka 1 J (Xa K3))<|Zh K2 (Ka 1 J (Xa K3))<|Yq J (Nl (n:=4) (i:=1) (Zpc _ _ _ _ _ _) J J J K3 call175 J (by decide) Ze J hw J) fun _ _=>Qs J (Zt (i:=4) K6 Yb K2 ⟨Zc J,Zc J,trivial⟩ J hw trivial) fun _ _=>Pv<|Za<|Zp<|Ze0 (.inl J) hsc () _ (fun a w hs=>Nr hs results137 (Yw (i:=4) J J Xl Yb J)) J trivial 1 J J J J Zm
theorem Zt3(bd:Nat)(x y:Int)(hx:bl x.natAbs≤65536)(hy:bl y.natAbs≤65536)(hz:bl (x-y).natAbs≤65536):Zi0 prog 137 #[.pointer (some ⟨bd,0,none⟩),wv x,wv y] [] false bd 167 #[.int .i64 0] (G:=Unit) (fun _=>True) (fun _=>wv (x-y)) (fun _=>#[.int .i64 0]) (fun _=>[]):=by
 have h:=d_sub_ bd 0 x y hx hy
 rw [Ma hz,Zt1 hz]at h;exact h
theorem Yc6(bd:Nat)(v:Value)(xs:List Int)(hs:Sz 65536 xs):Cal prog 154 #[.pointer (some ⟨bd,0,none⟩),v] [Df bd 167 #[.int .i64 0],Pw 2 wv v xs] true (G:=Unit) (fun _=>True) (fun _=> .tuple #[Ix v (tzl xs).length,.int .i64 0]) (fun _=>[Pw 2 wv (Ix v (tzl xs).length) (tzl xs)]):=by
 refine Yg func154 J ntmps154 J K2 fun w0 sc hw hsc=>?_
 simp only [Zs,Zq]
 refine Zb<|Zf<|Zo J<|Zo J<|Zd<|Za<|Zb<|Zb<|Zf<|mv J<|dt (Zay J J)<|dt (Qy K2 Zfu J Zfo K2)<|dt (Qy K2 Zjy J Ie K2)<|dt (Zix (i:=1) J J J Ee J)<|dt (Pk K3)<|Zd<|Za<|Zr J (fun h43=>?_) (fun h43=>?_)
 ·exfalso;simp_all
 ·exact Zl<|Za<|Zb<|Zf<|mv J<|tt (Zy (n:=3) (Zd6 _ _ ‹_›) K4 call152 (Zi 2 K3 Ze) J hw) fun _ _=>Zo J<|Zo J<|Zd<|Za<|Zp<|Yr (.inl J) hsc () _ (fun a w hs=>Pz hs results154 J J) J trivial J (Kg 3 K3 Zm)
end Go.Sky

