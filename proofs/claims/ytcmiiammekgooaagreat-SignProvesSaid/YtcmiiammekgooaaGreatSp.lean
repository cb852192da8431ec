/- The law: part 22. No conditions but those that each theorem names. -/
import Derived.Test.YtcmiiammekgooaaGreatSp20
set_option linter.all false
set_option maxHeartbeats 4000000
namespace Go.Sky
open Go.Proofs
theorem Zl8(v w u w2 u2 p9:Value)(zs:List (Int×SL))(ps:List PTs)(a b:R2)(hd:Cvd (Zk zs))(ha:Ef a)(hb:Ef b)(hp:Zsw ps)(hk:Zg7 (Zk zs) ps a b=true):Cal Tryz.prog 40 #[v,.agg #[.bool (decide (a.1<0)),w,.bool (decide (a.2<0)),u],.agg #[.bool (decide (b.1<0)),w2,.bool (decide (b.2<0)),u2],p9] [pp v zs,Me w a.1.natAbs,Me u a.2.natAbs,Me w2 b.1.natAbs,Me u2 b.2.natAbs,Pw 9 Fr p9 ps] false (G:=Unit) (fun _=>True) (fun _=> .bool true) (fun _=>[]):=by
 have h:=Zx3 v w u w2 u2 p9 zs ps a b hd ha hb hp
 rw [hk]at h;exact h
theorem Zn7(v:Value)(xs:List Int)(a b:R2)(hd:Cvd xs)(ha:E32 a)(hb:E32 b):Cal Tryz.prog 38 #[v,.agg #[.bool (decide (a.1<0)),.string (Xk a.1.natAbs),.bool (decide (a.2<0)),.string (Xk a.2.natAbs)],.agg #[.bool (decide (b.1<0)),.string (Xk b.1.natAbs),.bool (decide (b.2<0)),.string (Xk b.2.natAbs)]] [Pw 2 wv v xs] true (G:=Value) (fun r=>True) (fun r=> .tuple #[r,.int .i64 (pE xs a b)]) (fun r=>[Pw 9 Fr r (pL xs a b)]):=by
 by_cases hc:0<Iz a b
 ·obtain⟨h1,h2⟩:=Yay (xs:=xs) hc
  exact Zsr h1 (by rw [h2,if_pos hc]) (Zn5 v xs a b hd ha hb hc)
 ·cases hn:Bj (Qq xs) (Gz xs) a b with
  | true=>
   obtain⟨h1,h2⟩:=pv_is hc hn
   exact Zsr h1 (by rw [h2]) (Zid v xs a b hd ha hb hc hn)
  | false=>
   obtain⟨h1,h2⟩:=pv_ok hc hn
   rw [h1,h2];exact Zqs v xs a b hd ha hb hc hn
open Go.Proofs.Tryz
set_option maxRecDepth 20000
set_option maxHeartbeats 4000000
set_option linter.unusedSimpArgs false
theorem Zrx(v:Value)(r:List (Bool×ByteArray))(z1 z2:RZ)(hn:(smR r && [z1,z2].all enR)=false):Od prog 7 #[v,.agg #[.bool z1.1.1,.string z1.1.2,.bool z1.2.1,.string z1.2.2],.agg #[.bool z2.1.1,.string z2.1.2,.bool z2.2.1,.string z2.2.2]] [Pw 2 Zax v r] (.bool true):=by
 refine Yg func7 J ntmps7 J K1 fun w0 sc hw hsc=>?_
 simp only [Zs,Zq]
 refine Yl (Nc 999 2 31 wv)<|Yl (Qw 999 J J pV)<|Zb<|Zf<|tt (Xp (i:=2) K5 hw) fun bx _=>tt (Xp (i:=3) K5 hw) fun bx_2 _=>Zo J<|Zd<|Za<|Zb<|Zb<|Zf<|mv J<|tt (Zy (n:=3) (Zfg _ _) K4 call10 (Zi 1 K3 Ze) J hw) fun _ _=>dt (Xh J J)<|mv J<|Kx (d:=18) J (fun s238=>?_) (fun s238=>?_)
 ·exact Yj K3<|Yj K3<|Yj K3<|Yj K3<|Yj K3<|dt (Om K3)<|Zd<|Za<|Of J<|Zb<|Zf<|tt (Xv (n:=3) (Ce) J J J trivial call11 Ze J hw) fun _ _=>Zo J<|Zd<|Za<|Zp<|Yp<|xU hsc results7 J J J
 ·refine Zx (Pj (i:=2) K3 Xf Ym K4) K2<|Zx (Pj (i:=3) K3 Xf Ym K4) K2<|Pp (Ic (i:=4) (ivs:=[(0,_),(1,_)]) (enc:=Ycr) [z1,z2] J J K4 Zlz ti41 J J (Zpa _ _ _ _ _ _ _ _ _ _ _ _) J J pR.cells J J hw) K3 fun v _=>Pp (Zy (n:=4) (Zk8 _ _) K4 call20 (Qk 4 J J pR Ze) J hw) K3 fun _ _=>Zx (Xh J J) K2<|dt (Ql K3)<|Zd<|Za<|Mx J (fun h238=>?_) (fun h238=>?_)
  ·exact Zb<|Zf<|tt (Xv (n:=4) (Ce) J J J trivial call11 Ze J hw) fun _ _=>Zo J<|Zd<|Za<|Zp<|Yp<|xU hsc results7 J J J
  ·exfalso;simp_all
theorem Zo6(v:Value)(r:List (Bool×ByteArray))(z1 z2:RZ)(hs:smR r=true)(he:[z1,z2].all enR=true)(hbad:(okP r && qOK z1 && qOK z2)=false):Od prog 7 #[v,.agg #[.bool z1.1.1,.string z1.1.2,.bool z1.2.1,.string z1.2.2],.agg #[.bool z2.1.1,.string z2.1.2,.bool z2.2.1,.string z2.2.2]] [Pw 2 Zax v r] (.bool true):=by
 refine Yg func7 J ntmps7 J K1 fun w0 sc hw hsc=>?_
 simp only [Zs,Zq]
 refine Yl (Nc 999 2 31 wv)<|Yl (Qw 999 J J pV)<|Zb<|Zf<|tt (Xp (i:=2) K5 hw) fun bx _=>tt (Xp (i:=3) K5 hw) fun bx_2 _=>Zo J<|Zd<|Za<|Zb<|Zb<|Zf<|mv J<|tt (Zy (n:=3) (Zfg _ _) K4 call10 (Zi 1 K3 Ze) J hw) fun _ _=>dt (dF (Xh J J) (vB (by rw [hs];rfl)))<|mv J<|Zx (Pj (i:=2) K3 Xf Ym K4) K2<|Zx (Pj (i:=3) K3 Xf Ym K4) K2<|Pp (Ic (i:=4) (ivs:=[(0,_),(1,_)]) (enc:=Ycr) [z1,z2] J J K4 Zlz ti41 J J (Zpa _ _ _ _ _ _ _ _ _ _ _ _) J J pR.cells J J hw) K3 fun v _=>Pp (Zy (n:=4) (Zk8 _ _) K4 call20 (Qk 4 J J pR Ze) J hw) K3 fun _ _=>Zx (dF (Xh J J) (vB (by rw [show [z1,z2].all enR=true from he];rfl))) K2<|dt (Ql K3)<|Zd<|Za<|Yk J<|Zl<|Za<|Zb<|Zf<|mv J<|dt (Pj (i:=2) K3 Xf Ym K4)<|dt (Pj (i:=3) K3 Xf Ym K4)<|tt (Xv (n:=4) (Zn6 _ _ z1 z2 hbad) J J J K3 call38 (Zi 1 K3 Ze) J hw) fun _ _=>mv J<|dt (Xa K3)<|dt (Xa K3)<|Zo J<|Zo J<|Zd<|Za<|Zb<|Zb<|Zf<|mv J<|dt (Pj (i:=2) K3 Xf Ym K4)<|dt (Pj (i:=3) K3 Xf Ym K4) ?_
 exact tt (Xv (n:=4) (Zk7 _ _ z1 z2 hbad) J J J K3 call22 (Zi 1 K3 Ze) J hw) fun _ _=>Zo J<|Zd<|Za<|Zb<|Zf<|mv J<|dt (dT (Pk K3) (vB (by decide)))<|Zd<|Za<|Of J<|Zb<|Zf<|mv J<|dt (Yc J J (i:=999) J Zg Ad)<|dt (dT (Hf K3) (vB (by decide)))<|mv J<|Zx (Ya K2) K2<|Zx (Ya K2) K2<|Zx (dT (Hf K3) (vB (by decide))) K2<|dt (Om K3)<|mv J<|Pp (Xv (n:=4) (Ce) J J J trivial call11 Ze J hw) K3 fun _ _=>dt (Om K3)<|Zo J<|Zd<|Za<|Zp<|Yp<|xU hsc results7 J J J
theorem Zo7(v:Value)(r:List (Bool×ByteArray))(a b:R2)(ha:E32 a)(hb:E32 b)(hs:smR r=true)(he:[rqz a,rqz b].all enR=true)(hok:okP r=true):Od prog 7 #[v,rX a.1 a.2,rX b.1 b.2] [Pw 2 Zax v r] (.bool true):=by
 refine Yg func7 J ntmps7 J K1 fun w0 sc hw hsc=>?_
 simp only [Zs,Zq]
 have ha1:=ha.b1
 have ha2:=ha.b2
 have hap:=ha.p
 have hb1:=hb.b1
 have hb2:=hb.b2
 have hbp:=hb.p
 obtain⟨hd,hs32,hlr⟩:=sm_dec hs hok
 have hd7:=hd.l
 refine Yl (Nc 999 2 31 wv)<|Yl (Qw 999 J J pV)<|Zb<|Zf<|tt (Xp (i:=2) K5 hw) fun bx _=>tt (Xp (i:=3) K5 hw) fun bx_2 _=>Zo J<|Zd<|Za<|Zb<|Zb<|Zf<|mv J<|tt (Zy (n:=3) (Zfg _ _) K4 call10 (Zi 1 K3 Ze) J hw) fun _ _=>dt (dF (Xh J J) (vB (by rw [hs];rfl)))<|mv J<|Zx (Pj (i:=2) K3 Xf Ym K4) K2<|Zx (Pj (i:=3) K3 Xf Ym K4) K2<|Pp (Ic (i:=4) (ivs:=[(0,_),(1,_)]) (enc:=Ycr) [rqz a,rqz b] J J K4 Zlz ti41 J J (Zpa _ _ _ _ _ _ _ _ _ _ _ _) J J pR.cells J J hw) K3 fun v _=>Pp (Zy (n:=4) (Zk8 _ _) K4 call20 (Qk 4 J J pR Ze) J hw) K3 fun _ _=>Zx (dF (Xh J J) (vB (by rw [he];rfl))) K2<|dt (Ql K3)<|Zd<|Za<|Yk J<|Zl<|Za<|Zb<|Yl (Zqu (q:=Pw 2 wv _ (Bg r)) 1 88 J J J (Zux hok _) (fun _ h=>h) J)<|Zf<|mv J<|dt (Pj (i:=2) K3 Xf Ym K4)<|dt (Pj (i:=3) K3 Xf Ym K4)<|tt (Xv (n:=5) (Zn7 _ (Bg r) a b hd ha hb) J J J K3 call38 (Zi 88 K3 Ze) J hw) fun _ _=>mv J<|dt (Xa K3)<|dt (Xa K3)<|Zo J<|Zo J<|Zd<|Za<|Zb<|Zb<|Zf<|mv J<|dt (Pj (i:=2) K3 Xf Ym K4) ?_
 refine dt (Pj (i:=3) K3 Xf Ym K4)<|tt (Xv (n:=5) (Zmb _ _ a b hok ha hb) J J J K3 call22 (Zi 1 K3 Ze) J hw) fun _ _=>Zo J<|Zd<|Za<|Zb<|Zf<|mv J<|dt (Pk K3)<|Zd<|Za<|Zr J (fun h242=>?_) (fun h242=>?_)
 ·have hc:0<Iz a b:=Decidable.byContradiction fun h9=>h242 (if_neg h9)
  obtain⟨hPL,hPE⟩:=Yay (xs:=Bg r) hc
  exact Zb<|Zf<|mv J<|dt (Yc J J (i:=5) J Zg Ad)<|dt (dT (Hf K3) (vB (decide_eq_true (by rw [hPL];rfl))))<|mv J<|Zx (Ya K2) K2<|Zx (Ya K2) K2<|Zx (dT (Hf K3) (vB (decide_eq_true hPE))) K2<|dt (Om K3)<|mv J<|Pp (Xv (n:=5) (Ce) J J J trivial call11 Ze J hw) K3 fun _ _=>dt (Om K3)<|Zo J<|Zd<|Za<|Zp<|Yp<|xU hsc results7 J J J
 ·have hc:¬0<Iz a b:=fun h9=>by rw [if_pos h9]at h242;omega
  refine Zl<|Za<|Iy [(0,_),(4,_),(5,_),(7,_),(8,_)] [(0,_),(1,_),(999,_),(2,_),(3,_),(4,_),(88,_),(5,_)] (fun(q:Value×List (Int×SL)×Value×Value×Value×Value×Nat×Nat)=>[(10,q.1),(11,.pointer (some ⟨q.2.2.2.2.2.2.1,0,none⟩)),(12,.pointer (some ⟨q.2.2.2.2.2.2.2,0,none⟩))]) (fun(q:Value×List (Int×SL)×Value×Value×Value×Value×Nat×Nat)=>[(60,pp q.1 q.2.1),(61,Me q.2.2.1 a.1.natAbs),(62,Me q.2.2.2.1 a.2.natAbs),(63,Me q.2.2.2.2.1 b.1.natAbs),(64,Me q.2.2.2.2.2.1 b.2.natAbs),(97,box q.2.2.2.2.2.2.1 50 #[.bool (decide (a.1<0)),q.2.2.1,.bool (decide (a.2<0)),q.2.2.2.1]),(98,box q.2.2.2.2.2.2.2 50 #[.bool (decide (b.1<0)),q.2.2.2.2.1,.bool (decide (b.2<0)),q.2.2.2.2.2.1])]) (fun(q:Value×List (Int×SL)×Value×Value×Value×Value×Nat×Nat)=>Zk q.2.1=Bg r) K5 K8 ?_ ?_
  ·refine Ni [2,3] [10]<|Zw (n:=8) [(0,0),(2,0),(4,0)]<|Zh K2 (Yy (Ya K2) K2)<|Zh K2 (Yy (Pj (i:=2) K3 Xf Ym K4) K2)<|Zh K2 (Yy (Pj (i:=3) K3 Xf Ym K4) K2)<|Yi<|Fu (n:=7) 1 6 7 ?_ ?_ ?_
   ·refine Yd J (Zy (n:=60) (Ct _ _ hok) K4 call16 (Zi 1 K3 Ze) J hw) fun g hg=>Fu (n:=6) 3 6 7 ?_ ?_ ?_
    ·refine Yd J (Zy (n:=61) (Yz a.1 a.2) K4 Kq Ze J hw) fun g_2 _=>Fu (n:=5) 5 6 7 ?_ ?_ ?_
     ·refine Yd J (Zy (n:=63) (Yz b.1 b.2) K4 Kq Ze J hw) fun g_3 _=>Qg (n:=4) 6 7 ?_ ?_
      ·exact Yd J (Xj (i:=97) K2 zeroValue50 K2 hw K2) fun bx_3 ho=>Zw (n:=0) [(7,1),(8,0),(9,1),(10,3)]<|Yq J (Xj (i:=98) K2 zeroValue50 K2 hw K2) fun bx_4 ho2=>Zh K2 (Yy (Ok J J) K2)<|Yq J (Zt (i:=97) K6 Ph K2 ⟨Zc J,Zj (i:=61) J Zg,Zc J,Zj (i:=62) J Zg,trivial⟩ J hw ho) fun _ _=>Qs J (Zt (i:=98) K6 Ph K2 ⟨Zc J,Zj (i:=63) J Zg,Zc J,Zj (i:=64) J Zg,trivial⟩ J hw trivial) fun _ _=>Yi<|Yh<|Xd (g.1,g.2,g_2.1,g_2.2,g_3.1,g_3.2,_,_) (hg) K8 K15
      ·exact Yd J (Xj (i:=98) K2 zeroValue50 K2 hw K2) fun bx_5 ho3=>Zw (n:=0) [(6,1),(8,0),(9,1),(10,3)]<|Yq J (Xj (i:=97) K2 zeroValue50 K2 hw K2) fun bx_6 ho4=>Zh K2 (Yy (Ok J J) K2)<|Yq J (Zt (i:=97) K6 Ph K2 ⟨Zc J,Zj (i:=61) J Zg,Zc J,Zj (i:=62) J Zg,trivial⟩ J hw ho4) fun _ _=>Qs J (Zt (i:=98) K6 Ph K2 ⟨Zc J,Zj (i:=63) J Zg,Zc J,Zj (i:=64) J Zg,trivial⟩ J hw trivial) fun _ _=>Yi<|Yh<|Xd (g.1,g.2,g_2.1,g_2.2,g_3.1,g_3.2,_,_) (hg) K8 K15
     ·refine Yd J (Xj (i:=97) K2 zeroValue50 K2 hw K2) fun bx_7 ho5=>Qg (n:=4) 5 7 ?_ ?_
      ·exact Yd J (Zy (n:=63) (Yz b.1 b.2) K4 Kq Ze J hw) fun g_4 _=>Zw (n:=0) [(7,1),(8,0),(9,1),(10,3)]<|Yq J (Xj (i:=98) K2 zeroValue50 K2 hw K2) fun bx_8 ho6=>Zh K2 (Yy (Ok J J) K2)<|Yq J (Zt (i:=97) K6 Ph K2 ⟨Zc J,Zj (i:=61) J Zg,Zc J,Zj (i:=62) J Zg,trivial⟩ J hw ho5) fun _ _=>Qs J (Zt (i:=98) K6 Ph K2 ⟨Zc J,Zj (i:=63) J Zg,Zc J,Zj (i:=64) J Zg,trivial⟩ J hw trivial) fun _ _=>Yi<|Yh<|Xd (g.1,g.2,g_2.1,g_2.2,g_4.1,g_4.2,_,_) (hg) K8 K15
      ·exact Yd J (Xj (i:=98) K2 zeroValue50 K2 hw K2) fun bx_9 ho7=>Zw (n:=0) [(5,1),(8,0),(9,1),(10,3)]<|Yq J (Zy (n:=63) (Yz b.1 b.2) K4 Kq Ze J hw) fun g_5 _=>Zh K2 (Yy (Ok J J) K2)<|Yq J (Zt (i:=97) K6 Ph K2 ⟨Zc J,Zj (i:=61) J Zg,Zc J,Zj (i:=62) J Zg,trivial⟩ J hw ho5) fun _ _=>Qs J (Zt (i:=98) K6 Ph K2 ⟨Zc J,Zj (i:=63) J Zg,Zc J,Zj (i:=64) J Zg,trivial⟩ J hw trivial) fun _ _=>Yi<|Yh<|Xd (g.1,g.2,g_2.1,g_2.2,g_5.1,g_5.2,_,_) (hg) K8 K15
     ·refine Yd J (Xj (i:=98) K2 zeroValue50 K2 hw K2) fun bx_10 ho8=>Qg (n:=4) 5 6 ?_ ?_
      ·exact Yd J (Zy (n:=63) (Yz b.1 b.2) K4 Kq Ze J hw) fun g_6 _=>Zw (n:=0) [(6,1),(8,0),(9,1),(10,3)]<|Yq J (Xj (i:=97) K2 zeroValue50 K2 hw K2) fun bx_11 ho9=>Zh K2 (Yy (Ok J J) K2)<|Yq J (Zt (i:=97) K6 Ph K2 ⟨Zc J,Zj (i:=61) J Zg,Zc J,Zj (i:=62) J Zg,trivial⟩ J hw ho9) fun _ _=>Qs J (Zt (i:=98) K6 Ph K2 ⟨Zc J,Zj (i:=63) J Zg,Zc J,Zj (i:=64) J Zg,trivial⟩ J hw trivial) fun _ _=>Yi<|Yh<|Xd (g.1,g.2,g_2.1,g_2.2,g_6.1,g_6.2,_,_) (hg) K8 K15
      ·exact Yd J (Xj (i:=97) K2 zeroValue50 K2 hw K2) fun bx_12 ho10=>Zw (n:=0) [(5,1),(8,0),(9,1),(10,3)]<|Yq J (Zy (n:=63) (Yz b.1 b.2) K4 Kq Ze J hw) fun g_7 _=>Zh K2 (Yy (Ok J J) K2)<|Yq J (Zt (i:=97) K6 Ph K2 ⟨Zc J,Zj (i:=61) J Zg,Zc J,Zj (i:=62) J Zg,trivial⟩ J hw ho10) fun _ _=>Qs J (Zt (i:=98) K6 Ph K2 ⟨Zc J,Zj (i:=63) J Zg,Zc J,Zj (i:=64) J Zg,trivial⟩ J hw trivial) fun _ _=>Yi<|Yh<|Xd (g.1,g.2,g_2.1,g_2.2,g_7.1,g_7.2,_,_) (hg) K8 K15
    ·refine Yd J (Xj (i:=97) K2 zeroValue50 K2 hw K2) fun bx_13 ho11=>Qg (n:=5) 3 7 ?_ ?_
     ·refine Yd J (Zy (n:=61) (Yz a.1 a.2) K4 Kq Ze J hw) fun g_8 _=>Qg (n:=4) 5 7 ?_ ?_
      ·exact Yd J (Zy (n:=63) (Yz b.1 b.2) K4 Kq Ze J hw) fun g_9 _=>Zw (n:=0) [(7,1),(8,0),(9,1),(10,3)]<|Yq J (Xj (i:=98) K2 zeroValue50 K2 hw K2) fun bx_14 ho12=>Zh K2 (Yy (Ok J J) K2)<|Yq J (Zt (i:=97) K6 Ph K2 ⟨Zc J,Zj (i:=61) J Zg,Zc J,Zj (i:=62) J Zg,trivial⟩ J hw ho11) fun _ _=>Qs J (Zt (i:=98) K6 Ph K2 ⟨Zc J,Zj (i:=63) J Zg,Zc J,Zj (i:=64) J Zg,trivial⟩ J hw trivial) fun _ _=>Yi<|Yh<|Xd (g.1,g.2,g_8.1,g_8.2,g_9.1,g_9.2,_,_) (hg) K8 K15
      ·exact Yd J (Xj (i:=98) K2 zeroValue50 K2 hw K2) fun bx_15 ho13=>Zw (n:=0) [(5,1),(8,0),(9,1),(10,3)]<|Yq J (Zy (n:=63) (Yz b.1 b.2) K4 Kq Ze J hw) fun g_10 _=>Zh K2 (Yy (Ok J J) K2)<|Yq J (Zt (i:=97) K6 Ph K2 ⟨Zc J,Zj (i:=61) J Zg,Zc J,Zj (i:=62) J Zg,trivial⟩ J hw ho11) fun _ _=>Qs J (Zt (i:=98) K6 Ph K2 ⟨Zc J,Zj (i:=63) J Zg,Zc J,Zj (i:=64) J Zg,trivial⟩ J hw trivial) fun _ _=>Yi<|Yh<|Xd (g.1,g.2,g_8.1,g_8.2,g_10.1,g_10.2,_,_) (hg) K8 K15
     ·exact Yd J (Xj (i:=98) K2 zeroValue50 K2 hw K2) fun bx_16 ho14=>Zw (n:=0) [(3,1),(5,1),(8,0),(9,1),(10,3)]<|Yq J (Zy (n:=61) (Yz a.1 a.2) K4 Kq Ze J hw) fun g_11 _=>Yq J (Zy (n:=63) (Yz b.1 b.2) K4 Kq Ze J hw) fun g_12 _=>Zh K2 (Yy (Ok J J) K2)<|Yq J (Zt (i:=97) K6 Ph K2 ⟨Zc J,Zj (i:=61) J Zg,Zc J,Zj (i:=62) J Zg,trivial⟩ J hw ho11) fun _ _=>Qs J (Zt (i:=98) K6 Ph K2 ⟨Zc J,Zj (i:=63) J Zg,Zc J,Zj (i:=64) J Zg,trivial⟩ J hw trivial) fun _ _=>Yi<|Yh<|Xd (g.1,g.2,g_11.1,g_11.2,g_12.1,g_12.2,_,_) (hg) K8 K15
    ·refine Yd J (Xj (i:=98) K2 zeroValue50 K2 hw K2) fun bx_17 ho15=>Qg (n:=5) 3 6 ?_ ?_
     ·refine Yd J (Zy (n:=61) (Yz a.1 a.2) K4 Kq Ze J hw) fun g_13 _=>Qg (n:=4) 5 6 ?_ ?_
      ·exact Yd J (Zy (n:=63) (Yz b.1 b.2) K4 Kq Ze J hw) fun g_14 _=>Zw (n:=0) [(6,1),(8,0),(9,1),(10,3)]<|Yq J (Xj (i:=97) K2 zeroValue50 K2 hw K2) fun bx_18 ho16=>Zh K2 (Yy (Ok J J) K2)<|Yq J (Zt (i:=97) K6 Ph K2 ⟨Zc J,Zj (i:=61) J Zg,Zc J,Zj (i:=62) J Zg,trivial⟩ J hw ho16) fun _ _=>Qs J (Zt (i:=98) K6 Ph K2 ⟨Zc J,Zj (i:=63) J Zg,Zc J,Zj (i:=64) J Zg,trivial⟩ J hw trivial) fun _ _=>Yi<|Yh<|Xd (g.1,g.2,g_13.1,g_13.2,g_14.1,g_14.2,_,_) (hg) K8 K15
      ·exact Yd J (Xj (i:=97) K2 zeroValue50 K2 hw K2) fun bx_19 ho17=>Zw (n:=0) [(5,1),(8,0),(9,1),(10,3)]<|Yq J (Zy (n:=63) (Yz b.1 b.2) K4 Kq Ze J hw) fun g_15 _=>Zh K2 (Yy (Ok J J) K2)<|Yq J (Zt (i:=97) K6 Ph K2 ⟨Zc J,Zj (i:=61) J Zg,Zc J,Zj (i:=62) J Zg,trivial⟩ J hw ho17) fun _ _=>Qs J (Zt (i:=98) K6 Ph K2 ⟨Zc J,Zj (i:=63) J Zg,Zc J,Zj (i:=64) J Zg,trivial⟩ J hw trivial) fun _ _=>Yi<|Yh<|Xd (g.1,g.2,g_13.1,g_13.2,g_15.1,g_15.2,_,_) (hg) K8 K15
     ·exact Yd J (Xj (i:=97) K2 zeroValue50 K2 hw K2) fun bx_20 ho18=>Zw (n:=0) [(3,1),(5,1),(8,0),(9,1),(10,3)]<|Yq J (Zy (n:=61) (Yz a.1 a.2) K4 Kq Ze J hw) fun g_16 _=>Yq J (Zy (n:=63) (Yz b.1 b.2) K4 Kq Ze J hw) fun g_17 _=>Zh K2 (Yy (Ok J J) K2)<|Yq J (Zt (i:=97) K6 Ph K2 ⟨Zc J,Zj (i:=61) J Zg,Zc J,Zj (i:=62) J Zg,trivial⟩ J hw ho18) fun _ _=>Qs J (Zt (i:=98) K6 Ph K2 ⟨Zc J,Zj (i:=63) J Zg,Zc J,Zj (i:=64) J Zg,trivial⟩ J hw trivial) fun _ _=>Yi<|Yh<|Xd (g.1,g.2,g_16.1,g_16.2,g_17.1,g_17.2,_,_) (hg) K8 K15
   ·refine Yd J (Xj (i:=97) K2 zeroValue50 K2 hw K2) fun bx_21 ho19=>Qg (n:=6) 1 7 ?_ ?_
    ·refine Yd J (Zy (n:=60) (Ct _ _ hok) K4 call16 (Zi 1 K3 Ze) J hw) fun g_18 hg_2=>Qg (n:=5) 3 7 ?_ ?_
     ·refine Yd J (Zy (n:=61) (Yz a.1 a.2) K4 Kq Ze J hw) fun g_19 _=>Qg (n:=4) 5 7 ?_ ?_
      ·exact Yd J (Zy (n:=63) (Yz b.1 b.2) K4 Kq Ze J hw) fun g_20 _=>Zw (n:=0) [(7,1),(8,0),(9,1),(10,3)]<|Yq J (Xj (i:=98) K2 zeroValue50 K2 hw K2) fun bx_22 ho20=>Zh K2 (Yy (Ok J J) K2)<|Yq J (Zt (i:=97) K6 Ph K2 ⟨Zc J,Zj (i:=61) J Zg,Zc J,Zj (i:=62) J Zg,trivial⟩ J hw ho19) fun _ _=>Qs J (Zt (i:=98) K6 Ph K2 ⟨Zc J,Zj (i:=63) J Zg,Zc J,Zj (i:=64) J Zg,trivial⟩ J hw trivial) fun _ _=>Yi<|Yh<|Xd (g_18.1,g_18.2,g_19.1,g_19.2,g_20.1,g_20.2,_,_) (hg_2) K8 K15
      ·exact Yd J (Xj (i:=98) K2 zeroValue50 K2 hw K2) fun bx_23 ho21=>Zw (n:=0) [(5,1),(8,0),(9,1),(10,3)]<|Yq J (Zy (n:=63) (Yz b.1 b.2) K4 Kq Ze J hw) fun g_21 _=>Zh K2 (Yy (Ok J J) K2)<|Yq J (Zt (i:=97) K6 Ph K2 ⟨Zc J,Zj (i:=61) J Zg,Zc J,Zj (i:=62) J Zg,trivial⟩ J hw ho19) fun _ _=>Qs J (Zt (i:=98) K6 Ph K2 ⟨Zc J,Zj (i:=63) J Zg,Zc J,Zj (i:=64) J Zg,trivial⟩ J hw trivial) fun _ _=>Yi<|Yh<|Xd (g_18.1,g_18.2,g_19.1,g_19.2,g_21.1,g_21.2,_,_) (hg_2) K8 K15
     ·exact Yd J (Xj (i:=98) K2 zeroValue50 K2 hw K2) fun bx_24 ho22=>Zw (n:=0) [(3,1),(5,1),(8,0),(9,1),(10,3)]<|Yq J (Zy (n:=61) (Yz a.1 a.2) K4 Kq Ze J hw) fun g_22 _=>Yq J (Zy (n:=63) (Yz b.1 b.2) K4 Kq Ze J hw) fun g_23 _=>Zh K2 (Yy (Ok J J) K2)<|Yq J (Zt (i:=97) K6 Ph K2 ⟨Zc J,Zj (i:=61) J Zg,Zc J,Zj (i:=62) J Zg,trivial⟩ J hw ho19) fun _ _=>Qs J (Zt (i:=98) K6 Ph K2 ⟨Zc J,Zj (i:=63) J Zg,Zc J,Zj (i:=64) J Zg,trivial⟩ J hw trivial) fun _ _=>Yi<|Yh<|Xd (g_18.1,g_18.2,g_22.1,g_22.2,g_23.1,g_23.2,_,_) (hg_2) K8 K15
    ·exact Yd J (Xj (i:=98) K2 zeroValue50 K2 hw K2) fun bx_25 ho23=>Zw (n:=0) [(1,1),(3,1),(5,1),(8,0),(9,1),(10,3)]<|Yq J (Zy (n:=60) (Ct _ _ hok) K4 call16 (Zi 1 K3 Ze) J hw) fun g_24 hg_3=>Yq J (Zy (n:=61) (Yz a.1 a.2) K4 Kq Ze J hw) fun g_25 _=>Yq J (Zy (n:=63) (Yz b.1 b.2) K4 Kq Ze J hw) fun g_26 _=>Zh K2 (Yy (Ok J J) K2)<|Yq J (Zt (i:=97) K6 Ph K2 ⟨Zc J,Zj (i:=61) J Zg,Zc J,Zj (i:=62) J Zg,trivial⟩ J hw ho19) fun _ _=>Qs J (Zt (i:=98) K6 Ph K2 ⟨Zc J,Zj (i:=63) J Zg,Zc J,Zj (i:=64) J Zg,trivial⟩ J hw trivial) fun _ _=>Yi<|Yh<|Xd (g_24.1,g_24.2,g_25.1,g_25.2,g_26.1,g_26.2,_,_) (hg_3) K8 K15
   ·refine Yd J (Xj (i:=98) K2 zeroValue50 K2 hw K2) fun bx_26 ho24=>Qg (n:=6) 1 6 ?_ ?_
    ·refine Yd J (Zy (n:=60) (Ct _ _ hok) K4 call16 (Zi 1 K3 Ze) J hw) fun g_27 hg_4=>Qg (n:=5) 3 6 ?_ ?_
     ·refine Yd J (Zy (n:=61) (Yz a.1 a.2) K4 Kq Ze J hw) fun g_28 _=>Qg (n:=4) 5 6 ?_ ?_
      ·exact Yd J (Zy (n:=63) (Yz b.1 b.2) K4 Kq Ze J hw) fun g_29 _=>Zw (n:=0) [(6,1),(8,0),(9,1),(10,3)]<|Yq J (Xj (i:=97) K2 zeroValue50 K2 hw K2) fun bx_27 ho25=>Zh K2 (Yy (Ok J J) K2)<|Yq J (Zt (i:=97) K6 Ph K2 ⟨Zc J,Zj (i:=61) J Zg,Zc J,Zj (i:=62) J Zg,trivial⟩ J hw ho25) fun _ _=>Qs J (Zt (i:=98) K6 Ph K2 ⟨Zc J,Zj (i:=63) J Zg,Zc J,Zj (i:=64) J Zg,trivial⟩ J hw trivial) fun _ _=>Yi<|Yh<|Xd (g_27.1,g_27.2,g_28.1,g_28.2,g_29.1,g_29.2,_,_) (hg_4) K8 K15
      ·exact Yd J (Xj (i:=97) K2 zeroValue50 K2 hw K2) fun bx_28 ho26=>Zw (n:=0) [(5,1),(8,0),(9,1),(10,3)]<|Yq J (Zy (n:=63) (Yz b.1 b.2) K4 Kq Ze J hw) fun g_30 _=>Zh K2 (Yy (Ok J J) K2)<|Yq J (Zt (i:=97) K6 Ph K2 ⟨Zc J,Zj (i:=61) J Zg,Zc J,Zj (i:=62) J Zg,trivial⟩ J hw ho26) fun _ _=>Qs J (Zt (i:=98) K6 Ph K2 ⟨Zc J,Zj (i:=63) J Zg,Zc J,Zj (i:=64) J Zg,trivial⟩ J hw trivial) fun _ _=>Yi<|Yh<|Xd (g_27.1,g_27.2,g_28.1,g_28.2,g_30.1,g_30.2,_,_) (hg_4) K8 K15
     ·exact Yd J (Xj (i:=97) K2 zeroValue50 K2 hw K2) fun bx_29 ho27=>Zw (n:=0) [(3,1),(5,1),(8,0),(9,1),(10,3)]<|Yq J (Zy (n:=61) (Yz a.1 a.2) K4 Kq Ze J hw) fun g_31 _=>Yq J (Zy (n:=63) (Yz b.1 b.2) K4 Kq Ze J hw) fun g_32 _=>Zh K2 (Yy (Ok J J) K2)<|Yq J (Zt (i:=97) K6 Ph K2 ⟨Zc J,Zj (i:=61) J Zg,Zc J,Zj (i:=62) J Zg,trivial⟩ J hw ho27) fun _ _=>Qs J (Zt (i:=98) K6 Ph K2 ⟨Zc J,Zj (i:=63) J Zg,Zc J,Zj (i:=64) J Zg,trivial⟩ J hw trivial) fun _ _=>Yi<|Yh<|Xd (g_27.1,g_27.2,g_31.1,g_31.2,g_32.1,g_32.2,_,_) (hg_4) K8 K15
    ·exact Yd J (Xj (i:=97) K2 zeroValue50 K2 hw K2) fun bx_30 ho28=>Zw (n:=0) [(1,1),(3,1),(5,1),(8,0),(9,1),(10,3)]<|Yq J (Zy (n:=60) (Ct _ _ hok) K4 call16 (Zi 1 K3 Ze) J hw) fun g_33 hg_5=>Yq J (Zy (n:=61) (Yz a.1 a.2) K4 Kq Ze J hw) fun g_34 _=>Yq J (Zy (n:=63) (Yz b.1 b.2) K4 Kq Ze J hw) fun g_35 _=>Zh K2 (Yy (Ok J J) K2)<|Yq J (Zt (i:=97) K6 Ph K2 ⟨Zc J,Zj (i:=61) J Zg,Zc J,Zj (i:=62) J Zg,trivial⟩ J hw ho28) fun _ _=>Qs J (Zt (i:=98) K6 Ph K2 ⟨Zc J,Zj (i:=63) J Zg,Zc J,Zj (i:=64) J Zg,trivial⟩ J hw trivial) fun _ _=>Yi<|Yh<|Xd (g_33.1,g_33.2,g_34.1,g_34.2,g_35.1,g_35.2,_,_) (hg_5) K8 K15
  ·rintro⟨vx,zz,w1,w2,w3,w4,b7,b8⟩ hG
   dsimp only at hG
   simp only [CA,NA]
   have hgl9:=congrArg List.length hG
   rw [Zz]at hgl9
   refine Zb<|Zb<|Zf<|mv J<|dt (Pj (i:=97) K3 Kh Ph K4)<|dt (Pj (i:=98) K3 Kh Ph K4)<|tt (Xv (n:=5) (Zq5 _ _ _ _ _ _ a.1 a.2 b.1 b.2 (by omega) (by omega) (by omega) (by omega) hap hbp (by rw [hG];exact hd) hc) J J J K3 call24 (Zi 60 K3 (Zi 61 K3 (Zi 62 K3 (Zi 63 K3 (Zi 64 K3 Ze))))) J hw) fun _ _=>Zd<|Za<|Mx J (fun h246=>?_) (fun h246=>?_)
   ·have hn:Bj (Qq (Bg r)) (Gz (Bg r)) a b=true:=by rw [hG]at h246;exact h246
    obtain⟨hPL,hPE⟩:=pv_is (xs:=Bg r) hc hn
    exact Zb<|Zf<|mv J<|dt (Yc J J (i:=5) J Zg Ad)<|dt (dT (Hf K3) (vB (decide_eq_true (by rw [hPL];rfl))))<|mv J<|Zx (Ya K2) K2<|Zx (dT (Hf K3) (vB (decide_eq_true hPE))) K2<|dt (Om K3)<|mv J<|Pp (Xv (n:=5) (Ce) J J J trivial call11 Ze J hw) K3 fun _ _=>dt (Om K3)<|Zo J<|Zd<|Za<|Zp<|Yp<|xU hsc results7 J J J
   ·have hn:Bj (Qq (Bg r)) (Gz (Bg r)) a b=false:=by rw [hG]at h246;exact h246
    obtain⟨hPL,hPE⟩:=pv_ok (xs:=Bg r) hc hn
    obtain⟨hck,hvp,hpl⟩:=Ya0 hd ha hb hc hn
    refine Zl<|Za<|Zb<|Zb ?_
    rw [←hPL]at hck hvp hpl
    refine Zf<|mv J<|dt (dF (Pk K3) (vB (decide_eq_false (fun h=>h hPE))))<|mv J<|Zx (Ya K2) K2<|Zx (Yc J J (i:=5) J Zg Ad) K2<|Zx (dF (Fd K3) (vB (decide_eq_false (by omega)))) K2<|dt (Ql K3)<|Zd<|Za<|Yk J<|Zl<|Za<|Zb<|Zb<|Zf<|mv J<|dt (Yc J J (i:=5) J Zg Ad)<|mv J<|Zd<|Za<|Zn<|Px [(0,_),(4,_),(5,_),(7,_),(10,_),(11,_),(12,_),(77,_),(78,_)] [(0,_),(60,_),(61,_),(62,_),(63,_),(64,_),(97,_),(98,_),(1,_),(999,_),(2,_),(3,_),(4,_),(88,_),(5,_)] (fun(i:Nat)=>[(79,.int .i64 (i:Int))]) (fun(i:Nat)=>[]) (fun(i:Nat)=>i≤(pL (Bg r) a b).length) (fun(i:Nat)=>(pL (Bg r) a b).length-i) 0 (by first | omega | (dsimp only<;>omega)) K10 K15 ?_
    rintro i hi
    simp only [CA,NA]
    refine Zb<|Zf<|dt (Pa K3)<|Zd<|Za<|Zb<|Zr J (fun h252=>?_) (fun h252=>?_)
    ·refine Zl<|Za<|Zb<|Zn<|Zb<|Zf<|dt (Nj (ii:=5) K4 Zg Ad Znr J (by first | omega | (simp only [List.length_set];omega)))<|dt (Ms (ii:=5) P0 K3 Zg pP9 (by first | omega | (simp only [List.length_set];omega)))<|tt (Xi (i:=6) K2 zeroValue79 K2 hw) fun bx_31 _=>tt (Zt (i:=6) K6 Znr K2 ⟨Zc J,Zc J,Zc J,Zc J,Zc J,Zc J,Zc J,Zc J,Zc J,trivial⟩ J hw trivial) fun _ _=>Zd<|Za<|Zb ?_
     obtain⟨hk,hf1,hf2⟩:=hvp ((pL (Bg r) a b).getD i P0) (Xc)
     have hf11:=hf1.b1
     have hf12:=hf1.b2
     have hf21:=hf2.b1
     have hf22:=hf2.b2
     refine Zf<|dt (Qy K2 Gm J sizeOf77 K2)<|dt (Mc (i:=6) K3 isAgg77 J)<|dt (Pk K3)<|mv J<|Pb (d:=86) J (fun s253=>?_) (fun s253=>?_)
     ·refine Zx (Qy K2 Gm J sizeOf77 K2) K2<|Zx (Mc (i:=6) K3 isAgg77 J) K2<|Zx (dF (Pk K3) (vB (decide_eq_false (by omega)))) K2<|dt (Om K3)<|mv J<|Zx (Qy K2 Gm J Ym K2) K2<|Zx (Pj (i:=6) K3 Xf Ym K4) K2<|Pp (Zy (n:=6) (Ir _ _ _ _) K4 call25 Ze J hw) K3 fun _ _=>Zx (dF (Xh J J) (vB (by rw [Zfd (show bl ((pL (Bg r) a b).getD i P0).2.1.1.natAbs≤65536 by omega) (by omega) hf1.p];rfl))) K2<|dt (Ql K3)<|mv J<|Zx (Qy K2 Gm J Ym K2) K2<|Zx (Pj (i:=6) K3 Xf Ym K4) K2<|Pp (Zy (n:=6) (Ir _ _ _ _) K4 call25 Ze J hw) K3 fun _ _=>Zx (dF (Xh J J) (vB (by rw [Zfd (show bl ((pL (Bg r) a b).getD i P0).2.2.1.natAbs≤65536 by omega) (by omega) hf2.p];rfl))) K2<|dt (Ql K3)<|mv J<|Zx (Qy K2 Gm J Ym K2) K2<|Zx (Pj (i:=6) K3 Xf Ym K4) K2<|Pp (Zy (n:=6) (Zb6 ((pL (Bg r) a b).getD i P0).2.1.1 ((pL (Bg r) a b).getD i P0).2.1.2) K4 call39 Ze J hw) K3 fun _ _=>Zx (dF (Xh J J) (vB (by rw [(show efit (((pL (Bg r) a b).getD i P0).2.1.1,((pL (Bg r) a b).getD i P0).2.1.2)=true from hf1.efit)];rfl))) K2<|dt (Ql K3)<|mv J<|Zx (Qy K2 Gm J Ym K2) K2 ?_
      exact Zx (Pj (i:=6) K3 Xf Ym K4) K2<|Pp (Zy (n:=6) (Zb6 ((pL (Bg r) a b).getD i P0).2.2.1 ((pL (Bg r) a b).getD i P0).2.2.2) K4 call39 Ze J hw) K3 fun _ _=>Zx (dF (Xh J J) (vB (by rw [(show efit (((pL (Bg r) a b).getD i P0).2.2.1,((pL (Bg r) a b).getD i P0).2.2.2)=true from hf2.efit)];rfl))) K2<|dt (Ql K3)<|Zd<|Za<|Yk J<|Zl<|Qh<|Za<|Zf<|dt (Ov K3)<|mv J<|Zd<|Xg (i+1) (by first | omega | (dsimp only<;>omega)) (by first | omega | (dsimp only<;>omega)) K10 K15
     ·refine Yj K3<|Yj K3<|Yj K3<|dt (Ql K3)<|mv J<|Zx (Qy K2 Gm J Ym K2) K2<|Zx (Pj (i:=6) K3 Xf Ym K4) K2<|Pp (Zy (n:=6) (Ir _ _ _ _) K4 call25 Ze J hw) K3 fun _ _=>Zx (dF (Xh J J) (vB (by rw [Zfd (show bl ((pL (Bg r) a b).getD i P0).2.1.1.natAbs≤65536 by omega) (by omega) hf1.p];rfl))) K2<|dt (Ql K3)<|mv J<|Zx (Qy K2 Gm J Ym K2) K2<|Zx (Pj (i:=6) K3 Xf Ym K4) K2<|Pp (Zy (n:=6) (Ir _ _ _ _) K4 call25 Ze J hw) K3 fun _ _=>Zx (dF (Xh J J) (vB (by rw [Zfd (show bl ((pL (Bg r) a b).getD i P0).2.2.1.natAbs≤65536 by omega) (by omega) hf2.p];rfl))) K2<|dt (Ql K3)<|mv J<|Zx (Qy K2 Gm J Ym K2) K2<|Zx (Pj (i:=6) K3 Xf Ym K4) K2<|Pp (Zy (n:=6) (Zb6 ((pL (Bg r) a b).getD i P0).2.1.1 ((pL (Bg r) a b).getD i P0).2.1.2) K4 call39 Ze J hw) K3 fun _ _=>Zx (dF (Xh J J) (vB (by rw [(show efit (((pL (Bg r) a b).getD i P0).2.1.1,((pL (Bg r) a b).getD i P0).2.1.2)=true from hf1.efit)];rfl))) K2<|dt (Ql K3)<|mv J<|Zx (Qy K2 Gm J Ym K2) K2<|Zx (Pj (i:=6) K3 Xf Ym K4) K2 ?_
      exact Pp (Zy (n:=6) (Zb6 ((pL (Bg r) a b).getD i P0).2.2.1 ((pL (Bg r) a b).getD i P0).2.2.2) K4 call39 Ze J hw) K3 fun _ _=>Zx (dF (Xh J J) (vB (by rw [(show efit (((pL (Bg r) a b).getD i P0).2.2.1,((pL (Bg r) a b).getD i P0).2.2.2)=true from hf2.efit)];rfl))) K2<|dt (Ql K3)<|Zd<|Za<|Yk J<|Zl<|Qh<|Za<|Zf<|dt (Ov K3)<|mv J<|Zd<|Xg (i+1) (by first | omega | (dsimp only<;>omega)) (by first | omega | (dsimp only<;>omega)) K10 K15
    ·exact Yt<|Zv<|Zv<|Pd<|Za<|Zb<|Zf<|mv J<|dt (Pj (i:=97) K3 Kh Ph K4)<|dt (Pj (i:=98) K3 Kh Ph K4)<|mv J<|tt (Xv (n:=6) (Zl8 _ _ _ _ _ _ _ (pL (Bg r) a b) a b (by rw [hG];exact hd) ha.ef hb.ef hvp (by rw [hG];exact hck)) J J J K4 call40 (Zi 60 K3 (Zi 61 K3 (Zi 62 K3 (Zi 63 K3 (Zi 64 K3 (Zi 5 K3 Ze)))))) J hw) fun _ _=>mv J<|Zx (Ya K2) K2<|Zx (Pj (i:=2) K3 Xf Ym K4) K2<|Zx (Pj (i:=3) K3 Xf Ym K4) K2<|Zx (Ya K2) K2<|Pp (Xv (n:=6) (Cs _ _ (Bg r) (pL (Bg r) a b) a b hd ha hb hvp hc (by omega)) J J J K4 call41 (Zi 88 K3 (Zi 5 K3 Ze)) J hw) K3 fun _ _=>Zx (dT (Hf K3) (vB (decide_eq_true (by rw [if_pos hck])))) K2<|dt (Om K3)<|mv J<|Pp (Xv (n:=6) (Ce) J J J trivial call11 Ze J hw) K3 fun _ _=>dt (Om K3)<|Zo J<|Zd<|Za<|Zp<|xU hsc results7 J J J
theorem Yb9(v:Value)(r:List (Bool×ByteArray))(b1:Bool)(s1:ByteArray)(c1:Bool)(t1:ByteArray)(b2:Bool)(s2:ByteArray)(c2:Bool)(t2:ByteArray):Od prog 7 #[v,.agg #[.bool b1,.string s1,.bool c1,.string t1],.agg #[.bool b2,.string s2,.bool c2,.string t2]] [Pw 2 Zax v r] (.bool true):=by
 generalize hz1:(((b1,s1),(c1,t1)):RZ)=z1
 generalize hz2:(((b2,s2),(c2,t2)):RZ)=z2
 suffices h:Cal prog 7 #[v,.agg #[.bool z1.1.1,.string z1.1.2,.bool z1.2.1,.string z1.2.2],.agg #[.bool z2.1.1,.string z2.1.2,.bool z2.2.1,.string z2.2.2]] [Pw 2 Zax v r] false (G:=Unit) (fun _=>True) (fun _=> .bool true) (fun _=>[]) by
  rw [←hz1,←hz2]at h;exact h
 clear hz1 hz2
 by_cases hn:(smR r && [z1,z2].all enR)=true
 ·rw [Bool.and_eq_true]at hn
  obtain⟨hs,he⟩:=hn
  by_cases hbad:(okP r && qOK z1 && qOK z2)=true
  ·rw [Bool.and_eq_true,Bool.and_eq_true]at hbad
   obtain⟨⟨hok,q1⟩,q2⟩:=hbad
   obtain⟨e1,e2⟩:=all2 he
   obtain⟨a,ha,rfl⟩:=e32_q q1 e1
   obtain⟨b,hb,rfl⟩:=e32_q q2 e2
   exact Zo7 v r a b ha hb hs he hok
  ·exact Zo6 v r z1 z2 hs he (by simpa using hbad)
 ·exact Zrx v r z1 z2 (by simpa using hn)
end Go.Sky
namespace Go.Proofs.YtcmiiammekgooaaGreat
open Go.ChangeShapes Go.WideShapes Go.ChangeAt Go.RowKit Go.Joins Go.Deep Go.Sky
theorem own:ownKnob Tryz.prog.godebug=none:=by kernel_rfl
theorem Zo8:laidOutB Tryz.prog=true:=by kernel_rfl
set_option maxRecDepth 100000 in
theorem lifted(os:Os)(started:os.Started)(H:Type)(enc:TypeId×Value→H) :
  ReturnsInHanded {} Tryz.checked os 7 .any (Rows.signProvesSpec.pre6 enc Tryz.prog Tryz.f7 Rows.signProvesRow.domain false) (Rows.signProvesSpec.post enc Tryz.prog Tryz.f7 false true false false):=by
 refine returnsInHanded_of_change (C:=Tryz.checked) own started (by kernel_rfl) Tryz.func7
  (ChangeSpec.witness6 (enc:=enc) (C:=Tryz.checked) false ⟨#[],#[.slice none 0 0,.agg #[.bool false,.string ByteArray.empty,.bool false,.string ByteArray.empty],.agg #[.bool false,.string ByteArray.empty,.bool false,.string ByteArray.empty]],[]⟩ 8 (by kernel_rfl) (by kernel_rfl) (by kernel_rfl) (by kernel_rfl)) ?_
 intro W base args ds gs before hval0 hW hcnd _
 have hval:∀(j:Nat) t v,Tryz.f7.params[j]? = some t→args[j]? = some v→Value.okWide Tryz.prog W .any base t v:=hval0
 have hW':=hW
 obtain⟨p,q,hA0,hV,rfl,hfz,hnd⟩:=hW
 have hA:DataW.TrodAll enc Tryz.prog W 0 (fun _=>true) true Tryz.f7.params.toList args.toList ds p:=hA0
 rw [Tryz.params7]at hA hval
 obtain⟨v0,vs0,d0,ds0,p0,q0,hargs,rfl,rfl,h0,r0⟩:=trodAll_cons hA
 obtain⟨v1,vs1,d1,ds1,p1,q1,rfl,rfl,rfl,h1,r1⟩:=trodAll_cons r0
 obtain⟨v2,vs2,d2,ds2,p2,q2,rfl,rfl,rfl,h2,r2⟩:=trodAll_cons r1
 obtain⟨rfl,rfl,rfl⟩:=trodAll_nil r2
 obtain rfl:args=#[v0,v1,v2]:=by cases args;simp_all
 obtain⟨rfl,rfl⟩:=trodVars_none hV
 have lt0:∀x∈p0,x.block<W.heap.size:=by obtain⟨m,hm⟩:=h0;exact DataW.trod_lt m _ _ _ hm
 obtain⟨l0,hl0⟩:=Zto Tryz.underlying23 Tryz.underlying31 (by kernel_rfl) rfl rfl (by kernel_rfl) (by kernel_rfl) (by kernel_rfl) (by kernel_rfl) (hval 0 23 v0 rfl rfl) h0 lt0
 have lt1:∀x∈p1,x.block<W.heap.size:=by obtain⟨m,hm⟩:=h1;exact DataW.trod_lt m _ _ _ hm
 obtain⟨b1,s1,c1,t1,rfl⟩:=Zkr Tryz.underlying41 Tryz.underlying31 (by kernel_rfl) (by kernel_rfl) rfl rfl rfl rfl (by kernel_rfl) (by kernel_rfl) (by kernel_rfl) (by kernel_rfl) rfl rfl (hval 1 41 v1 rfl rfl) h1
 have lt2:∀x∈p2,x.block<W.heap.size:=by obtain⟨m,hm⟩:=h2;exact DataW.trod_lt m _ _ _ hm
 obtain⟨b2,s2,c2,t2,rfl⟩:=Zkr Tryz.underlying41 Tryz.underlying31 (by kernel_rfl) (by kernel_rfl) rfl rfl rfl rfl (by kernel_rfl) (by kernel_rfl) (by kernel_rfl) (by kernel_rfl) rfl rfl (hval 2 41 v2 rfl rfl) h2
 clear hA0 hval0
 refine(Yb9 v0 l0 b1 s1 c1 t1 b2 s2 c2 t2 W (fun p hp=>by cases hp with | head=>exact hl0 | tail _ hp=>cases hp)).mono fun e W' ⟨_,he,_,bel,_⟩=>?_
 subst he
 exact⟨_,rfl,_,_,_,[],_,[],hW',trodAll_mk1 (shut_bool Tryz.underlying4 _),(trodAll_cons_mk (Below.trod Zo8 (by kernel_rfl) (of_decide_eq_true (by kernel_rfl)) h0 bel lt0) (trodAll_cons_mk (Below.trod Zo8 (by kernel_rfl) (of_decide_eq_true (by kernel_rfl)) h1 bel lt1) (trodAll_cons_mk (Below.trod Zo8 (by kernel_rfl) (of_decide_eq_true (by kernel_rfl)) h2 bel lt2) trodAll_mk0))),rfl,bel.frame _,fun h=>by cases h⟩
theorem x_holds : Rows.SignProvesSaid :=
 OpenClaim.holds_of_wide 7 Tryz.f7 rfl rfl rfl rfl rfl rfl rfl ⟨rfl,rfl,rfl,rfl,rfl⟩ rfl rfl rfl rfl rfl (by kernel_rfl) Tryz.func7 (by kernel_rfl)
  (of_decide_eq_true (by kernel_rfl)) (by unfold Func.isWrapper;first | (rw [if_pos (by decide +kernel)];kernel_rfl) | (rw [if_neg (by decide +kernel)];exact⟨rfl,rfl⟩))
  (fun os started H enc _=>lifted os started H enc)
#print axioms x_holds
end Go.Proofs.YtcmiiammekgooaaGreat

