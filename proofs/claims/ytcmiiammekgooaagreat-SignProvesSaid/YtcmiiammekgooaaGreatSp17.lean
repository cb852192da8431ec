/- Rules, arithmetic and contracts: part 18. No conditions but those that each theorem names. -/
import Derived.Test.YtcmiiammekgooaaGreatSp16
set_option linter.all false
set_option maxHeartbeats 4000000
namespace Go.Sky
open Go.Proofs.Tryz
open Go.Proofs
set_option maxRecDepth 20000
set_option maxHeartbeats 4000000
set_option linter.unusedSimpArgs false
theorem Zj7(v:Value)(xs:List Int)(hd:Cvd xs)(hs:Sz 40 xs):Cal prog 33 #[v] [Pw 2 wv v xs] false (G:=Int) (fun r=>¬Ey xs r∧Ey xs (r+1)∧bl r.natAbs≤60) (fun r=> .tuple #[wv r,.int .i64 0]) (fun r=>[]):=by
 refine Yg func33 J ntmps33 J K1 fun w0 sc hw hsc=>?_
 simp only [Zs,Zq]
 have hv:=hd.v
 have hlx:=hd.l
 refine Yl (Nc 999 2 31 wv)<|Yl (Qw 999 J J pV)<|Zb<|Zf<|tt (Xi (i:=2) K2 zeroValue31 K2 hw) fun bx _=>Zo J<|Zd<|Za<|Zb<|Zn<|Zb<|Zf<|mv J<|tt (Zy (n:=2) (Qt _ _ ‹_›) K4 Av (Zi 1 K3 Ze) J hw) fun _ _=>dt (Xh J J)<|Zo J<|Zd<|Za<|Yk J<|Zb<|Zf<|mv J<|tt (Yf (n:=2) (Zn3 _ 8 xs hv) K5 call50 (Zi 1 K3 Ze) J hw) fun _ _=>dt (dF (Zev J J) (vB (decide_eq_false (fun h=>h (Ba hd (by omega))))))<|Zo J<|Zd<|Za<|Yk J<|Zb<|Zf<|mv J<|dt (Yc J J (i:=1) J Zg Xn)<|dt (Hf K3)<|Zo J<|Zd<|Za<|Zr J (fun h315=>?_) (fun h315=>?_)
 ·exact Zb<|Zf<|dt (Oi (ivs:=[]) J trivial (fun a w hs=>Ygs))<|tt (Zt (i:=2) K6 Yb K2 ⟨Zc J,Zc J,trivial⟩ J hw trivial) fun _ _=>Zo J<|Zd<|Za<|Zp<|Md<|Yp<|Yr (.inl J) hsc 0 _ (fun a w hs=>Pz hs results33 (Yw (i:=2) J J Xl Yb J) J) J (by have h9:xs=[]:=List.eq_nil_of_length_eq_zero (by omega);subst h9;exact⟨Zro.1,Zro.2,by decide⟩) J Zm
 ·refine Zl<|Qh<|Za<|Zb<|Zf<|tt (Zy (n:=2) (Xw _ ⟨by decide,by decide⟩) K4 Fb Ze J hw) fun _ _=>dt (Oi (ivs:=[(1,_)]) J K2 (fun a w hs=>b41_1))<|tt (Zy (n:=2) (Xw _ ⟨by decide,by decide⟩) K4 Fb Ze J hw) fun _ _=>tt (Zy (n:=2) (Xw _ ⟨by decide,by decide⟩) K4 Fb Ze J hw) fun _ _=>dt (Oi (ivs:=[(0,_),(1,_)]) J K4 (fun a w hs=>Zfn))<|tt (Xi (i:=3) K2 zeroValue41 K2 hw) fun bx_2 _=>tt (Xi (i:=4) K2 zeroValue41 K2 hw) fun bx_3 _=>tt (Zt (i:=3) K6 Ym K2 ⟨Zc J,Zc J,Zc J,Zc J,trivial⟩ J hw trivial) fun _ _=>tt (Zt (i:=4) K6 Ym K2 ⟨Zc J,Zc J,Zc J,Zc J,trivial⟩ J hw trivial) fun _ _=>Zd<|Za<|Zb<|Zf<|tt (Xi (i:=5) K2 zeroValue102 K2 hw) fun bx_4 _=>Zd<|Za<|Iy [(0,_),(2,_),(4,_),(5,_),(6,_)] [(0,_),(1,_),(999,_),(2,_),(3,_),(4,_),(5,_)] (fun(q:Nat×Nat)=>[(7,.pointer (some ⟨q.1,0,none⟩)),(8,.pointer (some ⟨q.2,0,none⟩))]) (fun(q:Nat×Nat)=>[(97,box q.1 31 (wc 0)),(98,box q.2 31 (wc (cf xs 0)))]) (fun(q:Nat×Nat)=>True) K5 K7 ?_ ?_
  ·refine Ni [1] [7]<|Zw (n:=5) [(1,0),(2,0),(3,0)]<|Zh K2 (Yy (Ya K2) K1)<|Zh K2 (Yy (Nj (ii:=1) (i:=0) K4 Zg Xn Yb J) K1)<|Zh K2 (Yy (Ms (ii:=1) 0 K3 Zg pV) K1)<|Yi<|Fu (n:=4) 0 4 5 ?_ ?_ ?_
   ·refine Yd J (Zy (n:=5) (Xw _ ⟨by decide,by decide⟩) K4 Fb Ze J hw) fun _ _=>Qg (n:=3) 4 5 ?_ ?_
    ·exact Yd J (Xj (i:=97) K2 zeroValue31 K2 hw K1) fun bx_5 ho=>Zw (n:=0) [(5,1),(6,1),(7,3)]<|Yq J (Xj (i:=98) K2 zeroValue31 K2 hw K1) fun bx_6 ho2=>Yq J (Zt (i:=97) K6 Yb K2 ⟨Zc J,Zc J,trivial⟩ J hw ho) fun _ _=>Qs J (Zt (i:=98) K6 Yb K2 ⟨Zc J,Zc J,trivial⟩ J hw trivial) fun _ _=>Yi<|Yh<|Xd (_,_) trivial K7 K9
    ·exact Yd J (Xj (i:=98) K2 zeroValue31 K2 hw K1) fun bx_7 ho3=>Zw (n:=0) [(4,1),(6,1),(7,3)]<|Yq J (Xj (i:=97) K2 zeroValue31 K2 hw K1) fun bx_8 ho4=>Yq J (Zt (i:=97) K6 Yb K2 ⟨Zc J,Zc J,trivial⟩ J hw ho4) fun _ _=>Qs J (Zt (i:=98) K6 Yb K2 ⟨Zc J,Zc J,trivial⟩ J hw trivial) fun _ _=>Yi<|Yh<|Xd (_,_) trivial K7 K9
   ·refine Yd J (Xj (i:=97) K2 zeroValue31 K2 hw K1) fun bx_9 ho5=>Qg (n:=3) 0 5 ?_ ?_
    ·exact Yd J (Zy (n:=5) (Xw _ ⟨by decide,by decide⟩) K4 Fb Ze J hw) fun _ _=>Zw (n:=0) [(5,1),(6,1),(7,3)]<|Yq J (Xj (i:=98) K2 zeroValue31 K2 hw K1) fun bx_10 ho6=>Yq J (Zt (i:=97) K6 Yb K2 ⟨Zc J,Zc J,trivial⟩ J hw ho5) fun _ _=>Qs J (Zt (i:=98) K6 Yb K2 ⟨Zc J,Zc J,trivial⟩ J hw trivial) fun _ _=>Yi<|Yh<|Xd (_,_) trivial K7 K9
    ·exact Yd J (Xj (i:=98) K2 zeroValue31 K2 hw K1) fun bx_11 ho7=>Zw (n:=0) [(0,1),(6,1),(7,3)]<|Yq J (Zy (n:=5) (Xw _ ⟨by decide,by decide⟩) K4 Fb Ze J hw) fun _ _=>Yq J (Zt (i:=97) K6 Yb K2 ⟨Zc J,Zc J,trivial⟩ J hw ho5) fun _ _=>Qs J (Zt (i:=98) K6 Yb K2 ⟨Zc J,Zc J,trivial⟩ J hw trivial) fun _ _=>Yi<|Yh<|Xd (_,_) trivial K7 K9
   ·refine Yd J (Xj (i:=98) K2 zeroValue31 K2 hw K1) fun bx_12 ho8=>Qg (n:=3) 0 4 ?_ ?_
    ·exact Yd J (Zy (n:=5) (Xw _ ⟨by decide,by decide⟩) K4 Fb Ze J hw) fun _ _=>Zw (n:=0) [(4,1),(6,1),(7,3)]<|Yq J (Xj (i:=97) K2 zeroValue31 K2 hw K1) fun bx_13 ho9=>Yq J (Zt (i:=97) K6 Yb K2 ⟨Zc J,Zc J,trivial⟩ J hw ho9) fun _ _=>Qs J (Zt (i:=98) K6 Yb K2 ⟨Zc J,Zc J,trivial⟩ J hw trivial) fun _ _=>Yi<|Yh<|Xd (_,_) trivial K7 K9
    ·exact Yd J (Xj (i:=97) K2 zeroValue31 K2 hw K1) fun bx_14 ho10=>Zw (n:=0) [(0,1),(6,1),(7,3)]<|Yq J (Zy (n:=5) (Xw _ ⟨by decide,by decide⟩) K4 Fb Ze J hw) fun _ _=>Yq J (Zt (i:=97) K6 Yb K2 ⟨Zc J,Zc J,trivial⟩ J hw ho10) fun _ _=>Qs J (Zt (i:=98) K6 Yb K2 ⟨Zc J,Zc J,trivial⟩ J hw trivial) fun _ _=>Yi<|Yh<|Xd (_,_) trivial K7 K9
  ·rintro⟨b7,b8⟩ -
   simp only [CA,NA]
   refine Zb<|Ni [] []<|Qg (n:=6) 0 1 ?_ ?_
   ·refine Yd J (Pu (Qm (i:=98) K3 Xl Yb K2) J) fun _ _=>Zw (n:=0) [(1,1),(2,1),(3,0),(4,0),(5,0),(6,1)]<|Yq J (Zy (n:=5) (Xw _ ⟨by decide,by decide⟩) K4 Fb Ze J hw) fun _ _=>Yq J (Yf (n:=5) (Cr (cf xs 0) 1 (hv.sz 0) (by decide)) K5 call82 Ze J hw) fun _ _=>Zh K2 (Yy (Ya K2) trivial)<|Zh K2 (Yy (Xa K3) trivial)<|Zh K2 (Yy (Xa K3) trivial)<|Yq J (Zt (i:=98) K6 Yb K2 ⟨Zc J,Zc J,trivial⟩ J hw (fun _ h=>nomatch h)) fun _ _=>Yi<|Yh<|Za<|Zb<|Zb<|Yl (Fc 98 (q:=box b8 31 (wc (cf xs 0+1))) (congrArg (fun z=>box b8 31 (wc z)) (Ma (Nat.le_trans (Zan (z:=cf xs 0+1) (by have:=Zfz hs 0;omega)) (by omega)))) J J)<|Zf<|mv J<|dt (Yc J J (i:=1) J Zg Xn)<|mv J<|Zd<|Za<|Zn<|Px [(0,_),(2,_),(4,_),(5,_),(6,_),(7,_),(8,_),(46,_),(47,_)] [(0,_),(98,_),(1,_),(999,_),(2,_),(3,_),(4,_),(5,_)] (fun(i:Nat)=>[(48,.int .i64 (i:Int))]) (fun(i:Nat)=>[(97,box b7 31 (wc (lws (xs.take i))))]) (fun(i:Nat)=>i≤xs.length) (fun(i:Nat)=>xs.length-i) 0 (by first | omega | (dsimp only<;>omega)) K10 K9 ?_
    rintro i hi
    simp only [CA,NA]
    refine Zb<|Zf<|dt (Pa K3)<|Zd<|Za<|Zb<|Zr J (fun h323=>?_) (fun h323=>?_)
    ·refine Zl<|Za<|Zb<|Zn<|Zb<|Zf<|dt (Nj (ii:=1) K4 Zg Xn Yb J (by first | omega | (simp only [List.length_set];omega)))<|dt (Ms (ii:=1) 0 K3 Zg pV (by first | omega | (simp only [List.length_set];omega)))<|tt (Xi (i:=6) K2 zeroValue31 K2 hw) fun bx_15 _=>tt (Zt (i:=6) K6 Yb K2 ⟨Zc J,Zc J,trivial⟩ J hw trivial) fun _ _=>Zd<|Za<|Zb<|Zf<|dt (Qy K2 Db J zT4 K2)<|tt (Zj2 (cs':=#[]) (i:=6) J J J J J J zT4 J J ⟨Zc J,trivial⟩ J hw trivial) fun _ _=>Zd<|Za<|Zb<|Zb<|Zf<|dt (Qy K2 Db J zT9 K2)<|dt (Mc (i:=6) K3 iA9 J)<|dt (Zlj J J J J)<|Zd<|Za<|Zr J (fun h325=>?_) (fun h325=>?_)
     ·have hc0:(cf xs i).natAbs=0:=Ydd h325
      exact Yt<|Zv<|Pd<|Za<|Zf<|dt (Ov K3)<|mv J<|Zd<|Xg (i+1) (by first | omega | (dsimp only<;>omega)) (by first | omega | (dsimp only<;>omega)) K10 ⟨(by rw [Zbe (by omega)];first | rfl | (rw [hc0,show lws (xs.take i) + -((0:Nat):Int)=lws (xs.take i) by omega]<;>rfl)),J,J,J,J,J,J,J,J,trivial⟩
     ·have hc0:cf xs i≠0:=Zxe h325
      have hlwi:=Zdc hs hlx i
      have hlws:=Zdc hs hlx (i+1)
      rw [Zbe (by omega)]at hlws
      have hlw:bl (lws (xs.take i)).natAbs≤65536:=Nat.le_trans (Zan (by omega)) (by omega)
      have hcb:bl (-((cf xs i).natAbs:Int)).natAbs≤65536:=by rw [Int.natAbs_neg,Int.natAbs_natCast];exact hv.sz i
      exact Zl<|Za<|Zf<|dt (Qm (i:=97) K3 Xl Yb K2)<|dt (Ej (r':=wv (-((cf xs i).natAbs:Int))) (Qm (i:=6) K3 Xl Yb K2) (Zuk hc0).symm)<|tt (Yf (n:=6) (Cr (lws (xs.take i)) (-((cf xs i).natAbs:Int)) hlw hcb) K5 call82 Ze J hw) fun _ _=>mv J<|dt (Xa K3)<|dt (Xa K3)<|tt (Zt (i:=97) K6 Yb K2 ⟨Zc J,Zc J,trivial⟩ J hw trivial) fun _ _=>Qx (Fc 97 (q:=box b7 31 (wc (lws (xs.take i) + -((cf xs i).natAbs:Int)))) (congrArg (fun z=>box b7 31 (wc z)) (Ma (Nat.le_trans (Zan (by omega)) (by omega)))) J J)<|Zd<|Qh<|Za<|Zf<|dt (Ov K3)<|mv J<|Zd<|Xg (i+1) (by first | omega | (dsimp only<;>omega)) (by first | omega | (dsimp only<;>omega)) K10 ⟨(by rw [Zbe (by omega)];first | rfl | (rw [hc0,show lws (xs.take i) + -((0:Nat):Int)=lws (xs.take i) by omega]<;>rfl)),J,J,J,J,J,J,J,J,trivial⟩
    ·refine Yt<|Zv<|Zv<|Pd<|Za<|Zn<|Px [(0,_),(2,_),(4,_),(5,_),(6,_),(7,_),(8,_)] [(0,_),(1,_),(999,_),(2,_),(3,_),(4,_),(5,_)] (fun(q:Int×Int)=>[]) (fun(q:Int×Int)=>[(97,box b7 31 (wc q.1)),(98,box b8 31 (wc q.2))]) (fun(q:Int×Int)=>FlI xs q.1 q.2) (fun(q:Int×Int)=>(q.2-q.1).toNat) (lws (xs.take i),cf xs 0+1) (FlI.start hs hd.l (by omega)) K7 K9 ?_
     rintro⟨lo,hi⟩ hF
     dsimp only at hF
     simp only [CA,NA]
     have hlt:=hF.lt
     have hfb1:=hF.b1
     have hfb2:=hF.b2
     have hlb:=Zan (z:=lo) (by omega)
     have hhb:=Zan (z:=hi) (by omega)
     have hsb:=Zan (z:=lo+hi) (by omega)
     have hmb:=Zan (z:=((lo+hi)/2)) (by omega)
     obtain⟨hcv,hcz,hcm⟩:=Zm9 (m:=((lo+hi)/2)) hd hs (by omega)
     refine Zn<|Zb<|Zf<|dt (Qm (i:=97) K3 Xl Yb K2)<|dt (Qm (i:=98) K3 Xl Yb K2)<|tt (Yf (n:=6) (Cr lo hi) K5 call82 Ze J hw) fun _ _=>mv J<|dt (Xa K3)<|dt (Xa K3)<|tt (Xi (i:=7) K2 zeroValue31 K2 hw) fun bx_16 _=>tt (Zt (i:=7) K6 Yb K2 ⟨Zc J,Zc J,trivial⟩ J hw trivial) fun _ _=>Qx (Fc 7 (q:=box bx_16 31 (wc (lo+hi))) (congrArg (fun z=>box bx_16 31 (wc z)) (Ma (by omega))) J J)<|Zo J<|Zd<|Za<|Zb<|Zf<|dt (Qm (i:=7) K3 Xl Yb K2)<|tt (Yf (n:=7) (Zh6 (lo+hi)) K5 call83 Ze J hw) fun _ _=>mv J<|dt (Xa K3)<|dt (Xa K3)<|tt (Zt (i:=7) K6 Yb K2 ⟨Zc J,Zc J,trivial⟩ J hw trivial) fun _ _=>Qx (Fc 7 (q:=box bx_16 31 (wc ((lo+hi)/2))) (congrArg (fun z=>box bx_16 31 (wc z)) (Ma (by omega))) J J)<|Zd<|Za<|Zb<|Zb<|Zf<|dt (Qm (i:=7) K3 Xl Yb K2)<|dt (Qm (i:=97) K3 Xl Yb K2)<|tt (Yf (n:=7) (Zfr ((lo+hi)/2) lo) K5 call84 Ze J hw) fun _ _=>dt (Ev J J J)<|Zd<|Za<|Zr J (fun h334=>?_) (fun h334=>?_)
     ·have hmlo:((lo+hi)/2)≤lo:=by have:=Zu0 h334;omega
      exact Zb<|Ni [5,97] [4]<|Zw (n:=0) [(0,0),(1,0),(2,0),(3,1),(4,3)]<|Zh K2 (Yy (Qm (i:=97) K3 Xl Yb K2) K2)<|Zh K2 (Yy (Qy K2 Ks J Ie K2) K2)<|Zh K2 (Yy (Mc (i:=5) K3 Ee J) K2)<|Yq J (Zcz 2 J J K2 (fun ob=>Zt (i:=2) K6 Yb K2 ⟨Zc J,Zc J,trivial⟩ J hw ob)) fun _ _=>Qs J (Pu (Ok J J) J) fun _ _=>Yi<|Yh<|Za<|Zp<|Yp<|Md<|Yp<|Md<|Yr (.inl J) hsc lo _ (fun a w hs=>Pz hs results33 (Yw (i:=2) J J Xl Yb J) J) J ⟨hF.l,by rw [show lo+1=hi by omega];exact hF.h,by omega⟩ J Zm
     ·have hmlo:lo<((lo+hi)/2):=by have:=Zu1 h334;omega
      refine Zl<|Za<|Zb<|Zf<|mv J<|dt (Qm (i:=7) K3 Xl Yb K2)<|tt (Zy (n:=8) (Zu5 ((lo+hi)/2)) K4 call86 Ze J hw) fun v _=>tt (Yf (n:=9) (Zq9 _ _ xs (tzl [((lo+hi)/2)]) hv hcm hcz) K5 call85 (Zi 1 K3 (Zi 8 K3 Ze)) J hw) fun _ _=>mv J<|dt (Xa K3)<|dt (Xa K3)<|Zo J<|Zo J<|Zd<|Za<|Zb<|Zb<|Zf<|mv J<|dt (dF (Pk K3) (vB (by decide)))<|Zd<|Za<|Yk J<|Zl<|Za<|Zb<|Zf<|mv J<|tt (Zy (n:=10) (Zj6 _ _ hcv) K4 call59 (Zi 9 K3 Ze) J hw) (fun g hg=>?_)
      obtain⟨hgl,hgc⟩:=hg
      refine mv J<|dt (Xa K3)<|dt (Xa K3)<|tt (Xi (i:=12) K2 zeroValue98 K2 hw) fun bx_17 _=>tt (Zt (i:=12) K6 Gu K2 ⟨Zj (i:=10) J Ye,Zj (i:=11) J Ye,trivial⟩ J hw trivial) fun _ _=>Zo J<|Zd<|Za<|Zb<|Zb<|Zf<|mv J<|dt (dF (Pk K3) (vB (by decide)))<|Zd<|Za<|Yk J<|Zl<|Za<|Zb<|Zb<|Zf<|dt (Qm (i:=12) K3 Bf Gu K2)<|dt (Pj (i:=3) K3 Xf Ym K4)<|dt (Pj (i:=4) K3 Xf Ym K4)<|tt (Xv (n:=12) (Hj _ _ _ _ _ 0 1 1 1 (by decide) (by decide) (Qo hgl (fun q hq=>(Lm hcv q hq).1)) (Qo hgl (Ky hcv (m:=(0,1)) (by decide) (by decide)).1) (Qo hgc (fun q hq=>(Dl hcv q hq).1)) (Qo hgc (Ky hcv (m:=(0,1)) (by decide) (by decide)).2) (Qo hgc (Ky hcv (m:=(1,1)) (by decide) (by decide)).2) (by have h7:=congrArg List.length hgc;rw [List.length_map]at h7;have:=Cm (Er xs ((lo+hi)/2));omega) (by decide) (by decide) (by decide) (by decide)) J J J K4 call61 (Zi 10 K3 (Zi 11 K3 (Ny 5 J J Ze))) J hw) fun _ _=>Zd<|Za<|Mx J (fun h345=>?_) (fun h345=>?_)
      ·exact Zf<|dt (Qm (i:=7) K3 Xl Yb K2)<|tt (Zt (i:=98) K6 Yb K2 ⟨Zc J,Zc J,trivial⟩ J hw trivial) fun _ _=>Zd<|Za<|Zb<|Zf<|dt (Qy K2 Ks J Ie K2)<|dt (Mc (i:=5) K3 Ee J)<|dt (dF (Pk K3) (vB (by decide)))<|Zd<|Za<|Yk J<|Zl<|Qh<|Xg (lo,((lo+hi)/2)) (⟨hF.l,(Zbf hcv).1 (by rw [←hgl,←hgc];assumption),by omega,by omega⟩) (by dsimp only;omega) K7 K9
      ·exact Zf<|dt (Qm (i:=7) K3 Xl Yb K2)<|tt (Zt (i:=97) K6 Yb K2 ⟨Zc J,Zc J,trivial⟩ J hw trivial) fun _ _=>Zd<|Za<|Zb<|Zf<|dt (Qy K2 Ks J Ie K2)<|dt (Mc (i:=5) K3 Ee J)<|dt (dF (Pk K3) (vB (by decide)))<|Zd<|Za<|Yk J<|Zl<|Qh<|Xg (((lo+hi)/2),hi) (⟨fun e=>absurd ((Zbf hcv).2 e) (by rw [←hgl,←hgc];simp_all),hF.h,by omega,by omega⟩) (by dsimp only;omega) K7 K9
   ·refine Yd J (Zy (n:=12) (Xw _ ⟨by decide,by decide⟩) K4 Fb Ze J hw) fun _ _=>Zw (n:=0) [(0,1),(2,1),(3,0),(4,0),(5,0),(6,1)]<|Yq J (Pu (Qm (i:=98) K3 Xl Yb K2) J) fun _ _=>Yq J (Yf (n:=12) (Cr (cf xs 0) 1 (hv.sz 0) (by decide)) K5 call82 Ze J hw) fun _ _=>Zh K2 (Yy (Ya K2) trivial)<|Zh K2 (Yy (Xa K3) trivial)<|Zh K2 (Yy (Xa K3) trivial)<|Yq J (Zt (i:=98) K6 Yb K2 ⟨Zc J,Zc J,trivial⟩ J hw (fun _ h=>nomatch h)) fun _ _=>Yi<|Yh<|Za<|Zb<|Zb<|Yl (Fc 98 (q:=box b8 31 (wc (cf xs 0+1))) (congrArg (fun z=>box b8 31 (wc z)) (Ma (Nat.le_trans (Zan (z:=cf xs 0+1) (by have:=Zfz hs 0;omega)) (by omega)))) J J)<|Zf<|mv J<|dt (Yc J J (i:=1) J Zg Xn)<|mv J<|Zd<|Za<|Zn<|Px [(0,_),(2,_),(4,_),(5,_),(6,_),(7,_),(8,_),(46,_),(47,_)] [(0,_),(98,_),(1,_),(999,_),(2,_),(3,_),(4,_),(5,_)] (fun(i:Nat)=>[(48,.int .i64 (i:Int))]) (fun(i:Nat)=>[(97,box b7 31 (wc (lws (xs.take i))))]) (fun(i:Nat)=>i≤xs.length) (fun(i:Nat)=>xs.length-i) 0 (by first | omega | (dsimp only<;>omega)) K10 K9 ?_
    rintro i hi
    simp only [CA,NA]
    refine Zb<|Zf<|dt (Pa K3)<|Zd<|Za<|Zb<|Zr J (fun h323_2=>?_) (fun h323_2=>?_)
    ·refine Zl<|Za<|Zb<|Zn<|Zb<|Zf<|dt (Nj (ii:=1) K4 Zg Xn Yb J (by first | omega | (simp only [List.length_set];omega)))<|dt (Ms (ii:=1) 0 K3 Zg pV (by first | omega | (simp only [List.length_set];omega)))<|tt (Xi (i:=13) K2 zeroValue31 K2 hw) fun bx_18 _=>tt (Zt (i:=13) K6 Yb K2 ⟨Zc J,Zc J,trivial⟩ J hw trivial) fun _ _=>Zd<|Za<|Zb<|Zf<|dt (Qy K2 Db J zT4 K2)<|tt (Zj2 (cs':=#[]) (i:=13) J J J J J J zT4 J J ⟨Zc J,trivial⟩ J hw trivial) fun _ _=>Zd<|Za<|Zb<|Zb<|Zf<|dt (Qy K2 Db J zT9 K2)<|dt (Mc (i:=13) K3 iA9 J)<|dt (Zlj J J J J)<|Zd<|Za<|Zr J (fun h325_2=>?_) (fun h325_2=>?_)
     ·have hc0:(cf xs i).natAbs=0:=Ydd h325_2
      exact Yt<|Zv<|Pd<|Za<|Zf<|dt (Ov K3)<|mv J<|Zd<|Xg (i+1) (by first | omega | (dsimp only<;>omega)) (by first | omega | (dsimp only<;>omega)) K10 ⟨(by rw [Zbe (by omega)];first | rfl | (rw [hc0,show lws (xs.take i) + -((0:Nat):Int)=lws (xs.take i) by omega]<;>rfl)),J,J,J,J,J,J,J,J,trivial⟩
     ·have hc0:cf xs i≠0:=Zxe h325_2
      have hlwi:=Zdc hs hlx i
      have hlws:=Zdc hs hlx (i+1)
      rw [Zbe (by omega)]at hlws
      have hlw:bl (lws (xs.take i)).natAbs≤65536:=Nat.le_trans (Zan (by omega)) (by omega)
      have hcb:bl (-((cf xs i).natAbs:Int)).natAbs≤65536:=by rw [Int.natAbs_neg,Int.natAbs_natCast];exact hv.sz i
      exact Zl<|Za<|Zf<|dt (Qm (i:=97) K3 Xl Yb K2)<|dt (Ej (r':=wv (-((cf xs i).natAbs:Int))) (Qm (i:=13) K3 Xl Yb K2) (Zuk hc0).symm)<|tt (Yf (n:=13) (Cr (lws (xs.take i)) (-((cf xs i).natAbs:Int)) hlw hcb) K5 call82 Ze J hw) fun _ _=>mv J<|dt (Xa K3)<|dt (Xa K3)<|tt (Zt (i:=97) K6 Yb K2 ⟨Zc J,Zc J,trivial⟩ J hw trivial) fun _ _=>Qx (Fc 97 (q:=box b7 31 (wc (lws (xs.take i) + -((cf xs i).natAbs:Int)))) (congrArg (fun z=>box b7 31 (wc z)) (Ma (Nat.le_trans (Zan (by omega)) (by omega)))) J J)<|Zd<|Qh<|Za<|Zf<|dt (Ov K3)<|mv J<|Zd<|Xg (i+1) (by first | omega | (dsimp only<;>omega)) (by first | omega | (dsimp only<;>omega)) K10 ⟨(by rw [Zbe (by omega)];first | rfl | (rw [hc0,show lws (xs.take i) + -((0:Nat):Int)=lws (xs.take i) by omega]<;>rfl)),J,J,J,J,J,J,J,J,trivial⟩
    ·refine Yt<|Zv<|Zv<|Pd<|Za<|Zn<|Px [(0,_),(2,_),(4,_),(5,_),(6,_),(7,_),(8,_)] [(0,_),(1,_),(999,_),(2,_),(3,_),(4,_),(5,_)] (fun(q:Int×Int)=>[]) (fun(q:Int×Int)=>[(97,box b7 31 (wc q.1)),(98,box b8 31 (wc q.2))]) (fun(q:Int×Int)=>FlI xs q.1 q.2) (fun(q:Int×Int)=>(q.2-q.1).toNat) (lws (xs.take i),cf xs 0+1) (FlI.start hs hd.l (by omega)) K7 K9 ?_
     rintro⟨lo,hi⟩ hF
     dsimp only at hF
     simp only [CA,NA]
     have hlt:=hF.lt
     have hfb1:=hF.b1
     have hfb2:=hF.b2
     have hlb:=Zan (z:=lo) (by omega)
     have hhb:=Zan (z:=hi) (by omega)
     have hsb:=Zan (z:=lo+hi) (by omega)
     have hmb:=Zan (z:=((lo+hi)/2)) (by omega)
     obtain⟨hcv,hcz,hcm⟩:=Zm9 (m:=((lo+hi)/2)) hd hs (by omega)
     refine Zn<|Zb<|Zf<|dt (Qm (i:=97) K3 Xl Yb K2)<|dt (Qm (i:=98) K3 Xl Yb K2)<|tt (Yf (n:=13) (Cr lo hi) K5 call82 Ze J hw) fun _ _=>mv J<|dt (Xa K3)<|dt (Xa K3)<|tt (Xi (i:=14) K2 zeroValue31 K2 hw) fun bx_19 _=>tt (Zt (i:=14) K6 Yb K2 ⟨Zc J,Zc J,trivial⟩ J hw trivial) fun _ _=>Qx (Fc 14 (q:=box bx_19 31 (wc (lo+hi))) (congrArg (fun z=>box bx_19 31 (wc z)) (Ma (by omega))) J J)<|Zo J<|Zd<|Za<|Zb<|Zf<|dt (Qm (i:=14) K3 Xl Yb K2)<|tt (Yf (n:=14) (Zh6 (lo+hi)) K5 call83 Ze J hw) fun _ _=>mv J<|dt (Xa K3)<|dt (Xa K3)<|tt (Zt (i:=14) K6 Yb K2 ⟨Zc J,Zc J,trivial⟩ J hw trivial) fun _ _=>Qx (Fc 14 (q:=box bx_19 31 (wc ((lo+hi)/2))) (congrArg (fun z=>box bx_19 31 (wc z)) (Ma (by omega))) J J)<|Zd<|Za<|Zb<|Zb<|Zf<|dt (Qm (i:=14) K3 Xl Yb K2)<|dt (Qm (i:=97) K3 Xl Yb K2)<|tt (Yf (n:=14) (Zfr ((lo+hi)/2) lo) K5 call84 Ze J hw) fun _ _=>dt (Ev J J J)<|Zd<|Za<|Zr J (fun h334_2=>?_) (fun h334_2=>?_)
     ·have hmlo:((lo+hi)/2)≤lo:=by have:=Zu0 h334_2;omega
      exact Zb<|Ni [5,97] [4]<|Zw (n:=0) [(0,0),(1,0),(2,0),(3,1),(4,3)]<|Zh K2 (Yy (Qm (i:=97) K3 Xl Yb K2) K2)<|Zh K2 (Yy (Qy K2 Ks J Ie K2) K2)<|Zh K2 (Yy (Mc (i:=5) K3 Ee J) K2)<|Yq J (Zcz 2 J J K2 (fun ob=>Zt (i:=2) K6 Yb K2 ⟨Zc J,Zc J,trivial⟩ J hw ob)) fun _ _=>Qs J (Pu (Ok J J) J) fun _ _=>Yi<|Yh<|Za<|Zp<|Yp<|Md<|Yp<|Md<|Yr (.inl J) hsc lo _ (fun a w hs=>Pz hs results33 (Yw (i:=2) J J Xl Yb J) J) J ⟨hF.l,by rw [show lo+1=hi by omega];exact hF.h,by omega⟩ J Zm
     ·have hmlo:lo<((lo+hi)/2):=by have:=Zu1 h334_2;omega
      refine Zl<|Za<|Zb<|Zf<|mv J<|dt (Qm (i:=14) K3 Xl Yb K2)<|tt (Zy (n:=15) (Zu5 ((lo+hi)/2)) K4 call86 Ze J hw) fun v_2 _=>tt (Yf (n:=16) (Zq9 _ _ xs (tzl [((lo+hi)/2)]) hv hcm hcz) K5 call85 (Zi 1 K3 (Zi 15 K3 Ze)) J hw) fun _ _=>mv J<|dt (Xa K3)<|dt (Xa K3)<|Zo J<|Zo J<|Zd<|Za<|Zb<|Zb<|Zf<|mv J<|dt (dF (Pk K3) (vB (by decide)))<|Zd<|Za<|Yk J<|Zl<|Za<|Zb<|Zf<|mv J<|tt (Zy (n:=17) (Zj6 _ _ hcv) K4 call59 (Zi 16 K3 Ze) J hw) (fun g_2 hg_2=>?_)
      obtain⟨hgl,hgc⟩:=hg_2
      refine mv J<|dt (Xa K3)<|dt (Xa K3)<|tt (Xi (i:=19) K2 zeroValue98 K2 hw) fun bx_20 _=>tt (Zt (i:=19) K6 Gu K2 ⟨Zj (i:=17) J Ye,Zj (i:=18) J Ye,trivial⟩ J hw trivial) fun _ _=>Zo J<|Zd<|Za<|Zb<|Zb<|Zf<|mv J<|dt (dF (Pk K3) (vB (by decide)))<|Zd<|Za<|Yk J<|Zl<|Za<|Zb<|Zb<|Zf<|dt (Qm (i:=19) K3 Bf Gu K2)<|dt (Pj (i:=3) K3 Xf Ym K4)<|dt (Pj (i:=4) K3 Xf Ym K4)<|tt (Xv (n:=19) (Hj _ _ _ _ _ 0 1 1 1 (by decide) (by decide) (Qo hgl (fun q hq=>(Lm hcv q hq).1)) (Qo hgl (Ky hcv (m:=(0,1)) (by decide) (by decide)).1) (Qo hgc (fun q hq=>(Dl hcv q hq).1)) (Qo hgc (Ky hcv (m:=(0,1)) (by decide) (by decide)).2) (Qo hgc (Ky hcv (m:=(1,1)) (by decide) (by decide)).2) (by have h7:=congrArg List.length hgc;rw [List.length_map]at h7;have:=Cm (Er xs ((lo+hi)/2));omega) (by decide) (by decide) (by decide) (by decide)) J J J K4 call61 (Zi 17 K3 (Zi 18 K3 (Ny 5 J J Ze))) J hw) fun _ _=>Zd<|Za<|Mx J (fun h345_2=>?_) (fun h345_2=>?_)
      ·exact Zf<|dt (Qm (i:=14) K3 Xl Yb K2)<|tt (Zt (i:=98) K6 Yb K2 ⟨Zc J,Zc J,trivial⟩ J hw trivial) fun _ _=>Zd<|Za<|Zb<|Zf<|dt (Qy K2 Ks J Ie K2)<|dt (Mc (i:=5) K3 Ee J)<|dt (dF (Pk K3) (vB (by decide)))<|Zd<|Za<|Yk J<|Zl<|Qh<|Xg (lo,((lo+hi)/2)) (⟨hF.l,(Zbf hcv).1 (by rw [←hgl,←hgc];assumption),by omega,by omega⟩) (by dsimp only;omega) K7 K9
      ·exact Zf<|dt (Qm (i:=14) K3 Xl Yb K2)<|tt (Zt (i:=97) K6 Yb K2 ⟨Zc J,Zc J,trivial⟩ J hw trivial) fun _ _=>Zd<|Za<|Zb<|Zf<|dt (Qy K2 Ks J Ie K2)<|dt (Mc (i:=5) K3 Ee J)<|dt (dF (Pk K3) (vB (by decide)))<|Zd<|Za<|Yk J<|Zl<|Qh<|Xg (((lo+hi)/2),hi) (⟨fun e=>absurd ((Zbf hcv).2 e) (by rw [←hgl,←hgc];simp_all),hF.h,by omega,by omega⟩) (by dsimp only;omega) K7 K9
variable {P:Program} {N:Nat} {sc:Nat→Prop} {env env':Kl} {H H':Hp} {Q Q':Exit→Act→World→Prop}
def Zao(l:List Int):Array Value:=(l.map (Value.int .i64)).toArray
theorem Zmf(l:List Int):(Zao l).size=l.length:=by simp [Zao]
theorem Zzc{l:List Int}{j:Nat}(h:j<l.length):(Zao l)[j]? = some (.int .i64 (l.getD j 0)):=by
 simp [Zao,List.getElem?_eq_getElem h,List.getD_eq_getElem?_getD]
theorem Zzb{l:List Int}{j:Nat}{v:Int}(h:j<l.length):Ap (Zao l) j [.int .i64 v]=Zao (l.set j v):=by
 unfold Ap Zao
 congr 1
 rw [List.set_eq_take_append_cons_drop,if_pos h,List.map_append,List.map_cons,List.map_take,List.map_drop]
 simp
theorem Zdm {o:Oper} {x y:Operand} {t e:TypeId} {b off i k len:Nat} {kd:IntKind} {m:Int} (ho:o.op= .indexAddr t x y) (hx:ev env x=some (.pointer (some ⟨b,off,none⟩))) (hy:ev env y=some (.int kd m))
  (ht:P.underlying t=some (.array len e)) (hk:∀w,(sizeOf e).run P w= .ok k w) (him:m=(i:Int):=by omega) (hlt:i<len:=by omega):Kz P N sc o env H (.pointer (some ⟨b,off+i*k,none⟩)):=fun a w hs=>by
 subst him
 simp [execOp,ho,hs.ev hx,hs.ev hy,Instr.indexAt,Instr.sureAddr,asIntOf,run_underlying ht,hk,hlt,Mz]
theorem Yc4{o:Oper}{x:Operand}{t tb:TypeId}{i b j:Nat}{l:List Int}(ho:o.op= .load t x)(hx:ev env x=some (.pointer (some ⟨b,j,none⟩)))(hH:lk H i=some (box b tb (Zao l)))(ht:∀w,(isAgg t).run P w= .ok false w)(hj:j<l.length:=by omega) :
  Kz P N sc o env H (.int .i64 (l.getD j 0)):=d_lb ho hx hH ht (Zzc hj)
theorem d_lwa{o:Oper}{x:Operand}{t tb:TypeId}{i b k:Nat}{l:List Int}(ho:o.op= .load t x)(hx:ev env x=some (.pointer (some ⟨b,0,none⟩)))(hH:lk H i=some (box b tb (Zao l)))(ht:∀w,(isAgg t).run P w= .ok true w)(hk:∀w,(sizeOf t).run P w= .ok k w)(hl:l.length=k) :
  Kz P N sc o env H (.agg (Zao l)):=
 Zws (vs:=l.map (Value.int .i64)) ho hx hH ht hk (by simpa using hl) (fun n u hu=>by rw [Nat.zero_add];simpa [Zao]using hu)
theorem Zs3 {M:Nat→Prop} {o:Oper} {x y:Operand} {t tb:TypeId} {i b j:Nat} {l:List Int} {v:Int} {w0:World} {M0:Nat→Prop} (ho:o.op= .store t x y) (hd:o.dst=none)
  (hx:ev env x=some (.pointer (some ⟨b,j,none⟩))) (hy:ev env y=some (.int .i64 v)) (hH:lk H i=some (box b tb (Zao l))) (hk:∀w,(sizeOf t).run P w= .ok 1 w) 
  (h0:lk H 0=some (La w0 M0)) (hw:∀b,w0.heap.size≤b→sc b) (hM:M b) (hi0:i≠0:=by decide) (hj:j<l.length:=by omega) :
  T P N sc M o env H (G:=Unit) (fun _=>True) (fun _=>env) (fun _=>(i,box b tb (Zao (l.set j v))) :: H):=by
 rw [←Zzb hj]
 exact Zus (vs:=[.int .i64 v]) ho hd hx hy hH hi0 rfl hk rfl (by rw [Zmf];exact hj) (fun u hu=>Zc (by rw [List.mem_singleton.1 hu];rfl)) rfl h0 hw hM
theorem Zzi {M:Nat→Prop} {o:Oper} {x y:Operand} {t tb:TypeId} {i b k:Nat} {cs:Array Value} {l:List Int} {w0:World} {M0:Nat→Prop} (ho:o.op= .store t x y) (hd:o.dst=none)
  (hx:ev env x=some (.pointer (some ⟨b,0,none⟩))) (hy:ev env y=some (.agg (Zao l))) (hH:lk H i=some (box b tb cs)) (hk:∀w,(sizeOf t).run P w= .ok k w) (hl:l.length=k) (hc:cs.size=k)
  (h0:lk H 0=some (La w0 M0)) (hw:∀b,w0.heap.size≤b→sc b) (hM:M b) (hi0:i≠0:=by decide) :
  T P N sc M o env H (G:=Unit) (fun _=>True) (fun _=>env) (fun _=>(i,box b tb (Zao l)) :: H):=
 Zus (vs:=l.map (Value.int .i64)) ho hd hx hy hH hi0 rfl hk (by simpa using hl) (by simp;omega) (fun u hu=>Zc (by obtain⟨z,_,rfl⟩:=List.mem_map.1 hu;rfl)) (by
  unfold Ap Zao
  rw [List.take_zero,List.nil_append,Nat.zero_add,List.drop_eq_nil_of_le (by simp;omega),List.append_nil]) h0 hw hM
def Fs:Nat→Nat→Nat
 | _,0=>1
 | 0,_+1=>0
 | n+1,k+1=>Fs n k+Fs n (k+1)
theorem Zt6:∀n k,Fs n k≤2^n
 | 0,0=>by decide
 | _+1,0=>Nat.two_pow_pos _
 | 0,_+1=>Nat.zero_le _
 | n+1,k+1=>by
  have h1:=Zt6 n k
  have h2:=Zt6 n (k+1)
  show Fs n k+Fs n (k+1)≤2^(n+1)
  rw [Nat.pow_succ];omega
theorem Zll:∀n k,n<k→Fs n k=0
 | _,0,h=>absurd h (Nat.not_lt_zero _)
 | 0,_+1,_=>rfl
 | n+1,k+1,h=>by
  show Fs n k+Fs n (k+1)=0
  rw [Zll n k (by omega),Zll n (k+1) (by omega)]
structure Tab (l:List Int) (n k:Nat):Prop where
 len:l.length=625
 eq:∀r c,r<25→c<25→l.getD (r*25+c) 0=if r<n∨(r=n∧c<k)then(Fs r c:Int)else 0
theorem Zyx{l:List Int}{i j:Nat}{v:Int}(hi:i<l.length):(l.set i v).getD j 0=if j=i then v else l.getD j 0:=by
 rw [List.getD_eq_getElem?_getD,List.getD_eq_getElem?_getD,List.getElem?_set]
 by_cases h:i=j
 ·subst h;rw [if_pos rfl,if_pos hi,if_pos rfl];rfl
 ·rw [if_neg h,if_neg (fun e=>h e.symm)]
theorem Tab.start:Tab (List.replicate 625 0) 0 0:=⟨List.length_replicate,fun r c hr hc=>by
 rw [if_neg (by omega),List.getD_eq_getElem?_getD]
 rw [List.getElem?_replicate]
 split<;>rfl⟩
theorem Tab.step{l:List Int}{n k:Nat}{v:Int}(h:Tab l n k)(hn:n<25)(hk:k<25)(hv:v=(Fs n k:Int)){j:Nat}(hj:j=n*25+k):Tab (l.set j v) n (k+1):=by
 subst hj
 have hl:=h.len
 refine⟨by rw [List.length_set];exact hl,fun r c hr hc=>?_⟩
 rw [Zyx (by omega),h.eq r c hr hc]
 by_cases e:r*25+c=n*25+k
 ·have e1:r=n:=by omega
  have e2:c=k:=by omega
  subst e1;subst e2
  rw [if_pos rfl,if_pos (by omega)];exact hv
 ·rw [if_neg e]
  have:¬(r=n∧c=k):=fun⟨e1,e2⟩=>e (by rw [e1,e2])
  by_cases g:r<n∨(r=n∧c<k)
  ·rw [if_pos g,if_pos (by omega)]
  ·rw [if_neg g,if_neg (by omega)]
theorem Tab.row{l:List Int}{n k:Nat}(h:Tab l n k)(hk:n<k):Tab l (n+1) 0:=⟨h.len,fun r c hr hc=>by
 rw [h.eq r c hr hc]
 by_cases g:r<n∨(r=n∧c<k)
 ·rw [if_pos g,if_pos (by omega)]
 ·rw [if_neg g]
  by_cases g2:r<n+1∨(r=n+1∧c<0)
  ·rw [if_pos g2,Zll r c (by omega)];rfl
  ·rw [if_neg g2]⟩
theorem Tab.get{l:List Int}{n k r c:Nat}(h:Tab l n k)(hr:r<25)(hc:c<25)(hlt:r<n∨(r=n∧c<k)){j:Nat}(hj:j=r*25+c):l.getD j 0=(Fs r c:Int):=by
 rw [hj,h.eq r c hr hc,if_pos hlt]
theorem Zw5{n k:Nat}(hn:1≤n:=by omega)(hk:1≤k:=by omega):Fs n k=Fs (n-1) (k-1)+Fs (n-1) k:=by
 obtain⟨m,rfl⟩:∃m,n=m+1:=⟨n-1,by omega⟩
 obtain⟨j,rfl⟩:∃j,k=j+1:=⟨k-1,by omega⟩
 rfl
theorem Znn{n k:Nat}(h:n≤24:=by omega):Fs n k≤16777216:=Nat.le_trans (Zt6 n k) (Nat.le_trans (Nat.pow_le_pow_right (by decide) h) (by decide))
end Go.Sky
namespace Go.Sky
structure Ef (a:R2):Prop where
 p:0<a.2
 b1:bl a.1.natAbs≤512
 b2:bl a.2.natAbs≤512
theorem E32.ef{a:R2}(h:E32 a):Ef a:=⟨h.p,Nat.le_trans h.b1 (by decide),Nat.le_trans h.b2 (by decide)⟩
def plx(a b:R2):Int:=a.1*b.2
def ply(a b:R2):Int:=b.1*a.2
def pld(a b:R2):Int:=a.2*b.2
def Fo(xs:List Int)(a b:R2):List Int:=Zau xs (plx a b) (ply a b-plx a b) (pld a b)
def Cw(c:List Int)(d j:Nat)(i:Nat):Int:=Qi (fun i=>cf c i*(Fs (d-i) (j-i):Int)) i
def Ig(xs:List Int)(a b:R2):Bool:=if xs.length=0 then true else(List.range xs.length).all fun j=>decide (0≤Cw (Fo xs a b) (xs.length-1) j (min (j+1) (Fo xs a b).length))
theorem Zbr{x y:Int}{m n:Nat}(hx:bl x.natAbs≤m)(hy:bl y.natAbs≤n):bl (x*y).natAbs≤m+n:=by have:=Qb x y;omega
theorem pl_sz{xs:List Int}{a b:R2}(hd:Cvd xs)(ha:Ef a)(hb:Ef b) :
  bl (plx a b).natAbs≤1024∧bl (ply a b).natAbs≤1024∧bl (pld a b).natAbs≤1024∧bl (ply a b-plx a b).natAbs≤1025∧0<pld a b∧¬Zpp xs (plx a b) (ply a b-plx a b) (pld a b)∧Sz 7000 (Fo xs a b)∧(Fo xs a b).length≤xs.length:=by
 have h1:bl (plx a b).natAbs≤1024:=Zbr ha.b1 hb.b2
 have h2:bl (ply a b).natAbs≤1024:=Zbr hb.b1 ha.b2
 have h3:bl (pld a b).natAbs≤1024:=Zbr ha.b2 hb.b2
 have h4:bl (ply a b-plx a b).natAbs≤1025:=by have:=Cp (ply a b) (plx a b);omega
 have hl:=hd.l
 have hm:=Oc hd.s
 have hmz:Pf [plx a b,ply a b-plx a b,pld a b]≤1025:=Oc (Sz.of_mem fun y hy=>by
  rcases List.mem_cons.1 hy with rfl | hy
  ·omega
  ·rcases List.mem_cons.1 hy with rfl | hy
   ·omega
   ·rw [List.mem_singleton.1 hy];omega)
 have hk:(xs.length-1)*(Pf [plx a b,ply a b-plx a b,pld a b]+1)≤6*1026:=Nat.mul_le_mul (by omega) (by omega)
 refine⟨h1,h2,h3,h4,Int.mul_pos ha.p hb.p,fun hF=>?_,?_,Ztu _ _ _ _⟩
 ·have:=hF.2;omega
 ·have hc:=Zi4 (x:=plx a b) (y:=ply a b-plx a b) (z:=pld a b) (m:=1025) hd.s (by omega) h4 (by omega) (xs.length-1)
  unfold Fo Zau
  split
  ·exact Sz.nil _
  ·refine(Sz.tzl hc).mono ?_
   have:(xs.length-1)*(1025+1)≤6*1026:=Nat.mul_le_mul (by omega) (by omega)
   omega
theorem Zd4(c:List Int)(d j i:Nat):Cw c d j (i+1)=Cw c d j i+cf c i*(Fs (d-i) (j-i):Int):=rfl
theorem Zt7{n k:Nat}(h:n≤24):bl ((Fs n k:Nat):Int).natAbs≤25:=by
 rw [Int.natAbs_natCast];exact(Mj 25 _).2 (Nat.lt_of_le_of_lt (Znn h) (by decide))
theorem Zb7{c:List Int}{d j:Nat}(hc:Sz 7000 c)(hd:d≤24):∀i,bl (Cw c d j i).natAbs≤7025+i
 | 0=>by show bl (0:Int).natAbs≤7025;simp [Lu]
 | i+1=>by
  have h1:=Zb7 hc hd (j:=j) i
  have h2:bl (cf c i*(Fs (d-i) (j-i):Int)).natAbs≤7000+25:=Zbr (hc i) (Zt7 (by omega))
  rw [Zd4]
  have:=Ia (Cw c d j i) (cf c i*(Fs (d-i) (j-i):Int))
  omega
theorem Zm3{xs:List Int}{a b:R2}(h:xs.length=0):Ig xs a b=true:=by unfold Ig;rw [if_pos h]
theorem Zvs{xs:List Int}{a b:R2}(h:xs.length≠0)(hz:∀k,k<xs.length→0≤Cw (Fo xs a b) (xs.length-1) k (min (k+1) (Fo xs a b).length)):Ig xs a b=true:=by
 unfold Ig;rw [if_neg h,List.all_eq_true]
 intro j hj
 exact decide_eq_true (hz j (List.mem_range.1 hj))
theorem Zjc{xs:List Int}{a b:R2}{k:Nat}(h:xs.length≠0)(hk:k<xs.length)(hz:Cw (Fo xs a b) (xs.length-1) k (min (k+1) (Fo xs a b).length)<0):Ig xs a b=false:=by
 unfold Ig;rw [if_neg h,Bool.eq_false_iff]
 intro hA
 have:=of_decide_eq_true (List.all_eq_true.1 hA k (List.mem_range.2 hk))
 omega
abbrev PTs:=Int×R2×R2
abbrev P0:PTs:=(0,(0,0),(0,0))
abbrev Fr (z:PTs):Value:= .agg #[.int .i64 z.1,.bool (decide (z.2.1.1<0)),.string (Xk z.2.1.1.natAbs),.bool (decide (z.2.1.2<0)),.string (Xk z.2.1.2.natAbs),.bool (decide (z.2.2.1<0)),.string (Xk z.2.2.1.natAbs),.bool (decide (z.2.2.2<0)),.string (Xk z.2.2.2.natAbs)]
def shw(xs:List Int)(z:PTs):Bool:=if z.1=1 then Ig xs z.2.1 z.2.2 else if xs.length=0∨Iz z.2.1 z.2.2=0 then decide (0≤vlu (Qq xs) z.2.1)else decide (0<aft (Qq xs) z.2.1) && !crb (Gz xs) z.2.1 z.2.2
def Zhx(xs:List Int)(l:R2)(z:PTs):Bool:=decide (Iz l z.2.1=0) && decide (¬0<Iz z.2.1 z.2.2) && shw xs z
def lst(a:R2)(ps:List PTs)(i:Nat):R2:=if i=0 then a else(ps.getD (i-1) P0).2.2
def Zg7(xs:List Int)(ps:List PTs)(a b:R2):Bool:=decide (0<ps.length) && (List.range ps.length).all (fun k=>Zhx xs (lst a ps k) (ps.getD k P0)) && decide (Iz (lst a ps ps.length) b=0)
def Zsw(ps:List PTs):Prop:=∀z∈ps,(z.1=1∨z.1=2)∧Ef z.2.1∧Ef z.2.2
theorem Zjk{xs:List Int}{ps:List PTs}{a b:R2}{i:Nat}(hi:i=ps.length)(h:∀k,k<i→Zhx xs (lst a ps k) (ps.getD k P0)=true):Zg7 xs ps a b=(decide (0<ps.length) && decide (Iz (lst a ps i) b=0)):=by
 subst hi
 unfold Zg7
 rw [List.all_eq_true.2 (fun k hk=>h k (List.mem_range.1 hk)),Bool.and_true]
theorem Ft{xs:List Int}{ps:List PTs}{a b:R2}{k:Nat}(hk:k<ps.length)(h:Zhx xs (lst a ps k) (ps.getD k P0)=false)(c:Bool):Zg7 xs ps a b=(false && c):=by
 unfold Zg7
 have:(List.range ps.length).all (fun k=>Zhx xs (lst a ps k) (ps.getD k P0))=false:=by
  rw [Bool.eq_false_iff]
  intro hA
  have:=List.all_eq_true.1 hA k (List.mem_range.2 hk)
  rw [h]at this;exact absurd this (by decide)
 rw [this];simp
theorem Ybl{xs:List Int}{l:R2}{z:PTs}(h:¬Iz l z.2.1=0):Zhx xs l z=false:=by unfold Zhx;rw [decide_eq_false h];rfl
theorem Ybk{xs:List Int}{l:R2}{z:PTs}(h:0<Iz z.2.1 z.2.2):Zhx xs l z=false:=by unfold Zhx;rw [decide_eq_false (show ¬¬0<Iz z.2.1 z.2.2 from fun e=>e h),Bool.and_false];rfl
theorem Zda{xs:List Int}{l:R2}{z:PTs}(h1:Iz l z.2.1=0)(h2:¬0<Iz z.2.1 z.2.2):Zhx xs l z=shw xs z:=by unfold Zhx;rw [decide_eq_true h1,decide_eq_true h2];rfl
theorem Zco{xs:List Int}{z:PTs}(h:z.1=1):shw xs z=Ig xs z.2.1 z.2.2:=if_pos h
theorem Zcm{xs:List Int}{z:PTs}(h:¬z.1=1)(h2:xs.length=0∨Iz z.2.1 z.2.2=0):shw xs z=decide (0≤vlu (Qq xs) z.2.1):=by unfold shw;rw [if_neg h,if_pos h2]
theorem Zcn{xs:List Int}{z:PTs}(h:¬z.1=1)(h2:¬xs.length=0)(h3:¬Iz z.2.1 z.2.2=0):shw xs z=(decide (0<aft (Qq xs) z.2.1) && !crb (Gz xs) z.2.1 z.2.2):=by
 unfold shw;rw [if_neg h,if_neg (fun e=>by rcases e with e | e;exact h2 e;exact h3 e)]
theorem Ef.efit{a:R2}(h:Ef a):Go.Sky.efit a=true:=by
 have:=h.b1
 have:=h.b2
 unfold Go.Sky.efit;exact decide_eq_true (by omega)
theorem Yb7{a:R2}{ps:List PTs}(ha:Ef a)(hp:Zsw ps){i:Nat}(hi:i≤ps.length):Ef (lst a ps i):=by
 unfold lst
 split
 ·exact ha
 ·exact(hp _ (Xc)).2.2
theorem Gg{b:Bool}(h:(!b)=true):b=false:=by cases b<;>simp_all
theorem Ds{b:Bool}(h:(!b)=false):b=true:=by cases b<;>simp_all
theorem Zck{p:Prop}[Decidable p]{b c:Bool}(h:p)(e:b=c):(decide p && b)=c:=by rw [decide_eq_true h,Bool.true_and,e]
theorem Zlv{p:Prop}[Decidable p]{b:Bool}(h:¬p):(decide p && b)=false:=by rw [decide_eq_false h,Bool.false_and]
open Go.Proofs
set_option maxRecDepth 100000
theorem zc_eq:(Value.agg Tryz.zeroCells173).cells=Zao (List.replicate 625 0):=by kernel_rfl
theorem Zuj:(Value.agg Tryz.zeroCells173).cells.size=625:=by rw [zc_eq,Zmf,List.length_replicate]
theorem pP9:Enc Tryz.prog 79 9 Fr:=Enc.agg (by decide) Tryz.sizeOf79 Tryz.isAgg79 (fun x=>⟨[.int .i64 x.1,.bool (decide (x.2.1.1<0)),.string (Xk x.2.1.1.natAbs),.bool (decide (x.2.1.2<0)),.string (Xk x.2.1.2.natAbs),.bool (decide (x.2.2.1<0)),.string (Xk x.2.2.1.natAbs),.bool (decide (x.2.2.2<0)),.string (Xk x.2.2.2.natAbs)],rfl,rfl,by simp [Value.oneCell']⟩)
open Go.Proofs.Tryz
set_option maxRecDepth 20000
set_option maxHeartbeats 4000000
set_option linter.unusedSimpArgs false
theorem Zs7:Cal prog 142 #[] [] false (G:=List Int) (fun r=>Tab r 25 0) (fun r=> .agg (Zao r)) (fun r=>[]):=by
 refine Yg func142 J ntmps142 J trivial fun w0 sc hw hsc=>?_
 simp only [Zs,Zq]
 refine Zb<|Zf<|tt (Xi (i:=1) K2 zeroValue173 K2 hw) fun bx _=>Zd<|Za<|Zb<|Zf<|tt (Xi (i:=2) K2 zeroValue173 K2 hw) fun bx_2 _=>Zd<|Za<|Zb<|Zb<|Zf<|mv J<|Zd<|Za<|Zn<|Yl (Fc 2 (q:=box bx_2 173 (Zao (List.replicate 625 0))) (congrArg (box bx_2 173) zc_eq) J J)<|Px [(0,_),(1,_)] [(0,_),(1,_)] (fun(q:Nat×List Int)=>[(4,.int .i64 (q.1:Int))]) (fun(q:Nat×List Int)=>[(2,box bx_2 173 (Zao q.2))]) (fun(q:Nat×List Int)=>(q.1≤25)∧(Tab q.2 q.1 0)) (fun(q:Nat×List Int)=>25-q.1) (0,List.replicate 625 0) ⟨by first | omega | (dsimp only<;>omega),Tab.start⟩ K3 K3 ?_
 rintro⟨n,l⟩ ⟨hn,hT⟩
 dsimp only at hn hT
 simp only [CA,NA]
 have hl:=hT.len
 refine Zb<|Zf<|dt (Pa K3)<|Zd<|Za<|Zb<|Zr J (fun h367=>?_) (fun h367=>?_)
 ·refine Zl<|Za<|Zb<|Zn<|Zb<|Zf<|mv J<|Zo J<|Zd<|Za<|Zb<|Zf<|mv J<|dt (Zdm (i:=n) J J J underlying173 sizeOf172)<|dt (Zdm (i:=0) J J J Zmm zT3 J)<|tt (Zs3 (i:=2) J J J J J zT3 J hw trivial) fun _ _=>Zd<|Za<|Zb<|Zf<|Zo J<|Zd<|Za<|Zn<|Px [(0,_),(1,_),(2,_),(4,_)] [(0,_),(1,_)] (fun(q:Nat×List Int)=>[(3,.int .i64 (q.1:Int))]) (fun(q:Nat×List Int)=>[(2,box bx_2 173 (Zao q.2))]) (fun(q:Nat×List Int)=>(1≤q.1)∧(q.1≤n+1)∧(Tab q.2 n q.1)) (fun(q:Nat×List Int)=>n+1-q.1) (1,l.set (0+n*25+0*1) 1) ⟨by first | omega | (dsimp only<;>omega),by first | omega | (dsimp only<;>omega),hT.step (by omega) (by omega) (by cases n<;>rfl) (by omega)⟩ K5 K3 ?_
  rintro⟨k,l2⟩ ⟨hk1,hk2,hT2⟩
  dsimp only at hk1 hk2 hT2
  simp only [CA,NA]
  have hl2:=hT2.len
  refine Zb<|Zb<|Zf<|mv J<|mv J<|dt (Ev J J J)<|Zd<|Za<|Zr J (fun h369=>?_) (fun h369=>?_)
  ·refine Zl<|Za<|Zb<|Zn ?_
   have hv1:=hT2.get (j:=0+(n-1)*25+(k-1)*1) (r:=n-1) (c:=k-1) (by omega) (by omega) (.inl (by omega)) (by omega)
   have hv2:=hT2.get (j:=0+(n-1)*25+k*1) (r:=n-1) (c:=k) (by omega) (by omega) (.inl (by omega)) (by omega)
   have hb1:=Znn (n:=n-1) (k:=k-1) 
   have hb2:=Znn (n:=n-1) (k:=k) 
   refine Ni [] []<|Zw (n:=5) [(0,0),(1,0),(2,0),(3,0),(4,0),(5,0),(6,0),(7,0),(9,0),(10,0),(11,0),(12,0),(13,0),(16,0)]<|Zh K2 (Yy (Ya K2) trivial)<|Zh K2 (Yy (Ya K2) trivial)<|Zh K2 (Yy (Ya K2) trivial)<|Zh K2 (Yy (Pq K3) trivial)<|Zh K2 (Yy (Ya K2) trivial)<|Zh K2 (Yy (Pq K3) trivial)<|Zh K2 (Yy (Zdm (i:=(n-1)) J J J underlying173 sizeOf172) trivial)<|Zh K2 (Yy (Zdm (i:=(k-1)) J J J Zmm zT3) trivial)<|Zh K2 (Yy (Ya K2) trivial)<|Zh K2 (Yy (Pq K3) trivial)<|Zh K2 (Yy (Ya K2) trivial)<|Zh K2 (Yy (Zdm (i:=(n-1)) J J J underlying173 sizeOf172) trivial)<|Zh K2 (Yy (Zdm (i:=k) J J J Zmm zT3) trivial)<|Zh K2 (Yy (Zdm (i:=n) J J J underlying173 sizeOf172) trivial)<|Yi<|Qg (n:=4) 8 14 ?_ ?_
   ·exact Yd J (Pu (Yc4 (i:=2) J J J isAgg3) J) fun _ _=>Zw (n:=0) [(14,1),(15,0),(17,0),(18,1)]<|Yq J (Pu (Yc4 (i:=2) J J J isAgg3) J) fun _ _=>Zh K2 (Yy (Ov K3 (by rw [hv1,hv2];exact⟨by omega,by omega⟩)) trivial)<|Zh K2 (Yy (Zdm (i:=k) J J J Zmm zT3) trivial)<|Yq J (Zs3 (i:=2) J J J J J zT3 J hw (fun _ h=>nomatch h)) fun _ _=>Yi<|Yh<|Qh<|Za<|Zf<|mv J<|dt (Ov K3)<|Zo J<|Zd<|Xg (k+1,_) ⟨by first | omega | (dsimp only<;>omega),by first | omega | (dsimp only<;>omega),hT2.step (by omega) (by omega) (by rw [hv1,hv2,Zw5 (n:=n) (k:=k)];push_cast;rfl) (by omega)⟩ (by first | omega | (dsimp only<;>omega)) K5 K3
   ·exact Yd J (Pu (Yc4 (i:=2) J J J isAgg3) J) fun _ _=>Zw (n:=0) [(8,1),(15,0),(17,0),(18,1)]<|Yq J (Pu (Yc4 (i:=2) J J J isAgg3) J) fun _ _=>Zh K2 (Yy (Ov K3 (by rw [hv1,hv2];exact⟨by omega,by omega⟩)) trivial)<|Zh K2 (Yy (Zdm (i:=k) J J J Zmm zT3) trivial)<|Yq J (Zs3 (i:=2) J J J J J zT3 J hw (fun _ h=>nomatch h)) fun _ _=>Yi<|Yh<|Qh<|Za<|Zf<|mv J<|dt (Ov K3)<|Zo J<|Zd<|Xg (k+1,_) ⟨by first | omega | (dsimp only<;>omega),by first | omega | (dsimp only<;>omega),hT2.step (by omega) (by omega) (by rw [hv1,hv2,Zw5 (n:=n) (k:=k)];push_cast;rfl) (by omega)⟩ (by first | omega | (dsimp only<;>omega)) K5 K3
  ·exact Yt<|Zv<|Zv<|Pd<|Qh<|Za<|Zf<|dt (Ov K3)<|mv J<|Zd<|Xg (n+1,l2) ⟨by first | omega | (dsimp only<;>omega),hT2.row (by omega)⟩ (by first | omega | (dsimp only<;>omega)) K3 K3
 ·obtain rfl:n=25:=by omega
  let r0:=l
  exact Yt<|Zv<|Zv<|Pd<|Za<|Zb<|Zf<|dt (d_lwa (i:=2) J J J isAgg173 sizeOf173 hl)<|tt (Zzi (i:=1) J J J J J sizeOf173 hl Zuj J hw trivial) fun _ _=>Zd<|Za<|Zp<|Yr (.inl J) hsc l _ (fun a w hs=>Nr hs results142 (Yw (i:=1) (vs:=r0.map (Value.int .i64)) J J isAgg173 sizeOf173 (by simpa using hl))) J hT J Zm
theorem Zqo(v:Value)(xs:List Int)(a b:R2)(hd:Cvd xs)(ha:Ef a)(hb:Ef b):Od prog 93 #[v,rX a.1 a.2,rX b.1 b.2] [Pw 2 wv v xs] (.tuple #[.bool (Ig xs a b),.int .i64 0]):=by
 refine Yg func93 J ntmps93 J K1 fun w0 sc hw hsc=>?_
 simp only [Zs,Zq]
 have hv:=hd.v
 have ha1:=ha.b1
 have ha2:=ha.b2
 have hb1:=hb.b1
 have hb2:=hb.b2
 obtain⟨p1,p2,p3,p4,p5,p6,p7,p8⟩:=pl_sz hd ha hb
 have hlx:=hd.l
 refine Yl (Nc 999 2 31 wv)<|Yl (Qw 999 J J pV)<|Zb<|Zf<|tt (Xp (i:=2) K5 hw) fun bx _=>tt (Xp (i:=3) K5 hw) fun bx_2 _=>Zo J<|Zo J<|Zd<|Za<|Zb<|Zb<|Zf<|mv J<|dt (Yc J J (i:=1) J Zg Xn)<|dt (Hf K3)<|Zd<|Za<|Zr J (fun h378=>?_) (fun h378=>?_)
 ·exact Zb<|Zf<|Zo J<|Zo J<|Zd<|Za<|Zp<|Yp<|Yr (.inl J) hsc () _ (fun a w hs=>Pz hs results93 J J) (by rw [Zm3 (by omega)]) trivial J Zm
 ·have h0:xs.length≠0:=by omega
  refine Zl<|Za<|Zb<|Zf<|dt (Qy K2 Hn J Yb K2)<|dt (Qm (i:=2) K3 Xl Yb K2)<|dt (Qy K2 Hn J Yb K2)<|dt (Qm (i:=3) K3 Xl Yb K2)<|tt (Yf (n:=3) (Ab a.1 b.2) K5 call139 Ze J hw) fun _ _=>mv J<|dt (Xa K3)<|dt (Xa K3)<|tt (Xi (i:=4) K2 zeroValue31 K2 hw) fun bx_3 _=>tt (Zt (i:=4) K6 Yb K2 ⟨Zc J,Zc J,trivial⟩ J hw trivial) fun _ _=>Qx (Fc 4 (q:=box bx_3 31 (wc (plx a b))) (congrArg (fun z=>box bx_3 31 (wc z)) (Ma (show bl (plx a b).natAbs≤65536 by omega))) J J)<|Zo J<|Zd<|Za<|Zb<|Zf<|dt (Qy K2 Hn J Yb K2)<|dt (Qm (i:=3) K3 Xl Yb K2)<|dt (Qy K2 Hn J Yb K2)<|dt (Qm (i:=2) K3 Xl Yb K2)<|tt (Yf (n:=4) (Ab b.1 a.2) K5 call139 Ze J hw) fun _ _=>mv J<|dt (Xa K3)<|dt (Xa K3)<|tt (Xi (i:=5) K2 zeroValue31 K2 hw) fun bx_4 _=>tt (Zt (i:=5) K6 Yb K2 ⟨Zc J,Zc J,trivial⟩ J hw trivial) fun _ _=>Qx (Fc 5 (q:=box bx_4 31 (wc (ply a b))) (congrArg (fun z=>box bx_4 31 (wc z)) (Ma (show bl (ply a b).natAbs≤65536 by omega))) J J)<|Zo J<|Zd<|Za<|Zb<|Zf<|dt (Qy K2 Hn J Yb K2)<|dt (Qm (i:=2) K3 Xl Yb K2) ?_
  refine dt (Qy K2 Hn J Yb K2)<|dt (Qm (i:=3) K3 Xl Yb K2)<|tt (Yf (n:=5) (Ab a.2 b.2) K5 call139 Ze J hw) fun _ _=>mv J<|dt (Xa K3)<|dt (Xa K3)<|tt (Xi (i:=6) K2 zeroValue31 K2 hw) fun bx_5 _=>tt (Zt (i:=6) K6 Yb K2 ⟨Zc J,Zc J,trivial⟩ J hw trivial) fun _ _=>Qx (Fc 6 (q:=box bx_5 31 (wc (pld a b))) (congrArg (fun z=>box bx_5 31 (wc z)) (Ma (show bl (pld a b).natAbs≤65536 by omega))) J J)<|Zo J<|Zd<|Za<|Zb<|Zf<|dt (Qm (i:=5) K3 Xl Yb K2)<|dt (Qm (i:=4) K3 Xl Yb K2)<|tt (Yf (n:=6) (Zp9 (ply a b) (plx a b) (by omega) (by omega)) K5 call140 Ze J hw) fun _ _=>mv J<|dt (Xa K3)<|dt (Xa K3)<|tt (Xi (i:=7) K2 zeroValue31 K2 hw) fun bx_6 _=>tt (Zt (i:=7) K6 Yb K2 ⟨Zc J,Zc J,trivial⟩ J hw trivial) fun _ _=>Qx (Fc 7 (q:=box bx_6 31 (wc (ply a b-plx a b))) (congrArg (fun z=>box bx_6 31 (wc z)) (Ma (by omega))) J J)<|Zo J<|Zd<|Za<|Zb<|Zb<|Zf<|mv J<|dt (dF (Pk K3) (vB (decide_eq_false (fun h=>h (Bu (show bl (plx a b).natAbs≤65536 by omega))))))<|mv J<|Zx (Ya K2) K2 ?_
  refine Zx (dF (Pk K3) (vB (decide_eq_false (fun h=>h (Bu (show bl (ply a b).natAbs≤65536 by omega)))))) K2<|dt (Ql K3)<|mv J<|Zx (Ya K2) K2<|Zx (dF (Pk K3) (vB (decide_eq_false (fun h=>h (Bu (show bl (pld a b).natAbs≤65536 by omega)))))) K2<|dt (Ql K3)<|mv J<|Zx (Ya K2) K2<|Zx (dF (Pk K3) (vB (decide_eq_false (fun h=>h (Bu (show bl (ply a b-plx a b).natAbs≤65536 by omega)))))) K2<|dt (Ql K3)<|Zd<|Za<|Yk J<|Zl<|Za<|Zb<|Zf<|mv J<|dt (Qm (i:=4) K3 Xl Yb K2)<|dt (Qm (i:=7) K3 Xl Yb K2)<|dt (Qm (i:=6) K3 Xl Yb K2)<|tt (Xv (n:=8) (Zor _ xs (plx a b) (ply a b-plx a b) (pld a b) hv (by omega) (by omega) (by omega) p5 p6) J J J K4 call141 (Zi 1 K3 Ze) J hw) fun _ _=>Qx (Fc 8 (q:=Pw 2 wv _ (Fo xs a b)) J J J)<|mv J<|dt (Xa K3)<|dt (Xa K3)<|Zo J<|Zo J<|Zd<|Za<|Zb<|Zb<|Zf<|mv J<|dt (dF (Pk K3) (vB (by decide)))<|Zd<|Za<|Yk J<|Zl<|Za<|Zb<|Zf<|mv J<|dt (Yc J J (i:=1) J Zg Xn)<|dt (Pq K3)<|tt (Xv (n:=8) (Zs7) J J J trivial call142 Ze J hw) fun g hg=>tt (Xi (i:=9) K2 zeroValue173 K2 hw) fun bx_7 _=>Zo J ?_
  refine tt (Zzi (i:=9) J J J J J sizeOf173 hg.len Zuj J hw trivial) fun _ _=>Zd<|Za<|Zb<|Zb<|Zf<|mv J<|dt (Ov K3)<|mv J<|Zd<|Za<|Zn<|Px [(16,_),(17,_),(18,_),(87,_)] [(0,_),(1,_),(999,_),(2,_),(3,_),(4,_),(5,_),(6,_),(7,_),(8,_),(9,_)] (fun(j:Nat)=>[(88,.int .i64 (j:Int))]) (fun(j:Nat)=>[]) (fun(j:Nat)=>(j≤xs.length)∧(∀k,k<j→0≤Cw (Fo xs a b) (xs.length-1) k (min (k+1) (Fo xs a b).length))) (fun(j:Nat)=>xs.length-j) 0 ⟨by first | omega | (dsimp only<;>omega),fun k hk=>absurd hk (Nat.not_lt_zero k)⟩ K5 K11 ?_
  rintro j ⟨hj,hz⟩
  simp only [CA,NA]
  refine Zb<|Zf<|dt (Pa K3)<|Zd<|Za<|Zb<|Zr J (fun h393=>?_) (fun h393=>?_)
  ·refine Zl<|Za<|Zb<|Zn<|Zb<|Zf<|mv J<|Zo J<|Zd<|Za<|Zb<|Zf<|tt (Xi (i:=10) K2 zeroValue31 K2 hw) fun bx_8 _=>Zd<|Za<|Zb<|Zb<|Zf<|Zo J<|Zd<|Za<|Zn<|Px [(16,_),(17,_),(18,_),(19,_),(20,_),(87,_),(88,_)] [(0,_),(1,_),(999,_),(2,_),(3,_),(4,_),(5,_),(6,_),(7,_),(8,_),(9,_)] (fun(i:Nat)=>[(21,.int .i64 (i:Int))]) (fun(i:Nat)=>[(10,box bx_8 31 (wc (Cw (Fo xs a b) (xs.length-1) j i)))]) (fun(i:Nat)=>(i≤j+1)∧(i≤(Fo xs a b).length)) (fun(i:Nat)=>j+1-i) 0 ⟨by first | omega | (dsimp only<;>omega),by first | omega | (dsimp only<;>omega)⟩ K8 K12 ?_
   rintro i ⟨hi1,hi2⟩
   simp only [CA,NA]
   have hch:=Znn (n:=xs.length-1-i) (k:=j-i) 
   have hcb:=Zt7 (n:=xs.length-1-i) (k:=j-i) (by omega)
   have htb:bl (cf (Fo xs a b) i*(Fs (xs.length-1-i) (j-i):Int)).natAbs≤7025:=Zbr (p7 i) hcb
   have hsb:=Zb7 (d:=xs.length-1) (j:=j) p7 (by omega) i
   have hsb2:=Ia (Cw (Fo xs a b) (xs.length-1) j i) (cf (Fo xs a b) i*(Fs (xs.length-1-i) (j-i):Int))
   refine Zb<|Zb<|Zf<|mv J<|mv J<|dt (Ev J J J)<|mv J<|Pb (d:=94) J (fun s395=>?_) (fun s395=>?_)
   ·refine Zx (Ya K2) K2<|Zx (Ya K2) K2<|Zx (Yc J J (i:=8) J Zg Xn) K2<|Zx (Pa K3) K2<|dt (Om K3)<|Zd<|Za<|Zr J (fun h395=>?_) (fun h395=>?_)
    ·refine Zl<|Za<|Zb<|Zn<|Iy [(16,_),(17,_),(18,_),(19,_),(20,_),(21,_),(87,_),(88,_),(95,_),(96,_),(97,_),(98,_)] [(0,_),(10,_),(1,_),(999,_),(2,_),(3,_),(4,_),(5,_),(6,_),(7,_),(8,_),(9,_)] (fun(b7:Nat)=>[(22,.pointer (some ⟨b7,0,none⟩)),(23,.int .i64 (Zh1 (cf (Fo xs a b) i*(Fs (xs.length-1-i) (j-i):Int))))]) (fun(b7:Nat)=>[(97,box b7 31 (wc (cf (Fo xs a b) i*(Fs (xs.length-1-i) (j-i):Int))))]) (fun(b7:Nat)=>True) K12 K12 ?_ ?_
     ·refine Ni [8,9] [20]<|Zw (n:=8) [(0,0),(1,0),(2,0),(3,0),(4,0),(5,0),(6,0),(7,0),(8,0),(9,0),(10,0),(11,0),(12,0)]<|Zh K2 (Yy (Ya K2) K2)<|Zh K2 (Yy (Ya K2) K2)<|Zh K2 (Yy (Nj (ii:=8) K4 Zg Xn Yb J (by first | omega | (simp only [List.length_set];omega))) K2)<|Zh K2 (Yy (Ms (ii:=8) 0 K3 Zg pV (by first | omega | (simp only [List.length_set];omega))) K2)<|Zh K2 (Yy (Ya K2) K2)<|Zh K2 (Yy (Ya K2) K2)<|Zh K2 (Yy (Pq K3) K2)<|Zh K2 (Yy (Ya K2) K2)<|Zh K2 (Yy (Ya K2) K2)<|Zh K2 (Yy (Pq K3) K2)<|Zh K2 (Yy (Zdm (i:=(xs.length-1-i)) J J J underlying173 sizeOf172) K2)<|Zh K2 (Yy (Zdm (i:=(j-i)) J J J Zmm zT3) K2)<|Zh K2 (Yy (Ej (r':= .int .i64 ((Fs (xs.length-1-i) (j-i):Nat):Int)) (Yc4 (i:=9) J J J isAgg3 (by have:=hg.len;omega)) (congrArg (Value.int .i64) (hg.get (j:=0+(xs.length-1-i)*25+(j-i)*1) (by omega) (by omega) (.inl (by omega)) (by omega)))) K2)<|Yi<|Qg (n:=7) 13 18 ?_ ?_
      ·refine Yd J (Zy (n:=10) (Xw ((Fs (xs.length-1-i) (j-i):Nat):Int) ⟨by omega,by omega⟩) K4 Fb Ze J hw) fun _ _=>Qg (n:=6) 14 18 ?_ ?_
       ·exact Yd J (Yf (n:=10) (Ab (cf (Fo xs a b) i) ((Fs (xs.length-1-i) (j-i):Nat):Int) (Nat.le_trans (p7 i) (by omega))) K5 call139 Ze J hw) fun _ _=>Zw (n:=0) [(15,0),(16,0),(17,0),(18,1),(19,1),(20,3)]<|Zh K2 (Yy (Ya K2) K2)<|Zh K2 (Yy (Xa K3) K2)<|Zh K2 (Yy (Xa K3) K2)<|Yq J (Xj (i:=97) K2 zeroValue31 K2 hw K2) fun bx_9 ho=>Yq J (Zt (i:=97) K6 Yb K2 ⟨Zc J,Zc J,trivial⟩ J hw ho) fun _ _=>Qs J (Pu (Ok J J) J) fun _ _=>Yi<|Yh<|Xd _ trivial K14 ⟨(congrArg (fun z=>some (box _ 31 (wc z))) (Ma (show bl (cf (Fo xs a b) i*(Fs (xs.length-1-i) (j-i):Int)).natAbs≤65536 by omega))),J,J,J,J,J,J,J,J,J,J,J,J,trivial⟩
       ·exact Yd J (Xj (i:=97) K2 zeroValue31 K2 hw K2) fun bx_10 ho2=>Zw (n:=0) [(14,1),(15,0),(16,0),(17,0),(19,1),(20,3)]<|Yq J (Yf (n:=10) (Ab (cf (Fo xs a b) i) ((Fs (xs.length-1-i) (j-i):Nat):Int) (Nat.le_trans (p7 i) (by omega))) K5 call139 Ze J hw) fun _ _=>Zh K2 (Yy (Ya K2) K2)<|Zh K2 (Yy (Xa K3) K2)<|Zh K2 (Yy (Xa K3) K2)<|Yq J (Zt (i:=97) K6 Yb K2 ⟨Zc J,Zc J,trivial⟩ J hw ho2) fun _ _=>Qs J (Pu (Ok J J) J) fun _ _=>Yi<|Yh<|Xd _ trivial K14 ⟨(congrArg (fun z=>some (box _ 31 (wc z))) (Ma (show bl (cf (Fo xs a b) i*(Fs (xs.length-1-i) (j-i):Int)).natAbs≤65536 by omega))),J,J,J,J,J,J,J,J,J,J,J,J,trivial⟩
      ·exact Yd J (Xj (i:=97) K2 zeroValue31 K2 hw K2) fun bx_11 ho3=>Zw (n:=0) [(13,1),(14,1),(15,0),(16,0),(17,0),(19,1),(20,3)]<|Yq J (Zy (n:=10) (Xw ((Fs (xs.length-1-i) (j-i):Nat):Int) ⟨by omega,by omega⟩) K4 Fb Ze J hw) fun _ _=>Yq J (Yf (n:=10) (Ab (cf (Fo xs a b) i) ((Fs (xs.length-1-i) (j-i):Nat):Int) (Nat.le_trans (p7 i) (by omega))) K5 call139 Ze J hw) fun _ _=>Zh K2 (Yy (Ya K2) K2)<|Zh K2 (Yy (Xa K3) K2)<|Zh K2 (Yy (Xa K3) K2)<|Yq J (Zt (i:=97) K6 Yb K2 ⟨Zc J,Zc J,trivial⟩ J hw ho3) fun _ _=>Qs J (Pu (Ok J J) J) fun _ _=>Yi<|Yh<|Xd _ trivial K14 ⟨(congrArg (fun z=>some (box _ 31 (wc z))) (Ma (show bl (cf (Fo xs a b) i*(Fs (xs.length-1-i) (j-i):Int)).natAbs≤65536 by omega))),J,J,J,J,J,J,J,J,J,J,J,J,trivial⟩
     ·rintro b7 -
      simp only [CA,NA]
      refine Zb<|Zb<|Zf<|mv J<|dt (dF (Pk K3) (vB (decide_eq_false (fun h=>h (Bu (show bl (cf (Fo xs a b) i*(Fs (xs.length-1-i) (j-i):Int)).natAbs≤65536 by omega))))))<|Zd<|Za<|Yk J<|Zl<|Za<|Zb<|Zf<|dt (Qm (i:=10) K3 Xl Yb K2)<|dt (Qm (i:=97) K3 Xl Yb K2)<|tt (Yf (n:=10) (Cr (Cw (Fo xs a b) (xs.length-1) j i) (cf (Fo xs a b) i*(Fs (xs.length-1-i) (j-i):Int))) K5 call82 Ze J hw) fun _ _=>mv J<|dt (Xa K3)<|dt (Xa K3)<|tt (Zt (i:=10) K6 Yb K2 ⟨Zc J,Zc J,trivial⟩ J hw trivial) fun _ _=>Qx (Fc 10 (q:=box bx_8 31 (wc (Cw (Fo xs a b) (xs.length-1) j (i+1)))) (congrArg (fun z=>box bx_8 31 (wc z)) ((Ma (show bl ((Cw (Fo xs a b) (xs.length-1) j i)+(cf (Fo xs a b) i*(Fs (xs.length-1-i) (j-i):Int))).natAbs≤65536 by omega)).trans (Zd4 _ _ _ _).symm)) J J)<|Zo J<|Zd<|Za<|Zb<|Zf<|mv J<|dt (dF (Pk K3) (vB (decide_eq_false (fun h=>h (Bu (show bl ((Cw (Fo xs a b) (xs.length-1) j i)+(cf (Fo xs a b) i*(Fs (xs.length-1-i) (j-i):Int))).natAbs≤65536 by omega))))))<|Zd<|Za<|Yk J<|Zl<|Qh<|Za<|Zf<|mv J<|dt (Ov K3)<|Zo J<|Zd ?_
      exact Xg (i+1) ⟨by first | omega | (dsimp only<;>omega),by first | omega | (dsimp only<;>omega)⟩ (by first | omega | (dsimp only<;>omega)) K8 K12
    ·refine Yt<|Zv<|Zv<|Pd<|Za<|Zb ?_
     obtain rfl:i=(min (j+1) (Fo xs a b).length):=by omega
     have hsb:=Zb7 (d:=xs.length-1) (j:=j) p7 (by omega) (min (j+1) (Fo xs a b).length)
     refine Zf<|dt (Qm (i:=10) K3 Xl Yb K2)<|tt (Zy (n:=10) (Km (Cw (Fo xs a b) (xs.length-1) j (min (j+1) (Fo xs a b).length)) (by omega)) K4 call104 Ze J hw) fun _ _=>dt (Pa K3)<|Zd<|Za<|Zr J (fun h404=>?_) (fun h404=>?_)
     ·have hpn:=(Qu _).1 h404
      exact Zb<|Zf<|Zo J<|Zo J<|Zd<|Za<|Zp<|Md<|Yp<|Yp<|Md<|Yp<|Yr (.inl J) hsc () _ (fun a w hs=>Pz hs results93 J J) (by rw [Zjc h0 (by omega) hpn]) trivial J Zm
     ·have hpi:¬(Cw (Fo xs a b) (xs.length-1) j (min (j+1) (Fo xs a b).length))<0:=fun e=>h404 ((Qu _).2 e)
      exact Zl<|Qh<|Za<|Zf<|dt (Ov K3)<|mv J<|Zd<|Xg (j+1) ⟨by first | omega | (dsimp only<;>omega),fun k hk2=>by rcases Nat.lt_succ_iff_lt_or_eq.1 hk2 with h9 | h9;exact hz k h9;subst h9;have h8:=hpi;omega⟩ (by first | omega | (dsimp only<;>omega)) K5 K11
   ·refine Yj K3<|Yj K3<|Yj K3<|Yj K3<|dt (Ql K3)<|Zd<|Za<|Yk J<|Yt<|Zv<|Zv<|Pd<|Za<|Zb ?_
    obtain rfl:i=(min (j+1) (Fo xs a b).length):=by omega
    have hsb:=Zb7 (d:=xs.length-1) (j:=j) p7 (by omega) (min (j+1) (Fo xs a b).length)
    refine Zf<|dt (Qm (i:=10) K3 Xl Yb K2)<|tt (Zy (n:=10) (Km (Cw (Fo xs a b) (xs.length-1) j (min (j+1) (Fo xs a b).length)) (by omega)) K4 call104 Ze J hw) fun _ _=>dt (Pa K3)<|Zd<|Za<|Zr J (fun h404_2=>?_) (fun h404_2=>?_)
    ·have hpn:=(Qu _).1 h404_2
     exact Zb<|Zf<|Zo J<|Zo J<|Zd<|Za<|Zp<|Md<|Yp<|Yp<|Md<|Yp<|Yr (.inl J) hsc () _ (fun a w hs=>Pz hs results93 J J) (by rw [Zjc h0 (by omega) hpn]) trivial J Zm
    ·have hpi:¬(Cw (Fo xs a b) (xs.length-1) j (min (j+1) (Fo xs a b).length))<0:=fun e=>h404_2 ((Qu _).2 e)
     exact Zl<|Qh<|Za<|Zf<|dt (Ov K3)<|mv J<|Zd<|Xg (j+1) ⟨by first | omega | (dsimp only<;>omega),fun k hk2=>by rcases Nat.lt_succ_iff_lt_or_eq.1 hk2 with h9 | h9;exact hz k h9;subst h9;have h8:=hpi;omega⟩ (by first | omega | (dsimp only<;>omega)) K5 K11
  ·exact Yt<|Zv<|Zv<|Pd<|Za<|Zb<|Zf<|Zo J<|Zo J<|Zd<|Za<|Zp<|Yr (.inl J) hsc () _ (fun a w hs=>Pz hs results93 J J) (by rw [Zvs h0 (fun k hk=>hz k (by omega))]) trivial J Zm
theorem Zj9(v u:Value)(xs:List Int)(ps:List PTs)(a b:R2)(hd:Cvd xs)(ha:E32 a)(hb:E32 b)(hp:Zsw ps)(hl:ps.length≤200):Od prog 58 #[v,rX a.1 a.2,rX b.1 b.2,u] [Pw 2 wv v xs,Pw 9 Fr u ps] (.int .i64 (if 0<Iz a b then 3 else 0)):=by
 refine Yg func58 J ntmps58 J K2 fun w0 sc hw hsc=>?_
 simp only [Zs,Zq]
 have hv:=hd.v
 have ha1:=ha.b1
 have ha2:=ha.b2
 have hap:=ha.p
 have hb1:=hb.b1
 have hb2:=hb.b2
 have hbp:=hb.p
 refine Mi (Hk (i:=2) J Zg) fun hlen=>Yl (Nc 999 2 31 wv)<|Yl (Qw 999 J J pV)<|Zb<|Zf<|tt (Xp (i:=3) K5 hw) fun bx _=>tt (Xp (i:=4) K5 hw) fun bx_2 _=>Zo J<|Zd<|Za<|Zb<|Zb<|Zf<|mv J<|tt (Zy (n:=4) (Qt _ _ ‹_›) K4 Av (Zi 1 K3 Ze) J hw) fun _ _=>dt (dF (Xh J J) (vB (by decide)))<|mv J<|Zx (Pj (i:=3) K3 Xf Ym K4) K2<|Pp (Zy (n:=4) (Oh a.1 a.2 hap) K4 Zbq Ze J hw) K3 fun _ _=>Zx (dF (Xh J J) (vB (by decide))) K2<|dt (Ql K3)<|mv J<|Zx (Pj (i:=4) K3 Xf Ym K4) K2<|Pp (Zy (n:=4) (Oh b.1 b.2 hbp) K4 Zbq Ze J hw) K3 fun _ _=>Zx (dF (Xh J J) (vB (by decide))) K2<|dt (Ql K3)<|mv J<|Zx (Ya K2) K2<|Zx (Yc J J (i:=2) J Zg Ad) K2<|Zx (dF (Fd K3) (vB (decide_eq_false (by omega)))) K2<|dt (Ql K3)<|Zd<|Za<|Yk J<|Zl<|Za<|Zb<|Zf<|mv J<|tt (Zy (n:=4) (Zqp _ xs hv) K4 call14 (Zi 1 K3 Ze) J hw) fun _ _=>dt (dF (Zev J J) (vB (decide_eq_false (fun h=>h (Ba hd (by omega))))))<|mv J<|Zx (Pj (i:=3) K3 Xf Ym K4) K2 ?_
 refine Pp (Zy (n:=4) (Hq a.1 a.2) K4 call95 Ze J hw) K3 fun _ _=>Zx (dF (Xh J J) (vB (by rw [ha.efit];rfl))) K2<|dt (Ql K3)<|mv J<|Zx (Pj (i:=4) K3 Xf Ym K4) K2<|Pp (Zy (n:=4) (Hq b.1 b.2) K4 call95 Ze J hw) K3 fun _ _=>Zx (dF (Xh J J) (vB (by rw [hb.efit];rfl))) K2<|dt (Ql K3)<|Zo J<|Zd<|Za<|Zb<|Zb<|Zf<|mv J<|dt (Yc J J (i:=2) J Zg Ad)<|mv J<|Zd<|Za<|Zn<|Px [(5,_),(6,_),(43,_),(44,_)] [(0,_),(1,_),(2,_),(999,_),(3,_),(4,_)] (fun(i:Nat)=>[(45,.int .i64 (i:Int)),(9,.bool false)]) (fun(i:Nat)=>[]) (fun(i:Nat)=>i≤ps.length) (fun(i:Nat)=>ps.length-i) 0 (by first | omega | (dsimp only<;>omega)) K6 K6 ?_
 rintro i hi
 simp only [CA,NA]
 refine Zb<|Zf<|dt (Pa K3)<|Zd<|Za<|Zb<|Zr J (fun h39=>?_) (fun h39=>?_)
 ·refine Zl<|Za<|Zb<|Zn<|Zb<|Zf<|dt (Nj (ii:=2) K4 Zg Ad Znr J (by first | omega | (simp only [List.length_set];omega)))<|dt (Ms (ii:=2) P0 K3 Zg pP9 (by first | omega | (simp only [List.length_set];omega)))<|tt (Xi (i:=5) K2 zeroValue79 K2 hw) fun bx_3 _=>tt (Zt (i:=5) K6 Znr K2 ⟨Zc J,Zc J,Zc J,Zc J,Zc J,Zc J,Zc J,Zc J,Zc J,trivial⟩ J hw trivial) fun _ _=>Zd<|Za<|Zb<|Zb ?_
  obtain⟨hk,hf1,hf2⟩:=hp (ps.getD i P0) (Xc)
  have hf11:=hf1.b1
  have hf12:=hf1.b2
  have hf1p:=hf1.p
  have hf21:=hf2.b1
  have hf22:=hf2.b2
  have hf2p:=hf2.p
  refine Zf<|dt (Qy K2 Gm J sizeOf77 K2)<|dt (Mc (i:=5) K3 isAgg77 J)<|dt (Pk K3)<|mv J<|Pb (d:=52) J (fun s40=>?_) (fun s40=>?_)
  ·refine Zx (Qy K2 Gm J sizeOf77 K2) K2<|Zx (Mc (i:=5) K3 isAgg77 J) K2<|Zx (dF (Pk K3) (vB (decide_eq_false (by omega)))) K2<|dt (Om K3)<|mv J<|Zx (Qy K2 Gm J Ym K2) K2<|Zx (Pj (i:=5) K3 Xf Ym K4) K2<|Pp (Zy (n:=5) (Oh (ps.getD i P0).2.1.1 (ps.getD i P0).2.1.2 hf1p) K4 Zbq Ze J hw) K3 fun _ _=>Zx (Xh J J) K2<|dt (Ql K3)<|mv J<|Zx (Qy K2 Gm J Ym K2) K2<|Zx (Pj (i:=5) K3 Xf Ym K4) K2<|Pp (Zy (n:=5) (Oh (ps.getD i P0).2.2.1 (ps.getD i P0).2.2.2 hf2p) K4 Zbq Ze J hw) K3 fun _ _=>Zx (Xh J J) K2<|dt (Ql K3)<|Zd<|Za<|Yk J<|Zl<|Za<|Zf<|mv J<|mv J<|Zx (Qy K2 Gm J Ym K2) K2<|Zx (Pj (i:=5) K3 Xf Ym K4) K2<|Pp (Zy (n:=5) (Hq (ps.getD i P0).2.1.1 (ps.getD i P0).2.1.2) K4 call95 Ze J hw) K3 fun _ _=>Zx (dF (Xh J J) (vB (by rw [(show efit ((ps.getD i P0).2.1.1,(ps.getD i P0).2.1.2)=true from hf1.efit)];rfl))) K2<|dt (Ql K3)<|mv J<|Zx (Qy K2 Gm J Ym K2) K2<|Zx (Pj (i:=5) K3 Xf Ym K4) K2 ?_
   exact Pp (Zy (n:=5) (Hq (ps.getD i P0).2.2.1 (ps.getD i P0).2.2.2) K4 call95 Ze J hw) K3 fun _ _=>Zx (dF (Xh J J) (vB (by rw [(show efit ((ps.getD i P0).2.2.1,(ps.getD i P0).2.2.2)=true from hf2.efit)];rfl))) K2<|dt (Ql K3)<|Zo J<|Zd<|Qh<|Za<|Zf<|dt (Ov K3)<|mv J<|Zd<|Xg (i+1) (by first | omega | (dsimp only<;>omega)) (by first | omega | (dsimp only<;>omega)) K6 K6
  ·refine Yj K3<|Yj K3<|Yj K3<|dt (Ql K3)<|mv J<|Zx (Qy K2 Gm J Ym K2) K2<|Zx (Pj (i:=5) K3 Xf Ym K4) K2<|Pp (Zy (n:=5) (Oh (ps.getD i P0).2.1.1 (ps.getD i P0).2.1.2 hf1p) K4 Zbq Ze J hw) K3 fun _ _=>Zx (Xh J J) K2<|dt (Ql K3)<|mv J<|Zx (Qy K2 Gm J Ym K2) K2<|Zx (Pj (i:=5) K3 Xf Ym K4) K2<|Pp (Zy (n:=5) (Oh (ps.getD i P0).2.2.1 (ps.getD i P0).2.2.2 hf2p) K4 Zbq Ze J hw) K3 fun _ _=>Zx (Xh J J) K2<|dt (Ql K3)<|Zd<|Za<|Yk J<|Zl<|Za<|Zf<|mv J<|mv J<|Zx (Qy K2 Gm J Ym K2) K2<|Zx (Pj (i:=5) K3 Xf Ym K4) K2<|Pp (Zy (n:=5) (Hq (ps.getD i P0).2.1.1 (ps.getD i P0).2.1.2) K4 call95 Ze J hw) K3 fun _ _=>Zx (dF (Xh J J) (vB (by rw [(show efit ((ps.getD i P0).2.1.1,(ps.getD i P0).2.1.2)=true from hf1.efit)];rfl))) K2<|dt (Ql K3)<|mv J<|Zx (Qy K2 Gm J Ym K2) K2<|Zx (Pj (i:=5) K3 Xf Ym K4) K2<|Pp (Zy (n:=5) (Hq (ps.getD i P0).2.2.1 (ps.getD i P0).2.2.2) K4 call95 Ze J hw) K3 (fun _ _=>?_)
   exact Zx (dF (Xh J J) (vB (by rw [(show efit ((ps.getD i P0).2.2.1,(ps.getD i P0).2.2.2)=true from hf2.efit)];rfl))) K2<|dt (Ql K3)<|Zo J<|Zd<|Qh<|Za<|Zf<|dt (Ov K3)<|mv J<|Zd<|Xg (i+1) (by first | omega | (dsimp only<;>omega)) (by first | omega | (dsimp only<;>omega)) K6 K6
 ·refine Yt<|Zv<|Zv<|Pd<|Za<|Zb<|Zb<|Zf<|dt (Pj (i:=3) K3 Xf Ym K4)<|dt (Pj (i:=4) K3 Xf Ym K4)<|tt (Yf (n:=5) (Fz a.1 a.2 b.1 b.2 hap hbp) K5 call96 Ze J hw) fun _ _=>dt (Fd K3)<|Zd<|Za<|Zr J (fun h45=>?_) (fun h45=>?_)
  ·exact Zb<|Zf<|Zo J<|Zd<|Za<|Zp<|Yp<|xU hsc results58 J J (by rw [if_pos ‹_›])
  ·exact Zl<|Za<|Zb<|Zb<|Zf<|mv J<|Zd<|Za<|Yk J<|Zl<|Za<|Zb<|Zf<|Zo J<|Zd<|Za<|Zp<|xU hsc results58 J J (by rw [if_neg ‹_›])
theorem Zid(v:Value)(xs:List Int)(a b:R2)(hd:Cvd xs)(ha:E32 a)(hb:E32 b)(hc:¬0<Iz a b)(hn:Bj (Qq xs) (Gz xs) a b=true):Od prog 38 #[v,rX a.1 a.2,rX b.1 b.2] [Pw 2 wv v xs] (.tuple #[.slice none 0 0,.int .i64 10]):=by
 refine Yg func38 J ntmps38 J K1 fun w0 sc hw hsc=>?_
 simp only [Zs,Zq]
 refine Ziw (Na 1 J Zg) (fun sv hsv=>?_)
 subst hsv
 have ha1:=ha.b1
 have ha2:=ha.b2
 have hap:=ha.p
 have hb1:=hb.b1
 have hb2:=hb.b2
 have hbp:=hb.p
 exact Zb<|Zf<|tt (Xp (i:=2) K5 hw) fun bx _=>tt (Xp (i:=3) K5 hw) fun bx_2 _=>tt (Xp (i:=4) K5 hw) fun bx_3 _=>Zo J<|Zo J<|Zd<|Za<|Zb<|Zf<|dt (Mc (i:=2) K3 isAgg23 J)<|dt (Pj (i:=3) K3 Xf Ym K4)<|dt (Pj (i:=4) K3 Xf Ym K4)<|tt (Xv (n:=4) (Zcp _ xs a b hd ha hb hc hn) J J J K3 call21 (Zi 1 K3 Ze) J hw) fun g hg=>mv J<|dt (Xa K3)<|dt (Xa K3)<|dt (Xa K3)<|tt (Xi (i:=5) K2 zeroValue41 K2 hw) fun bx_4 _=>tt (Zt (i:=5) K6 Ym K2 ⟨Zc J,Zc J,Zc J,Zc J,trivial⟩ J hw trivial) fun _ _=>Zo J<|Zo J<|Zd<|Za<|Zb<|Zn<|Zb<|Zf<|mv J<|dt (dF (Pk K3) (vB (by decide)))<|Zo J<|Zd<|Za<|Yk J<|Zb<|Zf<|mv J<|Zo J<|Zd<|Za<|Of J<|Zb<|Zf<|Zo J<|Zo J<|Zd<|Za<|Zp<|Md<|Yp<|Yr (.inl J) hsc () _ (fun a w hs=>Pz hs results38 J J) J trivial J Zm
theorem Zn5(v:Value)(xs:List Int)(a b:R2)(hd:Cvd xs)(ha:E32 a)(hb:E32 b)(hc:0<Iz a b):Od prog 38 #[v,rX a.1 a.2,rX b.1 b.2] [Pw 2 wv v xs] (.tuple #[.slice none 0 0,.int .i64 3]):=by
 refine Yg func38 J ntmps38 J K1 fun w0 sc hw hsc=>?_
 simp only [Zs,Zq]
 refine Ziw (Na 1 J Zg) (fun sv hsv=>?_)
 subst hsv
 have ha1:=ha.b1
 have ha2:=ha.b2
 have hap:=ha.p
 have hb1:=hb.b1
 have hb2:=hb.b2
 have hbp:=hb.p
 exact Zb<|Zf<|tt (Xp (i:=2) K5 hw) fun bx _=>tt (Xp (i:=3) K5 hw) fun bx_2 _=>tt (Xp (i:=4) K5 hw) fun bx_3 _=>Zo J<|Zo J<|Zd<|Za<|Zb<|Zf<|dt (Mc (i:=2) K3 isAgg23 J)<|dt (Pj (i:=3) K3 Xf Ym K4)<|dt (Pj (i:=4) K3 Xf Ym K4)<|tt (Xv (n:=4) (Ziq _ xs a b hd ha hb hc) J J J K3 call21 (Zi 1 K3 Ze) J hw) fun _ _=>mv J<|dt (Xa K3)<|dt (Xa K3)<|dt (Xa K3)<|tt (Xi (i:=5) K2 zeroValue41 K2 hw) fun bx_4 _=>tt (Zt (i:=5) K6 Ym K2 ⟨Zc J,Zc J,Zc J,Zc J,trivial⟩ J hw trivial) fun _ _=>Zo J<|Zo J<|Zd<|Za<|Zb<|Zn<|Zb<|Zf<|mv J<|dt (dT (Pk K3) (vB (by decide)))<|Zo J<|Zd<|Za<|Of J<|Zb<|Zf<|mv J<|Zo J<|Zo J<|Zd<|Za<|Zp<|Md<|Yp<|Yr (.inl J) hsc () _ (fun a w hs=>Pz hs results38 J J) J trivial J Zm
theorem Zn6(v:Value)(r:List (Bool×ByteArray))(z1 z2:RZ)(hbad:(okP r && qOK z1 && qOK z2)=false):Od prog 38 #[v,.agg #[.bool z1.1.1,.string z1.1.2,.bool z1.2.1,.string z1.2.2],.agg #[.bool z2.1.1,.string z2.1.2,.bool z2.2.1,.string z2.2.2]] [Pw 2 Zax v r] (.tuple #[.slice none 0 0,.int .i64 2]):=by
 refine Yg func38 J ntmps38 J K1 fun w0 sc hw hsc=>?_
 simp only [Zs,Zq]
 refine Ziw (Na 1 J Zg) (fun sv hsv=>?_)
 subst hsv
 exact Zb<|Zf<|tt (Xp (i:=2) K5 hw) fun bx _=>tt (Xp (i:=3) K5 hw) fun bx_2 _=>tt (Xp (i:=4) K5 hw) fun bx_3 _=>Zo J<|Zo J<|Zd<|Za<|Zb<|Zf<|dt (Mc (i:=2) K3 isAgg23 J)<|dt (Pj (i:=3) K3 Xf Ym K4)<|dt (Pj (i:=4) K3 Xf Ym K4)<|tt (Xv (n:=4) (Zir _ _ z1 z2 hbad) J J J K3 call21 (Zi 1 K3 Ze) J hw) fun _ _=>mv J<|dt (Xa K3)<|dt (Xa K3)<|dt (Xa K3)<|tt (Xi (i:=5) K2 zeroValue41 K2 hw) fun bx_4 _=>tt (Zt (i:=5) K6 Ym K2 ⟨Zc J,Zc J,Zc J,Zc J,trivial⟩ J hw trivial) fun _ _=>Zo J<|Zo J<|Zd<|Za<|Zb<|Zn<|Zb<|Zf<|mv J<|dt (dT (Pk K3) (vB (by decide)))<|Zo J<|Zd<|Za<|Of J<|Zb<|Zf<|mv J<|Zo J<|Zo J<|Zd<|Za<|Zp<|Md<|Yp<|Yr (.inl J) hsc () _ (fun a w hs=>Pz hs results38 J J) J trivial J Zm
end Go.Sky

