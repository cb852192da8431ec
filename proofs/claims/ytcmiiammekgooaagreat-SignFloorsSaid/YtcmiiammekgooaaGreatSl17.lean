/- rules, arithmetic and contracts: part 18
   Proved without conditions of its own: each theorem bears its own. -/
import Derived.Test.YtcmiiammekgooaaGreatSl03
import Derived.Test.YtcmiiammekgooaaGreatSl02
import Derived.Test.YtcmiiammekgooaaGreatSl01
import Derived.Test.YtcmiiammekgooaaGreatSl16
import Derived.Test.YtcmiiammekgooaaGreatSl14
set_option linter.all false
namespace Go.Sky
open Go.Proofs.Tryz
open Go.Proofs
set_option maxRecDepth 20000
set_option maxHeartbeats 4000000
set_option linter.unusedSimpArgs false
set_option maxHeartbeats 4000000 in
theorem Zc8(v:Value)(xs:List Int)(hd:Cvd xs)(hs:Sz 40 xs):Cal prog 33 #[v] [slp 2 wv v xs] false (G:=Int) (fun r=>¬Bs xs r∧Bs xs (r+1)∧bl r.natAbs≤60) (fun r=> .tuple #[wv r,.int .i64 0]) (fun r=>[]):=by
 refine Ya func33 J ntmps33 J K1 ?_
 intro w0 sc hw hsc
 simp only [Zp,Zn]
 have hv:=hd.v
 have hlx:=hd.l
 refine Yl (Nj 999 2 31 wv)<|Yl (Qz 999 J J pV)<|Zc<|Zg<|tt (Zo (i:=2) J J zeroValue31 J J hw) fun bx _=>as_ J<|Zf<|Za<|Zc<|Zl<|Zc<|Zg<|mv J<|tt (Zh (n:=2) (Xq _ _ ‹_›) J J J K1 Zdr (Zb 1 J J J Ze) J hw) fun _ _=>dt (Xp J J)<|as_ J<|Zf<|Za<|Ye J<|Zc<|Zg<|mv J<|tt (Zh (n:=2) (Zhf _ 8 xs hv) J J J K2 call50 (Zb 1 J J J Ze) J hw) fun _ _=>dt (Yc (r':= .bool false) (Ze6 J J) (congrArg Value.bool (decide_eq_false (fun h=>h (Dk hd (by omega))))))<|as_ J<|Zf<|Za<|Ye J<|Zc<|Zg<|mv J<|dt (Yb J J (i:=1) J Zi Qp)<|dt (Pm J J J)<|as_ J<|Zf<|Za<|Zq J (fun h315=>?_) (fun h315=>?_)
 ·exact Zc<|Zg<|dt (Pz (ivs:=[]) J trivial (fun a w hs=>Zye))<|tt (Zm (i:=2) J J J J J (by decide) J Yj J J ⟨Zd J,Zd J,trivial⟩ J hw trivial) fun _ _=>as_ J<|Zf<|Za<|Zv<|Hf<|Xc<|Yn (.inl J) hsc 0 _ (fun a w hs=>Np hs results33 (Yr (i:=2) J J Qj Yj J) J) J (by have h9:xs=[]:=List.eq_nil_of_length_eq_zero (by omega);subst h9;exact⟨Zn2.1,Zn2.2,by decide⟩) J Zk
 ·refine Zj<|Oa<|Za<|Zc<|Zg<|tt (Zh (n:=2) (Xd _ ⟨by decide,by decide⟩) J J J K1 Bj Ze J hw) fun _ _=>dt (Pz (ivs:=[(1,_)]) J K2 (fun a w hs=>b41_1))<|tt (Zh (n:=2) (Xd _ ⟨by decide,by decide⟩) J J J K1 Bj Ze J hw) fun _ _=>tt (Zh (n:=2) (Xd _ ⟨by decide,by decide⟩) J J J K1 Bj Ze J hw) fun _ _=>dt (Pz (ivs:=[(0,_),(1,_)]) J K4 (fun a w hs=>Zfd))<|tt (Zo (i:=3) J J zeroValue41 J J hw) fun bx_2 _=>tt (Zo (i:=4) J J zeroValue41 J J hw) fun bx_3 _=>tt (Zm (i:=3) J J J J J (by decide) J Xz J J ⟨Zd J,Zd J,Zd J,Zd J,trivial⟩ J hw trivial) fun _ _=>tt (Zm (i:=4) J J J J J (by decide) J Xz J J ⟨Zd J,Zd J,Zd J,Zd J,trivial⟩ J hw trivial) fun _ _=>Zf<|Za<|Zc<|Zg<|tt (Zo (i:=5) J J zeroValue102 J J hw) fun bx_4 _=>Zf<|Za ?_
  refine Dj [(0,_),(2,_),(4,_),(5,_),(6,_)] [(0,_),(1,_),(999,_),(2,_),(3,_),(4,_),(5,_)] (fun(q:Nat×Nat)=>[(7,.pointer (some ⟨q.1,0,none⟩)),(8,.pointer (some ⟨q.2,0,none⟩))]) (fun(q:Nat×Nat)=>[(97,box q.1 31 (wc 0)),(98,box q.2 31 (wc (cf xs 0)))]) (fun(q:Nat×Nat)=>True) K5 K7 ?_ ?_
  ·refine Oo [1] [7]<|Zy (n:=5) [(1,0),(2,0),(3,0)]<|r0' J J (stf (Ym J J) K1)<|r0' J J (stf (Yw (ii:=1) (i:=0) J J J J Zi Qp Yj J) K1)<|r0' J J (stf (Xm (ii:=1) 0 J J J Zi pV) K1)<|Yo<|Zbo (n:=4) 0 4 5 ?_ ?_ ?_
   ·refine Yp J (Zh (n:=5) (Xd _ ⟨by decide,by decide⟩) J J J K1 Bj Ze J hw) fun _ _=>Pu (n:=3) 4 5 ?_ ?_
    ·exact Yp J (Zw (i:=97) J J zeroValue31 J J hw K1) fun bx_5 ho=>Zy (n:=0) [(5,1),(6,1),(7,3)]<|r1' J (Zw (i:=98) J J zeroValue31 J J hw K1) fun bx_6 ho2=>r1' J (Zm (i:=97) J J J J J (by decide) J Yj J J ⟨Zd J,Zd J,trivial⟩ J hw ho) fun _ _=>r3' J (Zm (i:=98) J J J J J (by decide) J Yj J J ⟨Zd J,Zd J,trivial⟩ J hw trivial) fun _ _=>Yo<|Yg<|Qy (_,_) trivial K7 K9
    ·exact Yp J (Zw (i:=98) J J zeroValue31 J J hw K1) fun bx_7 ho3=>Zy (n:=0) [(4,1),(6,1),(7,3)]<|r1' J (Zw (i:=97) J J zeroValue31 J J hw K1) fun bx_8 ho4=>r1' J (Zm (i:=97) J J J J J (by decide) J Yj J J ⟨Zd J,Zd J,trivial⟩ J hw ho4) fun _ _=>r3' J (Zm (i:=98) J J J J J (by decide) J Yj J J ⟨Zd J,Zd J,trivial⟩ J hw trivial) fun _ _=>Yo<|Yg<|Qy (_,_) trivial K7 K9
   ·refine Yp J (Zw (i:=97) J J zeroValue31 J J hw K1) fun bx_9 ho5=>Pu (n:=3) 0 5 ?_ ?_
    ·exact Yp J (Zh (n:=5) (Xd _ ⟨by decide,by decide⟩) J J J K1 Bj Ze J hw) fun _ _=>Zy (n:=0) [(5,1),(6,1),(7,3)]<|r1' J (Zw (i:=98) J J zeroValue31 J J hw K1) fun bx_10 ho6=>r1' J (Zm (i:=97) J J J J J (by decide) J Yj J J ⟨Zd J,Zd J,trivial⟩ J hw ho5) fun _ _=>r3' J (Zm (i:=98) J J J J J (by decide) J Yj J J ⟨Zd J,Zd J,trivial⟩ J hw trivial) fun _ _=>Yo<|Yg<|Qy (_,_) trivial K7 K9
    ·exact Yp J (Zw (i:=98) J J zeroValue31 J J hw K1) fun bx_11 ho7=>Zy (n:=0) [(0,1),(6,1),(7,3)]<|r1' J (Zh (n:=5) (Xd _ ⟨by decide,by decide⟩) J J J K1 Bj Ze J hw) fun _ _=>r1' J (Zm (i:=97) J J J J J (by decide) J Yj J J ⟨Zd J,Zd J,trivial⟩ J hw ho5) fun _ _=>r3' J (Zm (i:=98) J J J J J (by decide) J Yj J J ⟨Zd J,Zd J,trivial⟩ J hw trivial) fun _ _=>Yo<|Yg<|Qy (_,_) trivial K7 K9
   ·refine Yp J (Zw (i:=98) J J zeroValue31 J J hw K1) fun bx_12 ho8=>Pu (n:=3) 0 4 ?_ ?_
    ·exact Yp J (Zh (n:=5) (Xd _ ⟨by decide,by decide⟩) J J J K1 Bj Ze J hw) fun _ _=>Zy (n:=0) [(4,1),(6,1),(7,3)]<|r1' J (Zw (i:=97) J J zeroValue31 J J hw K1) fun bx_13 ho9=>r1' J (Zm (i:=97) J J J J J (by decide) J Yj J J ⟨Zd J,Zd J,trivial⟩ J hw ho9) fun _ _=>r3' J (Zm (i:=98) J J J J J (by decide) J Yj J J ⟨Zd J,Zd J,trivial⟩ J hw trivial) fun _ _=>Yo<|Yg<|Qy (_,_) trivial K7 K9
    ·exact Yp J (Zw (i:=97) J J zeroValue31 J J hw K1) fun bx_14 ho10=>Zy (n:=0) [(0,1),(6,1),(7,3)]<|r1' J (Zh (n:=5) (Xd _ ⟨by decide,by decide⟩) J J J K1 Bj Ze J hw) fun _ _=>r1' J (Zm (i:=97) J J J J J (by decide) J Yj J J ⟨Zd J,Zd J,trivial⟩ J hw ho10) fun _ _=>r3' J (Zm (i:=98) J J J J J (by decide) J Yj J J ⟨Zd J,Zd J,trivial⟩ J hw trivial) fun _ _=>Yo<|Yg<|Qy (_,_) trivial K7 K9
  ·rintro⟨b7,b8⟩ -
   simp only [CA,NA]
   refine Zc<|Oo [] []<|Pu (n:=6) 0 1 ?_ ?_
   ·refine Yp J (Px (Zz (i:=98) J J J Qj Yj J J) J) fun _ _=>Zy (n:=0) [(1,1),(2,1),(3,0),(4,0),(5,0),(6,1)]<|r1' J (Zh (n:=5) (Xd _ ⟨by decide,by decide⟩) J J J K1 Bj Ze J hw) fun _ _=>r1' J (Zh (n:=5) (Gs (cf xs 0) 1 (hv.sz 0) (by decide)) J J J K2 call82 Ze J hw) fun _ _=>r0' J J (stf (Ym J J) trivial)<|r0' J J (stf (Yf J J J) trivial)<|r0' J J (stf (Yf J J J) trivial)<|r1' J (Zm (i:=98) J J J J J (by decide) J Yj J J ⟨Zd J,Zd J,trivial⟩ J hw (fun _ h=>nomatch h)) fun _ _=>Yo<|Yg<|Za<|Zc<|Zc<|Yl (Gp 98 (q:=box b8 31 (wc (cf xs 0+1))) (congrArg (fun z=>box b8 31 (wc z)) (Oz (Nat.le_trans (Br (z:=cf xs 0+1) (by have:=Zc5 hs 0;omega)) (by omega)))) J J)<|Zg<|mv J<|dt (Yb J J (i:=1) J Zi Qp)<|mv J<|Zf<|Za<|Zl<|Nt [(0,_),(2,_),(4,_),(5,_),(6,_),(7,_),(8,_),(46,_),(47,_)] [(0,_),(98,_),(1,_),(999,_),(2,_),(3,_),(4,_),(5,_)] (fun(i:Nat)=>[(48,.int .i64 (i:Int))]) (fun(i:Nat)=>[(97,box b7 31 (wc (lws (xs.take i))))]) (fun(i:Nat)=>i≤xs.length) (fun(i:Nat)=>xs.length-i) 0 (by first | omega | (dsimp only<;>omega)) K10 K9 ?_
    rintro i hi
    simp only [CA,NA]
    refine Zc<|Zg<|dt (Xu J J J)<|Zf<|Za<|Zc<|Zq J (fun h323=>?_) (fun h323=>?_)
    ·refine Zj<|Za<|Zc<|Zl<|Zc<|Zg<|dt (Yw (ii:=1) J J J J Zi Qp Yj J (by first | omega | (simp only [List.length_set];omega)))<|dt (Xm (ii:=1) 0 J J J Zi pV (by first | omega | (simp only [List.length_set];omega)))<|tt (Zo (i:=6) J J zeroValue31 J J hw) fun bx_15 _=>tt (Zm (i:=6) J J J J J (by decide) J Yj J J ⟨Zd J,Zd J,trivial⟩ J hw trivial) fun _ _=>Zf<|Za<|Zc<|Zg<|dt (Xx J J Zcw J zT4 J J)<|tt (Zk0 (cs':=#[]) (i:=6) J J J J J (by decide) J zT4 J J ⟨Zd J,trivial⟩ J hw trivial) fun _ _=>Zf<|Za<|Zc<|Zc<|Zg<|dt (Xx J J Zcw J zT9 J J)<|dt (Ok (i:=6) J J J iA9 J)<|dt (Zkh J J J J)<|Zf<|Za<|Zq J (fun h325=>?_) (fun h325=>?_)
     ·have hc0:(cf xs i).natAbs=0:=bstr_0 h325
      exact Yu<|Zu<|Ox<|Za<|Zg<|dt (Ys J J J ⟨by omega,by omega⟩)<|mv J<|Zf<|Xk (i+1) (by first | omega | (dsimp only<;>omega)) (by first | omega | (dsimp only<;>omega)) K10 ⟨(by rw [Be (by omega)];first | rfl | (rw [hc0,show lws (xs.take i) + -((0:Nat):Int)=lws (xs.take i) by omega]<;>rfl)),J,J,J,J,J,J,J,J,trivial⟩
     ·have hc0:cf xs i≠0:=Zuu h325
      have hlwi:=Zaz hs hlx i
      have hlws:=Zaz hs hlx (i+1)
      rw [Be (by omega)]at hlws
      have hlw:bl (lws (xs.take i)).natAbs≤65536:=Nat.le_trans (Br (by omega)) (by omega)
      have hcb:bl (-((cf xs i).natAbs:Int)).natAbs≤65536:=by rw [Int.natAbs_neg,Int.natAbs_natCast];exact hv.sz i
      exact Zj<|Za<|Zg<|dt (Zz (i:=97) J J J Qj Yj J J)<|dt (Yc (r':=wv (-((cf xs i).natAbs:Int))) (Zz (i:=6) J J J Qj Yj J J) (Zqf hc0).symm)<|tt (Zh (n:=6) (Gs (lws (xs.take i)) (-((cf xs i).natAbs:Int)) hlw hcb) J J J K2 call82 Ze J hw) fun _ _=>mv J<|dt (Yf J J J)<|dt (Yf J J J)<|tt (Zm (i:=97) J J J J J (by decide) J Yj J J ⟨Zd J,Zd J,trivial⟩ J hw trivial) fun _ _=>Pr (Gp 97 (q:=box b7 31 (wc (lws (xs.take i) + -((cf xs i).natAbs:Int)))) (congrArg (fun z=>box b7 31 (wc z)) (Oz (Nat.le_trans (Br (by omega)) (by omega)))) J J)<|Zf<|Oa<|Za<|Zg<|dt (Ys J J J ⟨by omega,by omega⟩)<|mv J<|Zf<|Xk (i+1) (by first | omega | (dsimp only<;>omega)) (by first | omega | (dsimp only<;>omega)) K10 ⟨(by rw [Be (by omega)];first | rfl | (rw [hc0,show lws (xs.take i) + -((0:Nat):Int)=lws (xs.take i) by omega]<;>rfl)),J,J,J,J,J,J,J,J,trivial⟩
    ·refine Yu<|Zu<|Zu<|Ox<|Za<|Zl<|Nt [(0,_),(2,_),(4,_),(5,_),(6,_),(7,_),(8,_)] [(0,_),(1,_),(999,_),(2,_),(3,_),(4,_),(5,_)] (fun(q:Int×Int)=>[]) (fun(q:Int×Int)=>[(97,box b7 31 (wc q.1)),(98,box b8 31 (wc q.2))]) (fun(q:Int×Int)=>FlI xs q.1 q.2) (fun(q:Int×Int)=>(q.2-q.1).toNat) (lws (xs.take i),cf xs 0+1) (FlI.start hs hd.l (by omega)) K7 K9 ?_
     rintro⟨lo,hi⟩ hF
     dsimp only at hF
     simp only [CA,NA]
     have hlt:=hF.lt
     have hfb1:=hF.b1
     have hfb2:=hF.b2
     have hlb:=Br (z:=lo) (by omega)
     have hhb:=Br (z:=hi) (by omega)
     have hsb:=Br (z:=lo+hi) (by omega)
     have hmb:=Br (z:=((lo+hi)/2)) (by omega)
     obtain⟨hcv,hcz,hcm⟩:=Za1 (m:=((lo+hi)/2)) hd hs (by omega)
     refine Zl<|Zc<|Zg<|dt (Zz (i:=97) J J J Qj Yj J J)<|dt (Zz (i:=98) J J J Qj Yj J J)<|tt (Zh (n:=6) (Gs lo hi) J J J K2 call82 Ze J hw) fun _ _=>mv J<|dt (Yf J J J)<|dt (Yf J J J)<|tt (Zo (i:=7) J J zeroValue31 J J hw) fun bx_16 _=>tt (Zm (i:=7) J J J J J (by decide) J Yj J J ⟨Zd J,Zd J,trivial⟩ J hw trivial) fun _ _=>Pr (Gp 7 (q:=box bx_16 31 (wc (lo+hi))) (congrArg (fun z=>box bx_16 31 (wc z)) (Oz (by omega))) J J)<|as_ J<|Zf<|Za<|Zc<|Zg<|dt (Zz (i:=7) J J J Qj Yj J J)<|tt (Zh (n:=7) (Zdx (lo+hi)) J J J K2 call83 Ze J hw) fun _ _=>mv J<|dt (Yf J J J)<|dt (Yf J J J)<|tt (Zm (i:=7) J J J J J (by decide) J Yj J J ⟨Zd J,Zd J,trivial⟩ J hw trivial) fun _ _=>Pr (Gp 7 (q:=box bx_16 31 (wc ((lo+hi)/2))) (congrArg (fun z=>box bx_16 31 (wc z)) (Oz (by omega))) J J)<|Zf<|Za<|Zc<|Zc<|Zg<|dt (Zz (i:=7) J J J Qj Yj J J)<|dt (Zz (i:=97) J J J Qj Yj J J)<|tt (Zh (n:=7) (Zcj ((lo+hi)/2) lo) J J J K2 call84 Ze J hw) fun _ _=>dt (Co J J J)<|Zf<|Za<|Zq J (fun h334=>?_) (fun h334=>?_)
     ·have hmlo:((lo+hi)/2)≤lo:=by have:=Zq7 h334;omega
      exact Zc<|Oo [5,97] [4]<|Zy (n:=0) [(0,0),(1,0),(2,0),(3,1),(4,3)]<|r0' J J (stf (Zz (i:=97) J J J Qj Yj J J) K2)<|r0' J J (stf (Xx J J Ky J Gr J J) K2)<|r0' J J (stf (Ok (i:=5) J J J Ax J) K2)<|r1' J (Zd4 2 J J K2 (fun ob=>(Zm (i:=2) J J J J J (by decide) J Yj J J ⟨Zd J,Zd J,trivial⟩ J hw ob))) fun _ _=>r3' J (Px (Lq J J) J) fun _ _=>Yo<|Yg<|Za<|Zv<|Xc<|Hf<|Xc<|Hf<|Yn (.inl J) hsc lo _ (fun a w hs=>Np hs results33 (Yr (i:=2) J J Qj Yj J) J) J ⟨hF.l,by rw [show lo+1=hi by omega];exact hF.h,by omega⟩ J Zk
     ·have hmlo:lo<((lo+hi)/2):=by have:=Zq8 h334;omega
      refine Zj<|Za<|Zc<|Zg<|mv J<|dt (Zz (i:=7) J J J Qj Yj J J)<|tt (Zh (n:=8) (Zq9 ((lo+hi)/2)) J J J K1 call86 Ze J hw) fun v _=>tt (Zh (n:=9) (Znq _ _ xs (tzl [((lo+hi)/2)]) hv hcm hcz) J J J K2 call85 (Zb 1 J J J (Zb 8 J J J Ze)) J hw) fun _ _=>mv J<|dt (Yf J J J)<|dt (Yf J J J)<|as_ J<|as_ J<|Zf<|Za<|Zc<|Zc<|Zg<|mv J<|dt (Yc (r':= .bool false) (Qb J J J) (congrArg Value.bool (by decide)))<|Zf<|Za<|Ye J<|Zj<|Za<|Zc<|Zg<|mv J<|tt (Zh (n:=10) (Zk4 _ _ hcv) J J J K1 call59 (Zb 9 J J J Ze) J hw) (fun g hg=>?_)
      obtain⟨hgl,hgc⟩:=hg
      refine mv J<|dt (Yf J J J)<|dt (Yf J J J)<|tt (Zo (i:=12) J J zeroValue98 J J hw) fun bx_17 _=>tt (Zm (i:=12) J J J J J (by decide) J Ct J J ⟨Zt (i:=10) J Zx,Zt (i:=11) J Zx,trivial⟩ J hw trivial) fun _ _=>as_ J<|Zf<|Za<|Zc<|Zc<|Zg<|mv J<|dt (Yc (r':= .bool false) (Qb J J J) (congrArg Value.bool (by decide)))<|Zf<|Za<|Ye J<|Zj<|Za<|Zc<|Zc<|Zg<|dt (Zz (i:=12) J J J Zc1 Ct J J)<|dt (Yy (i:=3) J J J Pv Xz J J J J)<|dt (Yy (i:=4) J J J Pv Xz J J J J)<|tt (Zh (n:=12) (Lv _ _ _ _ _ 0 1 1 1 (by decide) (by decide) (Xy hgl (fun q hq=>(Nx hcv q hq).1)) (Xy hgl (Kp hcv (m:=(0,1)) (by decide) (by decide)).1) (Xy hgc (fun q hq=>(Gk hcv q hq).1)) (Xy hgc (Kp hcv (m:=(0,1)) (by decide) (by decide)).2) (Xy hgc (Kp hcv (m:=(1,1)) (by decide) (by decide)).2) (by have h7:=congrArg List.length hgc;rw [List.length_map]at h7;have:=Fm (Hl xs ((lo+hi)/2));omega) (by decide) (by decide) (by decide) (by decide)) J J J K4 call61 (Zb 10 J J J (Zb 11 J J J (No 5 J J Ze))) J hw) fun _ _=>Zf<|Za<|Lm J (fun h345=>?_) (fun h345=>?_)
      ·exact Zg<|dt (Zz (i:=7) J J J Qj Yj J J)<|tt (Zm (i:=98) J J J J J (by decide) J Yj J J ⟨Zd J,Zd J,trivial⟩ J hw trivial) fun _ _=>Zf<|Za<|Zc<|Zg<|dt (Xx J J Ky J Gr J J)<|dt (Ok (i:=5) J J J Ax J)<|dt (Yc (r':= .bool false) (Qb J J J) (congrArg Value.bool (by decide)))<|Zf<|Za<|Ye J<|Zj<|Oa<|Xk (lo,((lo+hi)/2)) (⟨hF.l,(Gz hcv).1 (by rw [←hgl,←hgc];assumption),by omega,by omega⟩) (by dsimp only;omega) K7 K9
      ·exact Zg<|dt (Zz (i:=7) J J J Qj Yj J J)<|tt (Zm (i:=97) J J J J J (by decide) J Yj J J ⟨Zd J,Zd J,trivial⟩ J hw trivial) fun _ _=>Zf<|Za<|Zc<|Zg<|dt (Xx J J Ky J Gr J J)<|dt (Ok (i:=5) J J J Ax J)<|dt (Yc (r':= .bool false) (Qb J J J) (congrArg Value.bool (by decide)))<|Zf<|Za<|Ye J<|Zj<|Oa<|Xk (((lo+hi)/2),hi) (⟨fun e=>absurd ((Gz hcv).2 e) (by rw [←hgl,←hgc];simp_all),hF.h,by omega,by omega⟩) (by dsimp only;omega) K7 K9
   ·refine Yp J (Zh (n:=12) (Xd _ ⟨by decide,by decide⟩) J J J K1 Bj Ze J hw) fun _ _=>Zy (n:=0) [(0,1),(2,1),(3,0),(4,0),(5,0),(6,1)]<|r1' J (Px (Zz (i:=98) J J J Qj Yj J J) J) fun _ _=>r1' J (Zh (n:=12) (Gs (cf xs 0) 1 (hv.sz 0) (by decide)) J J J K2 call82 Ze J hw) fun _ _=>r0' J J (stf (Ym J J) trivial)<|r0' J J (stf (Yf J J J) trivial)<|r0' J J (stf (Yf J J J) trivial)<|r1' J (Zm (i:=98) J J J J J (by decide) J Yj J J ⟨Zd J,Zd J,trivial⟩ J hw (fun _ h=>nomatch h)) fun _ _=>Yo<|Yg<|Za<|Zc<|Zc<|Yl (Gp 98 (q:=box b8 31 (wc (cf xs 0+1))) (congrArg (fun z=>box b8 31 (wc z)) (Oz (Nat.le_trans (Br (z:=cf xs 0+1) (by have:=Zc5 hs 0;omega)) (by omega)))) J J)<|Zg<|mv J<|dt (Yb J J (i:=1) J Zi Qp)<|mv J<|Zf<|Za<|Zl<|Nt [(0,_),(2,_),(4,_),(5,_),(6,_),(7,_),(8,_),(46,_),(47,_)] [(0,_),(98,_),(1,_),(999,_),(2,_),(3,_),(4,_),(5,_)] (fun(i:Nat)=>[(48,.int .i64 (i:Int))]) (fun(i:Nat)=>[(97,box b7 31 (wc (lws (xs.take i))))]) (fun(i:Nat)=>i≤xs.length) (fun(i:Nat)=>xs.length-i) 0 (by first | omega | (dsimp only<;>omega)) K10 K9 ?_
    rintro i hi
    simp only [CA,NA]
    refine Zc<|Zg<|dt (Xu J J J)<|Zf<|Za<|Zc<|Zq J (fun h323_2=>?_) (fun h323_2=>?_)
    ·refine Zj<|Za<|Zc<|Zl<|Zc<|Zg<|dt (Yw (ii:=1) J J J J Zi Qp Yj J (by first | omega | (simp only [List.length_set];omega)))<|dt (Xm (ii:=1) 0 J J J Zi pV (by first | omega | (simp only [List.length_set];omega)))<|tt (Zo (i:=13) J J zeroValue31 J J hw) fun bx_18 _=>tt (Zm (i:=13) J J J J J (by decide) J Yj J J ⟨Zd J,Zd J,trivial⟩ J hw trivial) fun _ _=>Zf<|Za<|Zc<|Zg<|dt (Xx J J Zcw J zT4 J J)<|tt (Zk0 (cs':=#[]) (i:=13) J J J J J (by decide) J zT4 J J ⟨Zd J,trivial⟩ J hw trivial) fun _ _=>Zf<|Za<|Zc<|Zc<|Zg<|dt (Xx J J Zcw J zT9 J J)<|dt (Ok (i:=13) J J J iA9 J)<|dt (Zkh J J J J)<|Zf<|Za<|Zq J (fun h325_2=>?_) (fun h325_2=>?_)
     ·have hc0:(cf xs i).natAbs=0:=bstr_0 h325_2
      exact Yu<|Zu<|Ox<|Za<|Zg<|dt (Ys J J J ⟨by omega,by omega⟩)<|mv J<|Zf<|Xk (i+1) (by first | omega | (dsimp only<;>omega)) (by first | omega | (dsimp only<;>omega)) K10 ⟨(by rw [Be (by omega)];first | rfl | (rw [hc0,show lws (xs.take i) + -((0:Nat):Int)=lws (xs.take i) by omega]<;>rfl)),J,J,J,J,J,J,J,J,trivial⟩
     ·have hc0:cf xs i≠0:=Zuu h325_2
      have hlwi:=Zaz hs hlx i
      have hlws:=Zaz hs hlx (i+1)
      rw [Be (by omega)]at hlws
      have hlw:bl (lws (xs.take i)).natAbs≤65536:=Nat.le_trans (Br (by omega)) (by omega)
      have hcb:bl (-((cf xs i).natAbs:Int)).natAbs≤65536:=by rw [Int.natAbs_neg,Int.natAbs_natCast];exact hv.sz i
      exact Zj<|Za<|Zg<|dt (Zz (i:=97) J J J Qj Yj J J)<|dt (Yc (r':=wv (-((cf xs i).natAbs:Int))) (Zz (i:=13) J J J Qj Yj J J) (Zqf hc0).symm)<|tt (Zh (n:=13) (Gs (lws (xs.take i)) (-((cf xs i).natAbs:Int)) hlw hcb) J J J K2 call82 Ze J hw) fun _ _=>mv J<|dt (Yf J J J)<|dt (Yf J J J)<|tt (Zm (i:=97) J J J J J (by decide) J Yj J J ⟨Zd J,Zd J,trivial⟩ J hw trivial) fun _ _=>Pr (Gp 97 (q:=box b7 31 (wc (lws (xs.take i) + -((cf xs i).natAbs:Int)))) (congrArg (fun z=>box b7 31 (wc z)) (Oz (Nat.le_trans (Br (by omega)) (by omega)))) J J)<|Zf<|Oa<|Za<|Zg<|dt (Ys J J J ⟨by omega,by omega⟩)<|mv J<|Zf<|Xk (i+1) (by first | omega | (dsimp only<;>omega)) (by first | omega | (dsimp only<;>omega)) K10 ⟨(by rw [Be (by omega)];first | rfl | (rw [hc0,show lws (xs.take i) + -((0:Nat):Int)=lws (xs.take i) by omega]<;>rfl)),J,J,J,J,J,J,J,J,trivial⟩
    ·refine Yu<|Zu<|Zu<|Ox<|Za<|Zl<|Nt [(0,_),(2,_),(4,_),(5,_),(6,_),(7,_),(8,_)] [(0,_),(1,_),(999,_),(2,_),(3,_),(4,_),(5,_)] (fun(q:Int×Int)=>[]) (fun(q:Int×Int)=>[(97,box b7 31 (wc q.1)),(98,box b8 31 (wc q.2))]) (fun(q:Int×Int)=>FlI xs q.1 q.2) (fun(q:Int×Int)=>(q.2-q.1).toNat) (lws (xs.take i),cf xs 0+1) (FlI.start hs hd.l (by omega)) K7 K9 ?_
     rintro⟨lo,hi⟩ hF
     dsimp only at hF
     simp only [CA,NA]
     have hlt:=hF.lt
     have hfb1:=hF.b1
     have hfb2:=hF.b2
     have hlb:=Br (z:=lo) (by omega)
     have hhb:=Br (z:=hi) (by omega)
     have hsb:=Br (z:=lo+hi) (by omega)
     have hmb:=Br (z:=((lo+hi)/2)) (by omega)
     obtain⟨hcv,hcz,hcm⟩:=Za1 (m:=((lo+hi)/2)) hd hs (by omega)
     refine Zl<|Zc<|Zg<|dt (Zz (i:=97) J J J Qj Yj J J)<|dt (Zz (i:=98) J J J Qj Yj J J)<|tt (Zh (n:=13) (Gs lo hi) J J J K2 call82 Ze J hw) fun _ _=>mv J<|dt (Yf J J J)<|dt (Yf J J J)<|tt (Zo (i:=14) J J zeroValue31 J J hw) fun bx_19 _=>tt (Zm (i:=14) J J J J J (by decide) J Yj J J ⟨Zd J,Zd J,trivial⟩ J hw trivial) fun _ _=>Pr (Gp 14 (q:=box bx_19 31 (wc (lo+hi))) (congrArg (fun z=>box bx_19 31 (wc z)) (Oz (by omega))) J J)<|as_ J<|Zf<|Za<|Zc<|Zg<|dt (Zz (i:=14) J J J Qj Yj J J)<|tt (Zh (n:=14) (Zdx (lo+hi)) J J J K2 call83 Ze J hw) fun _ _=>mv J<|dt (Yf J J J)<|dt (Yf J J J)<|tt (Zm (i:=14) J J J J J (by decide) J Yj J J ⟨Zd J,Zd J,trivial⟩ J hw trivial) fun _ _=>Pr (Gp 14 (q:=box bx_19 31 (wc ((lo+hi)/2))) (congrArg (fun z=>box bx_19 31 (wc z)) (Oz (by omega))) J J)<|Zf<|Za<|Zc<|Zc<|Zg<|dt (Zz (i:=14) J J J Qj Yj J J)<|dt (Zz (i:=97) J J J Qj Yj J J)<|tt (Zh (n:=14) (Zcj ((lo+hi)/2) lo) J J J K2 call84 Ze J hw) fun _ _=>dt (Co J J J)<|Zf<|Za<|Zq J (fun h334_2=>?_) (fun h334_2=>?_)
     ·have hmlo:((lo+hi)/2)≤lo:=by have:=Zq7 h334_2;omega
      exact Zc<|Oo [5,97] [4]<|Zy (n:=0) [(0,0),(1,0),(2,0),(3,1),(4,3)]<|r0' J J (stf (Zz (i:=97) J J J Qj Yj J J) K2)<|r0' J J (stf (Xx J J Ky J Gr J J) K2)<|r0' J J (stf (Ok (i:=5) J J J Ax J) K2)<|r1' J (Zd4 2 J J K2 (fun ob=>(Zm (i:=2) J J J J J (by decide) J Yj J J ⟨Zd J,Zd J,trivial⟩ J hw ob))) fun _ _=>r3' J (Px (Lq J J) J) fun _ _=>Yo<|Yg<|Za<|Zv<|Xc<|Hf<|Xc<|Hf<|Yn (.inl J) hsc lo _ (fun a w hs=>Np hs results33 (Yr (i:=2) J J Qj Yj J) J) J ⟨hF.l,by rw [show lo+1=hi by omega];exact hF.h,by omega⟩ J Zk
     ·have hmlo:lo<((lo+hi)/2):=by have:=Zq8 h334_2;omega
      refine Zj<|Za<|Zc<|Zg<|mv J<|dt (Zz (i:=14) J J J Qj Yj J J)<|tt (Zh (n:=15) (Zq9 ((lo+hi)/2)) J J J K1 call86 Ze J hw) fun v_2 _=>tt (Zh (n:=16) (Znq _ _ xs (tzl [((lo+hi)/2)]) hv hcm hcz) J J J K2 call85 (Zb 1 J J J (Zb 15 J J J Ze)) J hw) fun _ _=>mv J<|dt (Yf J J J)<|dt (Yf J J J)<|as_ J<|as_ J<|Zf<|Za<|Zc<|Zc<|Zg<|mv J<|dt (Yc (r':= .bool false) (Qb J J J) (congrArg Value.bool (by decide)))<|Zf<|Za<|Ye J<|Zj<|Za<|Zc<|Zg<|mv J<|tt (Zh (n:=17) (Zk4 _ _ hcv) J J J K1 call59 (Zb 16 J J J Ze) J hw) (fun g_2 hg_2=>?_)
      obtain⟨hgl,hgc⟩:=hg_2
      refine mv J<|dt (Yf J J J)<|dt (Yf J J J)<|tt (Zo (i:=19) J J zeroValue98 J J hw) fun bx_20 _=>tt (Zm (i:=19) J J J J J (by decide) J Ct J J ⟨Zt (i:=17) J Zx,Zt (i:=18) J Zx,trivial⟩ J hw trivial) fun _ _=>as_ J<|Zf<|Za<|Zc<|Zc<|Zg<|mv J<|dt (Yc (r':= .bool false) (Qb J J J) (congrArg Value.bool (by decide)))<|Zf<|Za<|Ye J<|Zj<|Za<|Zc<|Zc<|Zg<|dt (Zz (i:=19) J J J Zc1 Ct J J)<|dt (Yy (i:=3) J J J Pv Xz J J J J)<|dt (Yy (i:=4) J J J Pv Xz J J J J)<|tt (Zh (n:=19) (Lv _ _ _ _ _ 0 1 1 1 (by decide) (by decide) (Xy hgl (fun q hq=>(Nx hcv q hq).1)) (Xy hgl (Kp hcv (m:=(0,1)) (by decide) (by decide)).1) (Xy hgc (fun q hq=>(Gk hcv q hq).1)) (Xy hgc (Kp hcv (m:=(0,1)) (by decide) (by decide)).2) (Xy hgc (Kp hcv (m:=(1,1)) (by decide) (by decide)).2) (by have h7:=congrArg List.length hgc;rw [List.length_map]at h7;have:=Fm (Hl xs ((lo+hi)/2));omega) (by decide) (by decide) (by decide) (by decide)) J J J K4 call61 (Zb 17 J J J (Zb 18 J J J (No 5 J J Ze))) J hw) fun _ _=>Zf<|Za<|Lm J (fun h345_2=>?_) (fun h345_2=>?_)
      ·exact Zg<|dt (Zz (i:=14) J J J Qj Yj J J)<|tt (Zm (i:=98) J J J J J (by decide) J Yj J J ⟨Zd J,Zd J,trivial⟩ J hw trivial) fun _ _=>Zf<|Za<|Zc<|Zg<|dt (Xx J J Ky J Gr J J)<|dt (Ok (i:=5) J J J Ax J)<|dt (Yc (r':= .bool false) (Qb J J J) (congrArg Value.bool (by decide)))<|Zf<|Za<|Ye J<|Zj<|Oa<|Xk (lo,((lo+hi)/2)) (⟨hF.l,(Gz hcv).1 (by rw [←hgl,←hgc];assumption),by omega,by omega⟩) (by dsimp only;omega) K7 K9
      ·exact Zg<|dt (Zz (i:=14) J J J Qj Yj J J)<|tt (Zm (i:=97) J J J J J (by decide) J Yj J J ⟨Zd J,Zd J,trivial⟩ J hw trivial) fun _ _=>Zf<|Za<|Zc<|Zg<|dt (Xx J J Ky J Gr J J)<|dt (Ok (i:=5) J J J Ax J)<|dt (Yc (r':= .bool false) (Qb J J J) (congrArg Value.bool (by decide)))<|Zf<|Za<|Ye J<|Zj<|Oa<|Xk (((lo+hi)/2),hi) (⟨fun e=>absurd ((Gz hcv).2 e) (by rw [←hgl,←hgc];simp_all),hF.h,by omega,by omega⟩) (by dsimp only;omega) K7 K9
set_option maxHeartbeats 4000000 in
theorem Zam(v:Value)(xs:List Int)(hv:Vp xs)(hf:¬Dn xs 8):Ml prog 33 #[v] [slp 2 wv v xs] (.tuple #[.agg #[.bool false,.string ⟨#[]⟩],.int .i64 7]):=by
 refine Ya func33 J ntmps33 J K1 ?_
 intro w0 sc hw hsc
 simp only [Zp,Zn]
 exact Yl (Nj 999 2 31 wv)<|Yl (Qz 999 J J pV)<|Zc<|Zg<|tt (Zo (i:=2) J J zeroValue31 J J hw) fun bx _=>as_ J<|Zf<|Za<|Zc<|Zl<|Zc<|Zg<|mv J<|tt (Zh (n:=2) (Xq _ _ ‹_›) J J J K1 Zdr (Zb 1 J J J Ze) J hw) fun _ _=>dt (Xp J J)<|as_ J<|Zf<|Za<|Ye J<|Zc<|Zg<|mv J<|tt (Zh (n:=2) (Zhf _ 8 xs hv) J J J K2 call50 (Zb 1 J J J Ze) J hw) fun _ _=>dt (Yc (r':= .bool true) (Ze6 J J) (congrArg Value.bool (decide_eq_true (fun h=>hf h))))<|as_ J<|Zf<|Za<|Ov J<|Zc<|Zg<|dt (Pz (ivs:=[]) J trivial (fun a w hs=>Zye))<|tt (Zm (i:=2) J J J J J (by decide) J Yj J J ⟨Zd J,Zd J,trivial⟩ J hw trivial) fun _ _=>as_ J<|Zf<|Za<|Zv<|Hf<|Xc<|Yn (.inl J) hsc () _ (fun a w hs=>Np hs results33 (Yr (i:=2) J J Qj Yj J) J) J trivial J Zk
set_option maxHeartbeats 4000000 in
theorem Zjd(v:Value)(r:List (Bool×ByteArray))(h:okP r=false):Ml prog 33 #[v] [slp 2 Zie v r] (.tuple #[.agg #[.bool false,.string ⟨#[]⟩],.int .i64 2]):=by
 refine Ya func33 J ntmps33 J K1 ?_
 intro w0 sc hw hsc
 simp only [Zp,Zn]
 exact Yl (Nj 999 2 31 wv)<|Yl (Qz 999 J J pV)<|Zc<|Zg<|tt (Zo (i:=2) J J zeroValue31 J J hw) fun bx _=>as_ J<|Zf<|Za<|Zc<|Zl<|Zc<|Zg<|mv J<|tt (Zh (n:=2) (Zf8 _ _) J J J K1 Zdr (Zb 1 J J J Ze) J hw) fun _ _=>dt (Yc (r':= .bool true) (Xp J J) (congrArg Value.bool (by rw [h];rfl)))<|as_ J<|Zf<|Za<|Ov J<|Zc<|Zg<|dt (Pz (ivs:=[]) J trivial (fun a w hs=>Zye))<|tt (Zm (i:=2) J J J J J (by decide) J Yj J J ⟨Zd J,Zd J,trivial⟩ J hw trivial) fun _ _=>as_ J<|Zf<|Za<|Zv<|Hf<|Xc<|Yn (.inl J) hsc () _ (fun a w hs=>Np hs results33 (Yr (i:=2) J J Qj Yj J) J) J trivial J Zk
variable {P:Program} {N:Nat} {sc:Nat→Prop} {env env':Env} {H H':Hp} {Q Q':Exit→Act→World→Prop}
def Zfi(l:List Int):Array Value:=(l.map (Value.int .i64)).toArray
theorem Ziz(l:List Int):(Zfi l).size=l.length:=by simp [Zfi]
theorem Zve{l:List Int}{j:Nat}(h:j<l.length):(Zfi l)[j]? = some (.int .i64 (l.getD j 0)):=by
 simp [Zfi,List.getElem?_eq_getElem h,List.getD_eq_getElem?_getD]
theorem Zvd{l:List Int}{j:Nat}{v:Int}(h:j<l.length):Ap (Zfi l) j [.int .i64 v]=Zfi (l.set j v):=by
 unfold Ap Zfi
 congr 1
 rw [List.set_eq_take_append_cons_drop,if_pos h,List.map_append,List.map_cons,List.map_take,List.map_drop]
 simp
theorem Ze7 {o:Oper} {x y:Operand} {t e:TypeId} {b off i k len:Nat} {kd:IntKind} {m:Int} (ho:o.op= .indexAddr t x y) (hx:ev env x=some (.pointer (some ⟨b,off,none⟩))) (hy:ev env y=some (.int kd m))
  (ht:P.underlying t=some (.array len e)) (hk:∀w,(sizeOf e).run P w= .ok k w) (him:m=(i:Int):=by omega) (hlt:i<len:=by omega):Det P N sc o env H (.pointer (some ⟨b,off+i*k,none⟩)):=fun a w hs=>by
 subst him
 simp [execOp,ho,hs.ev hx,hs.ev hy,Instr.indexAt,Instr.sureAddr,asIntOf,run_underlying ht,hk,hlt,Mf]
theorem d_lw{o:Oper}{x:Operand}{t tb:TypeId}{i b j:Nat}{l:List Int}(ho:o.op= .load t x)(hx:ev env x=some (.pointer (some ⟨b,j,none⟩)))(hH:lk H i=some (box b tb (Zfi l)))(ht:∀w,(isAgg t).run P w= .ok false w)(hj:j<l.length:=by omega) :
  Det P N sc o env H (.int .i64 (l.getD j 0)):=Ok ho hx hH ht (Zve hj)
theorem d_lwa{o:Oper}{x:Operand}{t tb:TypeId}{i b k:Nat}{l:List Int}(ho:o.op= .load t x)(hx:ev env x=some (.pointer (some ⟨b,0,none⟩)))(hH:lk H i=some (box b tb (Zfi l)))(ht:∀w,(isAgg t).run P w= .ok true w)(hk:∀w,(sizeOf t).run P w= .ok k w)(hl:l.length=k) :
  Det P N sc o env H (.agg (Zfi l)):=
 Zx5 (vs:=l.map (Value.int .i64)) ho hx hH ht hk (by simpa using hl) (fun n u hu=>by rw [Nat.zero_add];simpa [Zfi]using hu)
theorem Zqs {M:Nat→Prop} {o:Oper} {x y:Operand} {t tb:TypeId} {i b j:Nat} {l:List Int} {v:Int} {w0:World} {M0:Nat→Prop} (ho:o.op= .store t x y) (hd:o.dst=none)
  (hx:ev env x=some (.pointer (some ⟨b,j,none⟩))) (hy:ev env y=some (.int .i64 v)) (hH:lk H i=some (box b tb (Zfi l))) (hk:∀w,(sizeOf t).run P w= .ok 1 w) 
  (h0:lk H 0=some (Ip w0 M0)) (hw:∀b,w0.heap.size≤b→sc b) (hM:M b) (hi0:i≠0:=by decide) (hj:j<l.length:=by omega) :
  T P N sc M o env H (G:=Unit) (fun _=>True) (fun _=>env) (fun _=>(i,box b tb (Zfi (l.set j v))) :: H):=by
 rw [←Zvd hj]
 exact Zvk (vs:=[.int .i64 v]) ho hd hx hy hH hi0 rfl hk rfl (by rw [Ziz];exact hj) (fun u hu=>Zd (by rw [List.mem_singleton.1 hu];rfl)) rfl h0 hw hM
theorem t_stwa {M:Nat→Prop} {o:Oper} {x y:Operand} {t tb:TypeId} {i b k:Nat} {cs:Array Value} {l:List Int} {w0:World} {M0:Nat→Prop} (ho:o.op= .store t x y) (hd:o.dst=none)
  (hx:ev env x=some (.pointer (some ⟨b,0,none⟩))) (hy:ev env y=some (.agg (Zfi l))) (hH:lk H i=some (box b tb cs)) (hk:∀w,(sizeOf t).run P w= .ok k w) (hl:l.length=k) (hc:cs.size=k)
  (h0:lk H 0=some (Ip w0 M0)) (hw:∀b,w0.heap.size≤b→sc b) (hM:M b) (hi0:i≠0:=by decide) :
  T P N sc M o env H (G:=Unit) (fun _=>True) (fun _=>env) (fun _=>(i,box b tb (Zfi l)) :: H):=
 Zvk (vs:=l.map (Value.int .i64)) ho hd hx hy hH hi0 rfl hk (by simpa using hl) (by simp;omega) (fun u hu=>Zd (by obtain⟨z,_,rfl⟩:=List.mem_map.1 hu;rfl)) (by
  unfold Ap Zfi
  rw [List.take_zero,List.nil_append,Nat.zero_add,List.drop_eq_nil_of_le (by simp;omega),List.append_nil]) h0 hw hM
def chz:Nat→Nat→Nat
 | _,0=>1
 | 0,_+1=>0
 | n+1,k+1=>chz n k+chz n (k+1)
theorem Zuk:∀n k,chz n k≤2^n
 | 0,0=>by decide
 | _+1,0=>Nat.two_pow_pos _
 | 0,_+1=>Nat.zero_le _
 | n+1,k+1=>by
  have h1:=Zuk n k
  have h2:=Zuk n (k+1)
  show chz n k+chz n (k+1)≤2^(n+1)
  rw [Nat.pow_succ];omega
theorem Zul:∀n k,n<k→chz n k=0
 | _,0,h=>absurd h (Nat.not_lt_zero _)
 | 0,_+1,_=>rfl
 | n+1,k+1,h=>by
  show chz n k+chz n (k+1)=0
  rw [Zul n k (by omega),Zul n (k+1) (by omega)]
structure Tab (l:List Int) (n k:Nat):Prop where
 len:l.length=625
 eq:∀r c,r<25→c<25→l.getD (r*25+c) 0=if r<n∨(r=n∧c<k)then(chz r c:Int)else 0
theorem Ztd{l:List Int}{i j:Nat}{v:Int}(hi:i<l.length):(l.set i v).getD j 0=if j=i then v else l.getD j 0:=by
 rw [List.getD_eq_getElem?_getD,List.getD_eq_getElem?_getD,List.getElem?_set]
 by_cases h:i=j
 ·subst h;rw [if_pos rfl,if_pos hi,if_pos rfl];rfl
 ·rw [if_neg h,if_neg (fun e=>h e.symm)]
theorem Tab.start:Tab (List.replicate 625 0) 0 0:=⟨List.length_replicate,fun r c hr hc=>by
 rw [if_neg (by omega),List.getD_eq_getElem?_getD]
 rw [List.getElem?_replicate]
 split<;>rfl⟩
theorem Tab.step{l:List Int}{n k:Nat}{v:Int}(h:Tab l n k)(hn:n<25)(hk:k<25)(hv:v=(chz n k:Int)){j:Nat}(hj:j=n*25+k):Tab (l.set j v) n (k+1):=by
 subst hj
 have hl:=h.len
 refine⟨by rw [List.length_set];exact hl,fun r c hr hc=>?_⟩
 rw [Ztd (by omega),h.eq r c hr hc]
 by_cases e:r*25+c=n*25+k
 ·have e1:r=n:=by omega
  have e2:c=k:=by omega
  subst e1;subst e2
  rw [if_pos rfl,if_pos (by omega)];exact hv
 ·rw [if_neg e]
  have:¬(r=n∧c=k):=fun⟨e1,e2⟩=>e (by rw [e1,e2])
  by_cases g:r<n∨(r=n∧c<k)
  ·rw [if_pos g,if_pos (by omega)]
  ·rw [if_neg g,if_neg (by omega)]
theorem Tab.row{l:List Int}{n k:Nat}(h:Tab l n k)(hk:n<k):Tab l (n+1) 0:=⟨h.len,fun r c hr hc=>by
 rw [h.eq r c hr hc]
 by_cases g:r<n∨(r=n∧c<k)
 ·rw [if_pos g,if_pos (by omega)]
 ·rw [if_neg g]
  by_cases g2:r<n+1∨(r=n+1∧c<0)
  ·rw [if_pos g2,Zul r c (by omega)];rfl
  ·rw [if_neg g2]⟩
theorem Tab.get{l:List Int}{n k r c:Nat}(h:Tab l n k)(hr:r<25)(hc:c<25)(hlt:r<n∨(r=n∧c<k)){j:Nat}(hj:j=r*25+c):l.getD j 0=(chz r c:Int):=by
 rw [hj,h.eq r c hr hc,if_pos hlt]
theorem Zuj{n k:Nat}(hn:1≤n:=by omega)(hk:1≤k:=by omega):chz n k=chz (n-1) (k-1)+chz (n-1) k:=by
 obtain⟨m,rfl⟩:∃m,n=m+1:=⟨n-1,by omega⟩
 obtain⟨j,rfl⟩:∃j,k=j+1:=⟨k-1,by omega⟩
 rfl
theorem Zx7{n k:Nat}(h:n≤24:=by omega):chz n k≤16777216:=Nat.le_trans (Zuk n k) (Nat.le_trans (Nat.pow_le_pow_right (by decide) h) (by decide))
end Go.Sky
namespace Go.Sky
structure Ef (a:R2):Prop where
 p:0<a.2
 b1:bl a.1.natAbs≤512
 b2:bl a.2.natAbs≤512
theorem E32.ef{a:R2}(h:E32 a):Ef a:=⟨h.p,Nat.le_trans h.b1 (by decide),Nat.le_trans h.b2 (by decide)⟩
def plx(a b:R2):Int:=a.1*b.2
def ply(a b:R2):Int:=b.1*a.2
def pld(a b:R2):Int:=a.2*b.2
def plc(xs:List Int)(a b:R2):List Int:=Zer xs (plx a b) (ply a b-plx a b) (pld a b)
def Ziv(c:List Int)(d j:Nat)(i:Nat):Int:=Qn (fun i=>cf c i*(chz (d-i) (j-i):Int)) i
def Zau(xs:List Int)(a b:R2):Bool:=if xs.length=0 then true else(List.range xs.length).all fun j=>decide (0≤Ziv (plc xs a b) (xs.length-1) j (min (j+1) (plc xs a b).length))
theorem Zbk{x y:Int}{m n:Nat}(hx:bl x.natAbs≤m)(hy:bl y.natAbs≤n):bl (x*y).natAbs≤m+n:=by have:=Xs x y;omega
theorem pl_sz{xs:List Int}{a b:R2}(hd:Cvd xs)(ha:Ef a)(hb:Ef b) :
  bl (plx a b).natAbs≤1024∧bl (ply a b).natAbs≤1024∧bl (pld a b).natAbs≤1024∧bl (ply a b-plx a b).natAbs≤1025∧0<pld a b∧¬Zor xs (plx a b) (ply a b-plx a b) (pld a b)∧Sz 7000 (plc xs a b)∧(plc xs a b).length≤xs.length:=by
 have h1:bl (plx a b).natAbs≤1024:=Zbk ha.b1 hb.b2
 have h2:bl (ply a b).natAbs≤1024:=Zbk hb.b1 ha.b2
 have h3:bl (pld a b).natAbs≤1024:=Zbk ha.b2 hb.b2
 have h4:bl (ply a b-plx a b).natAbs≤1025:=by have:=Fp (ply a b) (plx a b);omega
 have hl:=hd.l
 have hm:=Ps hd.s
 have hmz:msz [plx a b,ply a b-plx a b,pld a b]≤1025:=Ps (Sz.of_mem fun y hy=>by
  rcases List.mem_cons.1 hy with rfl | hy
  ·omega
  ·rcases List.mem_cons.1 hy with rfl | hy
   ·omega
   ·rw [List.mem_singleton.1 hy];omega)
 have hk:(xs.length-1)*(msz [plx a b,ply a b-plx a b,pld a b]+1)≤6*1026:=Nat.mul_le_mul (by omega) (by omega)
 refine⟨h1,h2,h3,h4,Int.mul_pos ha.p hb.p,fun hF=>?_,?_,Zpy _ _ _ _⟩
 ·have:=hF.2;omega
 ·have hc:=Zg6 (x:=plx a b) (y:=ply a b-plx a b) (z:=pld a b) (m:=1025) hd.s (by omega) h4 (by omega) (xs.length-1)
  unfold plc Zer
  split
  ·exact Sz.nil _
  ·refine(Sz.tzl hc).mono ?_
   have:(xs.length-1)*(1025+1)≤6*1026:=Nat.mul_le_mul (by omega) (by omega)
   omega
theorem Zjn(c:List Int)(d j i:Nat):Ziv c d j (i+1)=Ziv c d j i+cf c i*(chz (d-i) (j-i):Int):=rfl
theorem chz_bl{n k:Nat}(h:n≤24):bl ((chz n k:Nat):Int).natAbs≤25:=by
 rw [Int.natAbs_natCast];exact(Me 25 _).2 (Nat.lt_of_le_of_lt (Zx7 h) (by decide))
theorem Zhu{c:List Int}{d j:Nat}(hc:Sz 7000 c)(hd:d≤24):∀i,bl (Ziv c d j i).natAbs≤7025+i
 | 0=>by show bl (0:Int).natAbs≤7025;simp [Le]
 | i+1=>by
  have h1:=Zhu hc hd (j:=j) i
  have h2:bl (cf c i*(chz (d-i) (j-i):Int)).natAbs≤7000+25:=Zbk (hc i) (chz_bl (by omega))
  rw [Zjn]
  have:=Kf (Ziv c d j i) (cf c i*(chz (d-i) (j-i):Int))
  omega
theorem Zr7{xs:List Int}{a b:R2}(h:xs.length=0):Zau xs a b=true:=by unfold Zau;rw [if_pos h]
theorem plain_t{xs:List Int}{a b:R2}(h:xs.length≠0)(hz:∀k,k<xs.length→0≤Ziv (plc xs a b) (xs.length-1) k (min (k+1) (plc xs a b).length)):Zau xs a b=true:=by
 unfold Zau;rw [if_neg h,List.all_eq_true]
 intro j hj
 exact decide_eq_true (hz j (List.mem_range.1 hj))
theorem Zr8{xs:List Int}{a b:R2}{k:Nat}(h:xs.length≠0)(hk:k<xs.length)(hz:Ziv (plc xs a b) (xs.length-1) k (min (k+1) (plc xs a b).length)<0):Zau xs a b=false:=by
 unfold Zau;rw [if_neg h,Bool.eq_false_iff]
 intro hA
 have:=of_decide_eq_true (List.all_eq_true.1 hA k (List.mem_range.2 hk))
 omega
abbrev PTs:=Int×R2×R2
abbrev P0:PTs:=(0,(0,0),(0,0))
abbrev Zif (z:PTs):Value:= .agg #[.int .i64 z.1,.bool (decide (z.2.1.1<0)),.string (Qq z.2.1.1.natAbs),.bool (decide (z.2.1.2<0)),.string (Qq z.2.1.2.natAbs),.bool (decide (z.2.2.1<0)),.string (Qq z.2.2.1.natAbs),.bool (decide (z.2.2.2<0)),.string (Qq z.2.2.2.natAbs)]
def shw(xs:List Int)(z:PTs):Bool:=if z.1=1 then Zau xs z.2.1 z.2.2 else if xs.length=0∨cmp z.2.1 z.2.2=0 then decide (0≤vlu (Pw xs) z.2.1)else decide (0<aft (Pw xs) z.2.1) && !crb (chx xs) z.2.1 z.2.2
def Zsb(xs:List Int)(l:R2)(z:PTs):Bool:=decide (cmp l z.2.1=0) && decide (¬0<cmp z.2.1 z.2.2) && shw xs z
def lst(a:R2)(ps:List PTs)(i:Nat):R2:=if i=0 then a else(ps.getD (i-1) P0).2.2
def Zvb(xs:List Int)(ps:List PTs)(a b:R2):Bool:=decide (0<ps.length) && (List.range ps.length).all (fun k=>Zsb xs (lst a ps k) (ps.getD k P0)) && decide (cmp (lst a ps ps.length) b=0)
def ValP(ps:List PTs):Prop:=∀z∈ps,(z.1=1∨z.1=2)∧Ef z.2.1∧Ef z.2.2
theorem chk_all{xs:List Int}{ps:List PTs}{a b:R2}{i:Nat}(hi:i=ps.length)(h:∀k,k<i→Zsb xs (lst a ps k) (ps.getD k P0)=true):Zvb xs ps a b=(decide (0<ps.length) && decide (cmp (lst a ps i) b=0)):=by
 subst hi
 unfold Zvb
 rw [List.all_eq_true.2 (fun k hk=>h k (List.mem_range.1 hk)),Bool.and_true]
theorem Dm{xs:List Int}{ps:List PTs}{a b:R2}{k:Nat}(hk:k<ps.length)(h:Zsb xs (lst a ps k) (ps.getD k P0)=false)(c:Bool):Zvb xs ps a b=(false && c):=by
 unfold Zvb
 have:(List.range ps.length).all (fun k=>Zsb xs (lst a ps k) (ps.getD k P0))=false:=by
  rw [Bool.eq_false_iff]
  intro hA
  have:=List.all_eq_true.1 hA k (List.mem_range.2 hk)
  rw [h]at this;exact absurd this (by decide)
 rw [this];simp
theorem okp_c{xs:List Int}{l:R2}{z:PTs}(h:¬cmp l z.2.1=0):Zsb xs l z=false:=by unfold Zsb;rw [decide_eq_false h];rfl
theorem okp_o{xs:List Int}{l:R2}{z:PTs}(h:0<cmp z.2.1 z.2.2):Zsb xs l z=false:=by unfold Zsb;rw [decide_eq_false (show ¬¬0<cmp z.2.1 z.2.2 from fun e=>e h),Bool.and_false];rfl
theorem Zhz{xs:List Int}{l:R2}{z:PTs}(h1:cmp l z.2.1=0)(h2:¬0<cmp z.2.1 z.2.2):Zsb xs l z=shw xs z:=by unfold Zsb;rw [decide_eq_true h1,decide_eq_true h2];rfl
theorem Zhd{xs:List Int}{z:PTs}(h:z.1=1):shw xs z=Zau xs z.2.1 z.2.2:=if_pos h
theorem Zhb{xs:List Int}{z:PTs}(h:¬z.1=1)(h2:xs.length=0∨cmp z.2.1 z.2.2=0):shw xs z=decide (0≤vlu (Pw xs) z.2.1):=by unfold shw;rw [if_neg h,if_pos h2]
theorem Zhc{xs:List Int}{z:PTs}(h:¬z.1=1)(h2:¬xs.length=0)(h3:¬cmp z.2.1 z.2.2=0):shw xs z=(decide (0<aft (Pw xs) z.2.1) && !crb (chx xs) z.2.1 z.2.2):=by
 unfold shw;rw [if_neg h,if_neg (fun e=>by rcases e with e | e;exact h2 e;exact h3 e)]
theorem Ef.efit{a:R2}(h:Ef a):Go.Sky.efit a=true:=by
 have:=h.b1
 have:=h.b2
 unfold Go.Sky.efit;exact decide_eq_true (by omega)
theorem lst_ef{a:R2}{ps:List PTs}(ha:Ef a)(hp:ValP ps){i:Nat}(hi:i≤ps.length):Ef (lst a ps i):=by
 unfold lst
 split
 ·exact ha
 ·exact(hp _ (Yv)).2.2
theorem Hn{b:Bool}(h:(!b)=true):b=false:=by cases b<;>simp_all
theorem Ep{b:Bool}(h:(!b)=false):b=true:=by cases b<;>simp_all
theorem Zbm{p:Prop}[Decidable p]{b c:Bool}(h:p)(e:b=c):(decide p && b)=c:=by rw [decide_eq_true h,Bool.true_and,e]
theorem Zkq{p:Prop}[Decidable p]{b:Bool}(h:¬p):(decide p && b)=false:=by rw [decide_eq_false h,Bool.false_and]
open Go.Proofs
set_option maxRecDepth 100000
theorem zc_eq:(Value.agg Tryz.zeroCells173).cells=Zfi (List.replicate 625 0):=by kernel_rfl
theorem Zqd:(Value.agg Tryz.zeroCells173).cells.size=625:=by rw [zc_eq,Ziz,List.length_replicate]
theorem pP9:Enc Tryz.prog 79 9 Zif:=Enc.agg (by decide) Tryz.sizeOf79 Tryz.isAgg79 (fun x=>⟨[.int .i64 x.1,.bool (decide (x.2.1.1<0)),.string (Qq x.2.1.1.natAbs),.bool (decide (x.2.1.2<0)),.string (Qq x.2.1.2.natAbs),.bool (decide (x.2.2.1<0)),.string (Qq x.2.2.1.natAbs),.bool (decide (x.2.2.2<0)),.string (Qq x.2.2.2.natAbs)],rfl,rfl,by simp [Value.oneCell']⟩)
open Go.Proofs.Tryz
set_option maxRecDepth 20000
set_option maxHeartbeats 4000000
set_option linter.unusedSimpArgs false
set_option maxHeartbeats 4000000 in
theorem Zph:Cal prog 142 #[] [] false (G:=List Int) (fun r=>Tab r 25 0) (fun r=> .agg (Zfi r)) (fun r=>[]):=by
 refine Ya func142 J ntmps142 J trivial ?_
 intro w0 sc hw hsc
 simp only [Zp,Zn]
 refine Zc<|Zg<|tt (Zo (i:=1) J J zeroValue173 J J hw) fun bx _=>Zf<|Za<|Zc<|Zg<|tt (Zo (i:=2) J J zeroValue173 J J hw) fun bx_2 _=>Zf<|Za<|Zc<|Zc<|Zg<|mv J<|Zf<|Za<|Zl<|Yl (Gp 2 (q:=box bx_2 173 (Zfi (List.replicate 625 0))) (congrArg (box bx_2 173) zc_eq) J J)<|Nt [(0,_),(1,_)] [(0,_),(1,_)] (fun(q:Nat×List Int)=>[(4,.int .i64 (q.1:Int))]) (fun(q:Nat×List Int)=>[(2,box bx_2 173 (Zfi q.2))]) (fun(q:Nat×List Int)=>(q.1≤25)∧(Tab q.2 q.1 0)) (fun(q:Nat×List Int)=>25-q.1) (0,List.replicate 625 0) ⟨by first | omega | (dsimp only<;>omega),Tab.start⟩ K3 K3 ?_
 rintro⟨n,l⟩ ⟨hn,hT⟩
 dsimp only at hn hT
 simp only [CA,NA]
 have hl:=hT.len
 refine Zc<|Zg<|dt (Xu J J J)<|Zf<|Za<|Zc<|Zq J (fun h367=>?_) (fun h367=>?_)
 ·refine Zj<|Za<|Zc<|Zl<|Zc<|Zg<|mv J<|as_ J<|Zf<|Za<|Zc<|Zg<|mv J<|dt (Ze7 (i:=n) J J J underlying173 sizeOf172)<|dt (Ze7 (i:=0) J J J Zpb zT3 J)<|tt (Zqs (i:=2) J J J J J zT3 J hw trivial) fun _ _=>Zf<|Za<|Zc<|Zg<|as_ J<|Zf<|Za<|Zl<|Nt [(0,_),(1,_),(2,_),(4,_)] [(0,_),(1,_)] (fun(q:Nat×List Int)=>[(3,.int .i64 (q.1:Int))]) (fun(q:Nat×List Int)=>[(2,box bx_2 173 (Zfi q.2))]) (fun(q:Nat×List Int)=>(1≤q.1)∧(q.1≤n+1)∧(Tab q.2 n q.1)) (fun(q:Nat×List Int)=>n+1-q.1) (1,l.set (0+n*25+0*1) 1) ⟨by first | omega | (dsimp only<;>omega),by first | omega | (dsimp only<;>omega),hT.step (by omega) (by omega) (by cases n<;>rfl) (by omega)⟩ K5 K3 ?_
  rintro⟨k,l2⟩ ⟨hk1,hk2,hT2⟩
  dsimp only at hk1 hk2 hT2
  simp only [CA,NA]
  have hl2:=hT2.len
  refine Zc<|Zc<|Zg<|mv J<|mv J<|dt (Co J J J)<|Zf<|Za<|Zq J (fun h369=>?_) (fun h369=>?_)
  ·refine Zj<|Za<|Zc<|Zl ?_
   have hv1:=hT2.get (j:=0+(n-1)*25+(k-1)*1) (r:=n-1) (c:=k-1) (by omega) (by omega) (.inl (by omega)) (by omega)
   have hv2:=hT2.get (j:=0+(n-1)*25+k*1) (r:=n-1) (c:=k) (by omega) (by omega) (.inl (by omega)) (by omega)
   have hb1:=Zx7 (n:=n-1) (k:=k-1) 
   have hb2:=Zx7 (n:=n-1) (k:=k) 
   refine Oo [] []<|Zy (n:=5) [(0,0),(1,0),(2,0),(3,0),(4,0),(5,0),(6,0),(7,0),(9,0),(10,0),(11,0),(12,0),(13,0),(16,0)]<|r0' J J (stf (Ym J J) trivial)<|r0' J J (stf (Ym J J) trivial)<|r0' J J (stf (Ym J J) trivial)<|r0' J J (stf (Qa J J J ⟨by omega,by omega⟩) trivial)<|r0' J J (stf (Ym J J) trivial)<|r0' J J (stf (Qa J J J ⟨by omega,by omega⟩) trivial)<|r0' J J (stf (Ze7 (i:=(n-1)) J J J underlying173 sizeOf172) trivial)<|r0' J J (stf (Ze7 (i:=(k-1)) J J J Zpb zT3) trivial)<|r0' J J (stf (Ym J J) trivial)<|r0' J J (stf (Qa J J J ⟨by omega,by omega⟩) trivial)<|r0' J J (stf (Ym J J) trivial)<|r0' J J (stf (Ze7 (i:=(n-1)) J J J underlying173 sizeOf172) trivial)<|r0' J J (stf (Ze7 (i:=k) J J J Zpb zT3) trivial)<|r0' J J (stf (Ze7 (i:=n) J J J underlying173 sizeOf172) trivial)<|Yo<|Pu (n:=4) 8 14 ?_ ?_
   ·exact Yp J (Px (d_lw (i:=2) J J J isAgg3) J) fun _ _=>Zy (n:=0) [(14,1),(15,0),(17,0),(18,1)]<|r1' J (Px (d_lw (i:=2) J J J isAgg3) J) fun _ _=>r0' J J (stf (Ys J J J (by rw [hv1,hv2];exact⟨by omega,by omega⟩)) trivial)<|r0' J J (stf (Ze7 (i:=k) J J J Zpb zT3) trivial)<|r1' J (Zqs (i:=2) J J J J J zT3 J hw (fun _ h=>nomatch h)) fun _ _=>Yo<|Yg<|Oa<|Za<|Zg<|mv J<|dt (Ys J J J ⟨by omega,by omega⟩)<|as_ J<|Zf<|Xk (k+1,_) ⟨by first | omega | (dsimp only<;>omega),by first | omega | (dsimp only<;>omega),hT2.step (by omega) (by omega) (by rw [hv1,hv2,Zuj (n:=n) (k:=k)];push_cast;rfl) (by omega)⟩ (by first | omega | (dsimp only<;>omega)) K5 K3
   ·exact Yp J (Px (d_lw (i:=2) J J J isAgg3) J) fun _ _=>Zy (n:=0) [(8,1),(15,0),(17,0),(18,1)]<|r1' J (Px (d_lw (i:=2) J J J isAgg3) J) fun _ _=>r0' J J (stf (Ys J J J (by rw [hv1,hv2];exact⟨by omega,by omega⟩)) trivial)<|r0' J J (stf (Ze7 (i:=k) J J J Zpb zT3) trivial)<|r1' J (Zqs (i:=2) J J J J J zT3 J hw (fun _ h=>nomatch h)) fun _ _=>Yo<|Yg<|Oa<|Za<|Zg<|mv J<|dt (Ys J J J ⟨by omega,by omega⟩)<|as_ J<|Zf<|Xk (k+1,_) ⟨by first | omega | (dsimp only<;>omega),by first | omega | (dsimp only<;>omega),hT2.step (by omega) (by omega) (by rw [hv1,hv2,Zuj (n:=n) (k:=k)];push_cast;rfl) (by omega)⟩ (by first | omega | (dsimp only<;>omega)) K5 K3
  ·exact Yu<|Zu<|Zu<|Ox<|Oa<|Za<|Zg<|dt (Ys J J J ⟨by omega,by omega⟩)<|mv J<|Zf<|Xk (n+1,l2) ⟨by first | omega | (dsimp only<;>omega),hT2.row (by omega)⟩ (by first | omega | (dsimp only<;>omega)) K3 K3
 ·obtain rfl:n=25:=by omega
  let r0:=l
  exact Yu<|Zu<|Zu<|Ox<|Za<|Zc<|Zg<|dt (d_lwa (i:=2) J J J isAgg173 sizeOf173 hl)<|tt (t_stwa (i:=1) J J J J J sizeOf173 hl Zqd J hw trivial) fun _ _=>Zf<|Za<|Zv<|Yn (.inl J) hsc l _ (fun a w hs=>Nn hs results142 (Yr (i:=1) (vs:=r0.map (Value.int .i64)) J J isAgg173 sizeOf173 (by simpa using hl))) J hT J Zk
set_option maxHeartbeats 4000000 in
theorem Zv7(v:Value)(xs:List Int)(a b:R2)(hd:Cvd xs)(ha:Ef a)(hb:Ef b):Ml prog 93 #[v,rX a.1 a.2,rX b.1 b.2] [slp 2 wv v xs] (.tuple #[.bool (Zau xs a b),.int .i64 0]):=by
 refine Ya func93 J ntmps93 J K1 ?_
 intro w0 sc hw hsc
 simp only [Zp,Zn]
 have hv:=hd.v
 have ha1:=ha.b1
 have ha2:=ha.b2
 have hb1:=hb.b1
 have hb2:=hb.b2
 obtain⟨p1,p2,p3,p4,p5,p6,p7,p8⟩:=pl_sz hd ha hb
 have hlx:=hd.l
 refine Yl (Nj 999 2 31 wv)<|Yl (Qz 999 J J pV)<|Zc<|Zg<|tt (Xe (i:=2) J J J J J hw) fun bx _=>tt (Xe (i:=3) J J J J J hw) fun bx_2 _=>as_ J<|as_ J<|Zf<|Za<|Zc<|Zc<|Zg<|mv J<|dt (Yb J J (i:=1) J Zi Qp)<|dt (Pm J J J)<|Zf<|Za<|Zq J (fun h378=>?_) (fun h378=>?_)
 ·exact Zc<|Zg<|as_ J<|as_ J<|Zf<|Za<|Zv<|Xc<|Yn (.inl J) hsc () _ (fun a w hs=>Np hs results93 J J) (by rw [Zr7 (by omega)]) trivial J Zk
 ·have h0:xs.length≠0:=by omega
  refine Zj<|Za<|Zc<|Zg<|dt (Xx J J Zac J Yj J J)<|dt (Zz (i:=2) J J J Qj Yj J J)<|dt (Xx J J Zac J Yj J J)<|dt (Zz (i:=3) J J J Qj Yj J J)<|tt (Zh (n:=3) (Et a.1 b.2) J J J K2 call139 Ze J hw) fun _ _=>mv J<|dt (Yf J J J)<|dt (Yf J J J)<|tt (Zo (i:=4) J J zeroValue31 J J hw) fun bx_3 _=>tt (Zm (i:=4) J J J J J (by decide) J Yj J J ⟨Zd J,Zd J,trivial⟩ J hw trivial) fun _ _=>Pr (Gp 4 (q:=box bx_3 31 (wc (plx a b))) (congrArg (fun z=>box bx_3 31 (wc z)) (Oz (show bl (plx a b).natAbs≤65536 by omega))) J J)<|as_ J<|Zf<|Za<|Zc<|Zg<|dt (Xx J J Zac J Yj J J)<|dt (Zz (i:=3) J J J Qj Yj J J)<|dt (Xx J J Zac J Yj J J)<|dt (Zz (i:=2) J J J Qj Yj J J)<|tt (Zh (n:=4) (Et b.1 a.2) J J J K2 call139 Ze J hw) fun _ _=>mv J<|dt (Yf J J J)<|dt (Yf J J J)<|tt (Zo (i:=5) J J zeroValue31 J J hw) fun bx_4 _=>tt (Zm (i:=5) J J J J J (by decide) J Yj J J ⟨Zd J,Zd J,trivial⟩ J hw trivial) fun _ _=>Pr (Gp 5 (q:=box bx_4 31 (wc (ply a b))) (congrArg (fun z=>box bx_4 31 (wc z)) (Oz (show bl (ply a b).natAbs≤65536 by omega))) J J)<|as_ J<|Zf<|Za<|Zc<|Zg<|dt (Xx J J Zac J Yj J J) ?_
  refine dt (Zz (i:=2) J J J Qj Yj J J)<|dt (Xx J J Zac J Yj J J)<|dt (Zz (i:=3) J J J Qj Yj J J)<|tt (Zh (n:=5) (Et a.2 b.2) J J J K2 call139 Ze J hw) fun _ _=>mv J<|dt (Yf J J J)<|dt (Yf J J J)<|tt (Zo (i:=6) J J zeroValue31 J J hw) fun bx_5 _=>tt (Zm (i:=6) J J J J J (by decide) J Yj J J ⟨Zd J,Zd J,trivial⟩ J hw trivial) fun _ _=>Pr (Gp 6 (q:=box bx_5 31 (wc (pld a b))) (congrArg (fun z=>box bx_5 31 (wc z)) (Oz (show bl (pld a b).natAbs≤65536 by omega))) J J)<|as_ J<|Zf<|Za<|Zc<|Zg<|dt (Zz (i:=5) J J J Qj Yj J J)<|dt (Zz (i:=4) J J J Qj Yj J J)<|tt (Zh (n:=6) (Zms (ply a b) (plx a b) (by omega) (by omega)) J J J K2 call140 Ze J hw) fun _ _=>mv J<|dt (Yf J J J)<|dt (Yf J J J)<|tt (Zo (i:=7) J J zeroValue31 J J hw) fun bx_6 _=>tt (Zm (i:=7) J J J J J (by decide) J Yj J J ⟨Zd J,Zd J,trivial⟩ J hw trivial) fun _ _=>Pr (Gp 7 (q:=box bx_6 31 (wc (ply a b-plx a b))) (congrArg (fun z=>box bx_6 31 (wc z)) (Oz (by omega))) J J)<|as_ J<|Zf<|Za<|Zc<|Zc<|Zg<|mv J<|dt (Yc (r':= .bool false) (Qb J J J) (congrArg Value.bool (decide_eq_false (fun h=>h (Dh (show bl (plx a b).natAbs≤65536 by omega))))))<|mv J ?_
  refine gdt (Ym J J) J J<|gdt (Yc (r':= .bool false) (Qb J J J) (congrArg Value.bool (decide_eq_false (fun h=>h (Dh (show bl (ply a b).natAbs≤65536 by omega)))))) J J<|dt (Yh J J J)<|mv J<|gdt (Ym J J) J J<|gdt (Yc (r':= .bool false) (Qb J J J) (congrArg Value.bool (decide_eq_false (fun h=>h (Dh (show bl (pld a b).natAbs≤65536 by omega)))))) J J<|dt (Yh J J J)<|mv J<|gdt (Ym J J) J J<|gdt (Yc (r':= .bool false) (Qb J J J) (congrArg Value.bool (decide_eq_false (fun h=>h (Dh (show bl (ply a b-plx a b).natAbs≤65536 by omega)))))) J J<|dt (Yh J J J)<|Zf<|Za<|Ye J<|Zj<|Za<|Zc<|Zg<|mv J<|dt (Zz (i:=4) J J J Qj Yj J J)<|dt (Zz (i:=7) J J J Qj Yj J J)<|dt (Zz (i:=6) J J J Qj Yj J J)<|tt (Zh (n:=8) (Zjr _ xs (plx a b) (ply a b-plx a b) (pld a b) hv (by omega) (by omega) (by omega) p5 p6) J J J K4 call141 (Zb 1 J J J Ze) J hw) fun _ _=>Pr (Gp 8 (q:=slp 2 wv _ (plc xs a b)) J J J)<|mv J<|dt (Yf J J J)<|dt (Yf J J J)<|as_ J<|as_ J<|Zf<|Za<|Zc<|Zc<|Zg<|mv J<|dt (Yc (r':= .bool false) (Qb J J J) (congrArg Value.bool (by decide)))<|Zf<|Za<|Ye J<|Zj<|Za<|Zc<|Zg<|mv J<|dt (Yb J J (i:=1) J Zi Qp) ?_
  refine dt (Qa J J J ⟨by omega,by omega⟩)<|tt (Zh (n:=8) (Zph) J J J trivial call142 Ze J hw) fun g hg=>tt (Zo (i:=9) J J zeroValue173 J J hw) fun bx_7 _=>as_ J<|tt (t_stwa (i:=9) J J J J J sizeOf173 hg.len Zqd J hw trivial) fun _ _=>Zf<|Za<|Zc<|Zc<|Zg<|mv J<|dt (Ys J J J ⟨by omega,by omega⟩)<|mv J<|Zf<|Za<|Zl<|Nt [(16,_),(17,_),(18,_),(87,_)] [(0,_),(1,_),(999,_),(2,_),(3,_),(4,_),(5,_),(6,_),(7,_),(8,_),(9,_)] (fun(j:Nat)=>[(88,.int .i64 (j:Int))]) (fun(j:Nat)=>[]) (fun(j:Nat)=>(j≤xs.length)∧(∀k,k<j→0≤Ziv (plc xs a b) (xs.length-1) k (min (k+1) (plc xs a b).length))) (fun(j:Nat)=>xs.length-j) 0 ⟨by first | omega | (dsimp only<;>omega),fun k hk=>absurd hk (Nat.not_lt_zero k)⟩ K5 K11 ?_
  rintro j ⟨hj,hz⟩
  simp only [CA,NA]
  refine Zc<|Zg<|dt (Xu J J J)<|Zf<|Za<|Zc<|Zq J (fun h393=>?_) (fun h393=>?_)
  ·refine Zj<|Za<|Zc<|Zl<|Zc<|Zg<|mv J<|as_ J<|Zf<|Za<|Zc<|Zg<|tt (Zo (i:=10) J J zeroValue31 J J hw) fun bx_8 _=>Zf<|Za<|Zc<|Zc<|Zg<|as_ J<|Zf<|Za<|Zl<|Nt [(16,_),(17,_),(18,_),(19,_),(20,_),(87,_),(88,_)] [(0,_),(1,_),(999,_),(2,_),(3,_),(4,_),(5,_),(6,_),(7,_),(8,_),(9,_)] (fun(i:Nat)=>[(21,.int .i64 (i:Int))]) (fun(i:Nat)=>[(10,box bx_8 31 (wc (Ziv (plc xs a b) (xs.length-1) j i)))]) (fun(i:Nat)=>(i≤j+1)∧(i≤(plc xs a b).length)) (fun(i:Nat)=>j+1-i) 0 ⟨by first | omega | (dsimp only<;>omega),by first | omega | (dsimp only<;>omega)⟩ K8 K12 ?_
   rintro i ⟨hi1,hi2⟩
   simp only [CA,NA]
   have hch:=Zx7 (n:=xs.length-1-i) (k:=j-i) 
   have hcb:=chz_bl (n:=xs.length-1-i) (k:=j-i) (by omega)
   have htb:bl (cf (plc xs a b) i*(chz (xs.length-1-i) (j-i):Int)).natAbs≤7025:=Zbk (p7 i) hcb
   have hsb:=Zhu (d:=xs.length-1) (j:=j) p7 (by omega) i
   have hsb2:=Kf (Ziv (plc xs a b) (xs.length-1) j i) (cf (plc xs a b) i*(chz (xs.length-1-i) (j-i):Int))
   refine Zc<|Zc<|Zg<|mv J<|mv J<|dt (Co J J J)<|mv J<|Qu (d:=94) J (fun s395=>?_) (fun s395=>?_)
   ·refine gdt (Ym J J) J J<|gdt (Ym J J) J J<|gdt (Yb J J (i:=8) J Zi Qp) J J<|gdt (Xu J J J) J J<|dt (Xh J J J)<|Zf<|Za<|Zq J (fun h395=>?_) (fun h395=>?_)
    ·refine Zj<|Za<|Zc<|Zl<|Dj [(16,_),(17,_),(18,_),(19,_),(20,_),(21,_),(87,_),(88,_),(95,_),(96,_),(97,_),(98,_)] [(0,_),(10,_),(1,_),(999,_),(2,_),(3,_),(4,_),(5,_),(6,_),(7,_),(8,_),(9,_)] (fun(b7:Nat)=>[(22,.pointer (some ⟨b7,0,none⟩)),(23,.int .i64 (Zp0 (cf (plc xs a b) i*(chz (xs.length-1-i) (j-i):Int))))]) (fun(b7:Nat)=>[(97,box b7 31 (wc (cf (plc xs a b) i*(chz (xs.length-1-i) (j-i):Int))))]) (fun(b7:Nat)=>True) K12 K12 ?_ ?_
     ·refine Oo [8,9] [20]<|Zy (n:=8) [(0,0),(1,0),(2,0),(3,0),(4,0),(5,0),(6,0),(7,0),(8,0),(9,0),(10,0),(11,0),(12,0)]<|r0' J J (stf (Ym J J) K2)<|r0' J J (stf (Ym J J) K2)<|r0' J J (stf (Yw (ii:=8) J J J J Zi Qp Yj J (by first | omega | (simp only [List.length_set];omega))) K2)<|r0' J J (stf (Xm (ii:=8) 0 J J J Zi pV (by first | omega | (simp only [List.length_set];omega))) K2)<|r0' J J (stf (Ym J J) K2)<|r0' J J (stf (Ym J J) K2)<|r0' J J (stf (Qa J J J ⟨by omega,by omega⟩) K2)<|r0' J J (stf (Ym J J) K2)<|r0' J J (stf (Ym J J) K2)<|r0' J J (stf (Qa J J J ⟨by omega,by omega⟩) K2)<|r0' J J (stf (Ze7 (i:=(xs.length-1-i)) J J J underlying173 sizeOf172) K2)<|r0' J J (stf (Ze7 (i:=(j-i)) J J J Zpb zT3) K2)<|r0' J J (stf (Yc (r':= .int .i64 ((chz (xs.length-1-i) (j-i):Nat):Int)) (d_lw (i:=9) J J J isAgg3 (by have:=hg.len;omega)) (congrArg (Value.int .i64) (hg.get (j:=0+(xs.length-1-i)*25+(j-i)*1) (by omega) (by omega) (.inl (by omega)) (by omega)))) K2)<|Yo<|Pu (n:=7) 13 18 ?_ ?_
      ·refine Yp J (Zh (n:=10) (Xd ((chz (xs.length-1-i) (j-i):Nat):Int) ⟨by omega,by omega⟩) J J J K1 Bj Ze J hw) fun _ _=>Pu (n:=6) 14 18 ?_ ?_
       ·exact Yp J (Zh (n:=10) (Et (cf (plc xs a b) i) ((chz (xs.length-1-i) (j-i):Nat):Int) (Nat.le_trans (p7 i) (by omega))) J J J K2 call139 Ze J hw) fun _ _=>Zy (n:=0) [(15,0),(16,0),(17,0),(18,1),(19,1),(20,3)]<|r0' J J (stf (Ym J J) K2)<|r0' J J (stf (Yf J J J) K2)<|r0' J J (stf (Yf J J J) K2)<|r1' J (Zw (i:=97) J J zeroValue31 J J hw K2) fun bx_9 ho=>r1' J (Zm (i:=97) J J J J J (by decide) J Yj J J ⟨Zd J,Zd J,trivial⟩ J hw ho) fun _ _=>r3' J (Px (Lq J J) J) fun _ _=>Yo<|Yg<|Qy _ trivial K14 ⟨(congrArg (fun z=>some (box _ 31 (wc z))) (Oz (show bl (cf (plc xs a b) i*(chz (xs.length-1-i) (j-i):Int)).natAbs≤65536 by omega))),J,J,J,J,J,J,J,J,J,J,J,J,trivial⟩
       ·exact Yp J (Zw (i:=97) J J zeroValue31 J J hw K2) fun bx_10 ho2=>Zy (n:=0) [(14,1),(15,0),(16,0),(17,0),(19,1),(20,3)]<|r1' J (Zh (n:=10) (Et (cf (plc xs a b) i) ((chz (xs.length-1-i) (j-i):Nat):Int) (Nat.le_trans (p7 i) (by omega))) J J J K2 call139 Ze J hw) fun _ _=>r0' J J (stf (Ym J J) K2)<|r0' J J (stf (Yf J J J) K2)<|r0' J J (stf (Yf J J J) K2)<|r1' J (Zm (i:=97) J J J J J (by decide) J Yj J J ⟨Zd J,Zd J,trivial⟩ J hw ho2) fun _ _=>r3' J (Px (Lq J J) J) fun _ _=>Yo<|Yg<|Qy _ trivial K14 ⟨(congrArg (fun z=>some (box _ 31 (wc z))) (Oz (show bl (cf (plc xs a b) i*(chz (xs.length-1-i) (j-i):Int)).natAbs≤65536 by omega))),J,J,J,J,J,J,J,J,J,J,J,J,trivial⟩
      ·exact Yp J (Zw (i:=97) J J zeroValue31 J J hw K2) fun bx_11 ho3=>Zy (n:=0) [(13,1),(14,1),(15,0),(16,0),(17,0),(19,1),(20,3)]<|r1' J (Zh (n:=10) (Xd ((chz (xs.length-1-i) (j-i):Nat):Int) ⟨by omega,by omega⟩) J J J K1 Bj Ze J hw) fun _ _=>r1' J (Zh (n:=10) (Et (cf (plc xs a b) i) ((chz (xs.length-1-i) (j-i):Nat):Int) (Nat.le_trans (p7 i) (by omega))) J J J K2 call139 Ze J hw) fun _ _=>r0' J J (stf (Ym J J) K2)<|r0' J J (stf (Yf J J J) K2)<|r0' J J (stf (Yf J J J) K2)<|r1' J (Zm (i:=97) J J J J J (by decide) J Yj J J ⟨Zd J,Zd J,trivial⟩ J hw ho3) fun _ _=>r3' J (Px (Lq J J) J) fun _ _=>Yo<|Yg<|Qy _ trivial K14 ⟨(congrArg (fun z=>some (box _ 31 (wc z))) (Oz (show bl (cf (plc xs a b) i*(chz (xs.length-1-i) (j-i):Int)).natAbs≤65536 by omega))),J,J,J,J,J,J,J,J,J,J,J,J,trivial⟩
     ·rintro b7 -
      simp only [CA,NA]
      refine Zc<|Zc<|Zg<|mv J<|dt (Yc (r':= .bool false) (Qb J J J) (congrArg Value.bool (decide_eq_false (fun h=>h (Dh (show bl (cf (plc xs a b) i*(chz (xs.length-1-i) (j-i):Int)).natAbs≤65536 by omega))))))<|Zf<|Za<|Ye J<|Zj<|Za<|Zc<|Zg<|dt (Zz (i:=10) J J J Qj Yj J J)<|dt (Zz (i:=97) J J J Qj Yj J J)<|tt (Zh (n:=10) (Gs (Ziv (plc xs a b) (xs.length-1) j i) (cf (plc xs a b) i*(chz (xs.length-1-i) (j-i):Int))) J J J K2 call82 Ze J hw) fun _ _=>mv J<|dt (Yf J J J)<|dt (Yf J J J)<|tt (Zm (i:=10) J J J J J (by decide) J Yj J J ⟨Zd J,Zd J,trivial⟩ J hw trivial) fun _ _=>Pr (Gp 10 (q:=box bx_8 31 (wc (Ziv (plc xs a b) (xs.length-1) j (i+1)))) (congrArg (fun z=>box bx_8 31 (wc z)) ((Oz (show bl ((Ziv (plc xs a b) (xs.length-1) j i)+(cf (plc xs a b) i*(chz (xs.length-1-i) (j-i):Int))).natAbs≤65536 by omega)).trans (Zjn _ _ _ _).symm)) J J)<|as_ J<|Zf<|Za<|Zc<|Zg<|mv J<|dt (Yc (r':= .bool false) (Qb J J J) (congrArg Value.bool (decide_eq_false (fun h=>h (Dh (show bl ((Ziv (plc xs a b) (xs.length-1) j i)+(cf (plc xs a b) i*(chz (xs.length-1-i) (j-i):Int))).natAbs≤65536 by omega))))))<|Zf<|Za<|Ye J<|Zj ?_
      exact Oa<|Za<|Zg<|mv J<|dt (Ys J J J ⟨by omega,by omega⟩)<|as_ J<|Zf<|Xk (i+1) ⟨by first | omega | (dsimp only<;>omega),by first | omega | (dsimp only<;>omega)⟩ (by first | omega | (dsimp only<;>omega)) K8 K12
    ·refine Yu<|Zu<|Zu<|Ox<|Za<|Zc ?_
     obtain rfl:i=(min (j+1) (plc xs a b).length):=by omega
     have hsb:=Zhu (d:=xs.length-1) (j:=j) p7 (by omega) (min (j+1) (plc xs a b).length)
     refine Zg<|dt (Zz (i:=10) J J J Qj Yj J J)<|tt (Zh (n:=10) (Mo (Ziv (plc xs a b) (xs.length-1) j (min (j+1) (plc xs a b).length)) (by omega)) J J J K1 call104 Ze J hw) fun _ _=>dt (Xu J J J)<|Zf<|Za<|Zq J (fun h404=>?_) (fun h404=>?_)
     ·have hpn:=(Qk _).1 h404
      exact Zc<|Zg<|as_ J<|as_ J<|Zf<|Za<|Zv<|Hf<|Xc<|Xc<|Hf<|Xc<|Yn (.inl J) hsc () _ (fun a w hs=>Np hs results93 J J) (by rw [Zr8 h0 (by omega) hpn]) trivial J Zk
     ·have hpi:¬(Ziv (plc xs a b) (xs.length-1) j (min (j+1) (plc xs a b).length))<0:=fun e=>h404 ((Qk _).2 e)
      exact Zj<|Oa<|Za<|Zg<|dt (Ys J J J ⟨by omega,by omega⟩)<|mv J<|Zf<|Xk (j+1) ⟨by first | omega | (dsimp only<;>omega),fun k hk2=>by rcases Nat.lt_succ_iff_lt_or_eq.1 hk2 with h9 | h9;exact hz k h9;subst h9;have h8:=hpi;omega⟩ (by first | omega | (dsimp only<;>omega)) K5 K11
   ·refine gsk J J J<|gsk J J J<|gsk J J J<|gsk J J J<|dt (Yh J J J)<|Zf<|Za<|Ye J<|Yu<|Zu<|Zu<|Ox<|Za<|Zc ?_
    obtain rfl:i=(min (j+1) (plc xs a b).length):=by omega
    have hsb:=Zhu (d:=xs.length-1) (j:=j) p7 (by omega) (min (j+1) (plc xs a b).length)
    refine Zg<|dt (Zz (i:=10) J J J Qj Yj J J)<|tt (Zh (n:=10) (Mo (Ziv (plc xs a b) (xs.length-1) j (min (j+1) (plc xs a b).length)) (by omega)) J J J K1 call104 Ze J hw) fun _ _=>dt (Xu J J J)<|Zf<|Za<|Zq J (fun h404_2=>?_) (fun h404_2=>?_)
    ·have hpn:=(Qk _).1 h404_2
     exact Zc<|Zg<|as_ J<|as_ J<|Zf<|Za<|Zv<|Hf<|Xc<|Xc<|Hf<|Xc<|Yn (.inl J) hsc () _ (fun a w hs=>Np hs results93 J J) (by rw [Zr8 h0 (by omega) hpn]) trivial J Zk
    ·have hpi:¬(Ziv (plc xs a b) (xs.length-1) j (min (j+1) (plc xs a b).length))<0:=fun e=>h404_2 ((Qk _).2 e)
     exact Zj<|Oa<|Za<|Zg<|dt (Ys J J J ⟨by omega,by omega⟩)<|mv J<|Zf<|Xk (j+1) ⟨by first | omega | (dsimp only<;>omega),fun k hk2=>by rcases Nat.lt_succ_iff_lt_or_eq.1 hk2 with h9 | h9;exact hz k h9;subst h9;have h8:=hpi;omega⟩ (by first | omega | (dsimp only<;>omega)) K5 K11
  ·exact Yu<|Zu<|Zu<|Ox<|Za<|Zc<|Zg<|as_ J<|as_ J<|Zf<|Za<|Zv<|Yn (.inl J) hsc () _ (fun a w hs=>Np hs results93 J J) (by rw [plain_t h0 (fun k hk=>hz k (by omega))]) trivial J Zk
theorem Zfk(v u:Value)(xs:List Int)(ps:List PTs)(a b:R2)(hd:Cvd xs)(ha:E32 a)(hb:E32 b)(hp:ValP ps)(hl:ps.length≤200):Ml prog 58 #[v,rX a.1 a.2,rX b.1 b.2,u] [slp 2 wv v xs,slp 9 Zif u ps] (.int .i64 (if 0<cmp a b then 3 else 0)):=by
 refine Ya func58 J ntmps58 J K2 ?_
 intro w0 sc hw hsc
 simp only [Zp,Zn]
 have hv:=hd.v
 have ha1:=ha.b1
 have ha2:=ha.b2
 have hap:=ha.p
 have hb1:=hb.b1
 have hb2:=hb.b2
 have hbp:=hb.p
 refine Mc (Gj (i:=2) J Zi) fun hlen=>Yl (Nj 999 2 31 wv)<|Yl (Qz 999 J J pV)<|Zc<|Zg<|tt (Xe (i:=3) J J J J J hw) fun bx _=>tt (Xe (i:=4) J J J J J hw) fun bx_2 _=>as_ J<|Zf<|Za<|Zc<|Zc<|Zg<|mv J<|tt (Zh (n:=4) (Xq _ _ ‹_›) J J J K1 Zdr (Zb 1 J J J Ze) J hw) fun _ _=>dt (Yc (r':= .bool false) (Xp J J) (congrArg Value.bool (by decide)))<|mv J<|gdt (Yy (i:=3) J J J Pv Xz J J J J) J J<|gtt (Zh (n:=4) (Qr a.1 a.2 hap) J J J K1 call117 Ze J hw) J J J fun _ _=>gdt (Yc (r':= .bool false) (Xp J J) (congrArg Value.bool (by decide))) J J<|dt (Yh J J J)<|mv J<|gdt (Yy (i:=4) J J J Pv Xz J J J J) J J<|gtt (Zh (n:=4) (Qr b.1 b.2 hbp) J J J K1 call117 Ze J hw) J J J fun _ _=>gdt (Yc (r':= .bool false) (Xp J J) (congrArg Value.bool (by decide))) J J<|dt (Yh J J J)<|mv J<|gdt (Ym J J) J J<|gdt (Yb J J (i:=2) J Zi Zvi) J J<|gdt (Yc (r':= .bool false) (Oq J J J) (congrArg Value.bool (decide_eq_false (by omega)))) J J<|dt (Yh J J J)<|Zf<|Za<|Ye J<|Zj<|Za<|Zc<|Zg<|mv J ?_
 refine tt (Zh (n:=4) (Zm7 _ xs hv) J J J K1 call14 (Zb 1 J J J Ze) J hw) fun _ _=>dt (Yc (r':= .bool false) (Ze6 J J) (congrArg Value.bool (decide_eq_false (fun h=>h (Dk hd (by omega))))))<|mv J<|gdt (Yy (i:=3) J J J Pv Xz J J J J) J J<|gtt (Zh (n:=4) (Kr a.1 a.2) J J J K1 call95 Ze J hw) J J J fun _ _=>gdt (Yc (r':= .bool false) (Xp J J) (congrArg Value.bool (by rw [ha.efit];rfl))) J J<|dt (Yh J J J)<|mv J<|gdt (Yy (i:=4) J J J Pv Xz J J J J) J J<|gtt (Zh (n:=4) (Kr b.1 b.2) J J J K1 call95 Ze J hw) J J J fun _ _=>gdt (Yc (r':= .bool false) (Xp J J) (congrArg Value.bool (by rw [hb.efit];rfl))) J J<|dt (Yh J J J)<|as_ J<|Zf<|Za<|Zc<|Zc<|Zg<|mv J<|dt (Yb J J (i:=2) J Zi Zvi)<|mv J<|Zf<|Za<|Zl<|Nt [(5,_),(6,_),(43,_),(44,_)] [(0,_),(1,_),(2,_),(999,_),(3,_),(4,_)] (fun(i:Nat)=>[(45,.int .i64 (i:Int)),(9,.bool false)]) (fun(i:Nat)=>[]) (fun(i:Nat)=>i≤ps.length) (fun(i:Nat)=>ps.length-i) 0 (by first | omega | (dsimp only<;>omega)) K6 K6 ?_
 rintro i hi
 simp only [CA,NA]
 refine Zc<|Zg<|dt (Xu J J J)<|Zf<|Za<|Zc<|Zq J (fun h39=>?_) (fun h39=>?_)
 ·refine Zj<|Za<|Zc<|Zl<|Zc<|Zg<|dt (Yw (ii:=2) J J J J Zi Zvi sizeOf79 J (by first | omega | (simp only [List.length_set];omega)))<|dt (Xm (ii:=2) P0 J J J Zi pP9 (by first | omega | (simp only [List.length_set];omega)))<|tt (Zo (i:=5) J J zeroValue79 J J hw) fun bx_3 _=>tt (Zm (i:=5) J J J J J (by decide) J sizeOf79 J J ⟨Zd J,Zd J,Zd J,Zd J,Zd J,Zd J,Zd J,Zd J,Zd J,trivial⟩ J hw trivial) fun _ _=>Zf<|Za<|Zc<|Zc ?_
  obtain⟨hk,hf1,hf2⟩:=hp (ps.getD i P0) (Yv)
  have hf11:=hf1.b1
  have hf12:=hf1.b2
  have hf1p:=hf1.p
  have hf21:=hf2.b1
  have hf22:=hf2.b2
  have hf2p:=hf2.p
  refine Zg<|dt (Xx J J Zfg J sizeOf77 J J)<|dt (Ok (i:=5) J J J isAgg77 J)<|dt (Qb J J J)<|mv J<|Qu (d:=52) J (fun s40=>?_) (fun s40=>?_)
  ·refine gdt (Xx J J Zfg J sizeOf77 J J) J J<|gdt (Ok (i:=5) J J J isAgg77 J) J J<|gdt (Yc (r':= .bool false) (Qb J J J) (congrArg Value.bool (decide_eq_false (by omega)))) J J<|dt (Xh J J J)<|mv J<|gdt (Xx J J Zfg J Xz J J) J J<|gdt (Yy (i:=5) J J J Pv Xz J J J J) J J<|gtt (Zh (n:=5) (Qr (ps.getD i P0).2.1.1 (ps.getD i P0).2.1.2 hf1p) J J J K1 call117 Ze J hw) J J J fun _ _=>gdt (Xp J J) J J<|dt (Yh J J J)<|mv J<|gdt (Xx J J Zfg J Xz J J) J J<|gdt (Yy (i:=5) J J J Pv Xz J J J J) J J<|gtt (Zh (n:=5) (Qr (ps.getD i P0).2.2.1 (ps.getD i P0).2.2.2 hf2p) J J J K1 call117 Ze J hw) J J J fun _ _=>gdt (Xp J J) J J<|dt (Yh J J J)<|Zf<|Za<|Ye J<|Zj<|Za<|Zg<|mv J<|mv J<|gdt (Xx J J Zfg J Xz J J) J J<|gdt (Yy (i:=5) J J J Pv Xz J J J J) J J<|gtt (Zh (n:=5) (Kr (ps.getD i P0).2.1.1 (ps.getD i P0).2.1.2) J J J K1 call95 Ze J hw) J J J fun _ _=>gdt (Yc (r':= .bool false) (Xp J J) (congrArg Value.bool (by rw [(show efit ((ps.getD i P0).2.1.1,(ps.getD i P0).2.1.2)=true from hf1.efit)];rfl))) J J<|dt (Yh J J J)<|mv J<|gdt (Xx J J Zfg J Xz J J) J J<|gdt (Yy (i:=5) J J J Pv Xz J J J J) J J ?_
   exact gtt (Zh (n:=5) (Kr (ps.getD i P0).2.2.1 (ps.getD i P0).2.2.2) J J J K1 call95 Ze J hw) J J J fun _ _=>gdt (Yc (r':= .bool false) (Xp J J) (congrArg Value.bool (by rw [(show efit ((ps.getD i P0).2.2.1,(ps.getD i P0).2.2.2)=true from hf2.efit)];rfl))) J J<|dt (Yh J J J)<|as_ J<|Zf<|Oa<|Za<|Zg<|dt (Ys J J J ⟨by omega,by omega⟩)<|mv J<|Zf<|Xk (i+1) (by first | omega | (dsimp only<;>omega)) (by first | omega | (dsimp only<;>omega)) K6 K6
  ·refine gsk J J J<|gsk J J J<|gsk J J J<|dt (Yh J J J)<|mv J<|gdt (Xx J J Zfg J Xz J J) J J<|gdt (Yy (i:=5) J J J Pv Xz J J J J) J J<|gtt (Zh (n:=5) (Qr (ps.getD i P0).2.1.1 (ps.getD i P0).2.1.2 hf1p) J J J K1 call117 Ze J hw) J J J fun _ _=>gdt (Xp J J) J J<|dt (Yh J J J)<|mv J<|gdt (Xx J J Zfg J Xz J J) J J<|gdt (Yy (i:=5) J J J Pv Xz J J J J) J J<|gtt (Zh (n:=5) (Qr (ps.getD i P0).2.2.1 (ps.getD i P0).2.2.2 hf2p) J J J K1 call117 Ze J hw) J J J fun _ _=>gdt (Xp J J) J J<|dt (Yh J J J)<|Zf<|Za<|Ye J<|Zj<|Za<|Zg<|mv J<|mv J<|gdt (Xx J J Zfg J Xz J J) J J<|gdt (Yy (i:=5) J J J Pv Xz J J J J) J J<|gtt (Zh (n:=5) (Kr (ps.getD i P0).2.1.1 (ps.getD i P0).2.1.2) J J J K1 call95 Ze J hw) J J J fun _ _=>gdt (Yc (r':= .bool false) (Xp J J) (congrArg Value.bool (by rw [(show efit ((ps.getD i P0).2.1.1,(ps.getD i P0).2.1.2)=true from hf1.efit)];rfl))) J J<|dt (Yh J J J)<|mv J<|gdt (Xx J J Zfg J Xz J J) J J<|gdt (Yy (i:=5) J J J Pv Xz J J J J) J J<|gtt (Zh (n:=5) (Kr (ps.getD i P0).2.2.1 (ps.getD i P0).2.2.2) J J J K1 call95 Ze J hw) J J J (fun _ _=>?_)
   exact gdt (Yc (r':= .bool false) (Xp J J) (congrArg Value.bool (by rw [(show efit ((ps.getD i P0).2.2.1,(ps.getD i P0).2.2.2)=true from hf2.efit)];rfl))) J J<|dt (Yh J J J)<|as_ J<|Zf<|Oa<|Za<|Zg<|dt (Ys J J J ⟨by omega,by omega⟩)<|mv J<|Zf<|Xk (i+1) (by first | omega | (dsimp only<;>omega)) (by first | omega | (dsimp only<;>omega)) K6 K6
 ·refine Yu<|Zu<|Zu<|Ox<|Za<|Zc<|Zc<|Zg<|dt (Yy (i:=3) J J J Pv Xz J J J J)<|dt (Yy (i:=4) J J J Pv Xz J J J J)<|tt (Zh (n:=5) (Gc a.1 a.2 b.1 b.2 hap hbp) J J J K2 call96 Ze J hw) fun _ _=>dt (Oq J J J)<|Zf<|Za<|Zq J (fun h45=>?_) (fun h45=>?_)
  ·exact Zc<|Zg<|as_ J<|Zf<|Za<|Zv<|Xc<|xU hsc results58 J J (by rw [if_pos ‹_›])
  ·exact Zj<|Za<|Zc<|Zc<|Zg<|mv J<|Zf<|Za<|Ye J<|Zj<|Za<|Zc<|Zg<|as_ J<|Zf<|Za<|Zv<|xU hsc results58 J J (by rw [if_neg ‹_›])
set_option maxHeartbeats 4000000 in
theorem Zk6(v:Value)(xs:List Int)(a b:R2)(hd:Cvd xs)(ha:E32 a)(hb:E32 b)(hc:¬0<cmp a b)(hn:ngb (Pw xs) (chx xs) a b=true):Ml prog 38 #[v,rX a.1 a.2,rX b.1 b.2] [slp 2 wv v xs] (.tuple #[.slice none 0 0,.int .i64 10]):=by
 refine Ya func38 J ntmps38 J K1 ?_
 intro w0 sc hw hsc
 simp only [Zp,Zn]
 refine e_ex (On 1 J Zi) (fun sv hsv=>?_)
 subst hsv
 have ha1:=ha.b1
 have ha2:=ha.b2
 have hap:=ha.p
 have hb1:=hb.b1
 have hb2:=hb.b2
 have hbp:=hb.p
 exact Zc<|Zg<|tt (Xe (i:=2) J J J J J hw) fun bx _=>tt (Xe (i:=3) J J J J J hw) fun bx_2 _=>tt (Xe (i:=4) J J J J J hw) fun bx_3 _=>as_ J<|as_ J<|Zf<|Za<|Zc<|Zg<|dt (Ok (i:=2) J J J isAgg23 J)<|dt (Yy (i:=3) J J J Pv Xz J J J J)<|dt (Yy (i:=4) J J J Pv Xz J J J J)<|tt (Zh (n:=4) (Dy _ xs a b hd ha hb hc hn) J J J K3 call21 (Zb 1 J J J Ze) J hw) fun g hg=>mv J<|dt (Yf J J J)<|dt (Yf J J J)<|dt (Yf J J J)<|tt (Zo (i:=5) J J zeroValue41 J J hw) fun bx_4 _=>tt (Zm (i:=5) J J J J J (by decide) J Xz J J ⟨Zd J,Zd J,Zd J,Zd J,trivial⟩ J hw trivial) fun _ _=>as_ J<|as_ J<|Zf<|Za<|Zc<|Zl<|Zc<|Zg<|mv J<|dt (Yc (r':= .bool false) (Qb J J J) (congrArg Value.bool (by decide)))<|as_ J<|Zf<|Za<|Ye J<|Zc<|Zg<|mv J<|as_ J<|Zf<|Za<|Ov J<|Zc<|Zg<|as_ J<|as_ J<|Zf<|Za<|Zv<|Hf<|Xc<|Yn (.inl J) hsc () _ (fun a w hs=>Np hs results38 J J) J trivial J Zk
end Go.Sky

