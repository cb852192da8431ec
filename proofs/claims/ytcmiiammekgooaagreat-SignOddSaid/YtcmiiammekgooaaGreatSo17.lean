/- rules, arithmetic and contracts: part 18
   Proved without conditions of its own: each theorem bears its own. -/
import Derived.Test.YtcmiiammekgooaaGreatSo03
import Derived.Test.YtcmiiammekgooaaGreatSo02
import Derived.Test.YtcmiiammekgooaaGreatSo01
import Derived.Test.YtcmiiammekgooaaGreatSo16
import Derived.Test.YtcmiiammekgooaaGreatSo14
set_option linter.all false
namespace Go.Sky
open Go.Proofs
set_option maxRecDepth 20000
set_option maxHeartbeats 4000000
set_option linter.unusedSimpArgs false
set_option maxHeartbeats 4000000 in
theorem Zgx(v:Value)(xs:List Int)(hd:Cvd xs)(hs:Sz 40 xs):Cal Tryz.prog 33 #[v] [slp 2 wv v xs] false (G:=Int) (fun r=>¬Bw xs r∧Bw xs (r+1)∧bl r.natAbs≤60) (fun r=> .tuple #[wv r,.int .i64 0]) (fun r=>[]):=by
 refine Yd Tryz.func33 J Tryz.ntmps33 J K1 ?_
 intro w0 sc hw hsc
 simp only [Zp,Zn]
 have hv:=hd.v
 have hlx:=hd.l
 refine Ys (Nj 999 2 31 wv)<|Ys (Po 999 J J pV)<|Zb<|Zg<|tt (Zo (i:=2) J J J Tryz.zeroValue31 J J hw) J fun bx _=>as_ J J<|Zf<|Za<|Zb<|Zl<|Zb<|Zg<|mv J J<|tt (Zh (n:=2) (Xm _ _ (by assumption)) J J J K1 Zcf (Zd 1 J J J Ze) J hw) J fun _ _=>dt (Xo J J) J<|as_ J J<|Zf<|Za<|Yf J<|Zb<|Zg<|mv J J<|tt (Zh (n:=2) (Zkl _ 8 xs hv (by omega)) J J J K2 cF50 (Zd 1 J J J Ze) J hw) J fun _ _=>dt (Ye (r':= .bool false) (Ze2 J J) (congrArg Value.bool (decide_eq_false (fun h=>h (Ev hd (by omega)))))) J<|as_ J J<|Zf<|Za<|Yf J<|Zb<|Zg<|mv J J<|dt (Zy J J (i:=1) J Zi Qn) J<|dt (Pi J J J) J<|as_ J J<|Zf<|Za<|Zq J (fun h315=>?_) (fun h315=>?_)
 ·exact Zb<|Zg<|dt (Oh (ivs:=[]) J trivial (fun a w hs=>b31_)) J<|tt (Zm (i:=2) J J J J J (by decide) J Yk J J ⟨Zc J,Zc J,trivial⟩ J hw trivial) J fun _ _=>as_ J J<|Zf<|Za<|Zu<|Iw<|Xe<|Zv (.inl J) hsc 0 _ (fun a w hs=>Ni hs Tryz.results33 (Yp (i:=2) J J Qo Yk J) J) J (by have h9:xs=[]:=List.eq_nil_of_length_eq_zero (by omega);subst h9;exact⟨Zni.1,Zni.2,by decide⟩) J Zj
 ·refine Zk<|Ob<|Za<|Zb<|Zg<|tt (Zh (n:=2) (Xa _ ⟨by decide,by decide⟩) J J J K1 Cu Ze J hw) J fun _ _=>dt (Oh (ivs:=[(1,_)]) J K2 (fun a w hs=>b41_1)) J<|tt (Zh (n:=2) (Xa _ ⟨by decide,by decide⟩) J J J K1 Cu Ze J hw) J fun _ _=>tt (Zh (n:=2) (Xa _ ⟨by decide,by decide⟩) J J J K1 Cu Ze J hw) J fun _ _=>dt (Oh (ivs:=[(0,_),(1,_)]) J K4 (fun a w hs=>Zeq)) J<|tt (Zo (i:=3) J J J Tryz.zeroValue41 J J hw) J fun bx_2 _=>tt (Zo (i:=4) J J J Tryz.zeroValue41 J J hw) J fun bx_3 _=>tt (Zm (i:=3) J J J J J (by decide) J Xx J J ⟨Zc J,Zc J,Zc J,Zc J,trivial⟩ J hw trivial) J fun _ _=>tt (Zm (i:=4) J J J J J (by decide) J Xx J J ⟨Zc J,Zc J,Zc J,Zc J,trivial⟩ J hw trivial) J fun _ _=>Zf<|Za<|Zb<|Zg<|tt (Zo (i:=5) J J J Tryz.zeroValue102 J J hw) J fun bx_4 _=>Zf<|Za ?_
  refine Dd [(0,_),(2,_),(4,_),(5,_),(6,_)] [(0,_),(1,_),(999,_),(2,_),(3,_),(4,_),(5,_)] (fun(q:Nat×Nat)=>[(7,.pointer (some ⟨q.1,0,none⟩)),(8,.pointer (some ⟨q.2,0,none⟩))]) (fun(q:Nat×Nat)=>[(97,box q.1 31 (wc 0)),(98,box q.2 31 (wc (cf xs 0)))]) (fun(q:Nat×Nat)=>True) K5 K7 ?_ ?_
  ·refine Nr [1] [7] (by kernel_rfl)<|Zx (n:=5) [(1,0),(2,0),(3,0)] (by kernel_rfl)<|r0' J J J J (stf (Ym J J) K1)<|r0' J J J J (stf (Yz (ii:=1) (i:=0) J J J J Zi Qn Yk J (by omega)) K1)<|r0' J J J J (stf (Xs (ii:=1) 0 J J J Zi pV (by omega)) K1)<|Yr<|Zay (n:=4) 0 4 5 (by kernel_rfl) ?_ ?_ ?_
   ·refine Yo J J (Zh (n:=5) (Xa _ ⟨by decide,by decide⟩) J J J K1 Cu Ze J hw) fun _ _=>Pu (n:=3) 4 5 (by kernel_rfl) ?_ ?_
    ·exact Yo J J (Zt (i:=97) J J J Tryz.zeroValue31 J J hw K1) fun bx_5 ho=>Zx (n:=0) [(5,1),(6,1),(7,3)] (by kernel_rfl)<|r1' J J (Zt (i:=98) J J J Tryz.zeroValue31 J J hw K1) fun bx_6 ho2=>r1' J J (Zm (i:=97) J J J J J (by decide) J Yk J J ⟨Zc J,Zc J,trivial⟩ J hw ho) fun _ _=>r3' J J (Zm (i:=98) J J J J J (by decide) J Yk J J ⟨Zc J,Zc J,trivial⟩ J hw trivial) fun _ _=>Yr<|Yl (by kernel_rfl)<|Qv (_,_) trivial K7 K9
    ·exact Yo J J (Zt (i:=98) J J J Tryz.zeroValue31 J J hw K1) fun bx_7 ho3=>Zx (n:=0) [(4,1),(6,1),(7,3)] (by kernel_rfl)<|r1' J J (Zt (i:=97) J J J Tryz.zeroValue31 J J hw K1) fun bx_8 ho4=>r1' J J (Zm (i:=97) J J J J J (by decide) J Yk J J ⟨Zc J,Zc J,trivial⟩ J hw ho4) fun _ _=>r3' J J (Zm (i:=98) J J J J J (by decide) J Yk J J ⟨Zc J,Zc J,trivial⟩ J hw trivial) fun _ _=>Yr<|Yl (by kernel_rfl)<|Qv (_,_) trivial K7 K9
   ·refine Yo J J (Zt (i:=97) J J J Tryz.zeroValue31 J J hw K1) fun bx_9 ho5=>Pu (n:=3) 0 5 (by kernel_rfl) ?_ ?_
    ·exact Yo J J (Zh (n:=5) (Xa _ ⟨by decide,by decide⟩) J J J K1 Cu Ze J hw) fun _ _=>Zx (n:=0) [(5,1),(6,1),(7,3)] (by kernel_rfl)<|r1' J J (Zt (i:=98) J J J Tryz.zeroValue31 J J hw K1) fun bx_10 ho6=>r1' J J (Zm (i:=97) J J J J J (by decide) J Yk J J ⟨Zc J,Zc J,trivial⟩ J hw ho5) fun _ _=>r3' J J (Zm (i:=98) J J J J J (by decide) J Yk J J ⟨Zc J,Zc J,trivial⟩ J hw trivial) fun _ _=>Yr<|Yl (by kernel_rfl)<|Qv (_,_) trivial K7 K9
    ·exact Yo J J (Zt (i:=98) J J J Tryz.zeroValue31 J J hw K1) fun bx_11 ho7=>Zx (n:=0) [(0,1),(6,1),(7,3)] (by kernel_rfl)<|r1' J J (Zh (n:=5) (Xa _ ⟨by decide,by decide⟩) J J J K1 Cu Ze J hw) fun _ _=>r1' J J (Zm (i:=97) J J J J J (by decide) J Yk J J ⟨Zc J,Zc J,trivial⟩ J hw ho5) fun _ _=>r3' J J (Zm (i:=98) J J J J J (by decide) J Yk J J ⟨Zc J,Zc J,trivial⟩ J hw trivial) fun _ _=>Yr<|Yl (by kernel_rfl)<|Qv (_,_) trivial K7 K9
   ·refine Yo J J (Zt (i:=98) J J J Tryz.zeroValue31 J J hw K1) fun bx_12 ho8=>Pu (n:=3) 0 4 (by kernel_rfl) ?_ ?_
    ·exact Yo J J (Zh (n:=5) (Xa _ ⟨by decide,by decide⟩) J J J K1 Cu Ze J hw) fun _ _=>Zx (n:=0) [(4,1),(6,1),(7,3)] (by kernel_rfl)<|r1' J J (Zt (i:=97) J J J Tryz.zeroValue31 J J hw K1) fun bx_13 ho9=>r1' J J (Zm (i:=97) J J J J J (by decide) J Yk J J ⟨Zc J,Zc J,trivial⟩ J hw ho9) fun _ _=>r3' J J (Zm (i:=98) J J J J J (by decide) J Yk J J ⟨Zc J,Zc J,trivial⟩ J hw trivial) fun _ _=>Yr<|Yl (by kernel_rfl)<|Qv (_,_) trivial K7 K9
    ·exact Yo J J (Zt (i:=97) J J J Tryz.zeroValue31 J J hw K1) fun bx_14 ho10=>Zx (n:=0) [(0,1),(6,1),(7,3)] (by kernel_rfl)<|r1' J J (Zh (n:=5) (Xa _ ⟨by decide,by decide⟩) J J J K1 Cu Ze J hw) fun _ _=>r1' J J (Zm (i:=97) J J J J J (by decide) J Yk J J ⟨Zc J,Zc J,trivial⟩ J hw ho10) fun _ _=>r3' J J (Zm (i:=98) J J J J J (by decide) J Yk J J ⟨Zc J,Zc J,trivial⟩ J hw trivial) fun _ _=>Yr<|Yl (by kernel_rfl)<|Qv (_,_) trivial K7 K9
  ·rintro⟨b7,b8⟩ -
   simp only [List.cons_append,List.nil_append]
   refine Zb<|Nr [] [] (by kernel_rfl)<|Pu (n:=6) 0 1 (by kernel_rfl) ?_ ?_
   ·refine Yo J J (Od (Yc (i:=98) J J J Qo Yk J J) J J) fun _ _=>Zx (n:=0) [(1,1),(2,1),(3,0),(4,0),(5,0),(6,1)] (by kernel_rfl)<|r1' J J (Zh (n:=5) (Xa _ ⟨by decide,by decide⟩) J J J K1 Cu Ze J hw) fun _ _=>r1' J J (Zh (n:=5) (Gh (cf xs 0) 1 (hv.sz 0) (by decide)) J J J K2 cF82 Ze J hw) fun _ _=>r0' J J J J (stf (Ym J J) trivial)<|r0' J J J J (stf (Yg J J J) trivial)<|r0' J J J J (stf (Yg J J J) trivial)<|r1' J J (Zm (i:=98) J J J J J (by decide) J Yk J J ⟨Zc J,Zc J,trivial⟩ J hw (fun _ h=>nomatch h)) fun _ _=>Yr<|Yl (by kernel_rfl)<|Za<|Zb<|Zb<|Ys (Gf 98 (q:=box b8 31 (wc (cf xs 0+1))) (congrArg (fun z=>box b8 31 (wc z)) (Ot (Nat.le_trans (Zau (z:=cf xs 0+1) (by have:=Zck hs 0;omega)) (by omega)))) J J)<|Zg<|mv J J<|dt (Zy J J (i:=1) J Zi Qn) J<|mv J J<|Zf<|Za<|Zl ?_
    refine Nt [(0,_),(2,_),(4,_),(5,_),(6,_),(7,_),(8,_),(46,_),(47,_)] [(0,_),(98,_),(1,_),(999,_),(2,_),(3,_),(4,_),(5,_)] (fun(i:Nat)=>[(48,.int .i64 (i:Int))]) (fun(i:Nat)=>[(97,box b7 31 (wc (lws (xs.take i))))]) (fun(i:Nat)=>i≤xs.length) (fun(i:Nat)=>xs.length-i) 0 (by first | omega | (dsimp only<;>omega)) K10 K9 ?_
    rintro i hi
    simp only [List.cons_append,List.nil_append]
    refine Zb<|Zg<|dt (Qb J J J) J<|Zf<|Za<|Zb<|Zq J (fun h323=>?_) (fun h323=>?_)
    ·refine Zk<|Za<|Zb<|Zl<|Zb<|Zg<|dt (Yz (ii:=1) J J J J Zi Qn Yk J (by first | omega | (simp only [List.length_set];omega))) J<|dt (Xs (ii:=1) 0 J J J Zi pV (by first | omega | (simp only [List.length_set];omega))) J<|tt (Zo (i:=6) J J J Tryz.zeroValue31 J J hw) J fun bx_15 _=>tt (Zm (i:=6) J J J J J (by decide) J Yk J J ⟨Zc J,Zc J,trivial⟩ J hw trivial) J fun _ _=>Zf<|Za<|Zb<|Zg<|dt (Xy J J Zca J zT4 J J) J<|tt (Zkd (cs':=#[]) (i:=6) J J J J J (by decide) J zT4 J J ⟨Zc J,trivial⟩ J hw trivial) J fun _ _=>Zf<|Za<|Zb<|Zb<|Zg<|dt (Xy J J Zca J zT9 J J) J<|dt (Oa (i:=6) J J J iA9 J) J<|dt (Zjv J J J J) J<|Zf<|Za<|Zq J (fun h325=>?_) (fun h325=>?_)
     ·have hc0:(cf xs i).natAbs=0:=bstr_0 h325
      exact Yu<|Zs<|Ox<|Za<|Zg<|dt (Yt J J J ⟨by omega,by omega⟩) J<|mv J J<|Zf<|Xq (i+1) (by first | omega | (dsimp only<;>omega)) (by first | omega | (dsimp only<;>omega)) K10 ⟨(by rw [Cp (by omega)];first | rfl | (rw [hc0,show lws (xs.take i) + -((0:Nat):Int)=lws (xs.take i) by omega]<;>rfl)),J,J,J,J,J,J,J,J,trivial⟩
     ·have hc0:cf xs i≠0:=Zt2 h325
      have hlwi:=Ay hs hlx i
      have hlws:=Ay hs hlx (i+1)
      rw [Cp (by omega)]at hlws
      have hlw:bl (lws (xs.take i)).natAbs≤65536:=Nat.le_trans (Zau (by omega)) (by omega)
      have hcb:bl (-((cf xs i).natAbs:Int)).natAbs≤65536:=by rw [Int.natAbs_neg,Int.natAbs_natCast];exact hv.sz i
      exact Zk<|Za<|Zg<|dt (Yc (i:=97) J J J Qo Yk J J) J<|dt (Ye (r':=wv (-((cf xs i).natAbs:Int))) (Yc (i:=6) J J J Qo Yk J J) (Zpr hc0).symm) J<|tt (Zh (n:=6) (Gh (lws (xs.take i)) (-((cf xs i).natAbs:Int)) hlw hcb) J J J K2 cF82 Ze J hw) J fun _ _=>mv J J<|dt (Yg J J J) J<|dt (Yg J J J) J<|tt (Zm (i:=97) J J J J J (by decide) J Yk J J ⟨Zc J,Zc J,trivial⟩ J hw trivial) J fun _ _=>Pq (Gf 97 (q:=box b7 31 (wc (lws (xs.take i) + -((cf xs i).natAbs:Int)))) (congrArg (fun z=>box b7 31 (wc z)) (Ot (Nat.le_trans (Zau (by omega)) (by omega)))) J J)<|Zf<|Ob<|Za<|Zg<|dt (Yt J J J ⟨by omega,by omega⟩) J<|mv J J<|Zf<|Xq (i+1) (by first | omega | (dsimp only<;>omega)) (by first | omega | (dsimp only<;>omega)) K10 ⟨(by rw [Cp (by omega)];first | rfl | (rw [hc0,show lws (xs.take i) + -((0:Nat):Int)=lws (xs.take i) by omega]<;>rfl)),J,J,J,J,J,J,J,J,trivial⟩
    ·refine Yu<|Zs<|Zs<|Ox<|Za<|Zl<|Nt [(0,_),(2,_),(4,_),(5,_),(6,_),(7,_),(8,_)] [(0,_),(1,_),(999,_),(2,_),(3,_),(4,_),(5,_)] (fun(q:Int×Int)=>[]) (fun(q:Int×Int)=>[(97,box b7 31 (wc q.1)),(98,box b8 31 (wc q.2))]) (fun(q:Int×Int)=>FlI xs q.1 q.2) (fun(q:Int×Int)=>(q.2-q.1).toNat) (lws (xs.take i),cf xs 0+1) (FlI.start hs hd.l (by omega)) K7 K9 ?_
     rintro⟨lo,hi⟩ hF
     dsimp only at hF
     simp only [List.cons_append,List.nil_append]
     have hlt:=hF.lt
     have hfb1:=hF.b1
     have hfb2:=hF.b2
     have hlb:=Zau (z:=lo) (by omega)
     have hhb:=Zau (z:=hi) (by omega)
     have hsb:=Zau (z:=lo+hi) (by omega)
     have hmb:=Zau (z:=((lo+hi)/2)) (by omega)
     obtain⟨hcv,hcz,hcm⟩:=Zje (m:=((lo+hi)/2)) hd hs (by omega)
     refine Zl<|Zb<|Zg<|dt (Yc (i:=97) J J J Qo Yk J J) J<|dt (Yc (i:=98) J J J Qo Yk J J) J<|tt (Zh (n:=6) (Gh lo hi (by omega) (by omega)) J J J K2 cF82 Ze J hw) J fun _ _=>mv J J<|dt (Yg J J J) J<|dt (Yg J J J) J<|tt (Zo (i:=7) J J J Tryz.zeroValue31 J J hw) J fun bx_16 _=>tt (Zm (i:=7) J J J J J (by decide) J Yk J J ⟨Zc J,Zc J,trivial⟩ J hw trivial) J fun _ _=>Pq (Gf 7 (q:=box bx_16 31 (wc (lo+hi))) (congrArg (fun z=>box bx_16 31 (wc z)) (Ot (by omega))) J J)<|as_ J J<|Zf<|Za<|Zb<|Zg<|dt (Yc (i:=7) J J J Qo Yk J J) J<|tt (Zh (n:=7) (Zc9 (lo+hi) (by omega)) J J J K2 cF83 Ze J hw) J fun _ _=>mv J J<|dt (Yg J J J) J<|dt (Yg J J J) J<|tt (Zm (i:=7) J J J J J (by decide) J Yk J J ⟨Zc J,Zc J,trivial⟩ J hw trivial) J fun _ _=>Pq (Gf 7 (q:=box bx_16 31 (wc ((lo+hi)/2))) (congrArg (fun z=>box bx_16 31 (wc z)) (Ot (by omega))) J J)<|Zf<|Za<|Zb<|Zb<|Zg<|dt (Yc (i:=7) J J J Qo Yk J J) J<|dt (Yc (i:=97) J J J Qo Yk J J) J<|tt (Zh (n:=7) (Zbx ((lo+hi)/2) lo (by omega) (by omega)) J J J K2 cF84 Ze J hw) J fun _ _=>dt (De J J J) J<|Zf<|Za ?_
     refine Zq J (fun h334=>?_) (fun h334=>?_)
     ·have hmlo:((lo+hi)/2)≤lo:=by have:=Zql h334;omega
      exact Zb<|Nr [5,97] [4] (by kernel_rfl)<|Zx (n:=0) [(0,0),(1,0),(2,0),(3,1),(4,3)] (by kernel_rfl)<|r0' J J J J (stf (Yc (i:=97) J J J Qo Yk J J) K2)<|r0' J J J J (stf (Xy J J Kq J Gg J J) K2)<|r0' J J J J (stf (Oa (i:=5) J J J Bv J) K2)<|r1' J J (Zgl 2 J J K2 (fun ob=>(Zm (i:=2) J J J J J (by decide) J Yk J J ⟨Zc J,Zc J,trivial⟩ J hw ob))) fun _ _=>r3' J J (Od (Kk J J) J J) fun _ _=>Yr<|Yl (by kernel_rfl)<|Za<|Zu<|Xe<|Iw<|Xe<|Iw<|Zv (.inl J) hsc lo _ (fun a w hs=>Ni hs Tryz.results33 (Yp (i:=2) J J Qo Yk J) J) J ⟨hF.l,by rw [show lo+1=hi by omega];exact hF.h,by omega⟩ J Zj
     ·have hmlo:lo<((lo+hi)/2):=by have:=Zqm h334;omega
      refine Zk<|Za<|Zb<|Zg<|mv J J<|dt (Yc (i:=7) J J J Qo Yk J J) J<|tt (Zh (n:=8) (Zqn ((lo+hi)/2) (by omega)) J J J K1 cF86 Ze J hw) J fun v _=>tt (Zh (n:=9) (Zm7 _ _ xs (tzl [((lo+hi)/2)]) hv hcm hcz) J J J K2 cF85 (Zd 1 J J J (Zd 8 J J J Ze)) J hw) J fun _ _=>mv J J<|dt (Yg J J J) J<|dt (Yg J J J) J<|as_ J J<|as_ J J<|Zf<|Za<|Zb<|Zb<|Zg<|mv J J<|dt (Ye (r':= .bool false) (Qd J J J) (congrArg Value.bool (by decide))) J<|Zf<|Za<|Yf J<|Zk<|Za<|Zb<|Zg<|mv J J<|tt (Zh (n:=10) (Zki _ _ hcv) J J J K1 cF59 (Zd 9 J J J Ze) J hw) J (fun g hg=>?_)
      obtain⟨hgl,hgc⟩:=hg
      refine mv J J<|dt (Yg J J J) J<|dt (Yg J J J) J<|tt (Zo (i:=12) J J J Tryz.zeroValue98 J J hw) J fun bx_17 _=>tt (Zm (i:=12) J J J J J (by decide) J Ce J J ⟨Zr (i:=10) J Zz,Zr (i:=11) J Zz,trivial⟩ J hw trivial) J fun _ _=>as_ J J<|Zf<|Za<|Zb<|Zb<|Zg<|mv J J<|dt (Ye (r':= .bool false) (Qd J J J) (congrArg Value.bool (by decide))) J<|Zf<|Za<|Yf J<|Zk<|Za<|Zb<|Zb<|Zg<|dt (Yc (i:=12) J J J Zce Ce J J) J<|dt (Xi (i:=3) J J J Pp Xx J J J J) J<|dt (Xi (i:=4) J J J Pp Xx J J J J) J<|tt (Zh (n:=12) (Lp _ _ _ _ _ 0 1 1 1 (by decide) (by decide) (by decide) (by decide) (by decide) (by decide) (Xw hgl (fun q hq=>(Ns hcv q hq).1)) (Xw hgl (Kl hcv (m:=(0,1)) (by decide) (by decide)).1) (Xw hgc (fun q hq=>(Gb hcv q hq).1)) (Xw hgc (Kl hcv (m:=(0,1)) (by decide) (by decide)).2) (Xw hgc (Kl hcv (m:=(1,1)) (by decide) (by decide)).2) (by have h7:=congrArg List.length hgc;rw [List.length_map]at h7;have:=Ey (Fv xs ((lo+hi)/2));omega)) J J J K4 cF61 (Zd 10 J J J (Zd 11 J J J (Ng 5 J J Ze))) J hw) J fun _ _=>Zf<|Za<|Mq J (fun h345=>?_) (fun h345=>?_)
      ·exact Zg<|dt (Yc (i:=7) J J J Qo Yk J J) J<|tt (Zm (i:=98) J J J J J (by decide) J Yk J J ⟨Zc J,Zc J,trivial⟩ J hw trivial) J fun _ _=>Zf<|Za<|Zb<|Zg<|dt (Xy J J Kq J Gg J J) J<|dt (Oa (i:=5) J J J Bv J) J<|dt (Ye (r':= .bool false) (Qd J J J) (congrArg Value.bool (by decide))) J<|Zf<|Za<|Yf J<|Zk<|Ob<|Xq (lo,((lo+hi)/2)) (⟨hF.l,(Cq hcv).1 (by rw [←hgl,←hgc];assumption),by omega,by omega⟩) (by dsimp only;omega) K7 K9
      ·exact Zg<|dt (Yc (i:=7) J J J Qo Yk J J) J<|tt (Zm (i:=97) J J J J J (by decide) J Yk J J ⟨Zc J,Zc J,trivial⟩ J hw trivial) J fun _ _=>Zf<|Za<|Zb<|Zg<|dt (Xy J J Kq J Gg J J) J<|dt (Oa (i:=5) J J J Bv J) J<|dt (Ye (r':= .bool false) (Qd J J J) (congrArg Value.bool (by decide))) J<|Zf<|Za<|Yf J<|Zk<|Ob<|Xq (((lo+hi)/2),hi) (⟨fun e=>absurd ((Cq hcv).2 e) (by rw [←hgl,←hgc];simp_all),hF.h,by omega,by omega⟩) (by dsimp only;omega) K7 K9
   ·refine Yo J J (Zh (n:=12) (Xa _ ⟨by decide,by decide⟩) J J J K1 Cu Ze J hw) fun _ _=>Zx (n:=0) [(0,1),(2,1),(3,0),(4,0),(5,0),(6,1)] (by kernel_rfl)<|r1' J J (Od (Yc (i:=98) J J J Qo Yk J J) J J) fun _ _=>r1' J J (Zh (n:=12) (Gh (cf xs 0) 1 (hv.sz 0) (by decide)) J J J K2 cF82 Ze J hw) fun _ _=>r0' J J J J (stf (Ym J J) trivial)<|r0' J J J J (stf (Yg J J J) trivial)<|r0' J J J J (stf (Yg J J J) trivial)<|r1' J J (Zm (i:=98) J J J J J (by decide) J Yk J J ⟨Zc J,Zc J,trivial⟩ J hw (fun _ h=>nomatch h)) fun _ _=>Yr<|Yl (by kernel_rfl)<|Za<|Zb<|Zb<|Ys (Gf 98 (q:=box b8 31 (wc (cf xs 0+1))) (congrArg (fun z=>box b8 31 (wc z)) (Ot (Nat.le_trans (Zau (z:=cf xs 0+1) (by have:=Zck hs 0;omega)) (by omega)))) J J)<|Zg<|mv J J<|dt (Zy J J (i:=1) J Zi Qn) J<|mv J J<|Zf<|Za<|Zl ?_
    refine Nt [(0,_),(2,_),(4,_),(5,_),(6,_),(7,_),(8,_),(46,_),(47,_)] [(0,_),(98,_),(1,_),(999,_),(2,_),(3,_),(4,_),(5,_)] (fun(i:Nat)=>[(48,.int .i64 (i:Int))]) (fun(i:Nat)=>[(97,box b7 31 (wc (lws (xs.take i))))]) (fun(i:Nat)=>i≤xs.length) (fun(i:Nat)=>xs.length-i) 0 (by first | omega | (dsimp only<;>omega)) K10 K9 ?_
    rintro i hi
    simp only [List.cons_append,List.nil_append]
    refine Zb<|Zg<|dt (Qb J J J) J<|Zf<|Za<|Zb<|Zq J (fun h323_2=>?_) (fun h323_2=>?_)
    ·refine Zk<|Za<|Zb<|Zl<|Zb<|Zg<|dt (Yz (ii:=1) J J J J Zi Qn Yk J (by first | omega | (simp only [List.length_set];omega))) J<|dt (Xs (ii:=1) 0 J J J Zi pV (by first | omega | (simp only [List.length_set];omega))) J<|tt (Zo (i:=13) J J J Tryz.zeroValue31 J J hw) J fun bx_18 _=>tt (Zm (i:=13) J J J J J (by decide) J Yk J J ⟨Zc J,Zc J,trivial⟩ J hw trivial) J fun _ _=>Zf<|Za<|Zb<|Zg<|dt (Xy J J Zca J zT4 J J) J<|tt (Zkd (cs':=#[]) (i:=13) J J J J J (by decide) J zT4 J J ⟨Zc J,trivial⟩ J hw trivial) J fun _ _=>Zf<|Za<|Zb<|Zb<|Zg<|dt (Xy J J Zca J zT9 J J) J<|dt (Oa (i:=13) J J J iA9 J) J<|dt (Zjv J J J J) J<|Zf<|Za<|Zq J (fun h325_2=>?_) (fun h325_2=>?_)
     ·have hc0:(cf xs i).natAbs=0:=bstr_0 h325_2
      exact Yu<|Zs<|Ox<|Za<|Zg<|dt (Yt J J J ⟨by omega,by omega⟩) J<|mv J J<|Zf<|Xq (i+1) (by first | omega | (dsimp only<;>omega)) (by first | omega | (dsimp only<;>omega)) K10 ⟨(by rw [Cp (by omega)];first | rfl | (rw [hc0,show lws (xs.take i) + -((0:Nat):Int)=lws (xs.take i) by omega]<;>rfl)),J,J,J,J,J,J,J,J,trivial⟩
     ·have hc0:cf xs i≠0:=Zt2 h325_2
      have hlwi:=Ay hs hlx i
      have hlws:=Ay hs hlx (i+1)
      rw [Cp (by omega)]at hlws
      have hlw:bl (lws (xs.take i)).natAbs≤65536:=Nat.le_trans (Zau (by omega)) (by omega)
      have hcb:bl (-((cf xs i).natAbs:Int)).natAbs≤65536:=by rw [Int.natAbs_neg,Int.natAbs_natCast];exact hv.sz i
      exact Zk<|Za<|Zg<|dt (Yc (i:=97) J J J Qo Yk J J) J<|dt (Ye (r':=wv (-((cf xs i).natAbs:Int))) (Yc (i:=13) J J J Qo Yk J J) (Zpr hc0).symm) J<|tt (Zh (n:=13) (Gh (lws (xs.take i)) (-((cf xs i).natAbs:Int)) hlw hcb) J J J K2 cF82 Ze J hw) J fun _ _=>mv J J<|dt (Yg J J J) J<|dt (Yg J J J) J<|tt (Zm (i:=97) J J J J J (by decide) J Yk J J ⟨Zc J,Zc J,trivial⟩ J hw trivial) J fun _ _=>Pq (Gf 97 (q:=box b7 31 (wc (lws (xs.take i) + -((cf xs i).natAbs:Int)))) (congrArg (fun z=>box b7 31 (wc z)) (Ot (Nat.le_trans (Zau (by omega)) (by omega)))) J J)<|Zf<|Ob<|Za<|Zg<|dt (Yt J J J ⟨by omega,by omega⟩) J<|mv J J<|Zf<|Xq (i+1) (by first | omega | (dsimp only<;>omega)) (by first | omega | (dsimp only<;>omega)) K10 ⟨(by rw [Cp (by omega)];first | rfl | (rw [hc0,show lws (xs.take i) + -((0:Nat):Int)=lws (xs.take i) by omega]<;>rfl)),J,J,J,J,J,J,J,J,trivial⟩
    ·refine Yu<|Zs<|Zs<|Ox<|Za<|Zl<|Nt [(0,_),(2,_),(4,_),(5,_),(6,_),(7,_),(8,_)] [(0,_),(1,_),(999,_),(2,_),(3,_),(4,_),(5,_)] (fun(q:Int×Int)=>[]) (fun(q:Int×Int)=>[(97,box b7 31 (wc q.1)),(98,box b8 31 (wc q.2))]) (fun(q:Int×Int)=>FlI xs q.1 q.2) (fun(q:Int×Int)=>(q.2-q.1).toNat) (lws (xs.take i),cf xs 0+1) (FlI.start hs hd.l (by omega)) K7 K9 ?_
     rintro⟨lo,hi⟩ hF
     dsimp only at hF
     simp only [List.cons_append,List.nil_append]
     have hlt:=hF.lt
     have hfb1:=hF.b1
     have hfb2:=hF.b2
     have hlb:=Zau (z:=lo) (by omega)
     have hhb:=Zau (z:=hi) (by omega)
     have hsb:=Zau (z:=lo+hi) (by omega)
     have hmb:=Zau (z:=((lo+hi)/2)) (by omega)
     obtain⟨hcv,hcz,hcm⟩:=Zje (m:=((lo+hi)/2)) hd hs (by omega)
     refine Zl<|Zb<|Zg<|dt (Yc (i:=97) J J J Qo Yk J J) J<|dt (Yc (i:=98) J J J Qo Yk J J) J<|tt (Zh (n:=13) (Gh lo hi (by omega) (by omega)) J J J K2 cF82 Ze J hw) J fun _ _=>mv J J<|dt (Yg J J J) J<|dt (Yg J J J) J<|tt (Zo (i:=14) J J J Tryz.zeroValue31 J J hw) J fun bx_19 _=>tt (Zm (i:=14) J J J J J (by decide) J Yk J J ⟨Zc J,Zc J,trivial⟩ J hw trivial) J fun _ _=>Pq (Gf 14 (q:=box bx_19 31 (wc (lo+hi))) (congrArg (fun z=>box bx_19 31 (wc z)) (Ot (by omega))) J J)<|as_ J J<|Zf<|Za<|Zb<|Zg<|dt (Yc (i:=14) J J J Qo Yk J J) J<|tt (Zh (n:=14) (Zc9 (lo+hi) (by omega)) J J J K2 cF83 Ze J hw) J fun _ _=>mv J J<|dt (Yg J J J) J<|dt (Yg J J J) J<|tt (Zm (i:=14) J J J J J (by decide) J Yk J J ⟨Zc J,Zc J,trivial⟩ J hw trivial) J fun _ _=>Pq (Gf 14 (q:=box bx_19 31 (wc ((lo+hi)/2))) (congrArg (fun z=>box bx_19 31 (wc z)) (Ot (by omega))) J J)<|Zf<|Za<|Zb<|Zb<|Zg<|dt (Yc (i:=14) J J J Qo Yk J J) J<|dt (Yc (i:=97) J J J Qo Yk J J) J<|tt (Zh (n:=14) (Zbx ((lo+hi)/2) lo (by omega) (by omega)) J J J K2 cF84 Ze J hw) J fun _ _=>dt (De J J J) J<|Zf<|Za ?_
     refine Zq J (fun h334_2=>?_) (fun h334_2=>?_)
     ·have hmlo:((lo+hi)/2)≤lo:=by have:=Zql h334_2;omega
      exact Zb<|Nr [5,97] [4] (by kernel_rfl)<|Zx (n:=0) [(0,0),(1,0),(2,0),(3,1),(4,3)] (by kernel_rfl)<|r0' J J J J (stf (Yc (i:=97) J J J Qo Yk J J) K2)<|r0' J J J J (stf (Xy J J Kq J Gg J J) K2)<|r0' J J J J (stf (Oa (i:=5) J J J Bv J) K2)<|r1' J J (Zgl 2 J J K2 (fun ob=>(Zm (i:=2) J J J J J (by decide) J Yk J J ⟨Zc J,Zc J,trivial⟩ J hw ob))) fun _ _=>r3' J J (Od (Kk J J) J J) fun _ _=>Yr<|Yl (by kernel_rfl)<|Za<|Zu<|Xe<|Iw<|Xe<|Iw<|Zv (.inl J) hsc lo _ (fun a w hs=>Ni hs Tryz.results33 (Yp (i:=2) J J Qo Yk J) J) J ⟨hF.l,by rw [show lo+1=hi by omega];exact hF.h,by omega⟩ J Zj
     ·have hmlo:lo<((lo+hi)/2):=by have:=Zqm h334_2;omega
      refine Zk<|Za<|Zb<|Zg<|mv J J<|dt (Yc (i:=14) J J J Qo Yk J J) J<|tt (Zh (n:=15) (Zqn ((lo+hi)/2) (by omega)) J J J K1 cF86 Ze J hw) J fun v_2 _=>tt (Zh (n:=16) (Zm7 _ _ xs (tzl [((lo+hi)/2)]) hv hcm hcz) J J J K2 cF85 (Zd 1 J J J (Zd 15 J J J Ze)) J hw) J fun _ _=>mv J J<|dt (Yg J J J) J<|dt (Yg J J J) J<|as_ J J<|as_ J J<|Zf<|Za<|Zb<|Zb<|Zg<|mv J J<|dt (Ye (r':= .bool false) (Qd J J J) (congrArg Value.bool (by decide))) J<|Zf<|Za<|Yf J<|Zk<|Za<|Zb<|Zg<|mv J J<|tt (Zh (n:=17) (Zki _ _ hcv) J J J K1 cF59 (Zd 16 J J J Ze) J hw) J (fun g_2 hg_2=>?_)
      obtain⟨hgl,hgc⟩:=hg_2
      refine mv J J<|dt (Yg J J J) J<|dt (Yg J J J) J<|tt (Zo (i:=19) J J J Tryz.zeroValue98 J J hw) J fun bx_20 _=>tt (Zm (i:=19) J J J J J (by decide) J Ce J J ⟨Zr (i:=17) J Zz,Zr (i:=18) J Zz,trivial⟩ J hw trivial) J fun _ _=>as_ J J<|Zf<|Za<|Zb<|Zb<|Zg<|mv J J<|dt (Ye (r':= .bool false) (Qd J J J) (congrArg Value.bool (by decide))) J<|Zf<|Za<|Yf J<|Zk<|Za<|Zb<|Zb<|Zg<|dt (Yc (i:=19) J J J Zce Ce J J) J<|dt (Xi (i:=3) J J J Pp Xx J J J J) J<|dt (Xi (i:=4) J J J Pp Xx J J J J) J<|tt (Zh (n:=19) (Lp _ _ _ _ _ 0 1 1 1 (by decide) (by decide) (by decide) (by decide) (by decide) (by decide) (Xw hgl (fun q hq=>(Ns hcv q hq).1)) (Xw hgl (Kl hcv (m:=(0,1)) (by decide) (by decide)).1) (Xw hgc (fun q hq=>(Gb hcv q hq).1)) (Xw hgc (Kl hcv (m:=(0,1)) (by decide) (by decide)).2) (Xw hgc (Kl hcv (m:=(1,1)) (by decide) (by decide)).2) (by have h7:=congrArg List.length hgc;rw [List.length_map]at h7;have:=Ey (Fv xs ((lo+hi)/2));omega)) J J J K4 cF61 (Zd 17 J J J (Zd 18 J J J (Ng 5 J J Ze))) J hw) J fun _ _=>Zf<|Za<|Mq J (fun h345_2=>?_) (fun h345_2=>?_)
      ·exact Zg<|dt (Yc (i:=14) J J J Qo Yk J J) J<|tt (Zm (i:=98) J J J J J (by decide) J Yk J J ⟨Zc J,Zc J,trivial⟩ J hw trivial) J fun _ _=>Zf<|Za<|Zb<|Zg<|dt (Xy J J Kq J Gg J J) J<|dt (Oa (i:=5) J J J Bv J) J<|dt (Ye (r':= .bool false) (Qd J J J) (congrArg Value.bool (by decide))) J<|Zf<|Za<|Yf J<|Zk<|Ob<|Xq (lo,((lo+hi)/2)) (⟨hF.l,(Cq hcv).1 (by rw [←hgl,←hgc];assumption),by omega,by omega⟩) (by dsimp only;omega) K7 K9
      ·exact Zg<|dt (Yc (i:=14) J J J Qo Yk J J) J<|tt (Zm (i:=97) J J J J J (by decide) J Yk J J ⟨Zc J,Zc J,trivial⟩ J hw trivial) J fun _ _=>Zf<|Za<|Zb<|Zg<|dt (Xy J J Kq J Gg J J) J<|dt (Oa (i:=5) J J J Bv J) J<|dt (Ye (r':= .bool false) (Qd J J J) (congrArg Value.bool (by decide))) J<|Zf<|Za<|Yf J<|Zk<|Ob<|Xq (((lo+hi)/2),hi) (⟨fun e=>absurd ((Cq hcv).2 e) (by rw [←hgl,←hgc];simp_all),hF.h,by omega,by omega⟩) (by dsimp only;omega) K7 K9
end Go.Sky
namespace Go.Sky
variable {P:Program} {N:Nat} {sc:Nat→Prop} {env env':Env} {H H':Hp} {Q Q':Exit→Act→World→Prop}
def Zev(l:List Int):Array Value:=(l.map (Value.int .i64)).toArray
theorem Zii(l:List Int):(Zev l).size=l.length:=by simp [Zev]
theorem Zuo{l:List Int}{j:Nat}(h:j<l.length):(Zev l)[j]? = some (.int .i64 (l.getD j 0)):=by
 simp [Zev,List.getElem?_eq_getElem h,List.getD_eq_getElem?_getD]
theorem Zun{l:List Int}{j:Nat}{v:Int}(h:j<l.length):Bq (Zev l) j [.int .i64 v]=Zev (l.set j v):=by
 unfold Bq Zev
 congr 1
 rw [List.set_eq_take_append_cons_drop,if_pos h,List.map_append,List.map_cons,List.map_take,List.map_drop]
 simp
theorem Zei {o:Oper} {x y:Operand} {t e:TypeId} {b off i k len:Nat} {kd:IntKind} {m:Int} (ho:o.op= .indexAddr t x y) (hx:ev env x=some (.pointer (some ⟨b,off,none⟩))) (hy:ev env y=some (.int kd m))
  (ht:P.underlying t=some (.array len e)) (hk:∀w,(sizeOf e).run P w= .ok k w) (him:m=(i:Int)) (hlt:i<len):Det P N sc o env H (.pointer (some ⟨b,off+i*k,none⟩)):=fun a w hs=>by
 subst him
 simp [execOp,ho,hs.ev hx,hs.ev hy,Instr.indexAt,Instr.sureAddr,asIntOf,run_underlying ht,hk,hlt,Ny]
theorem d_lw{o:Oper}{x:Operand}{t tb:TypeId}{i b j:Nat}{l:List Int}(ho:o.op= .load t x)(hx:ev env x=some (.pointer (some ⟨b,j,none⟩)))(hH:lk H i=some (box b tb (Zev l)))(ht:∀w,(isAgg t).run P w= .ok false w)(hj:j<l.length) :
  Det P N sc o env H (.int .i64 (l.getD j 0)):=Oa ho hx hH ht (Zuo hj)
theorem d_lwa{o:Oper}{x:Operand}{t tb:TypeId}{i b k:Nat}{l:List Int}(ho:o.op= .load t x)(hx:ev env x=some (.pointer (some ⟨b,0,none⟩)))(hH:lk H i=some (box b tb (Zev l)))(ht:∀w,(isAgg t).run P w= .ok true w)(hk:∀w,(sizeOf t).run P w= .ok k w)(hl:l.length=k) :
  Det P N sc o env H (.agg (Zev l)):=
 Zw3 (vs:=l.map (Value.int .i64)) ho hx hH ht hk (by simpa using hl) (fun n u hu=>by rw [Nat.zero_add];simpa [Zev]using hu)
theorem Zp3 {M:Nat→Prop} {o:Oper} {x y:Operand} {t tb:TypeId} {i b j:Nat} {l:List Int} {v:Int} {w0:World} {M0:Nat→Prop} (ho:o.op= .store t x y) (hd:o.dst=none)
  (hx:ev env x=some (.pointer (some ⟨b,j,none⟩))) (hy:ev env y=some (.int .i64 v)) (hH:lk H i=some (box b tb (Zev l))) (hi0:i≠0) (hk:∀w,(sizeOf t).run P w= .ok 1 w) (hj:j<l.length)
  (h0:lk H 0=some (Il w0 M0)) (hw:∀b,w0.heap.size≤b→sc b) (hM:M b) :
  T P N sc M o env H (G:=Unit) (fun _=>True) (fun _=>env) (fun _=>(i,box b tb (Zev (l.set j v))) :: H):=by
 rw [←Zun hj]
 exact Zuu (vs:=[.int .i64 v]) ho hd hx hy hH hi0 rfl hk rfl (by rw [Zii];exact hj) (fun u hu=>Zc (by rw [List.mem_singleton.1 hu];rfl)) rfl h0 hw hM
theorem t_stwa {M:Nat→Prop} {o:Oper} {x y:Operand} {t tb:TypeId} {i b k:Nat} {cs:Array Value} {l:List Int} {w0:World} {M0:Nat→Prop} (ho:o.op= .store t x y) (hd:o.dst=none)
  (hx:ev env x=some (.pointer (some ⟨b,0,none⟩))) (hy:ev env y=some (.agg (Zev l))) (hH:lk H i=some (box b tb cs)) (hi0:i≠0) (hk:∀w,(sizeOf t).run P w= .ok k w) (hl:l.length=k) (hc:cs.size=k)
  (h0:lk H 0=some (Il w0 M0)) (hw:∀b,w0.heap.size≤b→sc b) (hM:M b) :
  T P N sc M o env H (G:=Unit) (fun _=>True) (fun _=>env) (fun _=>(i,box b tb (Zev l)) :: H):=
 Zuu (vs:=l.map (Value.int .i64)) ho hd hx hy hH hi0 rfl hk (by simpa using hl) (by simp;omega) (fun u hu=>Zc (by obtain⟨z,_,rfl⟩:=List.mem_map.1 hu;rfl)) (by
  unfold Bq Zev
  rw [List.take_zero,List.nil_append,Nat.zero_add,List.drop_eq_nil_of_le (by simp;omega),List.append_nil]) h0 hw hM
def chz:Nat→Nat→Nat
 | _,0=>1
 | 0,_+1=>0
 | n+1,k+1=>chz n k+chz n (k+1)
theorem Ztr:∀n k,chz n k≤2^n
 | 0,0=>by decide
 | _+1,0=>Nat.two_pow_pos _
 | 0,_+1=>Nat.zero_le _
 | n+1,k+1=>by
  have h1:=Ztr n k
  have h2:=Ztr n (k+1)
  show chz n k+chz n (k+1)≤2^(n+1)
  rw [Nat.pow_succ];omega
theorem Zts:∀n k,n<k→chz n k=0
 | _,0,h=>absurd h (Nat.not_lt_zero _)
 | 0,_+1,_=>rfl
 | n+1,k+1,h=>by
  show chz n k+chz n (k+1)=0
  rw [Zts n k (by omega),Zts n (k+1) (by omega)]
structure Tab (l:List Int) (n k:Nat):Prop where
 len:l.length=625
 eq:∀r c,r<25→c<25→l.getD (r*25+c) 0=if r<n∨(r=n∧c<k)then(chz r c:Int)else 0
theorem Zsl{l:List Int}{i j:Nat}{v:Int}(hi:i<l.length):(l.set i v).getD j 0=if j=i then v else l.getD j 0:=by
 rw [List.getD_eq_getElem?_getD,List.getD_eq_getElem?_getD,List.getElem?_set]
 by_cases h:i=j
 ·subst h;rw [if_pos rfl,if_pos hi,if_pos rfl];rfl
 ·rw [if_neg h,if_neg (fun e=>h e.symm)]
theorem Tab.start:Tab (List.replicate 625 0) 0 0:=⟨List.length_replicate,fun r c hr hc=>by
 rw [if_neg (by omega),List.getD_eq_getElem?_getD]
 rw [List.getElem?_replicate]
 split<;>rfl⟩
theorem Tab.step{l:List Int}{n k:Nat}{v:Int}(h:Tab l n k)(hn:n<25)(hk:k<25)(hv:v=(chz n k:Int)){j:Nat}(hj:j=n*25+k):Tab (l.set j v) n (k+1):=by
 subst hj
 have hl:=h.len
 refine⟨by rw [List.length_set];exact hl,fun r c hr hc=>?_⟩
 rw [Zsl (by omega),h.eq r c hr hc]
 by_cases e:r*25+c=n*25+k
 ·have e1:r=n:=by omega
  have e2:c=k:=by omega
  subst e1;subst e2
  rw [if_pos rfl,if_pos (by omega)];exact hv
 ·rw [if_neg e]
  have:¬(r=n∧c=k):=fun⟨e1,e2⟩=>e (by rw [e1,e2])
  by_cases g:r<n∨(r=n∧c<k)
  ·rw [if_pos g,if_pos (by omega)]
  ·rw [if_neg g,if_neg (by omega)]
theorem Tab.row{l:List Int}{n k:Nat}(h:Tab l n k)(hk:n<k):Tab l (n+1) 0:=⟨h.len,fun r c hr hc=>by
 rw [h.eq r c hr hc]
 by_cases g:r<n∨(r=n∧c<k)
 ·rw [if_pos g,if_pos (by omega)]
 ·rw [if_neg g]
  by_cases g2:r<n+1∨(r=n+1∧c<0)
  ·rw [if_pos g2,Zts r c (by omega)];rfl
  ·rw [if_neg g2]⟩
theorem Tab.get{l:List Int}{n k r c:Nat}(h:Tab l n k)(hr:r<25)(hc:c<25)(hlt:r<n∨(r=n∧c<k)){j:Nat}(hj:j=r*25+c):l.getD j 0=(chz r c:Int):=by
 rw [hj,h.eq r c hr hc,if_pos hlt]
theorem Ztq{n k:Nat}(hn:1≤n)(hk:1≤k):chz n k=chz (n-1) (k-1)+chz (n-1) k:=by
 obtain⟨m,rfl⟩:∃m,n=m+1:=⟨n-1,by omega⟩
 obtain⟨j,rfl⟩:∃j,k=j+1:=⟨k-1,by omega⟩
 rfl
theorem Zw5{n k:Nat}(h:n≤24):chz n k≤16777216:=Nat.le_trans (Ztr n k) (Nat.le_trans (Nat.pow_le_pow_right (by decide) h) (by decide))
end Go.Sky
namespace Go.Sky
structure Ef (a:R2):Prop where
 p:0<a.2
 b1:bl a.1.natAbs≤512
 b2:bl a.2.natAbs≤512
theorem E32.ef{a:R2}(h:E32 a):Ef a:=⟨h.p,Nat.le_trans h.b1 (by decide),Nat.le_trans h.b2 (by decide)⟩
def plx(a b:R2):Int:=a.1*b.2
def ply(a b:R2):Int:=b.1*a.2
def pld(a b:R2):Int:=a.2*b.2
def plc(xs:List Int)(a b:R2):List Int:=Zd5 xs (plx a b) (ply a b-plx a b) (pld a b)
def Zie(c:List Int)(d j:Nat)(i:Nat):Int:=Qp (fun i=>cf c i*(chz (d-i) (j-i):Int)) i
def Aq(xs:List Int)(a b:R2):Bool:=if xs.length=0 then true else(List.range xs.length).all fun j=>decide (0≤Zie (plc xs a b) (xs.length-1) j (min (j+1) (plc xs a b).length))
theorem Zat{x y:Int}{m n:Nat}(hx:bl x.natAbs≤m)(hy:bl y.natAbs≤n):bl (x*y).natAbs≤m+n:=by have:=Qh x y;omega
theorem pl_sz{xs:List Int}{a b:R2}(hd:Cvd xs)(ha:Ef a)(hb:Ef b) :
  bl (plx a b).natAbs≤1024∧bl (ply a b).natAbs≤1024∧bl (pld a b).natAbs≤1024∧bl (ply a b-plx a b).natAbs≤1025∧0<pld a b∧¬Zn7 xs (plx a b) (ply a b-plx a b) (pld a b)∧Sz 7000 (plc xs a b)∧(plc xs a b).length≤xs.length:=by
 have h1:bl (plx a b).natAbs≤1024:=Zat ha.b1 hb.b2
 have h2:bl (ply a b).natAbs≤1024:=Zat hb.b1 ha.b2
 have h3:bl (pld a b).natAbs≤1024:=Zat ha.b2 hb.b2
 have h4:bl (ply a b-plx a b).natAbs≤1025:=by have:=Cd (ply a b) (plx a b);omega
 have hl:=hd.l
 have hm:=Pz hd.s
 have hmz:msz [plx a b,ply a b-plx a b,pld a b]≤1025:=Pz (Sz.of_mem fun y hy=>by
  rcases List.mem_cons.1 hy with rfl | hy
  ·omega
  ·rcases List.mem_cons.1 hy with rfl | hy
   ·omega
   ·rw [List.mem_singleton.1 hy];omega)
 have hk:(xs.length-1)*(msz [plx a b,ply a b-plx a b,pld a b]+1)≤6*1026:=Nat.mul_le_mul (by omega) (by omega)
 refine⟨h1,h2,h3,h4,Int.mul_pos ha.p hb.p,fun hF=>?_,?_,Zo8 _ _ _ _⟩
 ·have:=hF.2;omega
 ·have hc:=Zgn (x:=plx a b) (y:=ply a b-plx a b) (z:=pld a b) (m:=1025) hd.s (by omega) h4 (by omega) (xs.length-1)
  unfold plc Zd5
  split
  ·exact Sz.nil _
  ·refine(Sz.tzl hc).mono ?_
   have:(xs.length-1)*(1025+1)≤6*1026:=Nat.mul_le_mul (by omega) (by omega)
   omega
theorem Zi3(c:List Int)(d j i:Nat):Zie c d j (i+1)=Zie c d j i+cf c i*(chz (d-i) (j-i):Int):=rfl
theorem chz_bl{n k:Nat}(h:n≤24):bl ((chz n k:Nat):Int).natAbs≤25:=by
 rw [Int.natAbs_natCast];exact(Mf 25 _).2 (Nat.lt_of_le_of_lt (Zw5 h) (by decide))
theorem Zhd{c:List Int}{d j:Nat}(hc:Sz 7000 c)(hd:d≤24):∀i,bl (Zie c d j i).natAbs≤7025+i
 | 0=>by show bl (0:Int).natAbs≤7025;simp [La]
 | i+1=>by
  have h1:=Zhd hc hd (j:=j) i
  have h2:bl (cf c i*(chz (d-i) (j-i):Int)).natAbs≤7000+25:=Zat (hc i) (chz_bl (by omega))
  rw [Zi3]
  have:=Km (Zie c d j i) (cf c i*(chz (d-i) (j-i):Int))
  omega
theorem Zrf{xs:List Int}{a b:R2}(h:xs.length=0):Aq xs a b=true:=by unfold Aq;rw [if_pos h]
theorem plain_t{xs:List Int}{a b:R2}(h:xs.length≠0)(hz:∀k,k<xs.length→0≤Zie (plc xs a b) (xs.length-1) k (min (k+1) (plc xs a b).length)):Aq xs a b=true:=by
 unfold Aq;rw [if_neg h,List.all_eq_true]
 intro j hj
 exact decide_eq_true (hz j (List.mem_range.1 hj))
theorem Zrg{xs:List Int}{a b:R2}{k:Nat}(h:xs.length≠0)(hk:k<xs.length)(hz:Zie (plc xs a b) (xs.length-1) k (min (k+1) (plc xs a b).length)<0):Aq xs a b=false:=by
 unfold Aq;rw [if_neg h,Bool.eq_false_iff]
 intro hA
 have:=of_decide_eq_true (List.all_eq_true.1 hA k (List.mem_range.2 hk))
 omega
end Go.Sky
namespace Go.Sky
abbrev PTs:=Int×R2×R2
abbrev P0:PTs:=(0,(0,0),(0,0))
abbrev Zhx (z:PTs):Value:= .agg #[.int .i64 z.1,.bool (decide (z.2.1.1<0)),.string (Xd z.2.1.1.natAbs),.bool (decide (z.2.1.2<0)),.string (Xd z.2.1.2.natAbs),.bool (decide (z.2.2.1<0)),.string (Xd z.2.2.1.natAbs),.bool (decide (z.2.2.2<0)),.string (Xd z.2.2.2.natAbs)]
def shw(xs:List Int)(z:PTs):Bool:=if z.1=1 then Aq xs z.2.1 z.2.2 else if xs.length=0∨cmp z.2.1 z.2.2=0 then decide (0≤vlu (Nm xs) z.2.1)else decide (0<aft (Nm xs) z.2.1) && !crb (chx xs) z.2.1 z.2.2
def Zrj(xs:List Int)(l:R2)(z:PTs):Bool:=decide (cmp l z.2.1=0) && decide (¬0<cmp z.2.1 z.2.2) && shw xs z
def lst(a:R2)(ps:List PTs)(i:Nat):R2:=if i=0 then a else(ps.getD (i-1) P0).2.2
def Zui(xs:List Int)(ps:List PTs)(a b:R2):Bool:=decide (0<ps.length) && (List.range ps.length).all (fun k=>Zrj xs (lst a ps k) (ps.getD k P0)) && decide (cmp (lst a ps ps.length) b=0)
def ValP(ps:List PTs):Prop:=∀z∈ps,(z.1=1∨z.1=2)∧Ef z.2.1∧Ef z.2.2
theorem chk_all{xs:List Int}{ps:List PTs}{a b:R2}{i:Nat}(hi:i=ps.length)(h:∀k,k<i→Zrj xs (lst a ps k) (ps.getD k P0)=true):Zui xs ps a b=(decide (0<ps.length) && decide (cmp (lst a ps i) b=0)):=by
 subst hi
 unfold Zui
 rw [List.all_eq_true.2 (fun k hk=>h k (List.mem_range.1 hk)),Bool.and_true]
theorem Ez{xs:List Int}{ps:List PTs}{a b:R2}{k:Nat}(hk:k<ps.length)(h:Zrj xs (lst a ps k) (ps.getD k P0)=false)(c:Bool):Zui xs ps a b=(false && c):=by
 unfold Zui
 have:(List.range ps.length).all (fun k=>Zrj xs (lst a ps k) (ps.getD k P0))=false:=by
  rw [Bool.eq_false_iff]
  intro hA
  have:=List.all_eq_true.1 hA k (List.mem_range.2 hk)
  rw [h]at this;exact absurd this (by decide)
 rw [this];simp
theorem okp_c{xs:List Int}{l:R2}{z:PTs}(h:¬cmp l z.2.1=0):Zrj xs l z=false:=by unfold Zrj;rw [decide_eq_false h];rfl
theorem okp_o{xs:List Int}{l:R2}{z:PTs}(h:0<cmp z.2.1 z.2.2):Zrj xs l z=false:=by unfold Zrj;rw [decide_eq_false (show ¬¬0<cmp z.2.1 z.2.2 from fun e=>e h),Bool.and_false];rfl
theorem Zhi{xs:List Int}{l:R2}{z:PTs}(h1:cmp l z.2.1=0)(h2:¬0<cmp z.2.1 z.2.2):Zrj xs l z=shw xs z:=by unfold Zrj;rw [decide_eq_true h1,decide_eq_true h2];rfl
theorem Zgu{xs:List Int}{z:PTs}(h:z.1=1):shw xs z=Aq xs z.2.1 z.2.2:=if_pos h
theorem Zgs{xs:List Int}{z:PTs}(h:¬z.1=1)(h2:xs.length=0∨cmp z.2.1 z.2.2=0):shw xs z=decide (0≤vlu (Nm xs) z.2.1):=by unfold shw;rw [if_neg h,if_pos h2]
theorem Zgt{xs:List Int}{z:PTs}(h:¬z.1=1)(h2:¬xs.length=0)(h3:¬cmp z.2.1 z.2.2=0):shw xs z=(decide (0<aft (Nm xs) z.2.1) && !crb (chx xs) z.2.1 z.2.2):=by
 unfold shw;rw [if_neg h,if_neg (fun e=>by rcases e with e | e;exact h2 e;exact h3 e)]
theorem Ef.efit{a:R2}(h:Ef a):Go.Sky.efit a=true:=by
 have:=h.b1
 have:=h.b2
 unfold Go.Sky.efit;exact decide_eq_true (by omega)
theorem lst_ef{a:R2}{ps:List PTs}(ha:Ef a)(hp:ValP ps){i:Nat}(hi:i≤ps.length):Ef (lst a ps i):=by
 unfold lst
 split
 ·exact ha
 ·exact(hp _ (Yv (by omega))).2.2
theorem Hf{b:Bool}(h:(!b)=true):b=false:=by cases b<;>simp_all
theorem Eb{b:Bool}(h:(!b)=false):b=true:=by cases b<;>simp_all
theorem Zaw{p:Prop}[Decidable p]{b c:Bool}(h:p)(e:b=c):(decide p && b)=c:=by rw [decide_eq_true h,Bool.true_and,e]
theorem Zj5{p:Prop}[Decidable p]{b:Bool}(h:¬p):(decide p && b)=false:=by rw [decide_eq_false h,Bool.false_and]
end Go.Sky
namespace Go.Sky
open Go.Proofs
set_option maxRecDepth 100000
theorem zc_eq:(Value.agg Tryz.zeroCells173).cells=Zev (List.replicate 625 0):=by kernel_rfl
theorem Zpo:(Value.agg Tryz.zeroCells173).cells.size=625:=by rw [zc_eq,Zii,List.length_replicate]
theorem pP9:Enc Tryz.prog 79 9 Zhx:=Enc.agg (by decide) Tryz.sizeOf79 Tryz.isAgg79 (fun x=>⟨[.int .i64 x.1,.bool (decide (x.2.1.1<0)),.string (Xd x.2.1.1.natAbs),.bool (decide (x.2.1.2<0)),.string (Xd x.2.1.2.natAbs),.bool (decide (x.2.2.1<0)),.string (Xd x.2.2.1.natAbs),.bool (decide (x.2.2.2<0)),.string (Xd x.2.2.2.natAbs)],rfl,rfl,by simp [Value.oneCell']⟩)
end Go.Sky
namespace Go.Sky
open Go.Proofs
set_option maxRecDepth 20000
set_option maxHeartbeats 4000000
set_option linter.unusedSimpArgs false
set_option maxHeartbeats 4000000 in
theorem Zou  : Cal Tryz.prog 142 #[] [] false (G:=List Int) (fun r=>Tab r 25 0) (fun r=> .agg (Zev r)) (fun r=>[]):=by
 refine Yd Tryz.func142 J Tryz.ntmps142 J trivial ?_
 intro w0 sc hw hsc
 simp only [Zp,Zn]
 refine Zb<|Zg<|tt (Zo (i:=1) J J J Tryz.zeroValue173 J J hw) J fun bx _=>Zf<|Za<|Zb<|Zg<|tt (Zo (i:=2) J J J Tryz.zeroValue173 J J hw) J fun bx_2 _=>Zf<|Za<|Zb<|Zb<|Zg<|mv J J<|Zf<|Za<|Zl<|Ys (Gf 2 (q:=box bx_2 173 (Zev (List.replicate 625 0))) (congrArg (box bx_2 173) zc_eq) J J)<|Nt [(0,_),(1,_)] [(0,_),(1,_)] (fun(q:Nat×List Int)=>[(4,.int .i64 (q.1:Int))]) (fun(q:Nat×List Int)=>[(2,box bx_2 173 (Zev q.2))]) (fun(q:Nat×List Int)=>(q.1≤25)∧(Tab q.2 q.1 0)) (fun(q:Nat×List Int)=>25-q.1) (0,List.replicate 625 0) ⟨by first | omega | (dsimp only<;>omega),Tab.start⟩ K3 K3 ?_
 rintro⟨n,l⟩ ⟨hn,hT⟩
 dsimp only at hn hT
 simp only [List.cons_append,List.nil_append]
 have hl:=hT.len
 refine Zb<|Zg<|dt (Qb J J J) J<|Zf<|Za<|Zb<|Zq J (fun h367=>?_) (fun h367=>?_)
 ·refine Zk<|Za<|Zb<|Zl<|Zb<|Zg<|mv J J<|as_ J J<|Zf<|Za<|Zb<|Zg<|mv J J<|dt (Zei (i:=n) J J J Zp0 Zpq (by omega) (by omega)) J<|dt (Zei (i:=0) J J J Zon zT3 J (by omega)) J<|tt (Zp3 (i:=2) J J J J J (by decide) zT3 (by omega) J hw trivial) J fun _ _=>Zf<|Za<|Zb<|Zg<|as_ J J<|Zf<|Za<|Zl<|Nt [(0,_),(1,_),(2,_),(4,_)] [(0,_),(1,_)] (fun(q:Nat×List Int)=>[(3,.int .i64 (q.1:Int))]) (fun(q:Nat×List Int)=>[(2,box bx_2 173 (Zev q.2))]) (fun(q:Nat×List Int)=>(1≤q.1)∧(q.1≤n+1)∧(Tab q.2 n q.1)) (fun(q:Nat×List Int)=>n+1-q.1) (1,l.set (0+n*25+0*1) 1) ⟨by first | omega | (dsimp only<;>omega),by first | omega | (dsimp only<;>omega),hT.step (by omega) (by omega) (by cases n<;>rfl) (by omega)⟩ K5 K3 ?_
  rintro⟨k,l2⟩ ⟨hk1,hk2,hT2⟩
  dsimp only at hk1 hk2 hT2
  simp only [List.cons_append,List.nil_append]
  have hl2:=hT2.len
  refine Zb<|Zb<|Zg<|mv J J<|mv J J<|dt (De J J J) J<|Zf<|Za<|Zq J (fun h369=>?_) (fun h369=>?_)
  ·refine Zk<|Za<|Zb<|Zl ?_
   have hv1:=hT2.get (j:=0+(n-1)*25+(k-1)*1) (r:=n-1) (c:=k-1) (by omega) (by omega) (.inl (by omega)) (by omega)
   have hv2:=hT2.get (j:=0+(n-1)*25+k*1) (r:=n-1) (c:=k) (by omega) (by omega) (.inl (by omega)) (by omega)
   have hb1:=Zw5 (n:=n-1) (k:=k-1) (by omega)
   have hb2:=Zw5 (n:=n-1) (k:=k) (by omega)
   refine Nr [] [] (by kernel_rfl)<|Zx (n:=5) [(0,0),(1,0),(2,0),(3,0),(4,0),(5,0),(6,0),(7,0),(9,0),(10,0),(11,0),(12,0),(13,0),(16,0)] (by kernel_rfl)<|r0' J J J J (stf (Ym J J) trivial)<|r0' J J J J (stf (Ym J J) trivial)<|r0' J J J J (stf (Ym J J) trivial)<|r0' J J J J (stf (Qg J J J ⟨by omega,by omega⟩) trivial)<|r0' J J J J (stf (Ym J J) trivial)<|r0' J J J J (stf (Qg J J J ⟨by omega,by omega⟩) trivial)<|r0' J J J J (stf (Zei (i:=(n-1)) J J J Zp0 Zpq (by omega) (by omega)) trivial)<|r0' J J J J (stf (Zei (i:=(k-1)) J J J Zon zT3 (by omega) (by omega)) trivial)<|r0' J J J J (stf (Ym J J) trivial)<|r0' J J J J (stf (Qg J J J ⟨by omega,by omega⟩) trivial)<|r0' J J J J (stf (Ym J J) trivial)<|r0' J J J J (stf (Zei (i:=(n-1)) J J J Zp0 Zpq (by omega) (by omega)) trivial)<|r0' J J J J (stf (Zei (i:=k) J J J Zon zT3 (by omega) (by omega)) trivial)<|r0' J J J J (stf (Zei (i:=n) J J J Zp0 Zpq (by omega) (by omega)) trivial)<|Yr<|Pu (n:=4) 8 14 (by kernel_rfl) ?_ ?_
   ·exact Yo J J (Od (d_lw (i:=2) J J J iA3 (by omega)) J J) fun _ _=>Zx (n:=0) [(14,1),(15,0),(17,0),(18,1)] (by kernel_rfl)<|r1' J J (Od (d_lw (i:=2) J J J iA3 (by omega)) J J) fun _ _=>r0' J J J J (stf (Yt J J J (by rw [hv1,hv2];exact⟨by omega,by omega⟩)) trivial)<|r0' J J J J (stf (Zei (i:=k) J J J Zon zT3 (by omega) (by omega)) trivial)<|r1' J J (Zp3 (i:=2) J J J J J (by decide) zT3 (by omega) J hw (fun _ h=>nomatch h)) fun _ _=>Yr<|Yl (by kernel_rfl)<|Ob<|Za<|Zg<|mv J J<|dt (Yt J J J ⟨by omega,by omega⟩) J<|as_ J J<|Zf<|Xq (k+1,_) ⟨by first | omega | (dsimp only<;>omega),by first | omega | (dsimp only<;>omega),hT2.step (by omega) (by omega) (by rw [hv1,hv2,Ztq (n:=n) (k:=k) (by omega) (by omega)];push_cast;rfl) (by omega)⟩ (by first | omega | (dsimp only<;>omega)) K5 K3
   ·exact Yo J J (Od (d_lw (i:=2) J J J iA3 (by omega)) J J) fun _ _=>Zx (n:=0) [(8,1),(15,0),(17,0),(18,1)] (by kernel_rfl)<|r1' J J (Od (d_lw (i:=2) J J J iA3 (by omega)) J J) fun _ _=>r0' J J J J (stf (Yt J J J (by rw [hv1,hv2];exact⟨by omega,by omega⟩)) trivial)<|r0' J J J J (stf (Zei (i:=k) J J J Zon zT3 (by omega) (by omega)) trivial)<|r1' J J (Zp3 (i:=2) J J J J J (by decide) zT3 (by omega) J hw (fun _ h=>nomatch h)) fun _ _=>Yr<|Yl (by kernel_rfl)<|Ob<|Za<|Zg<|mv J J<|dt (Yt J J J ⟨by omega,by omega⟩) J<|as_ J J<|Zf<|Xq (k+1,_) ⟨by first | omega | (dsimp only<;>omega),by first | omega | (dsimp only<;>omega),hT2.step (by omega) (by omega) (by rw [hv1,hv2,Ztq (n:=n) (k:=k) (by omega) (by omega)];push_cast;rfl) (by omega)⟩ (by first | omega | (dsimp only<;>omega)) K5 K3
  ·exact Yu<|Zs<|Zs<|Ox<|Ob<|Za<|Zg<|dt (Yt J J J ⟨by omega,by omega⟩) J<|mv J J<|Zf<|Xq (n+1,l2) ⟨by first | omega | (dsimp only<;>omega),hT2.row (by omega)⟩ (by first | omega | (dsimp only<;>omega)) K3 K3
 ·obtain rfl:n=25:=by omega
  let r0:=l
  exact Yu<|Zs<|Zs<|Ox<|Za<|Zb<|Zg<|dt (d_lwa (i:=2) J J J iA173 Zul hl) J<|tt (t_stwa (i:=1) J J J J J (by decide) Zul hl Zpo J hw trivial) J fun _ _=>Zf<|Za<|Zu<|Zv (.inl J) hsc l _ (fun a w hs=>Qj hs Tryz.results142 (Yp (i:=1) (vs:=r0.map (Value.int .i64)) J J iA173 Zul (by simpa using hl))) J hT J Zj
end Go.Sky
namespace Go.Sky
open Go.Proofs
set_option maxRecDepth 20000
set_option maxHeartbeats 4000000
set_option linter.unusedSimpArgs false
set_option maxHeartbeats 4000000 in
theorem Zvg(v:Value)(xs:List Int)(a b:R2)(hd:Cvd xs)(ha:Ef a)(hb:Ef b):Cal Tryz.prog 93 #[v,.agg #[.bool (decide (a.1<0)),.string (Xd a.1.natAbs),.bool (decide (a.2<0)),.string (Xd a.2.natAbs)],.agg #[.bool (decide (b.1<0)),.string (Xd b.1.natAbs),.bool (decide (b.2<0)),.string (Xd b.2.natAbs)]] [slp 2 wv v xs] false (G:=Unit) (fun _=>True) (fun _=> .tuple #[.bool (Aq xs a b),.int .i64 0]) (fun _=>[]):=by
 refine Yd Tryz.func93 J Tryz.ntmps93 J K1 ?_
 intro w0 sc hw hsc
 simp only [Zp,Zn]
 have hv:=hd.v
 have ha1:=ha.b1
 have ha2:=ha.b2
 have hb1:=hb.b1
 have hb2:=hb.b2
 obtain⟨p1,p2,p3,p4,p5,p6,p7,p8⟩:=pl_sz hd ha hb
 have hlx:=hd.l
 refine Ys (Nj 999 2 31 wv)<|Ys (Po 999 J J pV)<|Zb<|Zg<|tt (Xl (i:=2) J J J J J J hw) J fun bx _=>tt (Xl (i:=3) J J J J J J hw) J fun bx_2 _=>as_ J J<|as_ J J<|Zf<|Za<|Zb<|Zb<|Zg<|mv J J<|dt (Zy J J (i:=1) J Zi Qn) J<|dt (Pi J J J) J<|Zf<|Za<|Zq J (fun h378=>?_) (fun h378=>?_)
 ·exact Zb<|Zg<|as_ J J<|as_ J J<|Zf<|Za<|Zu<|Xe<|Zv (.inl J) hsc () _ (fun a w hs=>Ni hs Tryz.results93 J J) (by rw [Zrf (by omega)]) trivial J Zj
 ·have h0:xs.length≠0:=by omega
  refine Zk<|Za<|Zb<|Zg<|dt (Xy J J Ab J Yk J J) J<|dt (Yc (i:=2) J J J Qo Yk J J) J<|dt (Xy J J Ab J Yk J J) J<|dt (Yc (i:=3) J J J Qo Yk J J) J<|tt (Zh (n:=3) (Ee a.1 b.2 (by omega) (by omega)) J J J K2 Zl3 Ze J hw) J fun _ _=>mv J J<|dt (Yg J J J) J<|dt (Yg J J J) J<|tt (Zo (i:=4) J J J Tryz.zeroValue31 J J hw) J fun bx_3 _=>tt (Zm (i:=4) J J J J J (by decide) J Yk J J ⟨Zc J,Zc J,trivial⟩ J hw trivial) J fun _ _=>Pq (Gf 4 (q:=box bx_3 31 (wc (plx a b))) (congrArg (fun z=>box bx_3 31 (wc z)) (Ot (show bl (plx a b).natAbs≤65536 by omega))) J J)<|as_ J J<|Zf<|Za<|Zb<|Zg<|dt (Xy J J Ab J Yk J J) J<|dt (Yc (i:=3) J J J Qo Yk J J) J<|dt (Xy J J Ab J Yk J J) J<|dt (Yc (i:=2) J J J Qo Yk J J) J<|tt (Zh (n:=4) (Ee b.1 a.2 (by omega) (by omega)) J J J K2 Zl3 Ze J hw) J fun _ _=>mv J J<|dt (Yg J J J) J<|dt (Yg J J J) J<|tt (Zo (i:=5) J J J Tryz.zeroValue31 J J hw) J fun bx_4 _=>tt (Zm (i:=5) J J J J J (by decide) J Yk J J ⟨Zc J,Zc J,trivial⟩ J hw trivial) J fun _ _=>Pq (Gf 5 (q:=box bx_4 31 (wc (ply a b))) (congrArg (fun z=>box bx_4 31 (wc z)) (Ot (show bl (ply a b).natAbs≤65536 by omega))) J J) ?_
  refine as_ J J<|Zf<|Za<|Zb<|Zg<|dt (Xy J J Ab J Yk J J) J<|dt (Yc (i:=2) J J J Qo Yk J J) J<|dt (Xy J J Ab J Yk J J) J<|dt (Yc (i:=3) J J J Qo Yk J J) J<|tt (Zh (n:=5) (Ee a.2 b.2 (by omega) (by omega)) J J J K2 Zl3 Ze J hw) J fun _ _=>mv J J<|dt (Yg J J J) J<|dt (Yg J J J) J<|tt (Zo (i:=6) J J J Tryz.zeroValue31 J J hw) J fun bx_5 _=>tt (Zm (i:=6) J J J J J (by decide) J Yk J J ⟨Zc J,Zc J,trivial⟩ J hw trivial) J fun _ _=>Pq (Gf 6 (q:=box bx_5 31 (wc (pld a b))) (congrArg (fun z=>box bx_5 31 (wc z)) (Ot (show bl (pld a b).natAbs≤65536 by omega))) J J)<|as_ J J<|Zf<|Za<|Zb<|Zg<|dt (Yc (i:=5) J J J Qo Yk J J) J<|dt (Yc (i:=4) J J J Qo Yk J J) J<|tt (Zh (n:=6) (Zmc (ply a b) (plx a b) (by omega) (by omega)) J J J K2 cF140 Ze J hw) J fun _ _=>mv J J<|dt (Yg J J J) J<|dt (Yg J J J) J<|tt (Zo (i:=7) J J J Tryz.zeroValue31 J J hw) J fun bx_6 _=>tt (Zm (i:=7) J J J J J (by decide) J Yk J J ⟨Zc J,Zc J,trivial⟩ J hw trivial) J fun _ _=>Pq (Gf 7 (q:=box bx_6 31 (wc (ply a b-plx a b))) (congrArg (fun z=>box bx_6 31 (wc z)) (Ot (by omega))) J J)<|as_ J J<|Zf<|Za<|Zb<|Zb<|Zg<|mv J J ?_
  refine dt (Ye (r':= .bool false) (Qd J J J) (congrArg Value.bool (decide_eq_false (fun h=>h (Et (show bl (plx a b).natAbs≤65536 by omega)))))) J<|mv J J<|gdt (Ym J J) J J J J<|gdt (Ye (r':= .bool false) (Qd J J J) (congrArg Value.bool (decide_eq_false (fun h=>h (Et (show bl (ply a b).natAbs≤65536 by omega)))))) J J J J<|dt (Yh J J J) J<|mv J J<|gdt (Ym J J) J J J J<|gdt (Ye (r':= .bool false) (Qd J J J) (congrArg Value.bool (decide_eq_false (fun h=>h (Et (show bl (pld a b).natAbs≤65536 by omega)))))) J J J J<|dt (Yh J J J) J<|mv J J<|gdt (Ym J J) J J J J<|gdt (Ye (r':= .bool false) (Qd J J J) (congrArg Value.bool (decide_eq_false (fun h=>h (Et (show bl (ply a b-plx a b).natAbs≤65536 by omega)))))) J J J J<|dt (Yh J J J) J<|Zf<|Za<|Yf J<|Zk<|Za<|Zb<|Zg<|mv J J<|dt (Yc (i:=4) J J J Qo Yk J J) J<|dt (Yc (i:=7) J J J Qo Yk J J) J<|dt (Yc (i:=6) J J J Qo Yk J J) J<|tt (Zh (n:=8) (Zi7 _ xs (plx a b) (ply a b-plx a b) (pld a b) hv (by omega) (by omega) (by omega) p5 p6) J J J K4 cF141 (Zd 1 J J J Ze) J hw) J fun _ _=>Pq (Gf 8 (q:=slp 2 wv _ (plc xs a b)) J J J)<|mv J J<|dt (Yg J J J) J<|dt (Yg J J J) J<|as_ J J<|as_ J J<|Zf<|Za<|Zb<|Zb ?_
  refine Zg<|mv J J<|dt (Ye (r':= .bool false) (Qd J J J) (congrArg Value.bool (by decide))) J<|Zf<|Za<|Yf J<|Zk<|Za<|Zb<|Zg<|mv J J<|dt (Zy J J (i:=1) J Zi Qn) J<|dt (Qg J J J ⟨by omega,by omega⟩) J<|tt (Zh (n:=8) (Zou) J J J trivial cF142 Ze J hw) J fun g hg=>tt (Zo (i:=9) J J J Tryz.zeroValue173 J J hw) J fun bx_7 _=>as_ J J<|tt (t_stwa (i:=9) J J J J J (by decide) Zul hg.len Zpo J hw trivial) J fun _ _=>Zf<|Za<|Zb<|Zb<|Zg<|mv J J<|dt (Yt J J J ⟨by omega,by omega⟩) J<|mv J J<|Zf<|Za<|Zl<|Nt [(16,_),(17,_),(18,_),(87,_)] [(0,_),(1,_),(999,_),(2,_),(3,_),(4,_),(5,_),(6,_),(7,_),(8,_),(9,_)] (fun(j:Nat)=>[(88,.int .i64 (j:Int))]) (fun(j:Nat)=>[]) (fun(j:Nat)=>(j≤xs.length)∧(∀k,k<j→0≤Zie (plc xs a b) (xs.length-1) k (min (k+1) (plc xs a b).length))) (fun(j:Nat)=>xs.length-j) 0 ⟨by first | omega | (dsimp only<;>omega),fun k hk=>absurd hk (Nat.not_lt_zero k)⟩ K5 K11 ?_
  rintro j ⟨hj,hz⟩
  simp only [List.cons_append,List.nil_append]
  refine Zb<|Zg<|dt (Qb J J J) J<|Zf<|Za<|Zb<|Zq J (fun h393=>?_) (fun h393=>?_)
  ·refine Zk<|Za<|Zb<|Zl<|Zb<|Zg<|mv J J<|as_ J J<|Zf<|Za<|Zb<|Zg<|tt (Zo (i:=10) J J J Tryz.zeroValue31 J J hw) J fun bx_8 _=>Zf<|Za<|Zb<|Zb<|Zg<|as_ J J<|Zf<|Za<|Zl<|Nt [(16,_),(17,_),(18,_),(19,_),(20,_),(87,_),(88,_)] [(0,_),(1,_),(999,_),(2,_),(3,_),(4,_),(5,_),(6,_),(7,_),(8,_),(9,_)] (fun(i:Nat)=>[(21,.int .i64 (i:Int))]) (fun(i:Nat)=>[(10,box bx_8 31 (wc (Zie (plc xs a b) (xs.length-1) j i)))]) (fun(i:Nat)=>(i≤j+1)∧(i≤(plc xs a b).length)) (fun(i:Nat)=>j+1-i) 0 ⟨by first | omega | (dsimp only<;>omega),by first | omega | (dsimp only<;>omega)⟩ K8 K12 ?_
   rintro i ⟨hi1,hi2⟩
   simp only [List.cons_append,List.nil_append]
   have hch:=Zw5 (n:=xs.length-1-i) (k:=j-i) (by omega)
   have hcb:=chz_bl (n:=xs.length-1-i) (k:=j-i) (by omega)
   have htb:bl (cf (plc xs a b) i*(chz (xs.length-1-i) (j-i):Int)).natAbs≤7025:=Zat (p7 i) hcb
   have hsb:=Zhd (d:=xs.length-1) (j:=j) p7 (by omega) i
   have hsb2:=Km (Zie (plc xs a b) (xs.length-1) j i) (cf (plc xs a b) i*(chz (xs.length-1-i) (j-i):Int))
   refine Zb<|Zb<|Zg<|mv J J<|mv J J<|dt (De J J J) J<|mv J J<|Qx (d:=94) J (fun s395=>?_) (fun s395=>?_)
   ·refine gdt (Ym J J) J J J J<|gdt (Ym J J) J J J J<|gdt (Zy J J (i:=8) J Zi Qn) J J J J<|gdt (Qb J J J) J J J J<|dt (Xh J J J) J<|Zf<|Za<|Zq J (fun h395=>?_) (fun h395=>?_)
    ·refine Zk<|Za<|Zb<|Zl<|Dd [(16,_),(17,_),(18,_),(19,_),(20,_),(21,_),(87,_),(88,_),(95,_),(96,_),(97,_),(98,_)] [(0,_),(10,_),(1,_),(999,_),(2,_),(3,_),(4,_),(5,_),(6,_),(7,_),(8,_),(9,_)] (fun(b7:Nat)=>[(22,.pointer (some ⟨b7,0,none⟩)),(23,.int .i64 (Zpa (cf (plc xs a b) i*(chz (xs.length-1-i) (j-i):Int))))]) (fun(b7:Nat)=>[(97,box b7 31 (wc (cf (plc xs a b) i*(chz (xs.length-1-i) (j-i):Int))))]) (fun(b7:Nat)=>True) K12 K12 ?_ ?_
     ·refine Nr [8,9] [20] (by kernel_rfl)<|Zx (n:=8) [(0,0),(1,0),(2,0),(3,0),(4,0),(5,0),(6,0),(7,0),(8,0),(9,0),(10,0),(11,0),(12,0)] (by kernel_rfl)<|r0' J J J J (stf (Ym J J) K2)<|r0' J J J J (stf (Ym J J) K2)<|r0' J J J J (stf (Yz (ii:=8) J J J J Zi Qn Yk J (by first | omega | (simp only [List.length_set];omega))) K2)<|r0' J J J J (stf (Xs (ii:=8) 0 J J J Zi pV (by first | omega | (simp only [List.length_set];omega))) K2)<|r0' J J J J (stf (Ym J J) K2)<|r0' J J J J (stf (Ym J J) K2)<|r0' J J J J (stf (Qg J J J ⟨by omega,by omega⟩) K2)<|r0' J J J J (stf (Ym J J) K2)<|r0' J J J J (stf (Ym J J) K2)<|r0' J J J J (stf (Qg J J J ⟨by omega,by omega⟩) K2)<|r0' J J J J (stf (Zei (i:=(xs.length-1-i)) J J J Zp0 Zpq (by omega) (by omega)) K2)<|r0' J J J J (stf (Zei (i:=(j-i)) J J J Zon zT3 (by omega) (by omega)) K2)<|r0' J J J J (stf (Ye (r':= .int .i64 ((chz (xs.length-1-i) (j-i):Nat):Int)) (d_lw (i:=9) J J J iA3 (by have:=hg.len;omega)) (congrArg (Value.int .i64) (hg.get (j:=0+(xs.length-1-i)*25+(j-i)*1) (by omega) (by omega) (.inl (by omega)) (by omega)))) K2)<|Yr ?_
      refine Pu (n:=7) 13 18 (by kernel_rfl) ?_ ?_
      ·refine Yo J J (Zh (n:=10) (Xa ((chz (xs.length-1-i) (j-i):Nat):Int) ⟨by omega,by omega⟩) J J J K1 Cu Ze J hw) fun _ _=>Pu (n:=6) 14 18 (by kernel_rfl) ?_ ?_
       ·exact Yo J J (Zh (n:=10) (Ee (cf (plc xs a b) i) ((chz (xs.length-1-i) (j-i):Nat):Int) (Nat.le_trans (p7 i) (by omega)) (by omega)) J J J K2 Zl3 Ze J hw) fun _ _=>Zx (n:=0) [(15,0),(16,0),(17,0),(18,1),(19,1),(20,3)] (by kernel_rfl)<|r0' J J J J (stf (Ym J J) K2)<|r0' J J J J (stf (Yg J J J) K2)<|r0' J J J J (stf (Yg J J J) K2)<|r1' J J (Zt (i:=97) J J J Tryz.zeroValue31 J J hw K2) fun bx_9 ho=>r1' J J (Zm (i:=97) J J J J J (by decide) J Yk J J ⟨Zc J,Zc J,trivial⟩ J hw ho) fun _ _=>r3' J J (Od (Kk J J) J J) fun _ _=>Yr<|Yl (by kernel_rfl)<|Qv _ trivial K14 ⟨(congrArg (fun z=>some (box _ 31 (wc z))) (Ot (show bl (cf (plc xs a b) i*(chz (xs.length-1-i) (j-i):Int)).natAbs≤65536 by omega))),J,J,J,J,J,J,J,J,J,J,J,J,trivial⟩
       ·exact Yo J J (Zt (i:=97) J J J Tryz.zeroValue31 J J hw K2) fun bx_10 ho2=>Zx (n:=0) [(14,1),(15,0),(16,0),(17,0),(19,1),(20,3)] (by kernel_rfl)<|r1' J J (Zh (n:=10) (Ee (cf (plc xs a b) i) ((chz (xs.length-1-i) (j-i):Nat):Int) (Nat.le_trans (p7 i) (by omega)) (by omega)) J J J K2 Zl3 Ze J hw) fun _ _=>r0' J J J J (stf (Ym J J) K2)<|r0' J J J J (stf (Yg J J J) K2)<|r0' J J J J (stf (Yg J J J) K2)<|r1' J J (Zm (i:=97) J J J J J (by decide) J Yk J J ⟨Zc J,Zc J,trivial⟩ J hw ho2) fun _ _=>r3' J J (Od (Kk J J) J J) fun _ _=>Yr<|Yl (by kernel_rfl)<|Qv _ trivial K14 ⟨(congrArg (fun z=>some (box _ 31 (wc z))) (Ot (show bl (cf (plc xs a b) i*(chz (xs.length-1-i) (j-i):Int)).natAbs≤65536 by omega))),J,J,J,J,J,J,J,J,J,J,J,J,trivial⟩
      ·exact Yo J J (Zt (i:=97) J J J Tryz.zeroValue31 J J hw K2) fun bx_11 ho3=>Zx (n:=0) [(13,1),(14,1),(15,0),(16,0),(17,0),(19,1),(20,3)] (by kernel_rfl)<|r1' J J (Zh (n:=10) (Xa ((chz (xs.length-1-i) (j-i):Nat):Int) ⟨by omega,by omega⟩) J J J K1 Cu Ze J hw) fun _ _=>r1' J J (Zh (n:=10) (Ee (cf (plc xs a b) i) ((chz (xs.length-1-i) (j-i):Nat):Int) (Nat.le_trans (p7 i) (by omega)) (by omega)) J J J K2 Zl3 Ze J hw) fun _ _=>r0' J J J J (stf (Ym J J) K2)<|r0' J J J J (stf (Yg J J J) K2)<|r0' J J J J (stf (Yg J J J) K2)<|r1' J J (Zm (i:=97) J J J J J (by decide) J Yk J J ⟨Zc J,Zc J,trivial⟩ J hw ho3) fun _ _=>r3' J J (Od (Kk J J) J J) fun _ _=>Yr<|Yl (by kernel_rfl)<|Qv _ trivial K14 ⟨(congrArg (fun z=>some (box _ 31 (wc z))) (Ot (show bl (cf (plc xs a b) i*(chz (xs.length-1-i) (j-i):Int)).natAbs≤65536 by omega))),J,J,J,J,J,J,J,J,J,J,J,J,trivial⟩
     ·rintro b7 -
      simp only [List.cons_append,List.nil_append]
      refine Zb<|Zb<|Zg<|mv J J<|dt (Ye (r':= .bool false) (Qd J J J) (congrArg Value.bool (decide_eq_false (fun h=>h (Et (show bl (cf (plc xs a b) i*(chz (xs.length-1-i) (j-i):Int)).natAbs≤65536 by omega)))))) J<|Zf<|Za<|Yf J<|Zk<|Za<|Zb<|Zg<|dt (Yc (i:=10) J J J Qo Yk J J) J<|dt (Yc (i:=97) J J J Qo Yk J J) J<|tt (Zh (n:=10) (Gh (Zie (plc xs a b) (xs.length-1) j i) (cf (plc xs a b) i*(chz (xs.length-1-i) (j-i):Int)) (by omega) (by omega)) J J J K2 cF82 Ze J hw) J fun _ _=>mv J J<|dt (Yg J J J) J<|dt (Yg J J J) J<|tt (Zm (i:=10) J J J J J (by decide) J Yk J J ⟨Zc J,Zc J,trivial⟩ J hw trivial) J fun _ _=>Pq (Gf 10 (q:=box bx_8 31 (wc (Zie (plc xs a b) (xs.length-1) j (i+1)))) (congrArg (fun z=>box bx_8 31 (wc z)) ((Ot (show bl ((Zie (plc xs a b) (xs.length-1) j i)+(cf (plc xs a b) i*(chz (xs.length-1-i) (j-i):Int))).natAbs≤65536 by omega)).trans (Zi3 _ _ _ _).symm)) J J)<|as_ J J<|Zf<|Za<|Zb<|Zg<|mv J J<|dt (Ye (r':= .bool false) (Qd J J J) (congrArg Value.bool (decide_eq_false (fun h=>h (Et (show bl ((Zie (plc xs a b) (xs.length-1) j i)+(cf (plc xs a b) i*(chz (xs.length-1-i) (j-i):Int))).natAbs≤65536 by omega)))))) J ?_
      exact Zf<|Za<|Yf J<|Zk<|Ob<|Za<|Zg<|mv J J<|dt (Yt J J J ⟨by omega,by omega⟩) J<|as_ J J<|Zf<|Xq (i+1) ⟨by first | omega | (dsimp only<;>omega),by first | omega | (dsimp only<;>omega)⟩ (by first | omega | (dsimp only<;>omega)) K8 K12
    ·refine Yu<|Zs<|Zs<|Ox<|Za<|Zb ?_
     obtain rfl:i=(min (j+1) (plc xs a b).length):=by omega
     have hsb:=Zhd (d:=xs.length-1) (j:=j) p7 (by omega) (min (j+1) (plc xs a b).length)
     refine Zg<|dt (Yc (i:=10) J J J Qo Yk J J) J<|tt (Zh (n:=10) (Mh (Zie (plc xs a b) (xs.length-1) j (min (j+1) (plc xs a b).length)) (by omega)) J J J K1 Zbt Ze J hw) J fun _ _=>dt (Qb J J J) J<|Zf<|Za<|Zq J (fun h404=>?_) (fun h404=>?_)
     ·have hpn:=(Qk _).1 h404
      exact Zb<|Zg<|as_ J J<|as_ J J<|Zf<|Za<|Zu<|Iw<|Xe<|Xe<|Iw<|Xe<|Zv (.inl J) hsc () _ (fun a w hs=>Ni hs Tryz.results93 J J) (by rw [Zrg h0 (by omega) hpn]) trivial J Zj
     ·have hpi:¬(Zie (plc xs a b) (xs.length-1) j (min (j+1) (plc xs a b).length))<0:=fun e=>h404 ((Qk _).2 e)
      exact Zk<|Ob<|Za<|Zg<|dt (Yt J J J ⟨by omega,by omega⟩) J<|mv J J<|Zf<|Xq (j+1) ⟨by first | omega | (dsimp only<;>omega),fun k hk2=>by rcases Nat.lt_succ_iff_lt_or_eq.1 hk2 with h9 | h9;exact hz k h9;subst h9;have h8:=hpi;omega⟩ (by first | omega | (dsimp only<;>omega)) K5 K11
   ·refine gsk J J J J J<|gsk J J J J J<|gsk J J J J J<|gsk J J J J J<|dt (Yh J J J) J<|Zf<|Za<|Yf J<|Yu<|Zs<|Zs<|Ox<|Za<|Zb ?_
    obtain rfl:i=(min (j+1) (plc xs a b).length):=by omega
    have hsb:=Zhd (d:=xs.length-1) (j:=j) p7 (by omega) (min (j+1) (plc xs a b).length)
    refine Zg<|dt (Yc (i:=10) J J J Qo Yk J J) J<|tt (Zh (n:=10) (Mh (Zie (plc xs a b) (xs.length-1) j (min (j+1) (plc xs a b).length)) (by omega)) J J J K1 Zbt Ze J hw) J fun _ _=>dt (Qb J J J) J<|Zf<|Za<|Zq J (fun h404_2=>?_) (fun h404_2=>?_)
    ·have hpn:=(Qk _).1 h404_2
     exact Zb<|Zg<|as_ J J<|as_ J J<|Zf<|Za<|Zu<|Iw<|Xe<|Xe<|Iw<|Xe<|Zv (.inl J) hsc () _ (fun a w hs=>Ni hs Tryz.results93 J J) (by rw [Zrg h0 (by omega) hpn]) trivial J Zj
    ·have hpi:¬(Zie (plc xs a b) (xs.length-1) j (min (j+1) (plc xs a b).length))<0:=fun e=>h404_2 ((Qk _).2 e)
     exact Zk<|Ob<|Za<|Zg<|dt (Yt J J J ⟨by omega,by omega⟩) J<|mv J J<|Zf<|Xq (j+1) ⟨by first | omega | (dsimp only<;>omega),fun k hk2=>by rcases Nat.lt_succ_iff_lt_or_eq.1 hk2 with h9 | h9;exact hz k h9;subst h9;have h8:=hpi;omega⟩ (by first | omega | (dsimp only<;>omega)) K5 K11
  ·exact Yu<|Zs<|Zs<|Ox<|Za<|Zb<|Zg<|as_ J J<|as_ J J<|Zf<|Za<|Zu<|Zv (.inl J) hsc () _ (fun a w hs=>Ni hs Tryz.results93 J J) (by rw [plain_t h0 (fun k hk=>hz k (by omega))]) trivial J Zj
end Go.Sky
namespace Go.Sky
open Go.Proofs
set_option maxRecDepth 20000
set_option maxHeartbeats 4000000
set_option linter.unusedSimpArgs false
theorem Zex(v u:Value)(xs:List Int)(ps:List PTs)(a b:R2)(hd:Cvd xs)(ha:E32 a)(hb:E32 b)(hp:ValP ps)(hl:ps.length≤200):Cal Tryz.prog 58 #[v,.agg #[.bool (decide (a.1<0)),.string (Xd a.1.natAbs),.bool (decide (a.2<0)),.string (Xd a.2.natAbs)],.agg #[.bool (decide (b.1<0)),.string (Xd b.1.natAbs),.bool (decide (b.2<0)),.string (Xd b.2.natAbs)],u] [slp 2 wv v xs,slp 9 Zhx u ps] false (G:=Unit) (fun _=>True) (fun _=> .int .i64 (if 0<cmp a b then 3 else 0)) (fun _=>[]):=by
 refine Yd Tryz.func58 J Tryz.ntmps58 J K2 ?_
 intro w0 sc hw hsc
 simp only [Zp,Zn]
 have hv:=hd.v
 have ha1:=ha.b1
 have ha2:=ha.b2
 have hap:=ha.p
 have hb1:=hb.b1
 have hb2:=hb.b2
 have hbp:=hb.p
 refine Nw (Hz (i:=2) J Zi) fun hlen=>Ys (Nj 999 2 31 wv)<|Ys (Po 999 J J pV)<|Zb<|Zg<|tt (Xl (i:=3) J J J J J J hw) J fun bx _=>tt (Xl (i:=4) J J J J J J hw) J fun bx_2 _=>as_ J J<|Zf<|Za<|Zb<|Zb<|Zg<|mv J J<|tt (Zh (n:=4) (Xm _ _ (by assumption)) J J J K1 Zcf (Zd 1 J J J Ze) J hw) J fun _ _=>dt (Ye (r':= .bool false) (Xo J J) (congrArg Value.bool (by decide))) J<|mv J J<|gdt (Xi (i:=3) J J J Pp Xx J J J J) J J J J<|gtt (Zh (n:=4) (Qq a.1 a.2 (by omega) (by omega) hap) J J J K1 Zeo Ze J hw) J J J J fun _ _=>gdt (Ye (r':= .bool false) (Xo J J) (congrArg Value.bool (by decide))) J J J J<|dt (Yh J J J) J<|mv J J<|gdt (Xi (i:=4) J J J Pp Xx J J J J) J J J J<|gtt (Zh (n:=4) (Qq b.1 b.2 (by omega) (by omega) hbp) J J J K1 Zeo Ze J hw) J J J J fun _ _=>gdt (Ye (r':= .bool false) (Xo J J) (congrArg Value.bool (by decide))) J J J J<|dt (Yh J J J) J<|mv J J<|gdt (Ym J J) J J J J<|gdt (Zy J J (i:=2) J Zi Zus) J J J J<|gdt (Ye (r':= .bool false) (On J J J) (congrArg Value.bool (decide_eq_false (by omega)))) J J J J<|dt (Yh J J J) J<|Zf<|Za<|Yf J<|Zk<|Za<|Zb<|Zg<|mv J J ?_
 refine tt (Zh (n:=4) (Zgy _ xs hv) J J J K1 cF14 (Zd 1 J J J Ze) J hw) J fun _ _=>dt (Ye (r':= .bool false) (Ze2 J J) (congrArg Value.bool (decide_eq_false (fun h=>h (Ev hd (by omega)))))) J<|mv J J<|gdt (Xi (i:=3) J J J Pp Xx J J J J) J J J J<|gtt (Zh (n:=4) (Kn a.1 a.2 (by omega) (by omega)) J J J K1 cF95 Ze J hw) J J J J fun _ _=>gdt (Ye (r':= .bool false) (Xo J J) (congrArg Value.bool (by rw [ha.efit];rfl))) J J J J<|dt (Yh J J J) J<|mv J J<|gdt (Xi (i:=4) J J J Pp Xx J J J J) J J J J<|gtt (Zh (n:=4) (Kn b.1 b.2 (by omega) (by omega)) J J J K1 cF95 Ze J hw) J J J J fun _ _=>gdt (Ye (r':= .bool false) (Xo J J) (congrArg Value.bool (by rw [hb.efit];rfl))) J J J J<|dt (Yh J J J) J<|as_ J J<|Zf<|Za<|Zb<|Zb<|Zg<|mv J J<|dt (Zy J J (i:=2) J Zi Zus) J<|mv J J<|Zf<|Za<|Zl<|Nt [(5,_),(6,_),(43,_),(44,_)] [(0,_),(1,_),(2,_),(999,_),(3,_),(4,_)] (fun(i:Nat)=>[(45,.int .i64 (i:Int)),(9,.bool false)]) (fun(i:Nat)=>[]) (fun(i:Nat)=>i≤ps.length) (fun(i:Nat)=>ps.length-i) 0 (by first | omega | (dsimp only<;>omega)) K6 K6 ?_
 rintro i hi
 simp only [List.cons_append,List.nil_append]
 refine Zb<|Zg<|dt (Qb J J J) J<|Zf<|Za<|Zb<|Zq J (fun h39=>?_) (fun h39=>?_)
 ·refine Zk<|Za<|Zb<|Zl<|Zb<|Zg<|dt (Yz (ii:=2) J J J J Zi Zus zT79 J (by first | omega | (simp only [List.length_set];omega))) J<|dt (Xs (ii:=2) P0 J J J Zi pP9 (by first | omega | (simp only [List.length_set];omega))) J<|tt (Zo (i:=5) J J J Tryz.zeroValue79 J J hw) J fun bx_3 _=>tt (Zm (i:=5) J J J J J (by decide) J zT79 J J ⟨Zc J,Zc J,Zc J,Zc J,Zc J,Zc J,Zc J,Zc J,Zc J,trivial⟩ J hw trivial) J fun _ _=>Zf<|Za<|Zb<|Zb ?_
  obtain⟨hk,hf1,hf2⟩:=hp (ps.getD i P0) (Yv (by omega))
  have hf11:=hf1.b1
  have hf12:=hf1.b2
  have hf1p:=hf1.p
  have hf21:=hf2.b1
  have hf22:=hf2.b2
  have hf2p:=hf2.p
  refine Zg<|dt (Xy J J Zet J zT77 J J) J<|dt (Oa (i:=5) J J J iA77 J) J<|dt (Qd J J J) J<|mv J J<|Qx (d:=52) J (fun s40=>?_) (fun s40=>?_)
  ·refine gdt (Xy J J Zet J zT77 J J) J J J J<|gdt (Oa (i:=5) J J J iA77 J) J J J J<|gdt (Ye (r':= .bool false) (Qd J J J) (congrArg Value.bool (decide_eq_false (by omega)))) J J J J<|dt (Xh J J J) J<|mv J J<|gdt (Xy J J Zet J Xx J J) J J J J<|gdt (Xi (i:=5) J J J Pp Xx J J J J) J J J J<|gtt (Zh (n:=5) (Qq (ps.getD i P0).2.1.1 (ps.getD i P0).2.1.2 (by omega) (by omega) hf1p) J J J K1 Zeo Ze J hw) J J J J fun _ _=>gdt (Xo J J) J J J J<|dt (Yh J J J) J<|mv J J<|gdt (Xy J J Zet J Xx J J) J J J J<|gdt (Xi (i:=5) J J J Pp Xx J J J J) J J J J<|gtt (Zh (n:=5) (Qq (ps.getD i P0).2.2.1 (ps.getD i P0).2.2.2 (by omega) (by omega) hf2p) J J J K1 Zeo Ze J hw) J J J J fun _ _=>gdt (Xo J J) J J J J<|dt (Yh J J J) J<|Zf<|Za<|Yf J<|Zk<|Za<|Zg<|mv J J<|mv J J<|gdt (Xy J J Zet J Xx J J) J J J J<|gdt (Xi (i:=5) J J J Pp Xx J J J J) J J J J<|gtt (Zh (n:=5) (Kn (ps.getD i P0).2.1.1 (ps.getD i P0).2.1.2 (by omega) (by omega)) J J J K1 cF95 Ze J hw) J J J J fun _ _=>gdt (Ye (r':= .bool false) (Xo J J) (congrArg Value.bool (by rw [(show efit ((ps.getD i P0).2.1.1,(ps.getD i P0).2.1.2)=true from hf1.efit)];rfl))) J J J J<|dt (Yh J J J) J<|mv J J ?_
   exact gdt (Xy J J Zet J Xx J J) J J J J<|gdt (Xi (i:=5) J J J Pp Xx J J J J) J J J J<|gtt (Zh (n:=5) (Kn (ps.getD i P0).2.2.1 (ps.getD i P0).2.2.2 (by omega) (by omega)) J J J K1 cF95 Ze J hw) J J J J fun _ _=>gdt (Ye (r':= .bool false) (Xo J J) (congrArg Value.bool (by rw [(show efit ((ps.getD i P0).2.2.1,(ps.getD i P0).2.2.2)=true from hf2.efit)];rfl))) J J J J<|dt (Yh J J J) J<|as_ J J<|Zf<|Ob<|Za<|Zg<|dt (Yt J J J ⟨by omega,by omega⟩) J<|mv J J<|Zf<|Xq (i+1) (by first | omega | (dsimp only<;>omega)) (by first | omega | (dsimp only<;>omega)) K6 K6
  ·refine gsk J J J J J<|gsk J J J J J<|gsk J J J J J<|dt (Yh J J J) J<|mv J J<|gdt (Xy J J Zet J Xx J J) J J J J<|gdt (Xi (i:=5) J J J Pp Xx J J J J) J J J J<|gtt (Zh (n:=5) (Qq (ps.getD i P0).2.1.1 (ps.getD i P0).2.1.2 (by omega) (by omega) hf1p) J J J K1 Zeo Ze J hw) J J J J fun _ _=>gdt (Xo J J) J J J J<|dt (Yh J J J) J<|mv J J<|gdt (Xy J J Zet J Xx J J) J J J J<|gdt (Xi (i:=5) J J J Pp Xx J J J J) J J J J<|gtt (Zh (n:=5) (Qq (ps.getD i P0).2.2.1 (ps.getD i P0).2.2.2 (by omega) (by omega) hf2p) J J J K1 Zeo Ze J hw) J J J J fun _ _=>gdt (Xo J J) J J J J<|dt (Yh J J J) J<|Zf<|Za<|Yf J<|Zk<|Za<|Zg<|mv J J<|mv J J<|gdt (Xy J J Zet J Xx J J) J J J J<|gdt (Xi (i:=5) J J J Pp Xx J J J J) J J J J<|gtt (Zh (n:=5) (Kn (ps.getD i P0).2.1.1 (ps.getD i P0).2.1.2 (by omega) (by omega)) J J J K1 cF95 Ze J hw) J J J J fun _ _=>gdt (Ye (r':= .bool false) (Xo J J) (congrArg Value.bool (by rw [(show efit ((ps.getD i P0).2.1.1,(ps.getD i P0).2.1.2)=true from hf1.efit)];rfl))) J J J J<|dt (Yh J J J) J<|mv J J<|gdt (Xy J J Zet J Xx J J) J J J J<|gdt (Xi (i:=5) J J J Pp Xx J J J J) J J J J ?_
   exact gtt (Zh (n:=5) (Kn (ps.getD i P0).2.2.1 (ps.getD i P0).2.2.2 (by omega) (by omega)) J J J K1 cF95 Ze J hw) J J J J fun _ _=>gdt (Ye (r':= .bool false) (Xo J J) (congrArg Value.bool (by rw [(show efit ((ps.getD i P0).2.2.1,(ps.getD i P0).2.2.2)=true from hf2.efit)];rfl))) J J J J<|dt (Yh J J J) J<|as_ J J<|Zf<|Ob<|Za<|Zg<|dt (Yt J J J ⟨by omega,by omega⟩) J<|mv J J<|Zf<|Xq (i+1) (by first | omega | (dsimp only<;>omega)) (by first | omega | (dsimp only<;>omega)) K6 K6
 ·refine Yu<|Zs<|Zs<|Ox<|Za<|Zb<|Zb<|Zg<|dt (Xi (i:=3) J J J Pp Xx J J J J) J<|dt (Xi (i:=4) J J J Pp Xx J J J J) J<|tt (Zh (n:=5) (Hr a.1 a.2 b.1 b.2 (by omega) (by omega) (by omega) (by omega) hap hbp) J J J K2 cF96 Ze J hw) J fun _ _=>dt (On J J J) J<|Zf<|Za<|Zq J (fun h45=>?_) (fun h45=>?_)
  ·exact Zb<|Zg<|as_ J J<|Zf<|Za<|Zu<|Xe<|Zv (.inl J) hsc () _ (fun a w hs=>Qj hs Tryz.results58 J) (by rw [if_pos (by assumption)]) trivial J Zj
  ·exact Zk<|Za<|Zb<|Zb<|Zg<|mv J J<|Zf<|Za<|Yf J<|Zk<|Za<|Zb<|Zg<|as_ J J<|Zf<|Za<|Zu<|Zv (.inl J) hsc () _ (fun a w hs=>Qj hs Tryz.results58 J) (by rw [if_neg (by assumption)]) trivial J Zj
set_option maxHeartbeats 4000000 in
theorem Zkm(v:Value)(xs:List Int)(a b:R2)(hd:Cvd xs)(ha:E32 a)(hb:E32 b)(hc:¬0<cmp a b)(hn:ngb (Nm xs) (chx xs) a b=true):Cal Tryz.prog 38 #[v,.agg #[.bool (decide (a.1<0)),.string (Xd a.1.natAbs),.bool (decide (a.2<0)),.string (Xd a.2.natAbs)],.agg #[.bool (decide (b.1<0)),.string (Xd b.1.natAbs),.bool (decide (b.2<0)),.string (Xd b.2.natAbs)]] [slp 2 wv v xs] false (G:=Unit) (fun _=>True) (fun _=> .tuple #[.slice none 0 0,.int .i64 10]) (fun _=>[]):=by
 refine Yd Tryz.func38 J Tryz.ntmps38 J K1 ?_
 intro w0 sc hw hsc
 simp only [Zp,Zn]
 refine e_ex (Oq 1 J Zi) (fun sv hsv=>?_)
 subst hsv
 have ha1:=ha.b1
 have ha2:=ha.b2
 have hap:=ha.p
 have hb1:=hb.b1
 have hb2:=hb.b2
 have hbp:=hb.p
 exact Zb<|Zg<|tt (Xl (i:=2) J J J J J J hw) J fun bx _=>tt (Xl (i:=3) J J J J J J hw) J fun bx_2 _=>tt (Xl (i:=4) J J J J J J hw) J fun bx_3 _=>as_ J J<|as_ J J<|Zf<|Za<|Zb<|Zg<|dt (Oa (i:=2) J J J iA23 J) J<|dt (Xi (i:=3) J J J Pp Xx J J J J) J<|dt (Xi (i:=4) J J J Pp Xx J J J J) J<|tt (Zh (n:=4) (Di _ xs a b hd ha hb hc hn) J J J K3 cF21 (Zd 1 J J J Ze) J hw) J fun g hg=>mv J J<|dt (Yg J J J) J<|dt (Yg J J J) J<|dt (Yg J J J) J<|tt (Zo (i:=5) J J J Tryz.zeroValue41 J J hw) J fun bx_4 _=>tt (Zm (i:=5) J J J J J (by decide) J Xx J J ⟨Zc J,Zc J,Zc J,Zc J,trivial⟩ J hw trivial) J fun _ _=>as_ J J<|as_ J J<|Zf<|Za<|Zb<|Zl<|Zb<|Zg<|mv J J<|dt (Ye (r':= .bool false) (Qd J J J) (congrArg Value.bool (by decide))) J<|as_ J J<|Zf<|Za<|Yf J<|Zb<|Zg<|mv J J<|as_ J J<|Zf<|Za<|Nf J<|Zb<|Zg<|as_ J J<|as_ J J<|Zf<|Za<|Zu<|Iw<|Xe<|Zv (.inl J) hsc () _ (fun a w hs=>Ni hs Tryz.results38 J J) J trivial J Zj
end Go.Sky

