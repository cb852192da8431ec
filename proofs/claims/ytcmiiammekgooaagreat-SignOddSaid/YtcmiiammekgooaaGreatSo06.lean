/- rules, arithmetic and contracts: part 7
   Proved without conditions of its own: each theorem bears its own. -/
import Derived.Test.YtcmiiammekgooaaGreatSo03
import Derived.Test.YtcmiiammekgooaaGreatSo02
import Derived.Test.YtcmiiammekgooaaGreatSo01
import Derived.Test.YtcmiiammekgooaaGreatSo05
set_option linter.all false
namespace Go.Sky
open Go.Proofs
set_option maxRecDepth 20000
set_option maxHeartbeats 4000000
set_option linter.unusedSimpArgs false
theorem Fq(v:Value)(xs:List Int)(c:Int)(hv:Vp xs)(hc:bl c.natAbs≤65536)(hz:∀i,bl (cf xs i*c).natAbs≤65536):Cal Tryz.prog 151 #[v,wv c] [slp 2 wv v xs] true (G:=Value) (fun r=>True) (fun r=> .tuple #[r,.int .i64 0]) (fun r=>[slp 2 wv r (Xk xs c)]):=by
 refine Yd Tryz.func151 J Tryz.ntmps151 J K1 ?_
 intro w0 sc hw hsc
 simp only [Zp,Zn]
 have hlen:=hv.len
 refine Zb<|Zg<|tt (Xl (i:=2) J J J J J J hw) J fun b _=>as_ J J<|as_ J J<|Zf<|Za<|Zb<|Zb<|Zg<|mv J J<|tt (Zh (n:=2) (Xm _ _ (by assumption)) J J J K1 Zcf (Zd 1 J J J Ze) J hw) J fun _ _=>dt (Xo J J) J<|mv J J<|gdt (Yc (i:=2) J J J Qo Yk J J) J J J J<|gtt (Zh (n:=2) (Lr _ (by assumption)) J J J K1 Ze7 Ze J hw) J J J J fun _ _=>gdt (Xo J J) J J J J<|dt (Yh J J J) J<|Zf<|Za<|Yf J<|Zk<|Za<|Zb<|Zg<|tt (Zo (i:=3) J J J Tryz.zeroValue167 J J hw) J fun b_2 _=>Zf<|Za<|Zb<|Zg<|mv J J<|dt (Zy J J (i:=1) J Zi Qn) J<|tt (Hw (i:=4) (n:=_) (by_:=24) (enc:=wv) 0 J J J J J J Qn Tryz.ti31 J pV.cells pV.pos J J (by omega) (by decide) J hw) J fun v _=>as_ J J<|Zf<|Za<|Zb<|Zb<|Zg<|mv J J<|dt (Zy J J (i:=1) J Zi Qn) J<|mv J J<|Zf<|Za<|Zl ?_
 refine Nt [(3,_),(6,_),(7,_),(21,_),(22,_)] [(0,_),(1,_),(2,_),(3,_)] (fun(k:Nat)=>[(23,.int .i64 (k:Int))]) (fun(k:Nat)=>[(4,osl 2 31 wv v (fill xs.length k (fun i=>cf xs i*c)))]) (fun(k:Nat)=>k≤xs.length) (fun(k:Nat)=>xs.length-k) 0 (by first | omega | (dsimp only<;>omega)) K6 ⟨by rw [Dy xs.length (fun i=>cf xs i*c)];rfl,rfl,rfl,rfl,rfl,trivial⟩ ?_
 rintro k hk
 simp only [List.cons_append,List.nil_append]
 refine Zb<|Zg<|dt (Qb J J J) J<|Zf<|Za<|Zb<|Zq J (fun h159=>?_) (fun h159=>?_)
 ·exact Zk<|Za<|Zb<|Zl<|Zb<|Zg<|mv J J<|dt (Yz (ii:=1) J J J J Zi Qn Yk J (by first | omega | (simp only [List.length_set];omega))) J<|dt (Xs (ii:=1) 0 J J J Zi pV (by first | omega | (simp only [List.length_set];omega))) J<|tt (Zo (i:=5) J J J Tryz.zeroValue31 J J hw) J fun b_3 _=>as_ J J<|tt (Zm (i:=5) J J J J J (by decide) J Yk J J ⟨Zc J,Zc J,trivial⟩ J hw trivial) J fun _ _=>Zf<|Za<|Zg<|mv J J<|mv J J<|dt (Yc (i:=5) J J J Qo Yk J J) J<|dt (Yc (i:=2) J J J Qo Yk J J) J<|tt (Oc (n:=5) (i:=3) (Fy _ _ _ (hv.sz.getD _) hc (hz _)) J J J K3 Zbr J (by decide) Ze J hw trivial) J fun _ _=>dt (Yz (ii:=4) (i:=k) J J J J (Yn pV) Qn Yk J (by rw [Of];omega)) J<|tt (Kr (i:=4) (enc:=wv) _ J J J J J J (by decide) pV (by rw [Of];omega) J hw) J fun _ _=>Zf<|Ob<|Za<|Zg<|dt (Yt J J J ⟨by omega,by omega⟩) J<|mv J J<|Zf<|Xq (k+1) (by first | omega | (dsimp only<;>omega)) (by first | omega | (dsimp only<;>omega)) K6 ⟨by rw [←Zcx (by omega)];rfl,rfl,rfl,rfl,rfl,trivial⟩
 ·refine Yu<|Zs<|Zs<|Ox<|Za<|Zb ?_
  obtain rfl:k=xs.length:=by omega
  exact Ys (Po 4 J J pV)<|Ys (s_rbox 3 J J)<|Zg<|mv J J<|tt (Zh (n:=6) (d_done _ _ _ (by rw [Eu];exact Ax fun i _=>hz i)) J J J K2 Zl1 (Zd 3 J J J (Zd 4 J J J Ze)) J hw) J fun _ _=>dt (Yg J J J) J<|dt (Yg J J J) J<|as_ J J<|as_ J J<|Zf<|Za<|Zu<|Zv (.inl J) hsc _ _ (fun a w hs=>Ni hs Tryz.results151 J J) J trivial J (Yj 6 J J J (by rw [Zq8]<;>rfl) Zj)
theorem Eo(v:Value)(xs:List Int)(hv:Vp xs)(hz:∀i,bl (cf xs (i+1)*((i:Int)+1)).natAbs≤65536):Cal Tryz.prog 109 #[v] [slp 2 wv v xs] true (G:=Value) (fun r=>True) (fun r=> .tuple #[r,.int .i64 0]) (fun r=>[slp 2 wv r (Pj xs)]):=by
 refine Yd Tryz.func109 J Tryz.ntmps109 J K1 ?_
 intro w0 sc hw hsc
 simp only [Zp,Zn]
 have hlen:=hv.len
 refine Zb<|Zg<|as_ J J<|as_ J J<|Zf<|Za<|Zb<|Zb<|Zg<|mv J J<|tt (Zh (n:=1) (Xm _ _ (by assumption)) J J J K1 Zcf (Zd 1 J J J Ze) J hw) J fun _ _=>dt (Xo J J) J<|Zf<|Za<|Yf J<|Zk<|Za<|Zb<|Zb<|Zg<|mv J J<|dt (Zy J J (i:=1) J Zi Qn) J<|dt (Pi J J J) J<|Zf<|Za<|Zq J (fun h170=>?_) (fun h170=>?_)
 ·exact Zb<|Zg<|as_ J J<|as_ J J<|Zf<|Za<|Zu<|Xe<|Zv (.inl J) hsc _ _ (fun a w hs=>Ni hs Tryz.results109 J J) J trivial J (Ld (Zv1 (by omega)) Zj)
 ·refine Zk<|Za<|Zb<|Zg<|tt (Zo (i:=2) J J J Tryz.zeroValue167 J J hw) J fun b _=>Zf<|Za<|Zb<|Zg<|mv J J<|dt (Zy J J (i:=1) J Zi Qn) J<|dt (Qg J J J ⟨by omega,by omega⟩) J<|tt (Hw (i:=3) (n:=(xs.length-1)) (by_:=24) (enc:=wv) 0 J J J J J (by omega) Qn Tryz.ti31 J pV.cells pV.pos J J (by omega) (by decide) J hw) J fun v _=>as_ J J<|Zf<|Za<|Zb<|Zb<|Zg<|mv J J<|dt (Zy J J (i:=3) J (Yn pV) Qn) J<|mv J J<|Zf<|Za<|Zl<|Nt [(0,_),(4,_),(5,_),(18,_)] [(0,_),(1,_),(2,_)] (fun(k:Nat)=>[(19,.int .i64 (k:Int))]) (fun(k:Nat)=>[(3,osl 2 31 wv v (fill (xs.length-1) k (fun i=>cf xs (i+1)*((i:Int)+1))))]) (fun(k:Nat)=>k≤xs.length-1) (fun(k:Nat)=>xs.length-1-k) 0 (by first | omega | (dsimp only<;>omega)) K5 ⟨by rw [Dy (xs.length-1) (fun i=>cf xs (i+1)*((i:Int)+1))];rfl,rfl,rfl,rfl,trivial⟩ ?_
  rintro k hk
  simp only [List.cons_append,List.nil_append]
  have hlf:(fill (xs.length-1) k (fun i=>cf xs (i+1)*((i:Int)+1))).length=xs.length-1:=Of _ _ _
  refine Zb<|Zg<|dt (Qb J J J) J<|Zf<|Za<|Zb<|Zq J (fun h175=>?_) (fun h175=>?_)
  ·try rw [List.length_replicate]at *
   refine Zk<|Za<|Zb<|Zl<|Zb<|Zg<|mv J J<|as_ J J<|Zf<|Za<|Qs (fun x=>x=b) [(0,0),(1,0),(2,0),(3,0),(4,0),(5,0),(6,0),(7,0),(8,0),(9,1),(10,1),(11,0),(12,3)] (by kernel_rfl) ?_ ?_
   ·kernel_rfl
   exact r0' J J J J (st1 2 J (Ym J J))<|r0' J J J J (st1 2 J (Ym J J))<|r0' J J J J (st1 2 J (Ym J J))<|r0' J J J J (st1 2 J (Ym J J))<|r0' J J J J (st1 2 J (Yt J J J ⟨by omega,by omega⟩))<|r0' J J J J (st1 2 J (Yz (ii:=1) (i:=k+1) J J J J Zi Qn Yk (by omega) (by omega)))<|r0' J J J J (st1 2 J (Xs (ii:=1) 0 J J J Zi pV (by omega)))<|r0' J J J J (st1 2 J (Ym J J))<|r0' J J J J (st1 2 J (Yt J J J ⟨by omega,by omega⟩))<|r1' J J (Zh (n:=3) (Xa _ (by first | assumption | exact⟨by omega,by omega⟩)) J J J K1 Cu Ze J hw) fun _ _=>r1' J J (Oc (n:=3) (i:=2) (Fy _ (cf xs (k+1)) ((k:Int)+1) (hv.sz _) (Nat.le_trans (Ok (n:=32) (by omega)) (by decide)) (hz k)) J J J K3 Zbr J (by decide) Ze J hw J) fun _ _=>r0' J J J J (st1 2 J (Yz (ii:=3) (i:=k) J J J J (Yn pV) Qn Yk J (by rw [Of];omega)))<|r3' J J (Kr (i:=3) (enc:=wv) _ J J J J J J (by decide) pV (by rw [Of];omega) J hw) fun _ _=>Og<|Ob<|Za<|Zg<|dt (Yt J J J ⟨by omega,by omega⟩) J<|mv J J<|Zf<|Xq (k+1) (by first | omega | (dsimp only<;>omega)) (by first | omega | (dsimp only<;>omega)) K5 ⟨by rw [←Zcx (by omega)];rfl,rfl,rfl,rfl,trivial⟩
  ·try rw [List.length_replicate]at *
   refine Yu<|Zs<|Zs<|Ox<|Za<|Zb ?_
   obtain rfl:k=xs.length-1:=by omega
   exact Ys (Po 3 J J pV)<|Ys (s_rbox 2 J J)<|Zg<|mv J J<|tt (Zh (n:=4) (d_done _ _ _ (by rw [Eu];exact Ax fun i _=>hz i)) J J J K2 Zl1 (Zd 2 J J J (Zd 3 J J J Ze)) J hw) J fun _ _=>dt (Yg J J J) J<|dt (Yg J J J) J<|as_ J J<|as_ J J<|Zf<|Za<|Zu<|Zv (.inl J) hsc _ _ (fun a w hs=>Ni hs Tryz.results109 J J) J trivial J (Yj 4 J J J (by rw [pder_mk hv.tr]<;>rfl) Zj)
theorem Zi6(v:Value)(xs:List Int)(hv:Vp xs):Cal Tryz.prog 181 #[v] [slp 2 wv v xs] false (G:=Unit) (fun _=>True) (fun _=> .tuple #[wv (Qa xs),.int .i64 0]) (fun _=>[]):=by
 refine Yd Tryz.func181 J Tryz.ntmps181 J K1 ?_
 intro w0 sc hw hsc
 simp only [Zp,Zn]
 have hlen:=hv.len
 have hcb:∀k,bl (Qa (xs.take k)).natAbs≤65536:=fun k=>Zct _ (hv.sz.take k)
 refine Zb<|Zg<|tt (Zo (i:=2) J J J Tryz.zeroValue31 J J hw) J fun b _=>as_ J J<|Zf<|Za<|Zb<|Zb<|Zg<|mv J J<|tt (Zh (n:=2) (Xm _ _ (by assumption)) J J J K1 Zcf (Zd 1 J J J Ze) J hw) J fun _ _=>dt (Xo J J) J<|Zf<|Za<|Yf J<|Zk<|Za<|Zb<|Zg<|tt (Zo (i:=3) J J J Tryz.zeroValue167 J J hw) J fun b_2 _=>Zf<|Za<|Zb<|Zg<|tt (Zo (i:=4) J J J Tryz.zeroValue31 J J hw) J fun b_3 _=>Zf<|Za<|Zb<|Zb<|Zg<|mv J J<|dt (Zy J J (i:=1) J Zi Qn) J<|mv J J<|Zf<|Za<|Zl<|Nt [(2,_),(4,_),(5,_),(12,_),(13,_)] [(0,_),(1,_),(2,_)] (fun(k:Nat)=>[(14,.int .i64 (k:Int))]) (fun(k:Nat)=>[(4,box b_3 31 #[.bool (decide (Qa (xs.take k)<0)),.string (Xd (Qa (xs.take k)).natAbs)]),(3,box b_2 167 #[.int .i64 0])]) (fun(k:Nat)=>k≤xs.length) (fun(k:Nat)=>xs.length-k) 0 (by first | omega | (dsimp only<;>omega)) K6 K5 ?_
 rintro k hk
 simp only [List.cons_append,List.nil_append]
 have hgc:=fun h=>Mn (p:=xs) (k:=k) h
 refine Zb<|Zg<|dt (Qb J J J) J<|Zf<|Za<|Zb<|Zq J (fun h264=>?_) (fun h264=>?_)
 ·refine Zk<|Za<|Zb<|Zl<|Zb<|Zg<|dt (Yz (ii:=1) J J J J Zi Qn Yk J (by first | omega | (simp only [List.length_set];omega))) J<|dt (Xs (ii:=1) 0 J J J Zi pV (by first | omega | (simp only [List.length_set];omega))) J<|tt (Zo (i:=5) J J J Tryz.zeroValue31 J J hw) J fun b_4 _=>tt (Zm (i:=5) J J J J J (by decide) J Yk J J ⟨Zc J,Zc J,trivial⟩ J hw trivial) J fun _ _=>Zf<|Za<|Zg<|dt (Xy J J Zgg J Zf7 J J) J<|dt (Yc (i:=4) J J J Qo Yk J J) J<|dt (Yc (i:=5) J J J Qo Yk J J) J<|tt (Zh (n:=5) (Zum (Qa (xs.take k)) (xs.getD k 0) (hcb _) (hv.sz.getD _)) J J J K2 cF196 Ze J hw) J fun _ _=>dt (Yg J J J) J<|dt (Yg J J J) J<|tt (Oc (n:=5) (i:=3) (Znt _ _ _ _ _ _) J J J K3 Zxa J (by decide) Ze J hw trivial) J fun _ _=>tt (Zm (i:=4) J J J J J (by decide) J Yk J J ⟨Zc J,Zc J,trivial⟩ J hw trivial) J fun _ _=>Zf<|Ob<|Za<|Zg<|dt (Yt J J J ⟨by omega,by omega⟩) J<|mv J J<|Zf ?_
  have hc1:=hcb (k+1)
  rw [hgc (by omega)]at hc1
  exact Xq (k+1) (by first | omega | (dsimp only<;>omega)) (by first | omega | (dsimp only<;>omega)) K6 ⟨by rw [hgc (by omega)];simp only [Ot hc1];rfl,by simp only [Et hc1];rfl,rfl,rfl,rfl,trivial⟩
 ·exact Yu<|Zs<|Zs<|Ox<|Za<|Zb<|Nr [3,4] [5] (by kernel_rfl)<|Zx (n:=0) [(0,0),(1,0),(2,0),(3,0),(4,1),(5,3)] (by kernel_rfl)<|r0' J J J J (stf (Yc (i:=4) J J J Qo Yk J J) K2)<|r0' J J J J (stf (Xy J J Zgg J Zf7 J J) K2)<|r0' J J J J (stf (Xy J J Zj9 J Gg J J) K2)<|r0' J J J J (stf (Oa (i:=3) J J J Bv J) K2)<|r1' J J (Zgl 2 J J K2 (fun ob=>(Zm (i:=2) J J J J J (by decide) J Yk J J ⟨Zc J,Zc J,trivial⟩ J hw ob))) fun _ _=>r3' J J (Od (Kk J J) J J) fun _ _=>Yr<|Yl (by kernel_rfl)<|Za<|Zu<|Zv (.inl J) hsc () _ (fun a w hs=>Ni hs Tryz.results181 (Yp (i:=2) J J Qo Yk J) J) (by rw [show k=xs.length by omega,List.take_length]<;>rfl) trivial J Zj
theorem Zhf(v:Value)(xs:List Int)(c:Int)(hv:Sz 65536 xs)(hlen:xs.length≤1000)(hc:bl c.natAbs≤65536)(hd:∀i,c∣cf xs i)(hc0:xs≠[]→c≠0):Cal Tryz.prog 182 #[v,wv c] [slp 2 wv v xs] true (G:=Value) (fun r=>True) (fun r=> .tuple #[r,.int .i64 0]) (fun r=>[slp 2 wv r (xs.map (· / c))]):=by
 refine Yd Tryz.func182 J Tryz.ntmps182 J K1 ?_
 intro w0 sc hw hsc
 simp only [Zp,Zn]
 refine Zb<|Zg<|tt (Xl (i:=2) J J J J J J hw) J fun b _=>as_ J J<|as_ J J<|Zf<|Za<|Zb<|Zg<|mv J J<|dt (Zy J J (i:=1) J Zi Qn) J<|tt (Hw (i:=3) (n:=_) (by_:=24) (enc:=wv) 0 J J J J J J Qn Tryz.ti31 J pV.cells pV.pos J J (by omega) (by decide) J hw) J fun v _=>as_ J J<|Zf<|Za<|Zb<|Zb<|Zg<|mv J J<|dt (Zy J J (i:=1) J Zi Qn) J<|mv J J<|Zf<|Za<|Zl<|Nt [(3,_),(6,_),(15,_),(16,_)] [(0,_),(1,_),(2,_)] (fun(k:Nat)=>[(17,.int .i64 (k:Int))]) (fun(k:Nat)=>[(3,osl 2 31 wv v (fill xs.length k (fun i=>cf xs i/c)))]) (fun(k:Nat)=>k≤xs.length) (fun(k:Nat)=>xs.length-k) 0 (by first | omega | (dsimp only<;>omega)) K5 ⟨by rw [Dy xs.length (fun i=>cf xs i/c)];rfl,rfl,rfl,rfl,trivial⟩ ?_
 rintro k hk
 simp only [List.cons_append,List.nil_append]
 have hcl:Zf2 (xs.getD k 0/c)=cf xs k/c:=Ot (Ir (hd k) (hv k))
 refine Zb<|Zg<|dt (Qb J J J) J<|Zf<|Za<|Zb<|Zq J (fun h273=>?_) (fun h273=>?_)
 ·refine Zk<|Za<|Zb<|Zl<|Zb<|Zg<|mv J J<|dt (Yz (ii:=1) J J J J Zi Qn Yk J (by first | omega | (simp only [List.length_set];omega))) J<|dt (Xs (ii:=1) 0 J J J Zi pV (by first | omega | (simp only [List.length_set];omega))) J<|tt (Zo (i:=4) J J J Tryz.zeroValue31 J J hw) J fun b_2 _=>as_ J J<|tt (Zm (i:=4) J J J J J (by decide) J Yk J J ⟨Zc J,Zc J,trivial⟩ J hw trivial) J fun _ _=>Zf<|Za<|Zb<|Zg<|dt (Yc (i:=4) J J J Qo Yk J J) J<|dt (Yc (i:=2) J J J Qo Yk J J) J<|tt (Zh (n:=4) (Cf _ _ (hv.getD _) hc (hc0 (by intro e;rw [e]at h273;simp at h273;omega))) J J J K2 Zpf Ze J hw) J fun _ _=>mv J J<|dt (Yg J J J) J<|dt (Yg J J J) J<|dt (Yg J J J) J<|tt (Zo (i:=5) J J J Tryz.zeroValue31 J J hw) J fun b_3 _=>tt (Zo (i:=6) J J J Tryz.zeroValue31 J J hw) J fun b_4 _=>tt (Zm (i:=5) J J J J J (by decide) J Yk J J ⟨Zc J,Zc J,trivial⟩ J hw trivial) J fun _ _=>tt (Zm (i:=6) J J J J J (by decide) J Yk J J ⟨Zc J,Zc J,trivial⟩ J hw trivial) J fun _ _=>as_ J J<|Zf<|Za<|Zb<|Zb<|Zg<|mv J J<|dt (Qd J J J) J<|Zf<|Za<|Zq J (fun h275=>?_) (fun h275=>?_)
  ·exfalso;simp_all
  ·exact Zk<|Za<|Zg<|mv J J<|mv J J<|dt (Yc (i:=5) J J J Qo Yk J J) J<|dt (Yz (ii:=3) (i:=k) J J J J (Yn pV) Qn Yk J (by rw [Of];omega)) J<|tt (Kr (i:=3) (enc:=wv) _ J J J J J J (by decide) pV (by rw [Of];omega) J hw) J fun _ _=>Zf<|Ob<|Za<|Zg<|dt (Yt J J J ⟨by omega,by omega⟩) J<|mv J J<|Zf<|Xq (k+1) (by first | omega | (dsimp only<;>omega)) (by first | omega | (dsimp only<;>omega)) K5 ⟨by rw [←Zcx (by omega)];simp only [hcl];rfl,rfl,rfl,rfl,trivial⟩
 ·refine Yu<|Zs<|Zs<|Ox<|Za<|Zb<|Zg<|mv J J<|as_ J J<|as_ J J<|Zf<|Za<|Zu ?_
  obtain rfl:k=xs.length:=by omega
  exact Zv (.inl J) hsc _ _ (fun a w hs=>Ni hs Tryz.results182 J J) J trivial J (Ps 3 J J pV (by rw [Eu,Znh xs (· / c)]<;>rfl) Zj)
theorem Mc(v:Value)(xs:List Int)(hv:Vp xs):Cal Tryz.prog 150 #[v] [slp 2 wv v xs] true (G:=Value) (fun r=>True) (fun r=> .tuple #[r,.int .i64 0]) (fun r=>[slp 2 wv r (Yx xs)]):=by
 refine Yd Tryz.func150 J Tryz.ntmps150 J K1 ?_
 intro w0 sc hw hsc
 simp only [Zp,Zn]
 have hlen:=hv.len
 refine Zb<|Zg<|as_ J J<|as_ J J<|Zf<|Za<|Zb<|Zg<|mv J J<|tt (Zh (n:=1) (Zi6 _ _ (by assumption)) J J J K1 cF181 (Zd 1 J J J Ze) J hw) J fun _ _=>mv J J<|dt (Yg J J J) J<|dt (Yg J J J) J<|tt (Zo (i:=2) J J J Tryz.zeroValue31 J J hw) J fun b _=>tt (Zm (i:=2) J J J J J (by decide) J Yk J J ⟨Zc J,Zc J,trivial⟩ J hw trivial) J fun _ _=>as_ J J<|Zf<|Za<|Zb<|Zb<|Zg<|mv J J<|dt (Qd J J J) J<|Zf<|Za<|Zq J (fun h286=>?_) (fun h286=>?_)
 ·exfalso;simp_all
 ·exact Zk<|Za<|Zb<|Zg<|mv J J<|dt (Yc (i:=2) J J J Qo Yk J J) J<|tt (Zh (n:=3) (Zhf _ _ _ hv.sz (by omega) (Zct _ hv.sz) (Mo _) hv.ne) J J J K2 cF182 (Zd 1 J J J Ze) J hw) J fun _ _=>dt (Yg J J J) J<|dt (Yg J J J) J<|as_ J J<|as_ J J<|Zf<|Za<|Zu<|Zv (.inl J) hsc _ _ (fun a w hs=>Ni hs Tryz.results150 J J) J trivial J (Yj 3 J J J J Zj)
theorem Zrc(v:Value)(xs:List Int)(x y:Int)(hv:Vp xs)(hx:bl x.natAbs≤65536)(hy:bl y.natAbs≤65536)(hy0:0<y):Cal Tryz.prog 186 #[v,.agg #[.bool (decide (x<0)),.string (Xd x.natAbs),.bool (decide (y<0)),.string (Xd y.natAbs)]] [slp 2 wv v xs] false (G:=Unit) (fun _=>True) (fun _=> .tuple #[wv (evv xs x y),.int .i64 (eve xs x y)]) (fun _=>[]):=by
 refine Yd Tryz.func186 J Tryz.ntmps186 J K1 ?_
 intro w0 sc hw hsc
 simp only [Zp,Zn]
 have hlen:=hv.len
 refine Zb<|Zg<|tt (Xl (i:=2) J J J J J J hw) J fun b _=>tt (Zo (i:=3) J J J Tryz.zeroValue31 J J hw) J fun b_2 _=>as_ J J<|Zf<|Za<|Zb<|Zb<|Zg<|mv J J<|tt (Zh (n:=3) (Xm _ _ (by assumption)) J J J K1 Zcf (Zd 1 J J J Ze) J hw) J fun _ _=>dt (Xo J J) J<|mv J J<|gdt (Xi (i:=2) J J J Pp Xx J J J J) J J J J<|gtt (Zh (n:=3) (Qq _ _ (by assumption) (by assumption) (by assumption)) J J J K1 Zeo Ze J hw) J J J J fun _ _=>gdt (Xo J J) J J J J<|dt (Yh J J J) J<|Zf<|Za<|Yf J<|Zk<|Za<|Zb<|Zb<|Zg<|mv J J<|dt (Zy J J (i:=1) J Zi Qn) J<|dt (Pi J J J) J<|Zf<|Za<|Zq J (fun h186=>?_) (fun h186=>?_)
 ·exact Zb<|Zg<|dt (Oh (ivs:=[]) J trivial (fun a w hs=>b31_)) J<|tt (Zm (i:=3) J J J J J (by decide) J Yk J J ⟨Zc J,Zc J,trivial⟩ J hw trivial) J fun _ _=>as_ J J<|Zf<|Za<|Zu<|Xe<|Zv (.inl J) hsc () _ (fun a w hs=>Ni hs Tryz.results186 (Yp (i:=3) J J Qo Yk J) J) (by rw [List.eq_nil_of_length_eq_zero (l:=xs) (by omega)];rfl) trivial J Zj
 ·have hne:xs≠[]:=fun e=>by rw [e]at h186;simp at h186
  have hm1:=Pz hv.sz
  have hsxy:Sz 65536 [x,y]:=Sz.of_mem (by intro z hz;simp at hz;rcases hz with rfl | rfl<;>assumption)
  have hm2:=Pz hsxy
  have hm3:(xs.length-1)*msz [x,y]≤24*65536:=Nat.mul_le_mul (by omega) hm2
  have hm4:((xs.length:Int)-1)*(msz [x,y]:Int)=(((xs.length-1)*msz [x,y]:Nat):Int):=by rw [Int.natCast_mul];congr 1;omega
  refine Zk<|Za<|Zb<|Dd [(0,_),(3,_),(4,_)] [(0,_),(1,_),(2,_),(3,_)] (fun(_:Unit)=>[(37,.bool (decide ((65536:Int)<(msz xs:Int)+((xs.length:Int)-1)*(msz [x,y]:Int)+8)))]) (fun(_:Unit)=>[]) (fun(_:Unit)=>True) K3 K4 ?_ ?_
  ·refine Ga (fun _=>False) [] (by kernel_rfl)<|Zx (n:=7) [(0,0),(2,0),(3,0),(4,0),(5,0),(6,0),(7,0),(8,0)] (by kernel_rfl)<|r0' J J J J (st0 (Ym J J))<|r0' J J J J (st0 (Ym J J))<|r0' J J J J (st0 (Zy J J (i:=1) J Zi Qn))<|r0' J J J J (st0 (Qg J J J ⟨by omega,by omega⟩))<|r0' J J J J (st0 (Xy J J Ab J Yk J J))<|r0' J J J J (st0 (Yc (i:=2) J J J Qo Yk J J))<|r0' J J J J (st0 (Xy J J Ab J Yk J J))<|r0' J J J J (st0 (Yc (i:=2) J J J Qo Yk J J))<|Yr<|Pu (n:=6) 1 9 (by kernel_rfl) ?_ ?_
   ·exact Yo J J (Zh (n:=3) (Nq _ _ (by first | exact hv.sz | exact hsxy)) J J J K1 Bt (Zd 1 J J J Ze) J hw) fun _ _=>Zx (n:=0) [(9,1),(10,1),(11,0),(12,0),(13,0),(14,0)] (by kernel_rfl)<|r1' J J (Pt (i:=90) (ivs:=[(0,_),(1,_)]) (enc:=wv) [x,y] J J J K4 uT22 Tryz.ti31 J J J J J J pV.cells J J hw) fun v _=>r1' J J (Zh (n:=3) (Nq _ _ (by first | exact hv.sz | exact hsxy)) J J J K1 Bt (Xu 90 J J pV Ze) J hw) fun _ _=>r0' J J J J (st0 (Gz J J J (by rw [hm4];exact⟨by omega,by omega⟩)))<|r0' J J J J (st0 (Yt J J J (by rw [hm4];exact⟨by omega,by omega⟩)))<|r0' J J J J (st0 (Yt J J J (by rw [hm4];exact⟨by omega,by omega⟩)))<|r0' J J J J (st0 (On J J J))<|Yr<|Yl (by kernel_rfl)<|Qv () trivial K4 K4
   ·exact Yo J J (Pt (i:=90) (ivs:=[(0,_),(1,_)]) (enc:=wv) [x,y] J J J K4 uT22 Tryz.ti31 J J J J J J pV.cells J J hw) fun v_2 _=>Zx (n:=0) [(1,1),(10,1),(11,0),(12,0),(13,0),(14,0)] (by kernel_rfl)<|r1' J J (Zh (n:=3) (Nq _ _ (by first | exact hv.sz | exact hsxy)) J J J K1 Bt (Zd 1 J J J Ze) J hw) fun _ _=>r1' J J (Zh (n:=3) (Nq _ _ (by first | exact hv.sz | exact hsxy)) J J J K1 Bt (Xu 90 J J pV Ze) J hw) fun _ _=>r0' J J J J (st0 (Gz J J J (by rw [hm4];exact⟨by omega,by omega⟩)))<|r0' J J J J (st0 (Yt J J J (by rw [hm4];exact⟨by omega,by omega⟩)))<|r0' J J J J (st0 (Yt J J J (by rw [hm4];exact⟨by omega,by omega⟩)))<|r0' J J J J (st0 (On J J J))<|Yr<|Yl (by kernel_rfl)<|Qv () trivial K4 K4
  ·rintro _ -
   simp only [List.cons_append,List.nil_append]
   refine Zq J (fun h189=>?_) (fun h189=>?_)
   ·have hE:Ke xs x y:=⟨hne,by rw [hm4]at h189;omega⟩
    exact Zb<|Zg<|dt (Oh (ivs:=[]) J trivial (fun a w hs=>b31_)) J<|tt (Zm (i:=3) J J J J J (by decide) J Yk J J ⟨Zc J,Zc J,trivial⟩ J hw trivial) J fun _ _=>as_ J J<|Zf<|Za<|Zu<|Xe<|Zv (.inl J) hsc () _ (fun a w hs=>Ni hs Tryz.results186 (Yp (i:=3) J J Qo Yk J) J) (by unfold evv eve;rw [if_pos hE,if_pos hE]<;>rfl) trivial J Zj
   ·have hF:msz xs+(xs.length-1)*msz [x,y]+8≤65536:=by rw [hm4]at h189;omega
    refine Zk<|Za<|Zb<|Zg<|tt (Zo (i:=4) J J J Tryz.zeroValue167 J J hw) J fun b_3 _=>Zf<|Za<|Dd [(0,_),(3,_),(4,_),(6,_)] [(0,_),(1,_),(2,_),(3,_),(4,_)] (fun(q:Nat×Nat)=>[(7,.pointer (some ⟨q.1,0,none⟩)),(8,.pointer (some ⟨q.2,0,none⟩))]) (fun(q:Nat×Nat)=>[(97,box q.1 31 (wc (xs.getD (xs.length-1) 0))),(98,box q.2 31 (wc 1))]) (fun(q:Nat×Nat)=>True) K4 K5 ?_ ?_
    ·refine Ga (fun _=>False) [9,10] (by kernel_rfl)<|Zx (n:=5) [(0,0),(1,0),(2,0),(3,0),(4,0),(5,0)] (by kernel_rfl)<|r0' J J J J (st0 (Ym J J))<|r0' J J J J (st0 (Ym J J))<|r0' J J J J (st0 (Zy J J (i:=1) J Zi Qn))<|r0' J J J J (st0 (Qg J J J ⟨by omega,by omega⟩))<|r0' J J J J (st0 (Yz (ii:=1) (i:=(xs.length-1)) J J J J Zi Qn Yk (by omega) (by omega)))<|r0' J J J J (st0 (Xs (ii:=1) 0 J J J Zi pV (by omega)))<|Yr<|Zay (n:=4) 6 7 8 (by kernel_rfl) ?_ ?_ ?_
     ·refine Yo J J (Zh (n:=4) (Xa _ (by first | assumption | exact⟨by omega,by omega⟩)) J J J K1 Cu Ze J hw) fun _ _=>Pu (n:=3) 7 8 (by kernel_rfl) ?_ ?_
      ·exact Yo J J (Zo (i:=97) J J J Tryz.zeroValue31 J J hw) fun b_4 _=>Zx (n:=0) [(8,1),(9,3),(10,3)] (by kernel_rfl)<|r1' J J (Zo (i:=98) J J J Tryz.zeroValue31 J J hw) fun b_5 _=>r3' J J (Zm (i:=97) J J J J J (by decide) J Yk J J ⟨Zc J,Zc J,trivial⟩ J hw trivial) fun _ _=>r3' J J (Zm (i:=98) J J J J J (by decide) J Yk J J ⟨Zc J,Zc J,trivial⟩ J hw trivial) fun _ _=>Yr<|Yl (by kernel_rfl)<|Qv (_,_) trivial K6 K7
      ·exact Yo J J (Zo (i:=98) J J J Tryz.zeroValue31 J J hw) fun b_6 _=>Zx (n:=0) [(7,1),(9,3),(10,3)] (by kernel_rfl)<|r1' J J (Zo (i:=97) J J J Tryz.zeroValue31 J J hw) fun b_7 _=>r3' J J (Zm (i:=97) J J J J J (by decide) J Yk J J ⟨Zc J,Zc J,trivial⟩ J hw trivial) fun _ _=>r3' J J (Zm (i:=98) J J J J J (by decide) J Yk J J ⟨Zc J,Zc J,trivial⟩ J hw trivial) fun _ _=>Yr<|Yl (by kernel_rfl)<|Qv (_,_) trivial K6 K7
     ·refine Yo J J (Zo (i:=97) J J J Tryz.zeroValue31 J J hw) fun b_8 _=>Pu (n:=3) 6 8 (by kernel_rfl) ?_ ?_
      ·exact Yo J J (Zh (n:=4) (Xa _ (by first | assumption | exact⟨by omega,by omega⟩)) J J J K1 Cu Ze J hw) fun _ _=>Zx (n:=0) [(8,1),(9,3),(10,3)] (by kernel_rfl)<|r1' J J (Zo (i:=98) J J J Tryz.zeroValue31 J J hw) fun b_9 _=>r3' J J (Zm (i:=97) J J J J J (by decide) J Yk J J ⟨Zc J,Zc J,trivial⟩ J hw trivial) fun _ _=>r3' J J (Zm (i:=98) J J J J J (by decide) J Yk J J ⟨Zc J,Zc J,trivial⟩ J hw trivial) fun _ _=>Yr<|Yl (by kernel_rfl)<|Qv (_,_) trivial K6 K7
      ·exact Yo J J (Zo (i:=98) J J J Tryz.zeroValue31 J J hw) fun b_10 _=>Zx (n:=0) [(6,1),(9,3),(10,3)] (by kernel_rfl)<|r1' J J (Zh (n:=4) (Xa _ (by first | assumption | exact⟨by omega,by omega⟩)) J J J K1 Cu Ze J hw) fun _ _=>r3' J J (Zm (i:=97) J J J J J (by decide) J Yk J J ⟨Zc J,Zc J,trivial⟩ J hw trivial) fun _ _=>r3' J J (Zm (i:=98) J J J J J (by decide) J Yk J J ⟨Zc J,Zc J,trivial⟩ J hw trivial) fun _ _=>Yr<|Yl (by kernel_rfl)<|Qv (_,_) trivial K6 K7
     ·refine Yo J J (Zo (i:=98) J J J Tryz.zeroValue31 J J hw) fun b_11 _=>Pu (n:=3) 6 7 (by kernel_rfl) ?_ ?_
      ·exact Yo J J (Zh (n:=4) (Xa _ (by first | assumption | exact⟨by omega,by omega⟩)) J J J K1 Cu Ze J hw) fun _ _=>Zx (n:=0) [(7,1),(9,3),(10,3)] (by kernel_rfl)<|r1' J J (Zo (i:=97) J J J Tryz.zeroValue31 J J hw) fun b_12 _=>r3' J J (Zm (i:=97) J J J J J (by decide) J Yk J J ⟨Zc J,Zc J,trivial⟩ J hw trivial) fun _ _=>r3' J J (Zm (i:=98) J J J J J (by decide) J Yk J J ⟨Zc J,Zc J,trivial⟩ J hw trivial) fun _ _=>Yr<|Yl (by kernel_rfl)<|Qv (_,_) trivial K6 K7
      ·exact Yo J J (Zo (i:=97) J J J Tryz.zeroValue31 J J hw) fun b_13 _=>Zx (n:=0) [(6,1),(9,3),(10,3)] (by kernel_rfl)<|r1' J J (Zh (n:=4) (Xa _ (by first | assumption | exact⟨by omega,by omega⟩)) J J J K1 Cu Ze J hw) fun _ _=>r3' J J (Zm (i:=97) J J J J J (by decide) J Yk J J ⟨Zc J,Zc J,trivial⟩ J hw trivial) fun _ _=>r3' J J (Zm (i:=98) J J J J J (by decide) J Yk J J ⟨Zc J,Zc J,trivial⟩ J hw trivial) fun _ _=>Yr<|Yl (by kernel_rfl)<|Qv (_,_) trivial K6 K7
    ·rintro⟨b7,b8⟩ -
     simp only [List.cons_append,List.nil_append]
     refine Zb<|Zb<|Zg<|mv J J<|dt (Zy J J (i:=1) J Zi Qn) J<|dt (Qg J J J ⟨by omega,by omega⟩) J<|as_ J J<|Zf<|Za<|Zl<|Nt [(0,_),(3,_),(4,_),(6,_),(7,_),(8,_)] [(0,_),(1,_),(2,_),(3,_),(4,_)] (fun(k:Nat)=>[(9,.int .i64 ((k:Int)-1))]) (fun(k:Nat)=>[(97,box b7 31 (wc (hor xs x y k))),(98,box b8 31 (wc (y^(xs.length-1-k))))]) (fun(k:Nat)=>k≤xs.length-1) (fun(k:Nat)=>k) (xs.length-1) (by first | omega | (dsimp only<;>omega)) ⟨by rw [show((xs.length-1:Nat):Int)-1=(xs.length:Int)-2 by omega];rfl,rfl,rfl,rfl,rfl,rfl,rfl,trivial⟩ ⟨by rw [hor_top x y (by omega)];rfl,by rw [Nat.sub_self,Int.pow_zero];rfl,rfl,rfl,rfl,rfl,rfl,trivial⟩ ?_
     rintro k hk
     simp only [List.cons_append,List.nil_append]
     refine Zb<|Zb<|Zg<|mv J J<|dt (Lq J J J) J<|Zf<|Za<|Zq J (fun h194=>?_) (fun h194=>?_)
     ·have hpw:y^(xs.length-1-k)*y=y^(xs.length-1-(k-1)):=Zvu y (by omega) hk
      have hst:hor xs x y k*x+xs.getD (k-1) 0*y^(xs.length-1-(k-1))=hor xs x y (k-1):=Zsj x y (by omega) hk
      refine Zk<|Za<|Zb<|Zl<|Zb<|Zg<|dt (Yc (i:=98) J J J Qo Yk J J) J<|dt (Xy J J Ab J Yk J J) J<|dt (Yc (i:=2) J J J Qo Yk J J) J<|tt (Oc (n:=4) (i:=4) (Fy _ _ _ (Znu hF) hy (by rw [hpw];exact Znu hF)) J J J K3 Zbr J (by decide) Ze J hw trivial) J fun _ _=>tt (Zm (i:=98) J J J J J (by decide) J Yk J J ⟨Zc J,Zc J,trivial⟩ J hw trivial) J fun _ _=>Zf<|Za<|Qs (fun x=>x=b_3) [(0,0),(1,0),(2,0),(4,0),(5,0),(6,0),(7,0),(8,0),(3,1),(9,1),(10,1),(11,3)] (by kernel_rfl) ?_ ?_
      ·kernel_rfl
      refine r0' J J J J (st1 4 J (Yc (i:=97) J J J Qo Yk J J))<|r0' J J J J (st1 4 J (Xy J J Ab J Yk J J))<|r0' J J J J (st1 4 J (Yc (i:=2) J J J Qo Yk J J))<|r0' J J J J (st1 4 J (Ym J J))<|r0' J J J J (st1 4 J (Ym J J))<|r0' J J J J (st1 4 J (Yz (ii:=1) (i:=(k-1)) J J J J Zi Qn Yk (by omega) (by omega)))<|r0' J J J J (st1 4 J (Xs (ii:=1) 0 J J J Zi pV (by omega)))<|r0' J J J J (st1 4 J (Yc (i:=98) J J J Qo Yk J J))<|r1' J J (Oc (n:=4) (i:=4) (Fy _ _ _ (by first | exact Znv hF hlen _ | exact hv.sz.getD _) (by first | exact hx | (rw [hpw];exact Znu hF)) (by first | exact Zsq hF hlen (by omega) hk | (rw [hpw];exact Zlm hF))) J J J K3 Zbr J (by decide) Ze J hw J) fun _ _=>r1' J J (Oc (n:=4) (i:=4) (Fy _ _ _ (by first | exact Znv hF hlen _ | exact hv.sz.getD _) (by first | exact hx | (rw [hpw];exact Znu hF)) (by first | exact Zsq hF hlen (by omega) hk | (rw [hpw];exact Zlm hF))) J J J K3 Zbr J (by decide) Ze J hw J) fun _ _=>r1' J J (Oc (n:=4) (i:=4) (Zn1 _ _ _ (Zsq hF hlen (by omega) hk) (by rw [hpw];exact Zlm hF) (by rw [hpw,hst];exact Znv hF hlen _)) J J J K3 Zxc J (by decide) Ze J hw J) (fun _ _=>?_)
      exact r3' J J (Zm (i:=97) J J J J J (by decide) J Yk J J ⟨Zc J,Zc J,trivial⟩ J hw trivial) fun _ _=>Og<|Ob<|Za<|Zg<|mv J J<|dt (Qg J J J ⟨by omega,by omega⟩) J<|as_ J J<|Zf<|Xq (k-1) (by first | omega | (dsimp only<;>omega)) (by first | omega | (dsimp only<;>omega)) ⟨by rw [show((k-1:Nat):Int)-1=(k:Int)-1-1 by omega];rfl,rfl,rfl,rfl,rfl,rfl,rfl,trivial⟩ ⟨by rw [hpw,hst];rfl,by rw [hpw];rfl,rfl,rfl,rfl,rfl,rfl,trivial⟩
     ·refine Yu<|Zs<|Zs<|Ox<|Za<|Zb<|Zb<|Zg<|dt (Xy J J Zgg J Zf7 J J) J<|dt (Xy J J Zj9 J Gg J J) J<|dt (Oa (i:=4) J J J Bv J) J<|dt (Qd J J J) J<|Zf<|Za<|Zq J (fun h198=>?_) (fun h198=>?_)
      ·exfalso;simp_all
      ·refine Zk<|Za<|Zb<|Zg<|dt (Yc (i:=97) J J J Qo Yk J J) J<|tt (Zm (i:=3) J J J J J (by decide) J Yk J J ⟨Zc J,Zc J,trivial⟩ J hw trivial) J fun _ _=>as_ J J<|Zf<|Za<|Zu ?_
       obtain rfl:k=0:=by omega
       have hE:¬Ke xs x y:=fun h=>by have:=h.2;omega
       exact Zv (.inl J) hsc () _ (fun a w hs=>Ni hs Tryz.results186 (Yp (i:=3) J J Qo Yk J) J) (by unfold evv eve;rw [if_neg hE,if_neg hE,←Znp]<;>rfl) trivial J Zj
theorem Zkw(v:Value)(xs:List Int)(x y:Int)(hv:Vp xs)(hx:bl x.natAbs≤65536)(hy:bl y.natAbs≤65536)(hy0:0<y):Cal Tryz.prog 164 #[v,.agg #[.bool (decide (x<0)),.string (Xd x.natAbs),.bool (decide (y<0)),.string (Xd y.natAbs)]] [slp 2 wv v xs] false (G:=Unit) (fun _=>True) (fun _=> .tuple #[.int .i64 (evv xs x y).sign,.int .i64 (eve xs x y)]) (fun _=>[]):=by
 refine Yd Tryz.func164 J Tryz.ntmps164 J K1 ?_
 intro w0 sc hw hsc
 simp only [Zp,Zn]
 have hlen:=hv.len
 exact Zb<|Zg<|tt (Xl (i:=2) J J J J J J hw) J fun b _=>as_ J J<|as_ J J<|Zf<|Za<|Zb<|Zg<|mv J J<|dt (Xi (i:=2) J J J Pp Xx J J J J) J<|tt (Zh (n:=2) (Zrc _ _ _ _ hv hx hy hy0) J J J K2 cF186 (Zd 1 J J J Ze) J hw) J fun _ _=>mv J J<|dt (Yg J J J) J<|dt (Yg J J J) J<|tt (Zo (i:=3) J J J Tryz.zeroValue31 J J hw) J fun b_2 _=>tt (Zm (i:=3) J J J J J (by decide) J Yk J J ⟨Zc J,Zc J,trivial⟩ J hw trivial) J fun _ _=>as_ J J<|Zf<|Za<|Zb<|Zg<|dt (Yc (i:=3) J J J Qo Yk J J) J<|tt (Zh (n:=3) (Mh _ (evv_bl hlen)) J J J K1 Zbt Ze J hw) J fun _ _=>mv J J<|as_ J J<|as_ J J<|Zf<|Za<|Zu<|Zv (.inl J) hsc () _ (fun a w hs=>Ni hs Tryz.results164 J J) J trivial J Zj
end Go.Sky
namespace Go.Sky
open Go.Proofs
set_option maxRecDepth 20000
set_option maxHeartbeats 4000000
set_option linter.unusedSimpArgs false
theorem Zan(bd:Nat)(v:Value)(xs:List Int)(hs:Sz 65536 xs):Zpn Tryz.prog 154 #[.pointer (some ⟨bd,0,none⟩),v] [slp 2 wv v xs] true bd 167 #[.int .i64 0] (G:=Unit) (fun _=>True) (fun _=> .tuple #[Fe v (tzl xs).length,.int .i64 0]) (fun _=>#[.int .i64 0]) (fun _=>[slp 2 wv (Fe v (tzl xs).length) (tzl xs)]):=by
 refine Zbq Tryz.func154 J Tryz.ntmps154 J K1 ?_
 intro w0 sc hw hsc
 simp only [Zp,Zn]
 refine Zb<|Zg<|as_ J J<|as_ J J<|Zf<|Za<|Zb<|Zb<|Zg<|mv J J<|dt (Ze3 J J) J<|dt (Xy J J Zgg J Zf7 J J) J<|dt (Xy J J Zj9 J Gg J J) J<|dt (Oa (i:=1) J J J Bv J) J<|dt (Qd J J J) J<|Zf<|Za<|Zq J (fun h43=>?_) (fun h43=>?_)
 ·exfalso;simp_all
 ·exact Zk<|Za<|Zb<|Zg<|mv J J<|tt (Zh (n:=3) (Ao _ _ (by assumption)) J J J K1 Zxd (Zd 2 J J J Ze) J hw) J fun _ _=>as_ J J<|as_ J J<|Zf<|Za<|Zu<|Zc7 (.inl J) hsc () _ (fun a w hs=>Ni hs Tryz.results154 J J) J trivial 1 J J J J (Xb 3 J J J Zj)
theorem Zto(v:Value)(xs:List Int)(hx:xs.length*24≤140737488355328):CalO Tryz.prog 157 #[v] [slp 2 wv v xs] (G:=Value) (fun r=>True) (fun r=>r) (fun r=>osl 2 31 wv r xs):=by
 refine Ztx Tryz.func157 J Tryz.ntmps157 J K1 ?_
 intro w0 sc hw hsc
 simp only [Zp,Zn]
 refine Nw (f_nil (i:=1) J Zi) fun hnil=>Zb<|Zg<|as_ J J<|Zf<|Za<|Zb<|Zb<|Zg<|mv J J<|dt (Ztf J J J (i:=1) J Zi Qn) J<|Zf<|Za<|Mq J (fun h357=>?_) (fun h357=>?_)
 ·refine Zb<|Zg<|as_ J J<|Zf<|Za<|Zu<|Xe ?_
  obtain rfl:xs=[]:=hnil (by simpa using h357)
  exact Pr (Nj 9 2 31 wv)<|Zma (.inl J) (.slice none 0 0) _ (fun a w hs=>Qj hs Tryz.results157 J) J trivial J 9 J J J
 ·exact Zk<|Za<|Zb<|Zg<|tt (t_bs0 (i:=2) (enc:=wv) J J J Qn pV J hw) J fun v _=>mv J J<|tt (Kt (i:=2) (j:=1) (by_:=24) J J J J J J (by decide) J Zi Qn Tryz.ti31 J pV J J J (by simp;omega) (by decide) J hw) J fun v_2 _=>as_ J J<|Zf<|Za<|Zu<|Zma (.inl J) _ _ (fun a w hs=>Qj hs Tryz.results157 J) J trivial J 2 J (by rfl) J
theorem Zd2(v:Value)(xs:List Int)(hv:Vp xs):Cal Tryz.prog 105 #[v] [slp 2 wv v xs] false (G:=Unit) (fun _=>True) (fun _=> .tuple #[.int .i64 ((xs.length:Int)-1),.int .i64 0]) (fun _=>[]):=by
 refine Yd Tryz.func105 J Tryz.ntmps105 J K1 ?_
 intro w0 sc hw hsc
 simp only [Zp,Zn]
 have hlen:=hv.len
 exact Zb<|Zg<|as_ J J<|as_ J J<|Zf<|Za<|Zb<|Zb<|Zg<|mv J J<|tt (Zh (n:=1) (Xm _ _ (by assumption)) J J J K1 Zcf (Zd 1 J J J Ze) J hw) J fun _ _=>dt (Xo J J) J<|Zf<|Za<|Yf J<|Zk<|Za<|Zb<|Zg<|mv J J<|dt (Zy J J (i:=1) J Zi Qn) J<|dt (Qg J J J ⟨by omega,by omega⟩) J<|as_ J J<|as_ J J<|Zf<|Za<|Zu<|Zv (.inl J) hsc () _ (fun a w hs=>Ni hs Tryz.results105 J J) J trivial J Zj
theorem Zi8(v:Value)(xs:List Int)(hv:Vp xs):Cal Tryz.prog 106 #[v] [slp 2 wv v xs] false (G:=Unit) (fun _=>True) (fun _=> .tuple #[.int .i64 (msz xs:Int),.int .i64 0]) (fun _=>[]):=by
 refine Yd Tryz.func106 J Tryz.ntmps106 J K1 ?_
 intro w0 sc hw hsc
 simp only [Zp,Zn]
 exact Zb<|Zg<|as_ J J<|as_ J J<|Zf<|Za<|Zb<|Zb<|Zg<|mv J J<|tt (Zh (n:=1) (Xm _ _ (by assumption)) J J J K1 Zcf (Zd 1 J J J Ze) J hw) J fun _ _=>dt (Xo J J) J<|Zf<|Za<|Yf J<|Zk<|Za<|Zb<|Zg<|mv J J<|tt (Zh (n:=1) (Nq _ _ hv.sz) J J J K1 Bt (Zd 1 J J J Ze) J hw) J fun _ _=>as_ J J<|as_ J J<|Zf<|Za<|Zu<|Zv (.inl J) hsc () _ (fun a w hs=>Ni hs Tryz.results106 J J) J trivial J Zj
theorem Zly(bd:Nat)(v u:Value)(xs ys:List Int)(hv:Vp xs)(hu:Vp ys)(hz:∀i,bl (cf xs i-cf ys i).natAbs≤65536):Zpn Tryz.prog 136 #[v,u,.pointer (some ⟨bd,0,none⟩),.func (.func 137) #[.pointer (some ⟨bd,0,none⟩)] #[]] [slp 2 wv v xs,slp 2 wv u ys] true bd 167 #[.int .i64 0] (G:=Value) (fun r=>True) (fun r=> .tuple #[r,.int .i64 0]) (fun r=>#[.int .i64 0]) (fun r=>[slp 2 wv r (Zfm xs ys)]):=by
 refine Zbq Tryz.func136 J Tryz.ntmps136 J K2 ?_
 intro w0 sc hw hsc
 simp only [Zp,Zn]
 have hlen:=hv.len
 have hlen2:=hu.len
 refine Zb<|Zg<|as_ J J<|as_ J J<|Zf<|Za<|Zb<|Zb<|Zg<|mv J J<|tt (Zh (n:=3) (Xm _ _ (by assumption)) J J J K1 Zcf (Zd 2 J J J Ze) J hw) J fun _ _=>dt (Xo J J) J<|mv J J<|gdt (Ym J J) J J J J<|gtt (Zh (n:=3) (Xm _ _ (by assumption)) J J J K1 Zcf (Zd 3 J J J Ze) J hw) J J J J fun _ _=>gdt (Xo J J) J J J J<|dt (Yh J J J) J<|Zf<|Za<|Yf J<|Zk<|Za<|Zb<|Zg<|mv J J<|dt (Zy J J (i:=2) J Zi Qn) J<|mv J J<|dt (Zy J J (i:=3) J Zi Qn) J<|dt (Zte J J J) J<|tt (Hw (i:=4) (n:=(max xs.length ys.length)) (by_:=24) (enc:=wv) 0 J J J J J (by omega) Qn Tryz.ti31 J pV.cells pV.pos J J (by omega) (by decide) J hw) J fun v _=>as_ J J<|Zf<|Za<|Zb<|Zb<|Zg<|mv J J<|dt (Zy J J (i:=4) J (Yn pV) Qn) J<|mv J J<|Zf<|Za<|Zl ?_
 refine Nt [(0,_),(1,_),(2,_),(3,_),(10,_),(29,_)] [(0,_),(1,_),(2,_),(3,_)] (fun(k:Nat)=>[(30,.int .i64 (k:Int))]) (fun(k:Nat)=>[(4,osl 2 31 wv v (fill (max xs.length ys.length) k (fun i=>cf xs i-cf ys i)))]) (fun(k:Nat)=>k≤max xs.length ys.length) (fun(k:Nat)=>max xs.length ys.length-k) 0 (by first | omega | (dsimp only<;>omega)) K7 ⟨by rw [Dy (max xs.length ys.length) (fun i=>cf xs i-cf ys i)];rfl,rfl,rfl,rfl,rfl,trivial⟩ ?_
 rintro k hk
 simp only [List.cons_append,List.nil_append]
 have hlf:(fill (max xs.length ys.length) k (fun i=>cf xs i-cf ys i)).length=max xs.length ys.length:=Of _ _ _
 refine Zb<|Zg<|dt (Qb J J J) J<|Zf<|Za<|Zb<|Zq J (fun h106=>?_) (fun h106=>?_)
 ·try rw [List.length_replicate]at *
  refine Zk<|Za<|Zb<|Zl<|Zb<|Zg<|mv J J<|as_ J J<|Zf<|Za<|Zb<|Zg<|tt (Zo (i:=5) J J J Tryz.zeroValue31 J J hw) J fun b _=>tt (Zo (i:=6) J J J Tryz.zeroValue31 J J hw) J fun b_2 _=>Zf<|Za<|Dd [(0,_),(1,_),(2,_),(3,_),(10,_),(11,_),(12,_),(13,_),(29,_),(30,_)] [(0,_),(4,_),(1,_),(2,_),(3,_),(6,_)] (fun(_:Unit)=>[]) (fun(_:Unit)=>[(5,box b 31 (wc (cf xs k)))]) (fun(_:Unit)=>True) K10 K6 ?_ ?_
  ·refine Zb<|Zg<|mv J J<|mv J J<|dt (Zy J J (i:=2) J Zi Qn) J<|dt (Qb J J J) J<|Zf<|Za<|Zq J (fun h108=>?_) (fun h108=>?_)
   ·exact Zg<|mv J J<|mv J J<|dt (Yz (ii:=2) J J J J Zi Qn Yk J (by first | omega | (simp only [List.length_set];omega))) J<|dt (Xs (ii:=2) 0 J J J Zi pV (by first | omega | (simp only [List.length_set];omega))) J<|tt (Zm (i:=5) J J J J J (by decide) J Yk J J ⟨Zc J,Zc J,trivial⟩ J hw trivial) J fun _ _=>Zf<|Qv () trivial K10 ⟨by first | rfl | (rw [Qe (p:=xs) (by omega)];rfl),rfl,rfl,rfl,rfl,rfl,rfl,trivial⟩
   ·exact Zk<|Qv () trivial K10 ⟨by first | rfl | (rw [Qe (p:=xs) (by omega)];rfl),rfl,rfl,rfl,rfl,rfl,rfl,trivial⟩
  ·rintro _ -
   simp only [List.cons_append,List.nil_append]
   refine Dd [(0,_),(1,_),(2,_),(3,_),(10,_),(11,_),(12,_),(13,_),(29,_),(30,_)] [(0,_),(5,_),(4,_),(1,_),(2,_),(3,_)] (fun(_:Unit)=>[]) (fun(_:Unit)=>[(6,box b_2 31 (wc (cf ys k)))]) (fun(_:Unit)=>True) K10 K6 ?_ ?_
   ·refine Zb<|Zg<|mv J J<|mv J J<|dt (Zy J J (i:=3) J Zi Qn) J<|dt (Qb J J J) J<|Zf<|Za<|Zq J (fun h111=>?_) (fun h111=>?_)
    ·exact Zg<|mv J J<|mv J J<|dt (Yz (ii:=3) J J J J Zi Qn Yk J (by first | omega | (simp only [List.length_set];omega))) J<|dt (Xs (ii:=3) 0 J J J Zi pV (by first | omega | (simp only [List.length_set];omega))) J<|tt (Zm (i:=6) J J J J J (by decide) J Yk J J ⟨Zc J,Zc J,trivial⟩ J hw trivial) J fun _ _=>Zf<|Qv () trivial K10 ⟨by first | rfl | (rw [Qe (p:=ys) (by omega)];rfl),rfl,rfl,rfl,rfl,rfl,rfl,trivial⟩
    ·exact Zk<|Qv () trivial K10 ⟨by first | rfl | (rw [Qe (p:=ys) (by omega)];rfl),rfl,rfl,rfl,rfl,rfl,rfl,trivial⟩
   ·rintro _ -
    simp only [List.cons_append,List.nil_append]
    exact Zg<|mv J J<|mv J J<|mv J J<|dt (Yc (i:=5) J J J Qo Yk J J) J<|dt (Yc (i:=6) J J J Qo Yk J J) J<|tt (Zuv (n:=6) (i:=1) (fs:=[_]) (vs:=[_,_]) (Zs8 _ _ _ (hv.sz _) (hu.sz _) (hz _)) J J J J K2 cF137 J (by decide) Ze J hw trivial) J fun _ _=>dt (Yz (ii:=4) (i:=k) J J J J (Yn pV) Qn Yk J (by rw [Of];omega)) J<|tt (Kr (i:=4) (enc:=wv) _ J J J J J J (by decide) pV (by rw [Of];omega) J hw) J fun _ _=>Zf<|Ob<|Za<|Zg<|dt (Yt J J J ⟨by omega,by omega⟩) J<|mv J J<|Zf<|Xq (k+1) (by first | omega | (dsimp only<;>omega)) (by first | omega | (dsimp only<;>omega)) K7 ⟨by rw [←Zcx (by omega)];rfl,rfl,rfl,rfl,rfl,trivial⟩
 ·try rw [List.length_replicate]at *
  refine Yu<|Zs<|Zs<|Ox<|Za<|Zb ?_
  obtain rfl:k=max xs.length ys.length:=by omega
  exact Ys (Po 4 J J pV)<|Zg<|mv J J<|mv J J<|tt (Oc (n:=7) (i:=1) (Zan _ _ _ (by rw [Eu];exact Ax fun i _=>hz i)) J J J K2 Zl1 J (by decide) (Zd 4 J J J Ze) J hw trivial) J fun _ _=>dt (Yg J J J) J<|dt (Yg J J J) J<|as_ J J<|as_ J J<|Zf<|Za<|Zu<|Zc7 (.inl J) hsc _ _ (fun a w hs=>Ni hs Tryz.results136 J J) J trivial 1 J J J J (Yj 7 J J J (by rw [Eu]<;>rfl) Zj)
theorem Zm7(v u:Value)(xs ys:List Int)(hv:Vp xs)(hu:Vp ys)(hz:∀i,bl (cf xs i-cf ys i).natAbs≤65536):Cal Tryz.prog 85 #[v,u] [slp 2 wv v xs,slp 2 wv u ys] true (G:=Value) (fun r=>True) (fun r=> .tuple #[r,.int .i64 0]) (fun r=>[slp 2 wv r (Zfm xs ys)]):=by
 refine Yd Tryz.func85 J Tryz.ntmps85 J K2 ?_
 intro w0 sc hw hsc
 simp only [Zp,Zn]
 exact Zb<|Zg<|as_ J J<|as_ J J<|Zf<|Za<|Zb<|Zg<|tt (Zo (i:=3) J J J Tryz.zeroValue167 J J hw) J fun b _=>Zf<|Za<|Zb<|Zg<|mv J J<|mv J J<|dt (d_mkf (vs:=[_]) J K1) J<|tt (Oc (n:=4) (i:=3) (Zly _ _ _ _ _ (by assumption) (by assumption) (by assumption)) J J J K4 cF136 J (by decide) (Zd 1 J J J (Zd 2 J J J Ze)) J hw trivial) J fun _ _=>dt (Yg J J J) J<|dt (Yg J J J) J<|as_ J J<|as_ J J<|Zf<|Za<|Zu<|Zv (.inl J) hsc _ _ (fun a w hs=>Ni hs Tryz.results85 J J) J trivial J (Xb 4 J J J Zj)
theorem Zvv(v u:Value)(xs ys:List Int)(hv:Vp xs)(hu:Vp ys)(hF:¬Zea xs ys):Cal Tryz.prog 112 #[v,u] [slp 2 wv v xs,slp 2 wv u ys] true (G:=Value) (fun r=>True) (fun r=> .tuple #[r,.int .i64 0]) (fun r=>[slp 2 wv r (Nv xs ys)]):=by
 refine Yd Tryz.func112 J Tryz.ntmps112 J K2 ?_
 intro w0 sc hw hsc
 simp only [Zp,Zn]
 have hlen:=hv.len
 have hlen2:=hu.len
 have hm1:=Pz hv.sz
 have hm2:=Pz hu.sz
 refine Zb<|Zg<|as_ J J<|as_ J J<|Zf<|Za<|Zb<|Zb<|Zg<|mv J J<|tt (Zh (n:=2) (Xm _ _ (by assumption)) J J J K1 Zcf (Zd 1 J J J Ze) J hw) J fun _ _=>dt (Xo J J) J<|mv J J<|gdt (Ym J J) J J J J<|gtt (Zh (n:=2) (Xm _ _ (by assumption)) J J J K1 Zcf (Zd 2 J J J Ze) J hw) J J J J fun _ _=>gdt (Xo J J) J J J J<|dt (Yh J J J) J<|Zf<|Za<|Yf J<|Zk<|Za<|Zb<|Zb<|Zg<|mv J J<|dt (Zy J J (i:=1) J Zi Qn) J<|dt (Pi J J J) J<|mv J J<|Qx (d:=23) J (fun s136=>?_) (fun s136=>?_)
 ·exact gsk J J J J J<|gsk J J J J J<|gsk J J J J J<|dt (Xh J J J) J<|Zf<|Za<|Nf J<|Zb<|Zg<|as_ J J<|as_ J J<|Zf<|Za<|Zu<|Xe<|Zv (.inl J) hsc _ _ (fun a w hs=>Ni hs Tryz.results112 J J) J trivial J (Ld (Cm (p:=xs) (q:=ys) (by first | (left;omega) | (right;omega))) Zj)
 ·refine gdt (Ym J J) J J J J<|gdt (Zy J J (i:=2) J Zi Qn) J J J J<|gdt (Pi J J J) J J J J<|dt (Yh J J J) J<|Zf<|Za<|Zq J (fun h136=>?_) (fun h136=>?_)
  ·exact Zb<|Zg<|as_ J J<|as_ J J<|Zf<|Za<|Zu<|Xe<|Zv (.inl J) hsc _ _ (fun a w hs=>Ni hs Tryz.results112 J J) J trivial J (Ld (Cm (p:=xs) (q:=ys) (by first | (left;omega) | (right;omega))) Zj)
  ·have hnx:xs≠[]:=by intro e;subst e;simp_all
   have hny:ys≠[]:=by intro e;subst e;simp_all
   have hlx:0<xs.length:=List.length_pos_iff.2 hnx
   have hly:0<ys.length:=List.length_pos_iff.2 hny
   refine Zk<|Za<|Zb<|Zb<|Zg<|mv J J<|dt (Zy J J (i:=1) J Zi Qn) J<|mv J J<|dt (Zy J J (i:=2) J Zi Qn) J<|dt (Yt J J J ⟨by omega,by omega⟩) J<|dt (Qg J J J ⟨by omega,by omega⟩) J<|dt (On J J J) J<|mv J J<|Qx (d:=35) J (fun s139=>?_) (fun s139=>?_)
   ·exfalso;exact hF ⟨hnx,hny,.inl (by omega)⟩
   ·refine gdt (Ym J J) J J J J<|gtt (Zh (n:=2) (Nq _ _ (by first | exact hv.sz | exact hu.sz)) J J J K1 Bt (Zd 1 J J J Ze) J hw) J J J J fun _ _=>gdt (Ym J J) J J J J<|gtt (Zh (n:=2) (Nq _ _ (by first | exact hv.sz | exact hu.sz)) J J J K1 Bt (Zd 2 J J J Ze) J hw) J J J J fun _ _=>gdt (Yt J J J ⟨by omega,by omega⟩) J J J J<|gdt (Yt J J J ⟨by omega,by omega⟩) J J J J<|gdt (On J J J) J J J J<|dt (Yh J J J) J<|Zf<|Za<|Zq J (fun h139=>?_) (fun h139=>?_)
    ·exfalso;exact hF ⟨hnx,hny,by first | (left;omega) | (right;omega)⟩
    ·have hsz:msz xs+msz ys+5≤65536:=by omega
     have hpq:∀i j,bl (cf xs i*cf ys j).natAbs≤65536:=fun i j=>by have:=Qh (cf xs i) (cf ys j);have:=Lc xs i;have:=Lc ys j;omega
     have hac:∀i j t,i<25→bl (Zf6 xs ys i j t).natAbs≤65536:=fun i j t hi=>by have:=bl_acc2 (i:=i) (j:=j) (t:=t) (Lc xs) (Lc ys) (by omega);omega
     have hacc:∀t,bl (acc xs ys xs.length t).natAbs≤65536:=fun t=>by have:=bl_acc (i:=xs.length) (t:=t) (Lc xs) (Lc ys) (by omega);omega
     have hsum:∀i j,i<25→bl (Zf6 xs ys i j (i+j)+cf xs i*cf ys j).natAbs≤65536:=fun i j hi=>by rw [←Zue];exact hac i (j+1) _ hi
     refine Zk<|Za<|Zb<|Zg<|tt (Zo (i:=3) J J J Tryz.zeroValue167 J J hw) J fun b _=>Zf<|Za<|Zb<|Zg<|mv J J<|dt (Zy J J (i:=1) J Zi Qn) J<|mv J J<|dt (Zy J J (i:=2) J Zi Qn) J<|dt (Yt J J J ⟨by omega,by omega⟩) J<|dt (Qg J J J ⟨by omega,by omega⟩) J<|tt (Hw (i:=4) (n:=(xs.length+ys.length-1)) (by_:=24) (enc:=wv) 0 J J J J J (by omega) Qn Tryz.ti31 J pV.cells pV.pos J J (by omega) (by decide) J hw) J fun v _=>as_ J J<|Zf<|Za<|Zb<|Zb<|Zg<|mv J J<|dt (Zy J J (i:=1) J Zi Qn) J<|mv J J<|Zf<|Za<|Zl<|Nt [(1,_),(6,_),(7,_),(51,_),(52,_)] [(0,_),(1,_),(2,_),(3,_)] (fun(i:Nat)=>[(53,.int .i64 (i:Int))]) (fun(i:Nat)=>[(4,osl 2 31 wv v (mk (xs.length+ys.length-1) (acc xs ys i)))]) (fun(i:Nat)=>i≤xs.length) (fun(i:Nat)=>xs.length-i) 0 (by first | omega | (dsimp only<;>omega)) K6 ⟨by rw [Zm2];rfl,rfl,rfl,rfl,rfl,trivial⟩ ?_
     rintro i hi
     simp only [List.cons_append,List.nil_append]
     refine Zb<|Zg<|dt (Qb J J J) J<|Zf<|Za<|Zb<|Zq J (fun h144=>?_) (fun h144=>?_)
     ·refine Zk<|Za<|Zb<|Zl<|Zb<|Zg<|mv J J<|dt (Yz (ii:=1) J J J J Zi Qn Yk J (by first | omega | (simp only [List.length_set];omega))) J<|dt (Xs (ii:=1) 0 J J J Zi pV (by first | omega | (simp only [List.length_set];omega))) J<|tt (Zo (i:=5) J J J Tryz.zeroValue31 J J hw) J fun b_2 _=>as_ J J<|tt (Zm (i:=5) J J J J J (by decide) J Yk J J ⟨Zc J,Zc J,trivial⟩ J hw trivial) J fun _ _=>Zf<|Za<|Zb<|Zg<|mv J J<|dt (Zy J J (i:=2) J Zi Qn) J<|mv J J<|Zf<|Za<|Zl<|Nt [(1,_),(6,_),(7,_),(8,_),(9,_),(51,_),(52,_),(53,_),(58,_),(59,_)] [(0,_),(1,_),(2,_),(3,_),(5,_)] (fun(j:Nat)=>[(60,.int .i64 (j:Int))]) (fun(j:Nat)=>[(4,osl 2 31 wv v (mk (xs.length+ys.length-1) (Zf6 xs ys i j)))]) (fun(j:Nat)=>j≤ys.length) (fun(j:Nat)=>ys.length-j) 0 (by first | omega | (dsimp only<;>omega)) K11 ⟨by rw [Zud];rfl,rfl,rfl,rfl,rfl,rfl,trivial⟩ ?_
      rintro j hj
      simp only [List.cons_append,List.nil_append]
      have hgd:i+j<xs.length+ys.length-1→(mk (xs.length+ys.length-1) (Zf6 xs ys i j)).getD (i+j) 0=Zf6 xs ys i j (i+j):=fun h=>Zbk h
      refine Zb<|Zg<|dt (Qb J J J) J<|Zf<|Za<|Zb<|Zq J (fun h145=>?_) (fun h145=>?_)
      ·refine Zk<|Za<|Zb<|Zl<|Zb<|Zg<|mv J J<|dt (Yz (ii:=2) J J J J Zi Qn Yk J (by first | omega | (simp only [List.length_set];omega))) J<|dt (Xs (ii:=2) 0 J J J Zi pV (by first | omega | (simp only [List.length_set];omega))) J<|tt (Zo (i:=6) J J J Tryz.zeroValue31 J J hw) J fun b_3 _=>as_ J J<|tt (Zm (i:=6) J J J J J (by decide) J Yk J J ⟨Zc J,Zc J,trivial⟩ J hw trivial) J fun _ _=>Zf<|Za<|Qs (fun x=>x=b) [(0,0),(1,0),(2,0),(3,0),(4,0),(5,0),(6,0),(7,0),(8,0),(9,0),(10,0),(11,0),(12,1),(13,1),(14,0),(15,3)] (by kernel_rfl) ?_ ?_
       ·kernel_rfl
       refine r0' J J J J (st1 3 J (Ym J J))<|r0' J J J J (st1 3 J (Ym J J))<|r0' J J J J (st1 3 J (Ym J J))<|r0' J J J J (st1 3 J (Yt J J J ⟨by omega,by omega⟩))<|r0' J J J J (st1 3 J (Ym J J))<|r0' J J J J (st1 3 J (Ym J J))<|r0' J J J J (st1 3 J (Ym J J))<|r0' J J J J (st1 3 J (Yt J J J ⟨by omega,by omega⟩))<|r0' J J J J (st1 3 J (Yz (ii:=4) (i:=(i+j)) J J J J (Yn pV) Qn Yk (by omega) (by rw [Xn];omega)))<|r0' J J J J (st1 3 J (Xs (ii:=4) 0 J J J (Yn pV) pV (by rw [Xn];omega)))<|r0' J J J J (st1 3 J (Yc (i:=5) J J J Qo Yk J J))<|r0' J J J J (st1 3 J (Yc (i:=6) J J J Qo Yk J J))<|r1' J J (Oc (n:=6) (i:=3) (Fy _ _ _ (hv.sz _) (hu.sz _) (hpq i j)) J J J K3 Zbr J (by decide) Ze J hw J) fun _ _=>r1' J J (Oc (n:=6) (i:=3) (Zn1 _ _ _ (by rw [hgd (by omega)];exact hac i j _ (by omega)) (hpq i j) (by rw [hgd (by omega)];exact hsum i j (by omega))) J J J K3 Zxc J (by decide) Ze J hw J) fun _ _=>r0' J J J J (st1 3 J (Yz (ii:=4) (i:=(i+j)) J J J J (Yn pV) Qn Yk (by omega) (by rw [Xn];omega)))<|r3' J J (Kr (i:=4) (enc:=wv) _ J J J J J J (by decide) pV (by rw [Xn];omega) J hw) fun _ _=>Og<|Ob<|Za<|Zg<|dt (Yt J J J ⟨by omega,by omega⟩) J<|mv J J<|Zf ?_
       exact Xq (j+1) (by first | omega | (dsimp only<;>omega)) (by first | omega | (dsimp only<;>omega)) K11 ⟨by rw [←Zxk (by omega),←hgd (by omega)];rfl,rfl,rfl,rfl,rfl,rfl,trivial⟩
      ·refine Yu<|Zs<|Zs<|Ox<|Ob<|Za<|Zg<|dt (Yt J J J ⟨by omega,by omega⟩) J<|mv J J<|Zf ?_
       obtain rfl:j=ys.length:=by omega
       exact Xq (i+1) (by first | omega | (dsimp only<;>omega)) (by first | omega | (dsimp only<;>omega)) K6 ⟨by rw [←Zxl];rfl,rfl,rfl,rfl,rfl,trivial⟩
     ·refine Yu<|Zs<|Zs<|Ox<|Za<|Zb ?_
      obtain rfl:i=xs.length:=by omega
      exact Ys (Po 4 J J pV)<|Zg<|mv J J<|tt (Oc (n:=7) (i:=3) (Zan _ _ _ (Ax fun t _=>hacc t)) J J J K2 Zl1 J (by decide) (Zd 4 J J J Ze) J hw trivial) J fun _ _=>dt (Yg J J J) J<|dt (Yg J J J) J<|as_ J J<|as_ J J<|Zf<|Za<|Zu<|Zv (.inl J) hsc _ _ (fun a w hs=>Ni hs Tryz.results112 J J) J trivial J (Yj 7 J J J (by rw [Zvy]<;>rfl) Zj)
end Go.Sky

