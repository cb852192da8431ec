/- rules, arithmetic and contracts: part 7
   Proved without conditions of its own: each theorem bears its own. -/
import Derived.Test.YtcmiiammekgooaaGreatSl03
import Derived.Test.YtcmiiammekgooaaGreatSl02
import Derived.Test.YtcmiiammekgooaaGreatSl01
import Derived.Test.YtcmiiammekgooaaGreatSl05
set_option linter.all false
namespace Go.Sky
open Go.Proofs.Tryz
open Go.Proofs
set_option maxRecDepth 20000
set_option maxHeartbeats 4000000
set_option linter.unusedSimpArgs false
theorem Ec(v:Value)(xs:List Int)(c:Int)(hv:Vp xs)(hc:bl c.natAbs≤65536)(hz:∀i,bl (cf xs i*c).natAbs≤65536):Cal prog 151 #[v,wv c] [slp 2 wv v xs] true (G:=Value) (fun r=>True) (fun r=> .tuple #[r,.int .i64 0]) (fun r=>[slp 2 wv r (Xj xs c)]):=by
 refine Ya func151 J ntmps151 J K1 ?_
 intro w0 sc hw hsc
 simp only [Zp,Zn]
 have hlen:=hv.len
 refine Zc<|Zg<|tt (Xe (i:=2) J J J J J hw) fun b _=>as_ J<|as_ J<|Zf<|Za<|Zc<|Zc<|Zg<|mv J<|tt (Zh (n:=2) (Xq _ _ ‹_›) J J J K1 Zdr (Zb 1 J J J Ze) J hw) fun _ _=>dt (Xp J J)<|mv J<|gdt (Zz (i:=2) J J J Qj Yj J J) J J<|gtt (Zh (n:=2) (Ly _ ‹_›) J J J K1 Zft Ze J hw) J J J fun _ _=>gdt (Xp J J) J J<|dt (Yh J J J)<|Zf<|Za<|Ye J<|Zj<|Za<|Zc<|Zg<|tt (Zo (i:=3) J J zeroValue167 J J hw) fun b_2 _=>Zf<|Za<|Zc<|Zg<|mv J<|dt (Yb J J (i:=1) J Zi Qp)<|tt (Hr (i:=4) (n:=_) (by_:=24) (enc:=wv) 0 J J J J Qp ti31 J pV.cells pV.pos J J J hw J J) fun v _=>as_ J<|Zf<|Za<|Zc<|Zc<|Zg<|mv J<|dt (Yb J J (i:=1) J Zi Qp)<|mv J<|Zf<|Za<|Zl<|Nt [(3,_),(6,_),(7,_),(21,_),(22,_)] [(0,_),(1,_),(2,_),(3,_)] (fun(k:Nat)=>[(23,.int .i64 (k:Int))]) (fun(k:Nat)=>[(4,osl 2 31 wv v (fill xs.length k (fun i=>cf xs i*c)))]) (fun(k:Nat)=>k≤xs.length) (fun(k:Nat)=>xs.length-k) 0 (by first | omega | (dsimp only<;>omega)) K6 ⟨by rw [Cm xs.length (fun i=>cf xs i*c)];rfl,rfl,rfl,rfl,rfl,trivial⟩ ?_
 rintro k hk
 simp only [CA,NA]
 refine Zc<|Zg<|dt (Xu J J J)<|Zf<|Za<|Zc<|Zq J (fun h159=>?_) (fun h159=>?_)
 ·exact Zj<|Za<|Zc<|Zl<|Zc<|Zg<|mv J<|dt (Yw (ii:=1) J J J J Zi Qp Yj J (by first | omega | (simp only [List.length_set];omega)))<|dt (Xm (ii:=1) 0 J J J Zi pV (by first | omega | (simp only [List.length_set];omega)))<|tt (Zo (i:=5) J J zeroValue31 J J hw) fun b_3 _=>as_ J<|tt (Zm (i:=5) J J J J J (by decide) J Yj J J ⟨Zd J,Zd J,trivial⟩ J hw trivial) fun _ _=>Zf<|Za<|Zg<|mv J<|mv J<|dt (Zz (i:=5) J J J Qj Yj J J)<|dt (Zz (i:=2) J J J Qj Yj J J)<|tt (Om (n:=5) (i:=3) (El _ _ _ (hv.sz.getD _) hc (hz _)) J J J K3 call153 J (by decide) Ze J hw trivial) fun _ _=>dt (Yw (ii:=4) (i:=k) J J J J (Yq pV) Qp Yj J (by rw [Ou];omega))<|tt (Kz (i:=4) (enc:=wv) _ J J J J J J pV J hw (by decide) (by rw [Ou];omega)) fun _ _=>Zf<|Oa<|Za<|Zg<|dt (Ys J J J ⟨by omega,by omega⟩)<|mv J<|Zf<|Xk (k+1) (by first | omega | (dsimp only<;>omega)) (by first | omega | (dsimp only<;>omega)) K6 ⟨by rw [←Zdj (by omega)];rfl,rfl,rfl,rfl,rfl,trivial⟩
 ·refine Yu<|Zu<|Zu<|Ox<|Za<|Zc ?_
  obtain rfl:k=xs.length:=by omega
  exact Yl (Qz 4 J J pV)<|Yl (s_rbox 3 J J)<|Zg<|mv J<|tt (Zh (n:=6) (d_done _ _ _ (by rw [Di];exact Zay fun i _=>hz i)) J J J K2 call154 (Zb 3 J J J (Zb 4 J J J Ze)) J hw) fun _ _=>dt (Yf J J J)<|dt (Yf J J J)<|as_ J<|as_ J<|Zf<|Za<|Zv<|Yn (.inl J) hsc _ _ (fun a w hs=>Np hs results151 J J) J trivial J (Yk 6 J J J (by rw [Zrz]<;>rfl) Zk)
theorem Dc(v:Value)(xs:List Int)(hv:Vp xs)(hz:∀i,bl (cf xs (i+1)*((i:Int)+1)).natAbs≤65536):Cal prog 109 #[v] [slp 2 wv v xs] true (G:=Value) (fun r=>True) (fun r=> .tuple #[r,.int .i64 0]) (fun r=>[slp 2 wv r (Pf xs)]):=by
 refine Ya func109 J ntmps109 J K1 ?_
 intro w0 sc hw hsc
 simp only [Zp,Zn]
 have hlen:=hv.len
 refine Zc<|Zg<|as_ J<|as_ J<|Zf<|Za<|Zc<|Zc<|Zg<|mv J<|tt (Zh (n:=1) (Xq _ _ ‹_›) J J J K1 Zdr (Zb 1 J J J Ze) J hw) fun _ _=>dt (Xp J J)<|Zf<|Za<|Ye J<|Zj<|Za<|Zc<|Zc<|Zg<|mv J<|dt (Yb J J (i:=1) J Zi Qp)<|dt (Pm J J J)<|Zf<|Za<|Zq J (fun h170=>?_) (fun h170=>?_)
 ·exact Zc<|Zg<|as_ J<|as_ J<|Zf<|Za<|Zv<|Xc<|Yn (.inl J) hsc _ _ (fun a w hs=>Np hs results109 J J) J trivial J (Lh (Zwz (by omega)) Zk)
 ·refine Zj<|Za<|Zc<|Zg<|tt (Zo (i:=2) J J zeroValue167 J J hw) fun b _=>Zf<|Za<|Zc<|Zg<|mv J<|dt (Yb J J (i:=1) J Zi Qp)<|dt (Qa J J J ⟨by omega,by omega⟩)<|tt (Hr (i:=3) (n:=(xs.length-1)) (by_:=24) (enc:=wv) 0 J J J J Qp ti31 J pV.cells pV.pos J J J hw) fun v _=>as_ J<|Zf<|Za<|Zc<|Zc<|Zg<|mv J<|dt (Yb J J (i:=3) J (Yq pV) Qp)<|mv J<|Zf<|Za<|Zl<|Nt [(0,_),(4,_),(5,_),(18,_)] [(0,_),(1,_),(2,_)] (fun(k:Nat)=>[(19,.int .i64 (k:Int))]) (fun(k:Nat)=>[(3,osl 2 31 wv v (fill (xs.length-1) k (fun i=>cf xs (i+1)*((i:Int)+1))))]) (fun(k:Nat)=>k≤xs.length-1) (fun(k:Nat)=>xs.length-1-k) 0 (by first | omega | (dsimp only<;>omega)) K5 ⟨by rw [Cm (xs.length-1) (fun i=>cf xs (i+1)*((i:Int)+1))];rfl,rfl,rfl,rfl,trivial⟩ ?_
  rintro k hk
  simp only [CA,NA]
  have hlf:(fill (xs.length-1) k (fun i=>cf xs (i+1)*((i:Int)+1))).length=xs.length-1:=Ou _ _ _
  refine Zc<|Zg<|dt (Xu J J J)<|Zf<|Za<|Zc<|Zq J (fun h175=>?_) (fun h175=>?_)
  ·try rw [List.length_replicate]at *
   refine Zj<|Za<|Zc<|Zl<|Zc<|Zg<|mv J<|as_ J<|Zf<|Za<|Ql (fun x=>x=b) [(0,0),(1,0),(2,0),(3,0),(4,0),(5,0),(6,0),(7,0),(8,0),(9,1),(10,1),(11,0),(12,3)] ?_ ?_
   ·kernel_rfl
   exact r0' J J (st1 2 J (Ym J J))<|r0' J J (st1 2 J (Ym J J))<|r0' J J (st1 2 J (Ym J J))<|r0' J J (st1 2 J (Ym J J))<|r0' J J (st1 2 J (Ys J J J ⟨by omega,by omega⟩))<|r0' J J (st1 2 J (Yw (ii:=1) (i:=k+1) J J J J Zi Qp Yj))<|r0' J J (st1 2 J (Xm (ii:=1) 0 J J J Zi pV))<|r0' J J (st1 2 J (Ym J J))<|r0' J J (st1 2 J (Ys J J J ⟨by omega,by omega⟩))<|r1' J (Zh (n:=3) (Xd _ (by first | assumption | exact⟨by omega,by omega⟩)) J J J K1 Bj Ze J hw) fun _ _=>r1' J (Om (n:=3) (i:=2) (El _ (cf xs (k+1)) ((k:Int)+1) (hv.sz _) (Nat.le_trans (Ow (n:=32) (by omega)) (by decide)) (hz k)) J J J K3 call153 J (by decide) Ze J hw J) fun _ _=>r0' J J (st1 2 J (Yw (ii:=3) (i:=k) J J J J (Yq pV) Qp Yj J (by rw [Ou];omega)))<|r3' J (Kz (i:=3) (enc:=wv) _ J J J J J J pV J hw (by decide) (by rw [Ou];omega)) fun _ _=>Og<|Oa<|Za<|Zg<|dt (Ys J J J ⟨by omega,by omega⟩)<|mv J<|Zf<|Xk (k+1) (by first | omega | (dsimp only<;>omega)) (by first | omega | (dsimp only<;>omega)) K5 ⟨by rw [←Zdj (by omega)];rfl,rfl,rfl,rfl,trivial⟩
  ·try rw [List.length_replicate]at *
   refine Yu<|Zu<|Zu<|Ox<|Za<|Zc ?_
   obtain rfl:k=xs.length-1:=by omega
   exact Yl (Qz 3 J J pV)<|Yl (s_rbox 2 J J)<|Zg<|mv J<|tt (Zh (n:=4) (d_done _ _ _ (by rw [Di];exact Zay fun i _=>hz i)) J J J K2 call154 (Zb 2 J J J (Zb 3 J J J Ze)) J hw) fun _ _=>dt (Yf J J J)<|dt (Yf J J J)<|as_ J<|as_ J<|Zf<|Za<|Zv<|Yn (.inl J) hsc _ _ (fun a w hs=>Np hs results109 J J) J trivial J (Yk 4 J J J (by rw [pder_mk hv.tr]<;>rfl) Zk)
theorem Zjq(v:Value)(xs:List Int)(hv:Vp xs):Ml prog 181 #[v] [slp 2 wv v xs] (.tuple #[wv (Qc xs),.int .i64 0]):=by
 refine Ya func181 J ntmps181 J K1 ?_
 intro w0 sc hw hsc
 simp only [Zp,Zn]
 have hlen:=hv.len
 have hcb:∀k,bl (Qc (xs.take k)).natAbs≤65536:=fun k=>Zdg _ (hv.sz.take k)
 refine Zc<|Zg<|tt (Zo (i:=2) J J zeroValue31 J J hw) fun b _=>as_ J<|Zf<|Za<|Zc<|Zc<|Zg<|mv J<|tt (Zh (n:=2) (Xq _ _ ‹_›) J J J K1 Zdr (Zb 1 J J J Ze) J hw) fun _ _=>dt (Xp J J)<|Zf<|Za<|Ye J<|Zj<|Za<|Zc<|Zg<|tt (Zo (i:=3) J J zeroValue167 J J hw) fun b_2 _=>Zf<|Za<|Zc<|Zg<|tt (Zo (i:=4) J J zeroValue31 J J hw) fun b_3 _=>Zf<|Za<|Zc<|Zc<|Zg<|mv J<|dt (Yb J J (i:=1) J Zi Qp)<|mv J<|Zf<|Za<|Zl<|Nt [(2,_),(4,_),(5,_),(12,_),(13,_)] [(0,_),(1,_),(2,_)] (fun(k:Nat)=>[(14,.int .i64 (k:Int))]) (fun(k:Nat)=>[(4,box b_3 31 #[.bool (decide (Qc (xs.take k)<0)),.string (Qq (Qc (xs.take k)).natAbs)]),(3,box b_2 167 #[.int .i64 0])]) (fun(k:Nat)=>k≤xs.length) (fun(k:Nat)=>xs.length-k) 0 (by first | omega | (dsimp only<;>omega)) K6 K5 ?_
 rintro k hk
 simp only [CA,NA]
 have hgc:=fun h=>Ms (p:=xs) (k:=k) h
 refine Zc<|Zg<|dt (Xu J J J)<|Zf<|Za<|Zc<|Zq J (fun h264=>?_) (fun h264=>?_)
 ·refine Zj<|Za<|Zc<|Zl<|Zc<|Zg<|dt (Yw (ii:=1) J J J J Zi Qp Yj J (by first | omega | (simp only [List.length_set];omega)))<|dt (Xm (ii:=1) 0 J J J Zi pV (by first | omega | (simp only [List.length_set];omega)))<|tt (Zo (i:=5) J J zeroValue31 J J hw) fun b_4 _=>tt (Zm (i:=5) J J J J J (by decide) J Yj J J ⟨Zd J,Zd J,trivial⟩ J hw trivial) fun _ _=>Zf<|Za<|Zg<|dt (Xx J J Zg1 J Zgr J J)<|dt (Zz (i:=4) J J J Qj Yj J J)<|dt (Zz (i:=5) J J J Qj Yj J J)<|tt (Zh (n:=5) (Zvc (Qc (xs.take k)) (xs.getD k 0) (hcb _) (hv.sz.getD _)) J J J K2 call196 Ze J hw) fun _ _=>dt (Yf J J J)<|dt (Yf J J J)<|tt (Om (n:=5) (i:=3) (Zod _ _ _ _ _ _) J J J K3 call175 J (by decide) Ze J hw trivial) fun _ _=>tt (Zm (i:=4) J J J J J (by decide) J Yj J J ⟨Zd J,Zd J,trivial⟩ J hw trivial) fun _ _=>Zf<|Oa<|Za<|Zg<|dt (Ys J J J ⟨by omega,by omega⟩)<|mv J<|Zf ?_
  have hc1:=hcb (k+1)
  rw [hgc (by omega)]at hc1
  exact Xk (k+1) (by first | omega | (dsimp only<;>omega)) (by first | omega | (dsimp only<;>omega)) K6 ⟨by rw [hgc (by omega)];simp only [Oz hc1];rfl,by simp only [Dh hc1];rfl,rfl,rfl,rfl,trivial⟩
 ·exact Yu<|Zu<|Zu<|Ox<|Za<|Zc<|Oo [3,4] [5]<|Zy (n:=0) [(0,0),(1,0),(2,0),(3,0),(4,1),(5,3)]<|r0' J J (stf (Zz (i:=4) J J J Qj Yj J J) K2)<|r0' J J (stf (Xx J J Zg1 J Zgr J J) K2)<|r0' J J (stf (Xx J J Zkw J Gr J J) K2)<|r0' J J (stf (Ok (i:=3) J J J Ax J) K2)<|r1' J (Zd4 2 J J K2 (fun ob=>(Zm (i:=2) J J J J J (by decide) J Yj J J ⟨Zd J,Zd J,trivial⟩ J hw ob))) fun _ _=>r3' J (Px (Lq J J) J) fun _ _=>Yo<|Yg<|Za<|Zv<|Yn (.inl J) hsc () _ (fun a w hs=>Np hs results181 (Yr (i:=2) J J Qj Yj J) J) (by rw [show k=xs.length by omega,List.take_length]<;>rfl) trivial J Zk
theorem Zhw(v:Value)(xs:List Int)(c:Int)(hv:Sz 65536 xs)(hlen:xs.length≤1000)(hc:bl c.natAbs≤65536)(hd:∀i,c∣cf xs i)(hc0:xs≠[]→c≠0):Cal prog 182 #[v,wv c] [slp 2 wv v xs] true (G:=Value) (fun r=>True) (fun r=> .tuple #[r,.int .i64 0]) (fun r=>[slp 2 wv r (xs.map (· / c))]):=by
 refine Ya func182 J ntmps182 J K1 ?_
 intro w0 sc hw hsc
 simp only [Zp,Zn]
 refine Zc<|Zg<|tt (Xe (i:=2) J J J J J hw) fun b _=>as_ J<|as_ J<|Zf<|Za<|Zc<|Zg<|mv J<|dt (Yb J J (i:=1) J Zi Qp)<|tt (Hr (i:=3) (n:=_) (by_:=24) (enc:=wv) 0 J J J J Qp ti31 J pV.cells pV.pos J J J hw J J) fun v _=>as_ J<|Zf<|Za<|Zc<|Zc<|Zg<|mv J<|dt (Yb J J (i:=1) J Zi Qp)<|mv J<|Zf<|Za<|Zl<|Nt [(3,_),(6,_),(15,_),(16,_)] [(0,_),(1,_),(2,_)] (fun(k:Nat)=>[(17,.int .i64 (k:Int))]) (fun(k:Nat)=>[(3,osl 2 31 wv v (fill xs.length k (fun i=>cf xs i/c)))]) (fun(k:Nat)=>k≤xs.length) (fun(k:Nat)=>xs.length-k) 0 (by first | omega | (dsimp only<;>omega)) K5 ⟨by rw [Cm xs.length (fun i=>cf xs i/c)];rfl,rfl,rfl,rfl,trivial⟩ ?_
 rintro k hk
 simp only [CA,NA]
 have hcl:Zgm (xs.getD k 0/c)=cf xs k/c:=Oz (Ha (hd k) (hv k))
 refine Zc<|Zg<|dt (Xu J J J)<|Zf<|Za<|Zc<|Zq J (fun h273=>?_) (fun h273=>?_)
 ·refine Zj<|Za<|Zc<|Zl<|Zc<|Zg<|mv J<|dt (Yw (ii:=1) J J J J Zi Qp Yj J (by first | omega | (simp only [List.length_set];omega)))<|dt (Xm (ii:=1) 0 J J J Zi pV (by first | omega | (simp only [List.length_set];omega)))<|tt (Zo (i:=4) J J zeroValue31 J J hw) fun b_2 _=>as_ J<|tt (Zm (i:=4) J J J J J (by decide) J Yj J J ⟨Zd J,Zd J,trivial⟩ J hw trivial) fun _ _=>Zf<|Za<|Zc<|Zg<|dt (Zz (i:=4) J J J Qj Yj J J)<|dt (Zz (i:=2) J J J Qj Yj J J)<|tt (Zh (n:=4) (Cu _ _ (hv.getD _) hc (hc0 (by intro e;rw [e]at h273;simp at h273;omega))) J J J K2 call158 Ze J hw) fun _ _=>mv J<|dt (Yf J J J)<|dt (Yf J J J)<|dt (Yf J J J)<|tt (Zo (i:=5) J J zeroValue31 J J hw) fun b_3 _=>tt (Zo (i:=6) J J zeroValue31 J J hw) fun b_4 _=>tt (Zm (i:=5) J J J J J (by decide) J Yj J J ⟨Zd J,Zd J,trivial⟩ J hw trivial) fun _ _=>tt (Zm (i:=6) J J J J J (by decide) J Yj J J ⟨Zd J,Zd J,trivial⟩ J hw trivial) fun _ _=>as_ J<|Zf<|Za<|Zc<|Zc<|Zg<|mv J<|dt (Qb J J J)<|Zf<|Za<|Zq J (fun h275=>?_) (fun h275=>?_)
  ·exfalso;simp_all
  ·exact Zj<|Za<|Zg<|mv J<|mv J<|dt (Zz (i:=5) J J J Qj Yj J J)<|dt (Yw (ii:=3) (i:=k) J J J J (Yq pV) Qp Yj J (by rw [Ou];omega))<|tt (Kz (i:=3) (enc:=wv) _ J J J J J J pV J hw (by decide) (by rw [Ou];omega)) fun _ _=>Zf<|Oa<|Za<|Zg<|dt (Ys J J J ⟨by omega,by omega⟩)<|mv J<|Zf<|Xk (k+1) (by first | omega | (dsimp only<;>omega)) (by first | omega | (dsimp only<;>omega)) K5 ⟨by rw [←Zdj (by omega)];simp only [hcl];rfl,rfl,rfl,rfl,trivial⟩
 ·refine Yu<|Zu<|Zu<|Ox<|Za<|Zc<|Zg<|mv J<|as_ J<|as_ J<|Zf<|Za<|Zv ?_
  obtain rfl:k=xs.length:=by omega
  exact Yn (.inl J) hsc _ _ (fun a w hs=>Np hs results182 J J) J trivial J (Py 3 J J pV (by rw [Di,Zn1 xs (· / c)]<;>rfl) Zk)
theorem Mi(v:Value)(xs:List Int)(hv:Vp xs):Cal prog 150 #[v] [slp 2 wv v xs] true (G:=Value) (fun r=>True) (fun r=> .tuple #[r,.int .i64 0]) (fun r=>[slp 2 wv r (Yx xs)]):=by
 refine Ya func150 J ntmps150 J K1 ?_
 intro w0 sc hw hsc
 simp only [Zp,Zn]
 have hlen:=hv.len
 refine Zc<|Zg<|as_ J<|as_ J<|Zf<|Za<|Zc<|Zg<|mv J<|tt (Zh (n:=1) (Zjq _ _ ‹_›) J J J K1 call181 (Zb 1 J J J Ze) J hw) fun _ _=>mv J<|dt (Yf J J J)<|dt (Yf J J J)<|tt (Zo (i:=2) J J zeroValue31 J J hw) fun b _=>tt (Zm (i:=2) J J J J J (by decide) J Yj J J ⟨Zd J,Zd J,trivial⟩ J hw trivial) fun _ _=>as_ J<|Zf<|Za<|Zc<|Zc<|Zg<|mv J<|dt (Qb J J J)<|Zf<|Za<|Zq J (fun h286=>?_) (fun h286=>?_)
 ·exfalso;simp_all
 ·exact Zj<|Za<|Zc<|Zg<|mv J<|dt (Zz (i:=2) J J J Qj Yj J J)<|tt (Zh (n:=3) (Zhw _ _ _ hv.sz (by omega) (Zdg _ hv.sz) (Mt _) hv.ne) J J J K2 call182 (Zb 1 J J J Ze) J hw) fun _ _=>dt (Yf J J J)<|dt (Yf J J J)<|as_ J<|as_ J<|Zf<|Za<|Zv<|Yn (.inl J) hsc _ _ (fun a w hs=>Np hs results150 J J) J trivial J (Yk 3 J J J J Zk)
theorem Zr4(v:Value)(xs:List Int)(x y:Int)(hv:Vp xs)(hx:bl x.natAbs≤65536)(hy:bl y.natAbs≤65536)(hy0:0<y):Ml prog 186 #[v,rX x y] [slp 2 wv v xs] (.tuple #[wv (evv xs x y),.int .i64 (eve xs x y)]):=by
 refine Ya func186 J ntmps186 J K1 ?_
 intro w0 sc hw hsc
 simp only [Zp,Zn]
 have hlen:=hv.len
 refine Zc<|Zg<|tt (Xe (i:=2) J J J J J hw) fun b _=>tt (Zo (i:=3) J J zeroValue31 J J hw) fun b_2 _=>as_ J<|Zf<|Za<|Zc<|Zc<|Zg<|mv J<|tt (Zh (n:=3) (Xq _ _ ‹_›) J J J K1 Zdr (Zb 1 J J J Ze) J hw) fun _ _=>dt (Xp J J)<|mv J<|gdt (Yy (i:=2) J J J Pv Xz J J J J) J J<|gtt (Zh (n:=3) (Qr _ _ ‹_› ‹_› ‹_›) J J J K1 call117 Ze J hw) J J J fun _ _=>gdt (Xp J J) J J<|dt (Yh J J J)<|Zf<|Za<|Ye J<|Zj<|Za<|Zc<|Zc<|Zg<|mv J<|dt (Yb J J (i:=1) J Zi Qp)<|dt (Pm J J J)<|Zf<|Za<|Zq J (fun h186=>?_) (fun h186=>?_)
 ·exact Zc<|Zg<|dt (Pz (ivs:=[]) J trivial (fun a w hs=>Zye))<|tt (Zm (i:=3) J J J J J (by decide) J Yj J J ⟨Zd J,Zd J,trivial⟩ J hw trivial) fun _ _=>as_ J<|Zf<|Za<|Zv<|Xc<|Yn (.inl J) hsc () _ (fun a w hs=>Np hs results186 (Yr (i:=3) J J Qj Yj J) J) (by rw [List.eq_nil_of_length_eq_zero (l:=xs) (by omega)];rfl) trivial J Zk
 ·have hne:xs≠[]:=fun e=>by rw [e]at h186;simp at h186
  have hm1:=Ps hv.sz
  have hsxy:Sz 65536 [x,y]:=Sz.of_mem (by intro z hz;simp at hz;rcases hz with rfl | rfl<;>assumption)
  have hm2:=Ps hsxy
  have hm3:(xs.length-1)*msz [x,y]≤24*65536:=Nat.mul_le_mul (by omega) hm2
  have hm4:((xs.length:Int)-1)*(msz [x,y]:Int)=(((xs.length-1)*msz [x,y]:Nat):Int):=by rw [Int.natCast_mul];congr 1;omega
  refine Zj<|Za<|Zc<|Dj [(0,_),(3,_),(4,_)] [(0,_),(1,_),(2,_),(3,_)] (fun(_:Unit)=>[(37,.bool (decide ((65536:Int)<(msz xs:Int)+((xs.length:Int)-1)*(msz [x,y]:Int)+8)))]) (fun(_:Unit)=>[]) (fun(_:Unit)=>True) K3 K4 ?_ ?_
  ·refine Hb (fun _=>False) []<|Zy (n:=7) [(0,0),(2,0),(3,0),(4,0),(5,0),(6,0),(7,0),(8,0)]<|r0' J J (st0 (Ym J J))<|r0' J J (st0 (Ym J J))<|r0' J J (st0 (Yb J J (i:=1) J Zi Qp))<|r0' J J (st0 (Qa J J J ⟨by omega,by omega⟩))<|r0' J J (st0 (Xx J J Zac J Yj J J))<|r0' J J (st0 (Zz (i:=2) J J J Qj Yj J J))<|r0' J J (st0 (Xx J J Zac J Yj J J))<|r0' J J (st0 (Zz (i:=2) J J J Qj Yj J J))<|Yo<|Pu (n:=6) 1 9 ?_ ?_
   ·exact Yp J (Zh (n:=3) (Nw _ _ (by first | exact hv.sz | exact hsxy)) J J J K1 Av (Zb 1 J J J Ze) J hw) fun _ _=>Zy (n:=0) [(9,1),(10,1),(11,0),(12,0),(13,0),(14,0)]<|r1' J (Pn (i:=90) (ivs:=[(0,_),(1,_)]) (enc:=wv) [x,y] J J K4 uT22 ti31 J J J J J pV.cells J J hw) fun v _=>r1' J (Zh (n:=3) (Nw _ _ (by first | exact hv.sz | exact hsxy)) J J J K1 Av (Xw 90 J J pV Ze) J hw) fun _ _=>r0' J J (st0 (Gq J J J (by rw [hm4];exact⟨by omega,by omega⟩)))<|r0' J J (st0 (Ys J J J (by rw [hm4];exact⟨by omega,by omega⟩)))<|r0' J J (st0 (Ys J J J (by rw [hm4];exact⟨by omega,by omega⟩)))<|r0' J J (st0 (Oq J J J))<|Yo<|Yg<|Qy () trivial K4 K4
   ·exact Yp J (Pn (i:=90) (ivs:=[(0,_),(1,_)]) (enc:=wv) [x,y] J J K4 uT22 ti31 J J J J J pV.cells J J hw) fun v_2 _=>Zy (n:=0) [(1,1),(10,1),(11,0),(12,0),(13,0),(14,0)]<|r1' J (Zh (n:=3) (Nw _ _ (by first | exact hv.sz | exact hsxy)) J J J K1 Av (Zb 1 J J J Ze) J hw) fun _ _=>r1' J (Zh (n:=3) (Nw _ _ (by first | exact hv.sz | exact hsxy)) J J J K1 Av (Xw 90 J J pV Ze) J hw) fun _ _=>r0' J J (st0 (Gq J J J (by rw [hm4];exact⟨by omega,by omega⟩)))<|r0' J J (st0 (Ys J J J (by rw [hm4];exact⟨by omega,by omega⟩)))<|r0' J J (st0 (Ys J J J (by rw [hm4];exact⟨by omega,by omega⟩)))<|r0' J J (st0 (Oq J J J))<|Yo<|Yg<|Qy () trivial K4 K4
  ·rintro _ -
   simp only [CA,NA]
   refine Zq J (fun h189=>?_) (fun h189=>?_)
   ·have hE:Kj xs x y:=⟨hne,by rw [hm4]at h189;omega⟩
    exact Zc<|Zg<|dt (Pz (ivs:=[]) J trivial (fun a w hs=>Zye))<|tt (Zm (i:=3) J J J J J (by decide) J Yj J J ⟨Zd J,Zd J,trivial⟩ J hw trivial) fun _ _=>as_ J<|Zf<|Za<|Zv<|Xc<|Yn (.inl J) hsc () _ (fun a w hs=>Np hs results186 (Yr (i:=3) J J Qj Yj J) J) (by unfold evv eve;rw [if_pos hE,if_pos hE]<;>rfl) trivial J Zk
   ·have hF:msz xs+(xs.length-1)*msz [x,y]+8≤65536:=by rw [hm4]at h189;omega
    refine Zj<|Za<|Zc<|Zg<|tt (Zo (i:=4) J J zeroValue167 J J hw) fun b_3 _=>Zf<|Za<|Dj [(0,_),(3,_),(4,_),(6,_)] [(0,_),(1,_),(2,_),(3,_),(4,_)] (fun(q:Nat×Nat)=>[(7,.pointer (some ⟨q.1,0,none⟩)),(8,.pointer (some ⟨q.2,0,none⟩))]) (fun(q:Nat×Nat)=>[(97,box q.1 31 (wc (xs.getD (xs.length-1) 0))),(98,box q.2 31 (wc 1))]) (fun(q:Nat×Nat)=>True) K4 K5 ?_ ?_
    ·refine Hb (fun _=>False) [9,10]<|Zy (n:=5) [(0,0),(1,0),(2,0),(3,0),(4,0),(5,0)]<|r0' J J (st0 (Ym J J))<|r0' J J (st0 (Ym J J))<|r0' J J (st0 (Yb J J (i:=1) J Zi Qp))<|r0' J J (st0 (Qa J J J ⟨by omega,by omega⟩))<|r0' J J (st0 (Yw (ii:=1) (i:=(xs.length-1)) J J J J Zi Qp Yj))<|r0' J J (st0 (Xm (ii:=1) 0 J J J Zi pV))<|Yo<|Zbo (n:=4) 6 7 8 ?_ ?_ ?_
     ·refine Yp J (Zh (n:=4) (Xd _ (by first | assumption | exact⟨by omega,by omega⟩)) J J J K1 Bj Ze J hw) fun _ _=>Pu (n:=3) 7 8 ?_ ?_
      ·exact Yp J (Zo (i:=97) J J zeroValue31 J J hw) fun b_4 _=>Zy (n:=0) [(8,1),(9,3),(10,3)]<|r1' J (Zo (i:=98) J J zeroValue31 J J hw) fun b_5 _=>r3' J (Zm (i:=97) J J J J J (by decide) J Yj J J ⟨Zd J,Zd J,trivial⟩ J hw trivial) fun _ _=>r3' J (Zm (i:=98) J J J J J (by decide) J Yj J J ⟨Zd J,Zd J,trivial⟩ J hw trivial) fun _ _=>Yo<|Yg<|Qy (_,_) trivial K6 K7
      ·exact Yp J (Zo (i:=98) J J zeroValue31 J J hw) fun b_6 _=>Zy (n:=0) [(7,1),(9,3),(10,3)]<|r1' J (Zo (i:=97) J J zeroValue31 J J hw) fun b_7 _=>r3' J (Zm (i:=97) J J J J J (by decide) J Yj J J ⟨Zd J,Zd J,trivial⟩ J hw trivial) fun _ _=>r3' J (Zm (i:=98) J J J J J (by decide) J Yj J J ⟨Zd J,Zd J,trivial⟩ J hw trivial) fun _ _=>Yo<|Yg<|Qy (_,_) trivial K6 K7
     ·refine Yp J (Zo (i:=97) J J zeroValue31 J J hw) fun b_8 _=>Pu (n:=3) 6 8 ?_ ?_
      ·exact Yp J (Zh (n:=4) (Xd _ (by first | assumption | exact⟨by omega,by omega⟩)) J J J K1 Bj Ze J hw) fun _ _=>Zy (n:=0) [(8,1),(9,3),(10,3)]<|r1' J (Zo (i:=98) J J zeroValue31 J J hw) fun b_9 _=>r3' J (Zm (i:=97) J J J J J (by decide) J Yj J J ⟨Zd J,Zd J,trivial⟩ J hw trivial) fun _ _=>r3' J (Zm (i:=98) J J J J J (by decide) J Yj J J ⟨Zd J,Zd J,trivial⟩ J hw trivial) fun _ _=>Yo<|Yg<|Qy (_,_) trivial K6 K7
      ·exact Yp J (Zo (i:=98) J J zeroValue31 J J hw) fun b_10 _=>Zy (n:=0) [(6,1),(9,3),(10,3)]<|r1' J (Zh (n:=4) (Xd _ (by first | assumption | exact⟨by omega,by omega⟩)) J J J K1 Bj Ze J hw) fun _ _=>r3' J (Zm (i:=97) J J J J J (by decide) J Yj J J ⟨Zd J,Zd J,trivial⟩ J hw trivial) fun _ _=>r3' J (Zm (i:=98) J J J J J (by decide) J Yj J J ⟨Zd J,Zd J,trivial⟩ J hw trivial) fun _ _=>Yo<|Yg<|Qy (_,_) trivial K6 K7
     ·refine Yp J (Zo (i:=98) J J zeroValue31 J J hw) fun b_11 _=>Pu (n:=3) 6 7 ?_ ?_
      ·exact Yp J (Zh (n:=4) (Xd _ (by first | assumption | exact⟨by omega,by omega⟩)) J J J K1 Bj Ze J hw) fun _ _=>Zy (n:=0) [(7,1),(9,3),(10,3)]<|r1' J (Zo (i:=97) J J zeroValue31 J J hw) fun b_12 _=>r3' J (Zm (i:=97) J J J J J (by decide) J Yj J J ⟨Zd J,Zd J,trivial⟩ J hw trivial) fun _ _=>r3' J (Zm (i:=98) J J J J J (by decide) J Yj J J ⟨Zd J,Zd J,trivial⟩ J hw trivial) fun _ _=>Yo<|Yg<|Qy (_,_) trivial K6 K7
      ·exact Yp J (Zo (i:=97) J J zeroValue31 J J hw) fun b_13 _=>Zy (n:=0) [(6,1),(9,3),(10,3)]<|r1' J (Zh (n:=4) (Xd _ (by first | assumption | exact⟨by omega,by omega⟩)) J J J K1 Bj Ze J hw) fun _ _=>r3' J (Zm (i:=97) J J J J J (by decide) J Yj J J ⟨Zd J,Zd J,trivial⟩ J hw trivial) fun _ _=>r3' J (Zm (i:=98) J J J J J (by decide) J Yj J J ⟨Zd J,Zd J,trivial⟩ J hw trivial) fun _ _=>Yo<|Yg<|Qy (_,_) trivial K6 K7
    ·rintro⟨b7,b8⟩ -
     simp only [CA,NA]
     refine Zc<|Zc<|Zg<|mv J<|dt (Yb J J (i:=1) J Zi Qp)<|dt (Qa J J J ⟨by omega,by omega⟩)<|as_ J<|Zf<|Za<|Zl<|Nt [(0,_),(3,_),(4,_),(6,_),(7,_),(8,_)] [(0,_),(1,_),(2,_),(3,_),(4,_)] (fun(k:Nat)=>[(9,.int .i64 ((k:Int)-1))]) (fun(k:Nat)=>[(97,box b7 31 (wc (hor xs x y k))),(98,box b8 31 (wc (y^(xs.length-1-k))))]) (fun(k:Nat)=>k≤xs.length-1) (fun(k:Nat)=>k) (xs.length-1) (by first | omega | (dsimp only<;>omega)) ⟨by rw [show((xs.length-1:Nat):Int)-1=(xs.length:Int)-2 by omega];rfl,rfl,rfl,rfl,rfl,rfl,rfl,trivial⟩ ⟨by rw [hor_top x y (by omega)];rfl,by rw [Nat.sub_self,Int.pow_zero];rfl,rfl,rfl,rfl,rfl,rfl,trivial⟩ ?_
     rintro k hk
     simp only [CA,NA]
     refine Zc<|Zc<|Zg<|mv J<|dt (Lx J J J)<|Zf<|Za<|Zq J (fun h194=>?_) (fun h194=>?_)
     ·have hpw:y^(xs.length-1-k)*y=y^(xs.length-1-(k-1)):=Zwr y (by omega) hk
      have hst:hor xs x y k*x+xs.getD (k-1) 0*y^(xs.length-1-(k-1))=hor xs x y (k-1):=Ztb x y (by omega) hk
      refine Zj<|Za<|Zc<|Zl<|Zc<|Zg<|dt (Zz (i:=98) J J J Qj Yj J J)<|dt (Xx J J Zac J Yj J J)<|dt (Zz (i:=2) J J J Qj Yj J J)<|tt (Om (n:=4) (i:=4) (El _ _ _ (Zoe hF) hy (by rw [hpw];exact Zoe hF)) J J J K3 call153 J (by decide) Ze J hw trivial) fun _ _=>tt (Zm (i:=98) J J J J J (by decide) J Yj J J ⟨Zd J,Zd J,trivial⟩ J hw trivial) fun _ _=>Zf<|Za<|Ql (fun x=>x=b_3) [(0,0),(1,0),(2,0),(4,0),(5,0),(6,0),(7,0),(8,0),(3,1),(9,1),(10,1),(11,3)] ?_ ?_
      ·kernel_rfl
      refine r0' J J (st1 4 J (Zz (i:=97) J J J Qj Yj J J))<|r0' J J (st1 4 J (Xx J J Zac J Yj J J))<|r0' J J (st1 4 J (Zz (i:=2) J J J Qj Yj J J))<|r0' J J (st1 4 J (Ym J J))<|r0' J J (st1 4 J (Ym J J))<|r0' J J (st1 4 J (Yw (ii:=1) (i:=(k-1)) J J J J Zi Qp Yj))<|r0' J J (st1 4 J (Xm (ii:=1) 0 J J J Zi pV))<|r0' J J (st1 4 J (Zz (i:=98) J J J Qj Yj J J))<|r1' J (Om (n:=4) (i:=4) (El _ _ _ (by first | exact Zof hF hlen _ | exact hv.sz.getD _) (by first | exact hx | (rw [hpw];exact Zoe hF)) (by first | exact Ztj hF hlen (by omega) hk | (rw [hpw];exact Zl5 hF))) J J J K3 call153 J (by decide) Ze J hw J) fun _ _=>r1' J (Om (n:=4) (i:=4) (El _ _ _ (by first | exact Zof hF hlen _ | exact hv.sz.getD _) (by first | exact hx | (rw [hpw];exact Zoe hF)) (by first | exact Ztj hF hlen (by omega) hk | (rw [hpw];exact Zl5 hF))) J J J K3 call153 J (by decide) Ze J hw J) fun _ _=>r1' J (Om (n:=4) (i:=4) (Zol _ _ _ (Ztj hF hlen (by omega) hk) (by rw [hpw];exact Zl5 hF) (by rw [hpw,hst];exact Zof hF hlen _)) J J J K3 call159 J (by decide) Ze J hw J) fun _ _=>r3' J (Zm (i:=97) J J J J J (by decide) J Yj J J ⟨Zd J,Zd J,trivial⟩ J hw trivial) fun _ _=>Og ?_
      exact Oa<|Za<|Zg<|mv J<|dt (Qa J J J ⟨by omega,by omega⟩)<|as_ J<|Zf<|Xk (k-1) (by first | omega | (dsimp only<;>omega)) (by first | omega | (dsimp only<;>omega)) ⟨by rw [show((k-1:Nat):Int)-1=(k:Int)-1-1 by omega];rfl,rfl,rfl,rfl,rfl,rfl,rfl,trivial⟩ ⟨by rw [hpw,hst];rfl,by rw [hpw];rfl,rfl,rfl,rfl,rfl,rfl,trivial⟩
     ·refine Yu<|Zu<|Zu<|Ox<|Za<|Zc<|Zc<|Zg<|dt (Xx J J Zg1 J Zgr J J)<|dt (Xx J J Zkw J Gr J J)<|dt (Ok (i:=4) J J J Ax J)<|dt (Qb J J J)<|Zf<|Za<|Zq J (fun h198=>?_) (fun h198=>?_)
      ·exfalso;simp_all
      ·refine Zj<|Za<|Zc<|Zg<|dt (Zz (i:=97) J J J Qj Yj J J)<|tt (Zm (i:=3) J J J J J (by decide) J Yj J J ⟨Zd J,Zd J,trivial⟩ J hw trivial) fun _ _=>as_ J<|Zf<|Za<|Zv ?_
       obtain rfl:k=0:=by omega
       have hE:¬Kj xs x y:=fun h=>by have:=h.2;omega
       exact Yn (.inl J) hsc () _ (fun a w hs=>Np hs results186 (Yr (i:=3) J J Qj Yj J) J) (by unfold evv eve;rw [if_neg hE,if_neg hE,←Zn9]<;>rfl) trivial J Zk
theorem Zli(v:Value)(xs:List Int)(x y:Int)(hv:Vp xs)(hx:bl x.natAbs≤65536)(hy:bl y.natAbs≤65536)(hy0:0<y):Ml prog 164 #[v,rX x y] [slp 2 wv v xs] (.tuple #[.int .i64 (evv xs x y).sign,.int .i64 (eve xs x y)]):=by
 refine Ya func164 J ntmps164 J K1 ?_
 intro w0 sc hw hsc
 simp only [Zp,Zn]
 have hlen:=hv.len
 exact Zc<|Zg<|tt (Xe (i:=2) J J J J J hw) fun b _=>as_ J<|as_ J<|Zf<|Za<|Zc<|Zg<|mv J<|dt (Yy (i:=2) J J J Pv Xz J J J J)<|tt (Zh (n:=2) (Zr4 _ _ _ _ hv hx hy hy0) J J J K2 call186 (Zb 1 J J J Ze) J hw) fun _ _=>mv J<|dt (Yf J J J)<|dt (Yf J J J)<|tt (Zo (i:=3) J J zeroValue31 J J hw) fun b_2 _=>tt (Zm (i:=3) J J J J J (by decide) J Yj J J ⟨Zd J,Zd J,trivial⟩ J hw trivial) fun _ _=>as_ J<|Zf<|Za<|Zc<|Zg<|dt (Zz (i:=3) J J J Qj Yj J J)<|tt (Zh (n:=3) (Mo _ (evv_bl hlen)) J J J K1 call104 Ze J hw) fun _ _=>mv J<|as_ J<|as_ J<|Zf<|Za<|Zv<|Yn (.inl J) hsc () _ (fun a w hs=>Np hs results164 J J) J trivial J Zk
theorem Zbf(bd:Nat)(v:Value)(xs:List Int)(hs:Sz 65536 xs):Zqc prog 154 #[.pointer (some ⟨bd,0,none⟩),v] [slp 2 wv v xs] true bd 167 #[.int .i64 0] (G:=Unit) (fun _=>True) (fun _=> .tuple #[Fs v (tzl xs).length,.int .i64 0]) (fun _=>#[.int .i64 0]) (fun _=>[slp 2 wv (Fs v (tzl xs).length) (tzl xs)]):=by
 refine Zcf func154 J ntmps154 J K1 ?_
 intro w0 sc hw hsc
 simp only [Zp,Zn]
 refine Zc<|Zg<|as_ J<|as_ J<|Zf<|Za<|Zc<|Zc<|Zg<|mv J<|dt (Zfp J J)<|dt (Xx J J Zg1 J Zgr J J)<|dt (Xx J J Zkw J Gr J J)<|dt (Ok (i:=1) J J J Ax J)<|dt (Qb J J J)<|Zf<|Za<|Zq J (fun h43=>?_) (fun h43=>?_)
 ·exfalso;simp_all
 ·exact Zj<|Za<|Zc<|Zg<|mv J<|tt (Zh (n:=3) (Zas _ _ ‹_›) J J J K1 call152 (Zb 2 J J J Ze) J hw) fun _ _=>as_ J<|as_ J<|Zf<|Za<|Zv<|Zdv (.inl J) hsc () _ (fun a w hs=>Np hs results154 J J) J trivial 1 J J J J (Xa 3 J J J Zk)
theorem Zuh(v:Value)(xs:List Int)(hx:xs.length*24≤140737488355328:=by omega):CalO prog 157 #[v] [slp 2 wv v xs] (G:=Value) (fun r=>True) (fun r=>r) (fun r=>osl 2 31 wv r xs):=by
 refine Zur func157 J ntmps157 J K1 ?_
 intro w0 sc hw hsc
 simp only [Zp,Zn]
 refine Mc (f_nil (i:=1) J Zi) fun hnil=>Zc<|Zg<|as_ J<|Zf<|Za<|Zc<|Zc<|Zg<|mv J<|dt (Zt7 J J J (i:=1) J Zi Qp)<|Zf<|Za<|Lm J (fun h357=>?_) (fun h357=>?_)
 ·refine Zc<|Zg<|as_ J<|Zf<|Za<|Zv<|Xc ?_
  obtain rfl:xs=[]:=hnil (by simpa using h357)
  exact Qv (Nj 9 2 31 wv)<|Zmq (.inl J) (.slice none 0 0) _ (fun a w hs=>Nn hs results157 J) J trivial J 9 J J J
 ·exact Zj<|Za<|Zc<|Zg<|tt (t_bs0 (i:=2) (enc:=wv) J J J Qp pV J hw) fun v _=>mv J<|tt (Im (i:=2) (j:=1) (by_:=24) J J J J J J (by decide) J Zi Qp ti31 J pV J J J (by simp;omega) (by decide) J hw) fun v_2 _=>as_ J<|Zf<|Za<|Zv<|Zmq (.inl J) _ _ (fun a w hs=>Nn hs results157 J) J trivial J 2 J (by rfl) J
theorem Zeo(v:Value)(xs:List Int)(hv:Vp xs):Ml prog 105 #[v] [slp 2 wv v xs] (.tuple #[.int .i64 ((xs.length:Int)-1),.int .i64 0]):=by
 refine Ya func105 J ntmps105 J K1 ?_
 intro w0 sc hw hsc
 simp only [Zp,Zn]
 have hlen:=hv.len
 exact Zc<|Zg<|as_ J<|as_ J<|Zf<|Za<|Zc<|Zc<|Zg<|mv J<|tt (Zh (n:=1) (Xq _ _ ‹_›) J J J K1 Zdr (Zb 1 J J J Ze) J hw) fun _ _=>dt (Xp J J)<|Zf<|Za<|Ye J<|Zj<|Za<|Zc<|Zg<|mv J<|dt (Yb J J (i:=1) J Zi Qp)<|dt (Qa J J J ⟨by omega,by omega⟩)<|as_ J<|as_ J<|Zf<|Za<|Zv<|Yn (.inl J) hsc () _ (fun a w hs=>Np hs results105 J J) J trivial J Zk
theorem Zjs(v:Value)(xs:List Int)(hv:Vp xs):Ml prog 106 #[v] [slp 2 wv v xs] (.tuple #[.int .i64 (msz xs:Int),.int .i64 0]):=by
 refine Ya func106 J ntmps106 J K1 ?_
 intro w0 sc hw hsc
 simp only [Zp,Zn]
 exact Zc<|Zg<|as_ J<|as_ J<|Zf<|Za<|Zc<|Zc<|Zg<|mv J<|tt (Zh (n:=1) (Xq _ _ ‹_›) J J J K1 Zdr (Zb 1 J J J Ze) J hw) fun _ _=>dt (Xp J J)<|Zf<|Za<|Ye J<|Zj<|Za<|Zc<|Zg<|mv J<|tt (Zh (n:=1) (Nw _ _ hv.sz) J J J K1 Av (Zb 1 J J J Ze) J hw) fun _ _=>as_ J<|as_ J<|Zf<|Za<|Zv<|Yn (.inl J) hsc () _ (fun a w hs=>Np hs results106 J J) J trivial J Zk
theorem Zmg(bd:Nat)(v u:Value)(xs ys:List Int)(hv:Vp xs)(hu:Vp ys)(hz:∀i,bl (cf xs i-cf ys i).natAbs≤65536):Zqc prog 136 #[v,u,.pointer (some ⟨bd,0,none⟩),.func (.func 137) #[.pointer (some ⟨bd,0,none⟩)] #[]] [slp 2 wv v xs,slp 2 wv u ys] true bd 167 #[.int .i64 0] (G:=Value) (fun r=>True) (fun r=> .tuple #[r,.int .i64 0]) (fun r=>#[.int .i64 0]) (fun r=>[slp 2 wv r (Zfm xs ys)]):=by
 refine Zcf func136 J ntmps136 J K2 ?_
 intro w0 sc hw hsc
 simp only [Zp,Zn]
 have hlen:=hv.len
 have hlen2:=hu.len
 refine Zc<|Zg<|as_ J<|as_ J<|Zf<|Za<|Zc<|Zc<|Zg<|mv J<|tt (Zh (n:=3) (Xq _ _ ‹_›) J J J K1 Zdr (Zb 2 J J J Ze) J hw) fun _ _=>dt (Xp J J)<|mv J<|gdt (Ym J J) J J<|gtt (Zh (n:=3) (Xq _ _ ‹_›) J J J K1 Zdr (Zb 3 J J J Ze) J hw) J J J fun _ _=>gdt (Xp J J) J J<|dt (Yh J J J)<|Zf<|Za<|Ye J<|Zj<|Za<|Zc<|Zg<|mv J<|dt (Yb J J (i:=2) J Zi Qp)<|mv J<|dt (Yb J J (i:=3) J Zi Qp)<|dt (Zt6 J J J)<|tt (Hr (i:=4) (n:=(max xs.length ys.length)) (by_:=24) (enc:=wv) 0 J J J J Qp ti31 J pV.cells pV.pos J J J hw) fun v _=>as_ J<|Zf<|Za<|Zc<|Zc<|Zg<|mv J<|dt (Yb J J (i:=4) J (Yq pV) Qp)<|mv J<|Zf<|Za<|Zl ?_
 refine Nt [(0,_),(1,_),(2,_),(3,_),(10,_),(29,_)] [(0,_),(1,_),(2,_),(3,_)] (fun(k:Nat)=>[(30,.int .i64 (k:Int))]) (fun(k:Nat)=>[(4,osl 2 31 wv v (fill (max xs.length ys.length) k (fun i=>cf xs i-cf ys i)))]) (fun(k:Nat)=>k≤max xs.length ys.length) (fun(k:Nat)=>max xs.length ys.length-k) 0 (by first | omega | (dsimp only<;>omega)) K7 ⟨by rw [Cm (max xs.length ys.length) (fun i=>cf xs i-cf ys i)];rfl,rfl,rfl,rfl,rfl,trivial⟩ ?_
 rintro k hk
 simp only [CA,NA]
 have hlf:(fill (max xs.length ys.length) k (fun i=>cf xs i-cf ys i)).length=max xs.length ys.length:=Ou _ _ _
 refine Zc<|Zg<|dt (Xu J J J)<|Zf<|Za<|Zc<|Zq J (fun h106=>?_) (fun h106=>?_)
 ·try rw [List.length_replicate]at *
  refine Zj<|Za<|Zc<|Zl<|Zc<|Zg<|mv J<|as_ J<|Zf<|Za<|Zc<|Zg<|tt (Zo (i:=5) J J zeroValue31 J J hw) fun b _=>tt (Zo (i:=6) J J zeroValue31 J J hw) fun b_2 _=>Zf<|Za<|Dj [(0,_),(1,_),(2,_),(3,_),(10,_),(11,_),(12,_),(13,_),(29,_),(30,_)] [(0,_),(4,_),(1,_),(2,_),(3,_),(6,_)] (fun(_:Unit)=>[]) (fun(_:Unit)=>[(5,box b 31 (wc (cf xs k)))]) (fun(_:Unit)=>True) K10 K6 ?_ ?_
  ·refine Zc<|Zg<|mv J<|mv J<|dt (Yb J J (i:=2) J Zi Qp)<|dt (Xu J J J)<|Zf<|Za<|Zq J (fun h108=>?_) (fun h108=>?_)
   ·exact Zg<|mv J<|mv J<|dt (Yw (ii:=2) J J J J Zi Qp Yj J (by first | omega | (simp only [List.length_set];omega)))<|dt (Xm (ii:=2) 0 J J J Zi pV (by first | omega | (simp only [List.length_set];omega)))<|tt (Zm (i:=5) J J J J J (by decide) J Yj J J ⟨Zd J,Zd J,trivial⟩ J hw trivial) fun _ _=>Zf<|Qy () trivial K10 ⟨by first | rfl | (rw [Qf (p:=xs) (by omega)];rfl),rfl,rfl,rfl,rfl,rfl,rfl,trivial⟩
   ·exact Zj<|Qy () trivial K10 ⟨by first | rfl | (rw [Qf (p:=xs) (by omega)];rfl),rfl,rfl,rfl,rfl,rfl,rfl,trivial⟩
  ·rintro _ -
   simp only [CA,NA]
   refine Dj [(0,_),(1,_),(2,_),(3,_),(10,_),(11,_),(12,_),(13,_),(29,_),(30,_)] [(0,_),(5,_),(4,_),(1,_),(2,_),(3,_)] (fun(_:Unit)=>[]) (fun(_:Unit)=>[(6,box b_2 31 (wc (cf ys k)))]) (fun(_:Unit)=>True) K10 K6 ?_ ?_
   ·refine Zc<|Zg<|mv J<|mv J<|dt (Yb J J (i:=3) J Zi Qp)<|dt (Xu J J J)<|Zf<|Za<|Zq J (fun h111=>?_) (fun h111=>?_)
    ·exact Zg<|mv J<|mv J<|dt (Yw (ii:=3) J J J J Zi Qp Yj J (by first | omega | (simp only [List.length_set];omega)))<|dt (Xm (ii:=3) 0 J J J Zi pV (by first | omega | (simp only [List.length_set];omega)))<|tt (Zm (i:=6) J J J J J (by decide) J Yj J J ⟨Zd J,Zd J,trivial⟩ J hw trivial) fun _ _=>Zf<|Qy () trivial K10 ⟨by first | rfl | (rw [Qf (p:=ys) (by omega)];rfl),rfl,rfl,rfl,rfl,rfl,rfl,trivial⟩
    ·exact Zj<|Qy () trivial K10 ⟨by first | rfl | (rw [Qf (p:=ys) (by omega)];rfl),rfl,rfl,rfl,rfl,rfl,rfl,trivial⟩
   ·rintro _ -
    simp only [CA,NA]
    exact Zg<|mv J<|mv J<|mv J<|dt (Zz (i:=5) J J J Qj Yj J J)<|dt (Zz (i:=6) J J J Qj Yj J J)<|tt (Zvl (n:=6) (i:=1) (fs:=[_]) (vs:=[_,_]) (Zt1 _ _ _ (hv.sz _) (hu.sz _) (hz _)) J J J J K2 call137 J (by decide) Ze J hw trivial) fun _ _=>dt (Yw (ii:=4) (i:=k) J J J J (Yq pV) Qp Yj J (by rw [Ou];omega))<|tt (Kz (i:=4) (enc:=wv) _ J J J J J J pV J hw (by decide) (by rw [Ou];omega)) fun _ _=>Zf<|Oa<|Za<|Zg<|dt (Ys J J J ⟨by omega,by omega⟩)<|mv J<|Zf<|Xk (k+1) (by first | omega | (dsimp only<;>omega)) (by first | omega | (dsimp only<;>omega)) K7 ⟨by rw [←Zdj (by omega)];rfl,rfl,rfl,rfl,rfl,trivial⟩
 ·try rw [List.length_replicate]at *
  refine Yu<|Zu<|Zu<|Ox<|Za<|Zc ?_
  obtain rfl:k=max xs.length ys.length:=by omega
  exact Yl (Qz 4 J J pV)<|Zg<|mv J<|mv J<|tt (Om (n:=7) (i:=1) (Zbf _ _ _ (by rw [Di];exact Zay fun i _=>hz i)) J J J K2 call154 J (by decide) (Zb 4 J J J Ze) J hw trivial) fun _ _=>dt (Yf J J J)<|dt (Yf J J J)<|as_ J<|as_ J<|Zf<|Za<|Zv<|Zdv (.inl J) hsc _ _ (fun a w hs=>Np hs results136 J J) J trivial 1 J J J J (Yk 7 J J J (by rw [Di]<;>rfl) Zk)
theorem Znq(v u:Value)(xs ys:List Int)(hv:Vp xs)(hu:Vp ys)(hz:∀i,bl (cf xs i-cf ys i).natAbs≤65536):Cal prog 85 #[v,u] [slp 2 wv v xs,slp 2 wv u ys] true (G:=Value) (fun r=>True) (fun r=> .tuple #[r,.int .i64 0]) (fun r=>[slp 2 wv r (Zfm xs ys)]):=by
 refine Ya func85 J ntmps85 J K2 ?_
 intro w0 sc hw hsc
 simp only [Zp,Zn]
 exact Zc<|Zg<|as_ J<|as_ J<|Zf<|Za<|Zc<|Zg<|tt (Zo (i:=3) J J zeroValue167 J J hw) fun b _=>Zf<|Za<|Zc<|Zg<|mv J<|mv J<|dt (d_mkf (vs:=[_]) J K1)<|tt (Om (n:=4) (i:=3) (Zmg _ _ _ _ _ ‹_› ‹_› ‹_›) J J J K4 call136 J (by decide) (Zb 1 J J J (Zb 2 J J J Ze)) J hw trivial) fun _ _=>dt (Yf J J J)<|dt (Yf J J J)<|as_ J<|as_ J<|Zf<|Za<|Zv<|Yn (.inl J) hsc _ _ (fun a w hs=>Np hs results85 J J) J trivial J (Xa 4 J J J Zk)
theorem Zwt(v u:Value)(xs ys:List Int)(hv:Vp xs)(hu:Vp ys)(hF:¬Zex xs ys):Cal prog 112 #[v,u] [slp 2 wv v xs,slp 2 wv u ys] true (G:=Value) (fun r=>True) (fun r=> .tuple #[r,.int .i64 0]) (fun r=>[slp 2 wv r (Mb xs ys)]):=by
 refine Ya func112 J ntmps112 J K2 ?_
 intro w0 sc hw hsc
 simp only [Zp,Zn]
 have hlen:=hv.len
 have hlen2:=hu.len
 have hm1:=Ps hv.sz
 have hm2:=Ps hu.sz
 refine Zc<|Zg<|as_ J<|as_ J<|Zf<|Za<|Zc<|Zc<|Zg<|mv J<|tt (Zh (n:=2) (Xq _ _ ‹_›) J J J K1 Zdr (Zb 1 J J J Ze) J hw) fun _ _=>dt (Xp J J)<|mv J<|gdt (Ym J J) J J<|gtt (Zh (n:=2) (Xq _ _ ‹_›) J J J K1 Zdr (Zb 2 J J J Ze) J hw) J J J fun _ _=>gdt (Xp J J) J J<|dt (Yh J J J)<|Zf<|Za<|Ye J<|Zj<|Za<|Zc<|Zc<|Zg<|mv J<|dt (Yb J J (i:=1) J Zi Qp)<|dt (Pm J J J)<|mv J<|Qu (d:=23) J (fun s136=>?_) (fun s136=>?_)
 ·exact gsk J J J<|gsk J J J<|gsk J J J<|dt (Xh J J J)<|Zf<|Za<|Ov J<|Zc<|Zg<|as_ J<|as_ J<|Zf<|Za<|Zv<|Xc<|Yn (.inl J) hsc _ _ (fun a w hs=>Np hs results112 J J) J trivial J (Lh (Bc (p:=xs) (q:=ys) (by first | (left;omega) | (right;omega))) Zk)
 ·refine gdt (Ym J J) J J<|gdt (Yb J J (i:=2) J Zi Qp) J J<|gdt (Pm J J J) J J<|dt (Yh J J J)<|Zf<|Za<|Zq J (fun h136=>?_) (fun h136=>?_)
  ·exact Zc<|Zg<|as_ J<|as_ J<|Zf<|Za<|Zv<|Xc<|Yn (.inl J) hsc _ _ (fun a w hs=>Np hs results112 J J) J trivial J (Lh (Bc (p:=xs) (q:=ys) (by first | (left;omega) | (right;omega))) Zk)
  ·have hnx:xs≠[]:=by intro e;subst e;simp_all
   have hny:ys≠[]:=by intro e;subst e;simp_all
   have hlx:0<xs.length:=List.length_pos_iff.2 hnx
   have hly:0<ys.length:=List.length_pos_iff.2 hny
   refine Zj<|Za<|Zc<|Zc<|Zg<|mv J<|dt (Yb J J (i:=1) J Zi Qp)<|mv J<|dt (Yb J J (i:=2) J Zi Qp)<|dt (Ys J J J ⟨by omega,by omega⟩)<|dt (Qa J J J ⟨by omega,by omega⟩)<|dt (Oq J J J)<|mv J<|Qu (d:=35) J (fun s139=>?_) (fun s139=>?_)
   ·exfalso;exact hF ⟨hnx,hny,.inl (by omega)⟩
   ·refine gdt (Ym J J) J J<|gtt (Zh (n:=2) (Nw _ _ (by first | exact hv.sz | exact hu.sz)) J J J K1 Av (Zb 1 J J J Ze) J hw) J J J fun _ _=>gdt (Ym J J) J J<|gtt (Zh (n:=2) (Nw _ _ (by first | exact hv.sz | exact hu.sz)) J J J K1 Av (Zb 2 J J J Ze) J hw) J J J fun _ _=>gdt (Ys J J J ⟨by omega,by omega⟩) J J<|gdt (Ys J J J ⟨by omega,by omega⟩) J J<|gdt (Oq J J J) J J<|dt (Yh J J J)<|Zf<|Za<|Zq J (fun h139=>?_) (fun h139=>?_)
    ·exfalso;exact hF ⟨hnx,hny,by first | (left;omega) | (right;omega)⟩
    ·have hsz:msz xs+msz ys+5≤65536:=by omega
     have hpq:∀i j,bl (cf xs i*cf ys j).natAbs≤65536:=fun i j=>by have:=Xs (cf xs i) (cf ys j);have:=Od xs i;have:=Od ys j;omega
     have hac:∀i j t,i<25→bl (Zgq xs ys i j t).natAbs≤65536:=fun i j t hi=>by have:=bl_acc2 (i:=i) (j:=j) (t:=t) (Od xs) (Od ys) (by omega);omega
     have hacc:∀t,bl (acc xs ys xs.length t).natAbs≤65536:=fun t=>by have:=bl_acc (i:=xs.length) (t:=t) (Od xs) (Od ys) (by omega);omega
     have hsum:∀i j,i<25→bl (Zgq xs ys i j (i+j)+cf xs i*cf ys j).natAbs≤65536:=fun i j hi=>by rw [←Zu7];exact hac i (j+1) _ hi
     refine Zj<|Za<|Zc<|Zg<|tt (Zo (i:=3) J J zeroValue167 J J hw) fun b _=>Zf<|Za<|Zc<|Zg<|mv J<|dt (Yb J J (i:=1) J Zi Qp)<|mv J<|dt (Yb J J (i:=2) J Zi Qp)<|dt (Ys J J J ⟨by omega,by omega⟩)<|dt (Qa J J J ⟨by omega,by omega⟩)<|tt (Hr (i:=4) (n:=(xs.length+ys.length-1)) (by_:=24) (enc:=wv) 0 J J J J Qp ti31 J pV.cells pV.pos J J J hw) fun v _=>as_ J<|Zf<|Za<|Zc<|Zc<|Zg<|mv J<|dt (Yb J J (i:=1) J Zi Qp)<|mv J<|Zf<|Za<|Zl<|Nt [(1,_),(6,_),(7,_),(51,_),(52,_)] [(0,_),(1,_),(2,_),(3,_)] (fun(i:Nat)=>[(53,.int .i64 (i:Int))]) (fun(i:Nat)=>[(4,osl 2 31 wv v (mk (xs.length+ys.length-1) (acc xs ys i)))]) (fun(i:Nat)=>i≤xs.length) (fun(i:Nat)=>xs.length-i) 0 (by first | omega | (dsimp only<;>omega)) K6 ⟨by rw [Znh];rfl,rfl,rfl,rfl,rfl,trivial⟩ ?_
     rintro i hi
     simp only [CA,NA]
     refine Zc<|Zg<|dt (Xu J J J)<|Zf<|Za<|Zc<|Zq J (fun h144=>?_) (fun h144=>?_)
     ·refine Zj<|Za<|Zc<|Zl<|Zc<|Zg<|mv J<|dt (Yw (ii:=1) J J J J Zi Qp Yj J (by first | omega | (simp only [List.length_set];omega)))<|dt (Xm (ii:=1) 0 J J J Zi pV (by first | omega | (simp only [List.length_set];omega)))<|tt (Zo (i:=5) J J zeroValue31 J J hw) fun b_2 _=>as_ J<|tt (Zm (i:=5) J J J J J (by decide) J Yj J J ⟨Zd J,Zd J,trivial⟩ J hw trivial) fun _ _=>Zf<|Za<|Zc<|Zg<|mv J<|dt (Yb J J (i:=2) J Zi Qp)<|mv J<|Zf<|Za<|Zl<|Nt [(1,_),(6,_),(7,_),(8,_),(9,_),(51,_),(52,_),(53,_),(58,_),(59,_)] [(0,_),(1,_),(2,_),(3,_),(5,_)] (fun(j:Nat)=>[(60,.int .i64 (j:Int))]) (fun(j:Nat)=>[(4,osl 2 31 wv v (mk (xs.length+ys.length-1) (Zgq xs ys i j)))]) (fun(j:Nat)=>j≤ys.length) (fun(j:Nat)=>ys.length-j) 0 (by first | omega | (dsimp only<;>omega)) K11 ⟨by rw [Zu6];rfl,rfl,rfl,rfl,rfl,rfl,trivial⟩ ?_
      rintro j hj
      simp only [CA,NA]
      have hgd:i+j<xs.length+ys.length-1→(mk (xs.length+ys.length-1) (Zgq xs ys i j)).getD (i+j) 0=Zgq xs ys i j (i+j):=fun h=>Zca h
      refine Zc<|Zg<|dt (Xu J J J)<|Zf<|Za<|Zc<|Zq J (fun h145=>?_) (fun h145=>?_)
      ·refine Zj<|Za<|Zc<|Zl<|Zc<|Zg<|mv J<|dt (Yw (ii:=2) J J J J Zi Qp Yj J (by first | omega | (simp only [List.length_set];omega)))<|dt (Xm (ii:=2) 0 J J J Zi pV (by first | omega | (simp only [List.length_set];omega)))<|tt (Zo (i:=6) J J zeroValue31 J J hw) fun b_3 _=>as_ J<|tt (Zm (i:=6) J J J J J (by decide) J Yj J J ⟨Zd J,Zd J,trivial⟩ J hw trivial) fun _ _=>Zf<|Za<|Ql (fun x=>x=b) [(0,0),(1,0),(2,0),(3,0),(4,0),(5,0),(6,0),(7,0),(8,0),(9,0),(10,0),(11,0),(12,1),(13,1),(14,0),(15,3)] ?_ ?_
       ·kernel_rfl
       refine r0' J J (st1 3 J (Ym J J))<|r0' J J (st1 3 J (Ym J J))<|r0' J J (st1 3 J (Ym J J))<|r0' J J (st1 3 J (Ys J J J ⟨by omega,by omega⟩))<|r0' J J (st1 3 J (Ym J J))<|r0' J J (st1 3 J (Ym J J))<|r0' J J (st1 3 J (Ym J J))<|r0' J J (st1 3 J (Ys J J J ⟨by omega,by omega⟩))<|r0' J J (st1 3 J (Yw (ii:=4) (i:=(i+j)) J J J J (Yq pV) Qp Yj (by omega) (by rw [Xr];omega)))<|r0' J J (st1 3 J (Xm (ii:=4) 0 J J J (Yq pV) pV (by rw [Xr];omega)))<|r0' J J (st1 3 J (Zz (i:=5) J J J Qj Yj J J))<|r0' J J (st1 3 J (Zz (i:=6) J J J Qj Yj J J))<|r1' J (Om (n:=6) (i:=3) (El _ _ _ (hv.sz _) (hu.sz _) (hpq i j)) J J J K3 call153 J (by decide) Ze J hw J) fun _ _=>r1' J (Om (n:=6) (i:=3) (Zol _ _ _ (by rw [hgd (by omega)];exact hac i j _ (by omega)) (hpq i j) (by rw [hgd (by omega)];exact hsum i j (by omega))) J J J K3 call159 J (by decide) Ze J hw J) fun _ _=>r0' J J (st1 3 J (Yw (ii:=4) (i:=(i+j)) J J J J (Yq pV) Qp Yj (by omega) (by rw [Xr];omega)))<|r3' J (Kz (i:=4) (enc:=wv) _ J J J J J J pV J hw (by decide) (by rw [Xr];omega)) fun _ _=>Og<|Oa<|Za<|Zg<|dt (Ys J J J ⟨by omega,by omega⟩)<|mv J<|Zf ?_
       exact Xk (j+1) (by first | omega | (dsimp only<;>omega)) (by first | omega | (dsimp only<;>omega)) K11 ⟨by rw [←Zyg (by omega),←hgd (by omega)];rfl,rfl,rfl,rfl,rfl,rfl,trivial⟩
      ·refine Yu<|Zu<|Zu<|Ox<|Oa<|Za<|Zg<|dt (Ys J J J ⟨by omega,by omega⟩)<|mv J<|Zf ?_
       obtain rfl:j=ys.length:=by omega
       exact Xk (i+1) (by first | omega | (dsimp only<;>omega)) (by first | omega | (dsimp only<;>omega)) K6 ⟨by rw [←Zyh];rfl,rfl,rfl,rfl,rfl,trivial⟩
     ·refine Yu<|Zu<|Zu<|Ox<|Za<|Zc ?_
      obtain rfl:i=xs.length:=by omega
      exact Yl (Qz 4 J J pV)<|Zg<|mv J<|tt (Om (n:=7) (i:=3) (Zbf _ _ _ (Zay fun t _=>hacc t)) J J J K2 call154 J (by decide) (Zb 4 J J J Ze) J hw trivial) fun _ _=>dt (Yf J J J)<|dt (Yf J J J)<|as_ J<|as_ J<|Zf<|Za<|Zv<|Yn (.inl J) hsc _ _ (fun a w hs=>Np hs results112 J J) J trivial J (Yk 7 J J J (by rw [Zww]<;>rfl) Zk)
end Go.Sky

