/- rules, arithmetic and contracts: part 7
   Proved without conditions of its own: each theorem bears its own. -/
import Derived.Test.YtcmiiammekgooaaGreatSf03
import Derived.Test.YtcmiiammekgooaaGreatSf02
import Derived.Test.YtcmiiammekgooaaGreatSf01
import Derived.Test.YtcmiiammekgooaaGreatSf05
set_option linter.all false
namespace Go.Sky
open Go.Proofs.Tryz
open Go.Proofs
set_option maxRecDepth 20000
set_option maxHeartbeats 4000000
set_option linter.unusedSimpArgs false
theorem Eo(v:Value)(xs:List Int)(c:Int)(hv:Vp xs)(hc:bl c.natAbs≤65536)(hz:∀i,bl (cf xs i*c).natAbs≤65536):Cal prog 151 #[v,wv c] [slp 2 wv v xs] true (G:=Value) (fun r=>True) (fun r=> .tuple #[r,.int .i64 0]) (fun r=>[slp 2 wv r (Xo xs c)]):=by
 refine Yc func151 J ntmps151 J K1 ?_
 intro w0 sc hw hsc
 simp only [Zq,Zp]
 have hlen:=hv.len
 refine Zd<|Zg<|tt (Yu (i:=2) J J J J J hw) fun b _=>as_ J<|as_ J<|Zf<|Za<|Zd<|Zd<|Zg<|mv J<|tt (Zh (n:=2) (Xy _ _ ‹_›) J J J K1 Zfq (Zc 1 J J J Ze) J hw) fun _ _=>dt (Xg J J)<|mv J<|gdt (Zy (i:=2) J J J Qq Yq J J) J J<|gtt (Zh (n:=2) (Kf _ ‹_›) J J J K1 Zga Ze J hw) J J J fun _ _=>gdt (Xg J J) J J<|dt (Zz J J J)<|Zf<|Za<|Ye J<|Zj<|Za<|Zd<|Zg<|tt (Zn (i:=3) J J zeroValue167 J J hw) fun b_2 _=>Zf<|Za<|Zd<|Zg<|mv J<|dt (Yd J J (i:=1) J Zi Qx)<|tt (Gb (i:=4) (n:=_) (by_:=24) (enc:=wv) 0 J J J J Qx ti31 J pV.cells pV.pos J J J hw J J) fun v _=>as_ J<|Zf<|Za<|Zd<|Zd<|Zg<|mv J<|dt (Yd J J (i:=1) J Zi Qx)<|mv J<|Zf<|Za<|Zo<|Nt [(3,_),(6,_),(7,_),(21,_),(22,_)] [(0,_),(1,_),(2,_),(3,_)] (fun(k:Nat)=>[(23,.int .i64 (k:Int))]) (fun(k:Nat)=>[(4,osl 2 31 wv v (fill xs.length k (fun i=>cf xs i*c)))]) (fun(k:Nat)=>k≤xs.length) (fun(k:Nat)=>xs.length-k) 0 (by first | omega | (dsimp only<;>omega)) K6 ⟨by rw [Cv xs.length (fun i=>cf xs i*c)];rfl,rfl,rfl,rfl,rfl,trivial⟩ ?_
 rintro k hk
 simp only [CA,NA]
 refine Zd<|Zg<|dt (Xr J J J)<|Zf<|Za<|Zd<|Zs J (fun h159=>?_) (fun h159=>?_)
 ·exact Zj<|Za<|Zd<|Zo<|Zd<|Zg<|mv J<|dt (Xb (ii:=1) J J J J Zi Qx Yq J (by first | omega | (simp only [List.length_set];omega)))<|dt (Xv (ii:=1) 0 J J J Zi pV (by first | omega | (simp only [List.length_set];omega)))<|tt (Zn (i:=5) J J zeroValue31 J J hw) fun b_3 _=>as_ J<|tt (Zm (i:=5) J J J J J (by decide) J Yq J J ⟨Zb J,Zb J,trivial⟩ J hw trivial) fun _ _=>Zf<|Za<|Zg<|mv J<|mv J<|dt (Zy (i:=5) J J J Qq Yq J J)<|dt (Zy (i:=2) J J J Qq Yq J J)<|tt (On (n:=5) (i:=3) (Da _ _ _ (hv.sz.getD _) hc (hz _)) J J J K3 call153 J (by decide) Ze J hw trivial) fun _ _=>dt (Xb (ii:=4) (i:=k) J J J J (Yt pV) Qx Yq J (by rw [Ou];omega))<|tt (Ii (i:=4) (enc:=wv) _ J J J J J J pV J hw (by decide) (by rw [Ou];omega)) fun _ _=>Zf<|Oe<|Za<|Zg<|dt (Yx J J J ⟨by omega,by omega⟩)<|mv J<|Zf<|Xn (k+1) (by first | omega | (dsimp only<;>omega)) (by first | omega | (dsimp only<;>omega)) K6 ⟨by rw [←Zd1 (by omega)];rfl,rfl,rfl,rfl,rfl,trivial⟩
 ·refine Yv<|Zv<|Zv<|Ox<|Za<|Zd ?_
  obtain rfl:k=xs.length:=by omega
  exact Yr (Pd 4 J J pV)<|Yr (s_rbox 3 J J)<|Zg<|mv J<|tt (Zh (n:=6) (d_done _ _ _ (by rw [Du];exact Zbb fun i _=>hz i)) J J J K2 call154 (Zc 3 J J J (Zc 4 J J J Ze)) J hw) fun _ _=>dt (Yh J J J)<|dt (Yh J J J)<|as_ J<|as_ J<|Zf<|Za<|Zu<|Ym (.inl J) hsc _ _ (fun a w hs=>Nl hs results151 J J) J trivial J (Yi 6 J J J (by rw [Zsi]<;>rfl) Zk)
theorem Dm(v:Value)(xs:List Int)(hv:Vp xs)(hz:∀i,bl (cf xs (i+1)*((i:Int)+1)).natAbs≤65536):Cal prog 109 #[v] [slp 2 wv v xs] true (G:=Value) (fun r=>True) (fun r=> .tuple #[r,.int .i64 0]) (fun r=>[slp 2 wv r (Pk xs)]):=by
 refine Yc func109 J ntmps109 J K1 ?_
 intro w0 sc hw hsc
 simp only [Zq,Zp]
 have hlen:=hv.len
 refine Zd<|Zg<|as_ J<|as_ J<|Zf<|Za<|Zd<|Zd<|Zg<|mv J<|tt (Zh (n:=1) (Xy _ _ ‹_›) J J J K1 Zfq (Zc 1 J J J Ze) J hw) fun _ _=>dt (Xg J J)<|Zf<|Za<|Ye J<|Zj<|Za<|Zd<|Zd<|Zg<|mv J<|dt (Yd J J (i:=1) J Zi Qx)<|dt (Pg J J J)<|Zf<|Za<|Zs J (fun h170=>?_) (fun h170=>?_)
 ·exact Zd<|Zg<|as_ J<|as_ J<|Zf<|Za<|Zu<|Xa<|Ym (.inl J) hsc _ _ (fun a w hs=>Nl hs results109 J J) J trivial J (Lo (Zxj (by omega)) Zk)
 ·refine Zj<|Za<|Zd<|Zg<|tt (Zn (i:=2) J J zeroValue167 J J hw) fun b _=>Zf<|Za<|Zd<|Zg<|mv J<|dt (Yd J J (i:=1) J Zi Qx)<|dt (Qd J J J ⟨by omega,by omega⟩)<|tt (Gb (i:=3) (n:=(xs.length-1)) (by_:=24) (enc:=wv) 0 J J J J Qx ti31 J pV.cells pV.pos J J J hw) fun v _=>as_ J<|Zf<|Za<|Zd<|Zd<|Zg<|mv J<|dt (Yd J J (i:=3) J (Yt pV) Qx)<|mv J<|Zf<|Za<|Zo<|Nt [(0,_),(4,_),(5,_),(18,_)] [(0,_),(1,_),(2,_)] (fun(k:Nat)=>[(19,.int .i64 (k:Int))]) (fun(k:Nat)=>[(3,osl 2 31 wv v (fill (xs.length-1) k (fun i=>cf xs (i+1)*((i:Int)+1))))]) (fun(k:Nat)=>k≤xs.length-1) (fun(k:Nat)=>xs.length-1-k) 0 (by first | omega | (dsimp only<;>omega)) K5 ⟨by rw [Cv (xs.length-1) (fun i=>cf xs (i+1)*((i:Int)+1))];rfl,rfl,rfl,rfl,trivial⟩ ?_
  rintro k hk
  simp only [CA,NA]
  have hlf:(fill (xs.length-1) k (fun i=>cf xs (i+1)*((i:Int)+1))).length=xs.length-1:=Ou _ _ _
  refine Zd<|Zg<|dt (Xr J J J)<|Zf<|Za<|Zd<|Zs J (fun h175=>?_) (fun h175=>?_)
  ·try rw [List.length_replicate]at *
   refine Zj<|Za<|Zd<|Zo<|Zd<|Zg<|mv J<|as_ J<|Zf<|Za<|Qi (fun x=>x=b) [(0,0),(1,0),(2,0),(3,0),(4,0),(5,0),(6,0),(7,0),(8,0),(9,1),(10,1),(11,0),(12,3)] ?_ ?_
   ·kernel_rfl
   exact r0' J J (st1 2 J (Yo J J))<|r0' J J (st1 2 J (Yo J J))<|r0' J J (st1 2 J (Yo J J))<|r0' J J (st1 2 J (Yo J J))<|r0' J J (st1 2 J (Yx J J J ⟨by omega,by omega⟩))<|r0' J J (st1 2 J (Xb (ii:=1) (i:=k+1) J J J J Zi Qx Yq))<|r0' J J (st1 2 J (Xv (ii:=1) 0 J J J Zi pV))<|r0' J J (st1 2 J (Yo J J))<|r0' J J (st1 2 J (Yx J J J ⟨by omega,by omega⟩))<|r1' J (Zh (n:=3) (Xf _ (by first | assumption | exact⟨by omega,by omega⟩)) J J J K1 Bt Ze J hw) fun _ _=>r1' J (On (n:=3) (i:=2) (Da _ (cf xs (k+1)) ((k:Int)+1) (hv.sz _) (Nat.le_trans (Oy (n:=32) (by omega)) (by decide)) (hz k)) J J J K3 call153 J (by decide) Ze J hw J) fun _ _=>r0' J J (st1 2 J (Xb (ii:=3) (i:=k) J J J J (Yt pV) Qx Yq J (by rw [Ou];omega)))<|r3' J (Ii (i:=3) (enc:=wv) _ J J J J J J pV J hw (by decide) (by rw [Ou];omega)) fun _ _=>Of<|Oe<|Za<|Zg<|dt (Yx J J J ⟨by omega,by omega⟩)<|mv J<|Zf<|Xn (k+1) (by first | omega | (dsimp only<;>omega)) (by first | omega | (dsimp only<;>omega)) K5 ⟨by rw [←Zd1 (by omega)];rfl,rfl,rfl,rfl,trivial⟩
  ·try rw [List.length_replicate]at *
   refine Yv<|Zv<|Zv<|Ox<|Za<|Zd ?_
   obtain rfl:k=xs.length-1:=by omega
   exact Yr (Pd 3 J J pV)<|Yr (s_rbox 2 J J)<|Zg<|mv J<|tt (Zh (n:=4) (d_done _ _ _ (by rw [Du];exact Zbb fun i _=>hz i)) J J J K2 call154 (Zc 2 J J J (Zc 3 J J J Ze)) J hw) fun _ _=>dt (Yh J J J)<|dt (Yh J J J)<|as_ J<|as_ J<|Zf<|Za<|Zu<|Ym (.inl J) hsc _ _ (fun a w hs=>Nl hs results109 J J) J trivial J (Yi 4 J J J (by rw [pder_mk hv.tr]<;>rfl) Zk)
theorem Zj8(v:Value)(xs:List Int)(hv:Vp xs):Mc prog 181 #[v] [slp 2 wv v xs] (.tuple #[wv (Qf xs),.int .i64 0]):=by
 refine Yc func181 J ntmps181 J K1 ?_
 intro w0 sc hw hsc
 simp only [Zq,Zp]
 have hlen:=hv.len
 have hcb:∀k,bl (Qf (xs.take k)).natAbs≤65536:=fun k=>Zdy _ (hv.sz.take k)
 refine Zd<|Zg<|tt (Zn (i:=2) J J zeroValue31 J J hw) fun b _=>as_ J<|Zf<|Za<|Zd<|Zd<|Zg<|mv J<|tt (Zh (n:=2) (Xy _ _ ‹_›) J J J K1 Zfq (Zc 1 J J J Ze) J hw) fun _ _=>dt (Xg J J)<|Zf<|Za<|Ye J<|Zj<|Za<|Zd<|Zg<|tt (Zn (i:=3) J J zeroValue167 J J hw) fun b_2 _=>Zf<|Za<|Zd<|Zg<|tt (Zn (i:=4) J J zeroValue31 J J hw) fun b_3 _=>Zf<|Za<|Zd<|Zd<|Zg<|mv J<|dt (Yd J J (i:=1) J Zi Qx)<|mv J<|Zf<|Za<|Zo<|Nt [(2,_),(4,_),(5,_),(12,_),(13,_)] [(0,_),(1,_),(2,_)] (fun(k:Nat)=>[(14,.int .i64 (k:Int))]) (fun(k:Nat)=>[(4,box b_3 31 #[.bool (decide (Qf (xs.take k)<0)),.string (Qo (Qf (xs.take k)).natAbs)]),(3,box b_2 167 #[.int .i64 0])]) (fun(k:Nat)=>k≤xs.length) (fun(k:Nat)=>xs.length-k) 0 (by first | omega | (dsimp only<;>omega)) K6 K5 ?_
 rintro k hk
 simp only [CA,NA]
 have hgc:=fun h=>Mw (p:=xs) (k:=k) h
 refine Zd<|Zg<|dt (Xr J J J)<|Zf<|Za<|Zd<|Zs J (fun h264=>?_) (fun h264=>?_)
 ·refine Zj<|Za<|Zd<|Zo<|Zd<|Zg<|dt (Xb (ii:=1) J J J J Zi Qx Yq J (by first | omega | (simp only [List.length_set];omega)))<|dt (Xv (ii:=1) 0 J J J Zi pV (by first | omega | (simp only [List.length_set];omega)))<|tt (Zn (i:=5) J J zeroValue31 J J hw) fun b_4 _=>tt (Zm (i:=5) J J J J J (by decide) J Yq J J ⟨Zb J,Zb J,trivial⟩ J hw trivial) fun _ _=>Zf<|Za<|Zg<|dt (Xs J J Zhm J Zhc J J)<|dt (Zy (i:=4) J J J Qq Yq J J)<|dt (Zy (i:=5) J J J Qq Yq J J)<|tt (Zh (n:=5) (Zvz (Qf (xs.take k)) (xs.getD k 0) (hcb _) (hv.sz.getD _)) J J J K2 call196 Ze J hw) fun _ _=>dt (Yh J J J)<|dt (Yh J J J)<|tt (On (n:=5) (i:=3) (Zox _ _ _ _ _ _) J J J K3 call175 J (by decide) Ze J hw trivial) fun _ _=>tt (Zm (i:=4) J J J J J (by decide) J Yq J J ⟨Zb J,Zb J,trivial⟩ J hw trivial) fun _ _=>Zf<|Oe<|Za<|Zg<|dt (Yx J J J ⟨by omega,by omega⟩)<|mv J<|Zf ?_
  have hc1:=hcb (k+1)
  rw [hgc (by omega)]at hc1
  exact Xn (k+1) (by first | omega | (dsimp only<;>omega)) (by first | omega | (dsimp only<;>omega)) K6 ⟨by rw [hgc (by omega)];simp only [Nb hc1];rfl,by simp only [Dt hc1];rfl,rfl,rfl,rfl,trivial⟩
 ·exact Yv<|Zv<|Zv<|Ox<|Za<|Zd<|Oi [3,4] [5]<|Zx (n:=0) [(0,0),(1,0),(2,0),(3,0),(4,1),(5,3)]<|r0' J J (stf (Zy (i:=4) J J J Qq Yq J J) K2)<|r0' J J (stf (Xs J J Zhm J Zhc J J) K2)<|r0' J J (stf (Xs J J Zlg J Gw J J) K2)<|r0' J J (stf (Oj (i:=3) J J J Zag J) K2)<|r1' J (Zar 2 J J K2 (fun ob=>(Zm (i:=2) J J J J J (by decide) J Yq J J ⟨Zb J,Zb J,trivial⟩ J hw ob))) fun _ _=>r3' J (Py (Mf J J) J) fun _ _=>Yk<|Yf<|Za<|Zu<|Ym (.inl J) hsc () _ (fun a w hs=>Nl hs results181 (Yn (i:=2) J J Qq Yq J) J) (by rw [show k=xs.length by omega,List.take_length]<;>rfl) trivial J Zk
theorem Zif(v:Value)(xs:List Int)(c:Int)(hv:Sz 65536 xs)(hlen:xs.length≤1000)(hc:bl c.natAbs≤65536)(hd:∀i,c∣cf xs i)(hc0:xs≠[]→c≠0):Cal prog 182 #[v,wv c] [slp 2 wv v xs] true (G:=Value) (fun r=>True) (fun r=> .tuple #[r,.int .i64 0]) (fun r=>[slp 2 wv r (xs.map (· / c))]):=by
 refine Yc func182 J ntmps182 J K1 ?_
 intro w0 sc hw hsc
 simp only [Zq,Zp]
 refine Zd<|Zg<|tt (Yu (i:=2) J J J J J hw) fun b _=>as_ J<|as_ J<|Zf<|Za<|Zd<|Zg<|mv J<|dt (Yd J J (i:=1) J Zi Qx)<|tt (Gb (i:=3) (n:=_) (by_:=24) (enc:=wv) 0 J J J J Qx ti31 J pV.cells pV.pos J J J hw J J) fun v _=>as_ J<|Zf<|Za<|Zd<|Zd<|Zg<|mv J<|dt (Yd J J (i:=1) J Zi Qx)<|mv J<|Zf<|Za<|Zo<|Nt [(3,_),(6,_),(15,_),(16,_)] [(0,_),(1,_),(2,_)] (fun(k:Nat)=>[(17,.int .i64 (k:Int))]) (fun(k:Nat)=>[(3,osl 2 31 wv v (fill xs.length k (fun i=>cf xs i/c)))]) (fun(k:Nat)=>k≤xs.length) (fun(k:Nat)=>xs.length-k) 0 (by first | omega | (dsimp only<;>omega)) K5 ⟨by rw [Cv xs.length (fun i=>cf xs i/c)];rfl,rfl,rfl,rfl,trivial⟩ ?_
 rintro k hk
 simp only [CA,NA]
 have hcl:Zg7 (xs.getD k 0/c)=cf xs k/c:=Nb (Hh (hd k) (hv k))
 refine Zd<|Zg<|dt (Xr J J J)<|Zf<|Za<|Zd<|Zs J (fun h273=>?_) (fun h273=>?_)
 ·refine Zj<|Za<|Zd<|Zo<|Zd<|Zg<|mv J<|dt (Xb (ii:=1) J J J J Zi Qx Yq J (by first | omega | (simp only [List.length_set];omega)))<|dt (Xv (ii:=1) 0 J J J Zi pV (by first | omega | (simp only [List.length_set];omega)))<|tt (Zn (i:=4) J J zeroValue31 J J hw) fun b_2 _=>as_ J<|tt (Zm (i:=4) J J J J J (by decide) J Yq J J ⟨Zb J,Zb J,trivial⟩ J hw trivial) fun _ _=>Zf<|Za<|Zd<|Zg<|dt (Zy (i:=4) J J J Qq Yq J J)<|dt (Zy (i:=2) J J J Qq Yq J J)<|tt (Zh (n:=4) (Bc _ _ (hv.getD _) hc (hc0 (by intro e;rw [e]at h273;simp at h273;omega))) J J J K2 call158 Ze J hw) fun _ _=>mv J<|dt (Yh J J J)<|dt (Yh J J J)<|dt (Yh J J J)<|tt (Zn (i:=5) J J zeroValue31 J J hw) fun b_3 _=>tt (Zn (i:=6) J J zeroValue31 J J hw) fun b_4 _=>tt (Zm (i:=5) J J J J J (by decide) J Yq J J ⟨Zb J,Zb J,trivial⟩ J hw trivial) fun _ _=>tt (Zm (i:=6) J J J J J (by decide) J Yq J J ⟨Zb J,Zb J,trivial⟩ J hw trivial) fun _ _=>as_ J<|Zf<|Za<|Zd<|Zd<|Zg<|mv J<|dt (Qc J J J)<|Zf<|Za<|Zs J (fun h275=>?_) (fun h275=>?_)
  ·exfalso;simp_all
  ·exact Zj<|Za<|Zg<|mv J<|mv J<|dt (Zy (i:=5) J J J Qq Yq J J)<|dt (Xb (ii:=3) (i:=k) J J J J (Yt pV) Qx Yq J (by rw [Ou];omega))<|tt (Ii (i:=3) (enc:=wv) _ J J J J J J pV J hw (by decide) (by rw [Ou];omega)) fun _ _=>Zf<|Oe<|Za<|Zg<|dt (Yx J J J ⟨by omega,by omega⟩)<|mv J<|Zf<|Xn (k+1) (by first | omega | (dsimp only<;>omega)) (by first | omega | (dsimp only<;>omega)) K5 ⟨by rw [←Zd1 (by omega)];simp only [hcl];rfl,rfl,rfl,rfl,trivial⟩
 ·refine Yv<|Zv<|Zv<|Ox<|Za<|Zd<|Zg<|mv J<|as_ J<|as_ J<|Zf<|Za<|Zu ?_
  obtain rfl:k=xs.length:=by omega
  exact Ym (.inl J) hsc _ _ (fun a w hs=>Nl hs results182 J J) J trivial J (Od 3 J J pV (by rw [Du,Zom xs (· / c)]<;>rfl) Zk)
theorem Mk(v:Value)(xs:List Int)(hv:Vp xs):Cal prog 150 #[v] [slp 2 wv v xs] true (G:=Value) (fun r=>True) (fun r=> .tuple #[r,.int .i64 0]) (fun r=>[slp 2 wv r (Xc xs)]):=by
 refine Yc func150 J ntmps150 J K1 ?_
 intro w0 sc hw hsc
 simp only [Zq,Zp]
 have hlen:=hv.len
 refine Zd<|Zg<|as_ J<|as_ J<|Zf<|Za<|Zd<|Zg<|mv J<|tt (Zh (n:=1) (Zj8 _ _ ‹_›) J J J K1 call181 (Zc 1 J J J Ze) J hw) fun _ _=>mv J<|dt (Yh J J J)<|dt (Yh J J J)<|tt (Zn (i:=2) J J zeroValue31 J J hw) fun b _=>tt (Zm (i:=2) J J J J J (by decide) J Yq J J ⟨Zb J,Zb J,trivial⟩ J hw trivial) fun _ _=>as_ J<|Zf<|Za<|Zd<|Zd<|Zg<|mv J<|dt (Qc J J J)<|Zf<|Za<|Zs J (fun h286=>?_) (fun h286=>?_)
 ·exfalso;simp_all
 ·exact Zj<|Za<|Zd<|Zg<|mv J<|dt (Zy (i:=2) J J J Qq Yq J J)<|tt (Zh (n:=3) (Zif _ _ _ hv.sz (by omega) (Zdy _ hv.sz) (Mx _) hv.ne) J J J K2 call182 (Zc 1 J J J Ze) J hw) fun _ _=>dt (Yh J J J)<|dt (Yh J J J)<|as_ J<|as_ J<|Zf<|Za<|Zu<|Ym (.inl J) hsc _ _ (fun a w hs=>Nl hs results150 J J) J trivial J (Yi 3 J J J J Zk)
theorem Zsm(v:Value)(xs:List Int)(x y:Int)(hv:Vp xs)(hx:bl x.natAbs≤65536)(hy:bl y.natAbs≤65536)(hy0:0<y):Mc prog 186 #[v,rX x y] [slp 2 wv v xs] (.tuple #[wv (evv xs x y),.int .i64 (eve xs x y)]):=by
 refine Yc func186 J ntmps186 J K1 ?_
 intro w0 sc hw hsc
 simp only [Zq,Zp]
 have hlen:=hv.len
 refine Zd<|Zg<|tt (Yu (i:=2) J J J J J hw) fun b _=>tt (Zn (i:=3) J J zeroValue31 J J hw) fun b_2 _=>as_ J<|Zf<|Za<|Zd<|Zd<|Zg<|mv J<|tt (Zh (n:=3) (Xy _ _ ‹_›) J J J K1 Zfq (Zc 1 J J J Ze) J hw) fun _ _=>dt (Xg J J)<|mv J<|gdt (Yp (i:=2) J J J Qp Xk J J J J) J J<|gtt (Zh (n:=3) (Qv _ _ ‹_› ‹_› ‹_›) J J J K1 call117 Ze J hw) J J J fun _ _=>gdt (Xg J J) J J<|dt (Zz J J J)<|Zf<|Za<|Ye J<|Zj<|Za<|Zd<|Zd<|Zg<|mv J<|dt (Yd J J (i:=1) J Zi Qx)<|dt (Pg J J J)<|Zf<|Za<|Zs J (fun h186=>?_) (fun h186=>?_)
 ·exact Zd<|Zg<|dt (Pv (ivs:=[]) J trivial (fun a w hs=>b31_))<|tt (Zm (i:=3) J J J J J (by decide) J Yq J J ⟨Zb J,Zb J,trivial⟩ J hw trivial) fun _ _=>as_ J<|Zf<|Za<|Zu<|Xa<|Ym (.inl J) hsc () _ (fun a w hs=>Nl hs results186 (Yn (i:=3) J J Qq Yq J) J) (by rw [List.eq_nil_of_length_eq_zero (l:=xs) (by omega)];rfl) trivial J Zk
 ·have hne:xs≠[]:=fun e=>by rw [e]at h186;simp at h186
  have hm1:=Ob hv.sz
  have hsxy:Sz 65536 [x,y]:=Sz.of_mem (by intro z hz;simp at hz;rcases hz with rfl | rfl<;>assumption)
  have hm2:=Ob hsxy
  have hm3:(xs.length-1)*msz [x,y]≤24*65536:=Nat.mul_le_mul (by omega) hm2
  have hm4:((xs.length:Int)-1)*(msz [x,y]:Int)=(((xs.length-1)*msz [x,y]:Nat):Int):=by rw [Int.natCast_mul];congr 1;omega
  refine Zj<|Za<|Zd<|Ez [(0,_),(3,_),(4,_)] [(0,_),(1,_),(2,_),(3,_)] (fun(_:Unit)=>[(37,.bool (decide ((65536:Int)<(msz xs:Int)+((xs.length:Int)-1)*(msz [x,y]:Int)+8)))]) (fun(_:Unit)=>[]) (fun(_:Unit)=>True) K3 K4 ?_ ?_
  ·refine Hy (fun _=>False) []<|Zx (n:=7) [(0,0),(2,0),(3,0),(4,0),(5,0),(6,0),(7,0),(8,0)]<|r0' J J (st0 (Yo J J))<|r0' J J (st0 (Yo J J))<|r0' J J (st0 (Yd J J (i:=1) J Zi Qx))<|r0' J J (st0 (Qd J J J ⟨by omega,by omega⟩))<|r0' J J (st0 (Xs J J Cd J Yq J J))<|r0' J J (st0 (Zy (i:=2) J J J Qq Yq J J))<|r0' J J (st0 (Xs J J Cd J Yq J J))<|r0' J J (st0 (Zy (i:=2) J J J Qq Yq J J))<|Yk<|Pb (n:=6) 1 9 ?_ ?_
   ·exact Yj J (Zh (n:=3) (Ma _ _ (by first | exact hv.sz | exact hsxy)) J J J K1 Zae (Zc 1 J J J Ze) J hw) fun _ _=>Zx (n:=0) [(9,1),(10,1),(11,0),(12,0),(13,0),(14,0)]<|r1' J (Po (i:=90) (ivs:=[(0,_),(1,_)]) (enc:=wv) [x,y] J J K4 uT22 ti31 J J J J J pV.cells J J hw) fun v _=>r1' J (Zh (n:=3) (Ma _ _ (by first | exact hv.sz | exact hsxy)) J J J K1 Zae (Xu 90 J J pV Ze) J hw) fun _ _=>r0' J J (st0 (Dx J J J (by rw [hm4];exact⟨by omega,by omega⟩)))<|r0' J J (st0 (Yx J J J (by rw [hm4];exact⟨by omega,by omega⟩)))<|r0' J J (st0 (Yx J J J (by rw [hm4];exact⟨by omega,by omega⟩)))<|r0' J J (st0 (Pm J J J))<|Yk<|Yf<|Qt () trivial K4 K4
   ·exact Yj J (Po (i:=90) (ivs:=[(0,_),(1,_)]) (enc:=wv) [x,y] J J K4 uT22 ti31 J J J J J pV.cells J J hw) fun v_2 _=>Zx (n:=0) [(1,1),(10,1),(11,0),(12,0),(13,0),(14,0)]<|r1' J (Zh (n:=3) (Ma _ _ (by first | exact hv.sz | exact hsxy)) J J J K1 Zae (Zc 1 J J J Ze) J hw) fun _ _=>r1' J (Zh (n:=3) (Ma _ _ (by first | exact hv.sz | exact hsxy)) J J J K1 Zae (Xu 90 J J pV Ze) J hw) fun _ _=>r0' J J (st0 (Dx J J J (by rw [hm4];exact⟨by omega,by omega⟩)))<|r0' J J (st0 (Yx J J J (by rw [hm4];exact⟨by omega,by omega⟩)))<|r0' J J (st0 (Yx J J J (by rw [hm4];exact⟨by omega,by omega⟩)))<|r0' J J (st0 (Pm J J J))<|Yk<|Yf<|Qt () trivial K4 K4
  ·rintro _ -
   simp only [CA,NA]
   refine Zs J (fun h189=>?_) (fun h189=>?_)
   ·have hE:Kq xs x y:=⟨hne,by rw [hm4]at h189;omega⟩
    exact Zd<|Zg<|dt (Pv (ivs:=[]) J trivial (fun a w hs=>b31_))<|tt (Zm (i:=3) J J J J J (by decide) J Yq J J ⟨Zb J,Zb J,trivial⟩ J hw trivial) fun _ _=>as_ J<|Zf<|Za<|Zu<|Xa<|Ym (.inl J) hsc () _ (fun a w hs=>Nl hs results186 (Yn (i:=3) J J Qq Yq J) J) (by unfold evv eve;rw [if_pos hE,if_pos hE]<;>rfl) trivial J Zk
   ·have hF:msz xs+(xs.length-1)*msz [x,y]+8≤65536:=by rw [hm4]at h189;omega
    refine Zj<|Za<|Zd<|Zg<|tt (Zn (i:=4) J J zeroValue167 J J hw) fun b_3 _=>Zf<|Za<|Ez [(0,_),(3,_),(4,_),(6,_)] [(0,_),(1,_),(2,_),(3,_),(4,_)] (fun(q:Nat×Nat)=>[(7,.pointer (some ⟨q.1,0,none⟩)),(8,.pointer (some ⟨q.2,0,none⟩))]) (fun(q:Nat×Nat)=>[(97,box q.1 31 (wc (xs.getD (xs.length-1) 0))),(98,box q.2 31 (wc 1))]) (fun(q:Nat×Nat)=>True) K4 K5 ?_ ?_
    ·refine Hy (fun _=>False) [9,10]<|Zx (n:=5) [(0,0),(1,0),(2,0),(3,0),(4,0),(5,0)]<|r0' J J (st0 (Yo J J))<|r0' J J (st0 (Yo J J))<|r0' J J (st0 (Yd J J (i:=1) J Zi Qx))<|r0' J J (st0 (Qd J J J ⟨by omega,by omega⟩))<|r0' J J (st0 (Xb (ii:=1) (i:=(xs.length-1)) J J J J Zi Qx Yq))<|r0' J J (st0 (Xv (ii:=1) 0 J J J Zi pV))<|Yk<|Ba (n:=4) 6 7 8 ?_ ?_ ?_
     ·refine Yj J (Zh (n:=4) (Xf _ (by first | assumption | exact⟨by omega,by omega⟩)) J J J K1 Bt Ze J hw) fun _ _=>Pb (n:=3) 7 8 ?_ ?_
      ·exact Yj J (Zn (i:=97) J J zeroValue31 J J hw) fun b_4 _=>Zx (n:=0) [(8,1),(9,3),(10,3)]<|r1' J (Zn (i:=98) J J zeroValue31 J J hw) fun b_5 _=>r3' J (Zm (i:=97) J J J J J (by decide) J Yq J J ⟨Zb J,Zb J,trivial⟩ J hw trivial) fun _ _=>r3' J (Zm (i:=98) J J J J J (by decide) J Yq J J ⟨Zb J,Zb J,trivial⟩ J hw trivial) fun _ _=>Yk<|Yf<|Qt (_,_) trivial K6 K7
      ·exact Yj J (Zn (i:=98) J J zeroValue31 J J hw) fun b_6 _=>Zx (n:=0) [(7,1),(9,3),(10,3)]<|r1' J (Zn (i:=97) J J zeroValue31 J J hw) fun b_7 _=>r3' J (Zm (i:=97) J J J J J (by decide) J Yq J J ⟨Zb J,Zb J,trivial⟩ J hw trivial) fun _ _=>r3' J (Zm (i:=98) J J J J J (by decide) J Yq J J ⟨Zb J,Zb J,trivial⟩ J hw trivial) fun _ _=>Yk<|Yf<|Qt (_,_) trivial K6 K7
     ·refine Yj J (Zn (i:=97) J J zeroValue31 J J hw) fun b_8 _=>Pb (n:=3) 6 8 ?_ ?_
      ·exact Yj J (Zh (n:=4) (Xf _ (by first | assumption | exact⟨by omega,by omega⟩)) J J J K1 Bt Ze J hw) fun _ _=>Zx (n:=0) [(8,1),(9,3),(10,3)]<|r1' J (Zn (i:=98) J J zeroValue31 J J hw) fun b_9 _=>r3' J (Zm (i:=97) J J J J J (by decide) J Yq J J ⟨Zb J,Zb J,trivial⟩ J hw trivial) fun _ _=>r3' J (Zm (i:=98) J J J J J (by decide) J Yq J J ⟨Zb J,Zb J,trivial⟩ J hw trivial) fun _ _=>Yk<|Yf<|Qt (_,_) trivial K6 K7
      ·exact Yj J (Zn (i:=98) J J zeroValue31 J J hw) fun b_10 _=>Zx (n:=0) [(6,1),(9,3),(10,3)]<|r1' J (Zh (n:=4) (Xf _ (by first | assumption | exact⟨by omega,by omega⟩)) J J J K1 Bt Ze J hw) fun _ _=>r3' J (Zm (i:=97) J J J J J (by decide) J Yq J J ⟨Zb J,Zb J,trivial⟩ J hw trivial) fun _ _=>r3' J (Zm (i:=98) J J J J J (by decide) J Yq J J ⟨Zb J,Zb J,trivial⟩ J hw trivial) fun _ _=>Yk<|Yf<|Qt (_,_) trivial K6 K7
     ·refine Yj J (Zn (i:=98) J J zeroValue31 J J hw) fun b_11 _=>Pb (n:=3) 6 7 ?_ ?_
      ·exact Yj J (Zh (n:=4) (Xf _ (by first | assumption | exact⟨by omega,by omega⟩)) J J J K1 Bt Ze J hw) fun _ _=>Zx (n:=0) [(7,1),(9,3),(10,3)]<|r1' J (Zn (i:=97) J J zeroValue31 J J hw) fun b_12 _=>r3' J (Zm (i:=97) J J J J J (by decide) J Yq J J ⟨Zb J,Zb J,trivial⟩ J hw trivial) fun _ _=>r3' J (Zm (i:=98) J J J J J (by decide) J Yq J J ⟨Zb J,Zb J,trivial⟩ J hw trivial) fun _ _=>Yk<|Yf<|Qt (_,_) trivial K6 K7
      ·exact Yj J (Zn (i:=97) J J zeroValue31 J J hw) fun b_13 _=>Zx (n:=0) [(6,1),(9,3),(10,3)]<|r1' J (Zh (n:=4) (Xf _ (by first | assumption | exact⟨by omega,by omega⟩)) J J J K1 Bt Ze J hw) fun _ _=>r3' J (Zm (i:=97) J J J J J (by decide) J Yq J J ⟨Zb J,Zb J,trivial⟩ J hw trivial) fun _ _=>r3' J (Zm (i:=98) J J J J J (by decide) J Yq J J ⟨Zb J,Zb J,trivial⟩ J hw trivial) fun _ _=>Yk<|Yf<|Qt (_,_) trivial K6 K7
    ·rintro⟨b7,b8⟩ -
     simp only [CA,NA]
     refine Zd<|Zd<|Zg<|mv J<|dt (Yd J J (i:=1) J Zi Qx)<|dt (Qd J J J ⟨by omega,by omega⟩)<|as_ J<|Zf<|Za<|Zo<|Nt [(0,_),(3,_),(4,_),(6,_),(7,_),(8,_)] [(0,_),(1,_),(2,_),(3,_),(4,_)] (fun(k:Nat)=>[(9,.int .i64 ((k:Int)-1))]) (fun(k:Nat)=>[(97,box b7 31 (wc (hor xs x y k))),(98,box b8 31 (wc (y^(xs.length-1-k))))]) (fun(k:Nat)=>k≤xs.length-1) (fun(k:Nat)=>k) (xs.length-1) (by first | omega | (dsimp only<;>omega)) ⟨by rw [show((xs.length-1:Nat):Int)-1=(xs.length:Int)-2 by omega];rfl,rfl,rfl,rfl,rfl,rfl,rfl,trivial⟩ ⟨by rw [hor_top x y (by omega)];rfl,by rw [Nat.sub_self,Int.pow_zero];rfl,rfl,rfl,rfl,rfl,rfl,trivial⟩ ?_
     rintro k hk
     simp only [CA,NA]
     refine Zd<|Zd<|Zg<|mv J<|dt (Ke J J J)<|Zf<|Za<|Zs J (fun h194=>?_) (fun h194=>?_)
     ·have hpw:y^(xs.length-1-k)*y=y^(xs.length-1-(k-1)):=Zxc y (by omega) hk
      have hst:hor xs x y k*x+xs.getD (k-1) 0*y^(xs.length-1-(k-1))=hor xs x y (k-1):=Ztv x y (by omega) hk
      refine Zj<|Za<|Zd<|Zo<|Zd<|Zg<|dt (Zy (i:=98) J J J Qq Yq J J)<|dt (Xs J J Cd J Yq J J)<|dt (Zy (i:=2) J J J Qq Yq J J)<|tt (On (n:=4) (i:=4) (Da _ _ _ (Zoy hF) hy (by rw [hpw];exact Zoy hF)) J J J K3 call153 J (by decide) Ze J hw trivial) fun _ _=>tt (Zm (i:=98) J J J J J (by decide) J Yq J J ⟨Zb J,Zb J,trivial⟩ J hw trivial) fun _ _=>Zf<|Za<|Qi (fun x=>x=b_3) [(0,0),(1,0),(2,0),(4,0),(5,0),(6,0),(7,0),(8,0),(3,1),(9,1),(10,1),(11,3)] ?_ ?_
      ·kernel_rfl
      refine r0' J J (st1 4 J (Zy (i:=97) J J J Qq Yq J J))<|r0' J J (st1 4 J (Xs J J Cd J Yq J J))<|r0' J J (st1 4 J (Zy (i:=2) J J J Qq Yq J J))<|r0' J J (st1 4 J (Yo J J))<|r0' J J (st1 4 J (Yo J J))<|r0' J J (st1 4 J (Xb (ii:=1) (i:=(k-1)) J J J J Zi Qx Yq))<|r0' J J (st1 4 J (Xv (ii:=1) 0 J J J Zi pV))<|r0' J J (st1 4 J (Zy (i:=98) J J J Qq Yq J J))<|r1' J (On (n:=4) (i:=4) (Da _ _ _ (by first | exact Zoz hF hlen _ | exact hv.sz.getD _) (by first | exact hx | (rw [hpw];exact Zoy hF)) (by first | exact Zt3 hF hlen (by omega) hk | (rw [hpw];exact Zmq hF))) J J J K3 call153 J (by decide) Ze J hw J) fun _ _=>r1' J (On (n:=4) (i:=4) (Da _ _ _ (by first | exact Zoz hF hlen _ | exact hv.sz.getD _) (by first | exact hx | (rw [hpw];exact Zoy hF)) (by first | exact Zt3 hF hlen (by omega) hk | (rw [hpw];exact Zmq hF))) J J J K3 call153 J (by decide) Ze J hw J) fun _ _=>r1' J (On (n:=4) (i:=4) (Zo6 _ _ _ (Zt3 hF hlen (by omega) hk) (by rw [hpw];exact Zmq hF) (by rw [hpw,hst];exact Zoz hF hlen _)) J J J K3 call159 J (by decide) Ze J hw J) fun _ _=>r3' J (Zm (i:=97) J J J J J (by decide) J Yq J J ⟨Zb J,Zb J,trivial⟩ J hw trivial) fun _ _=>Of ?_
      exact Oe<|Za<|Zg<|mv J<|dt (Qd J J J ⟨by omega,by omega⟩)<|as_ J<|Zf<|Xn (k-1) (by first | omega | (dsimp only<;>omega)) (by first | omega | (dsimp only<;>omega)) ⟨by rw [show((k-1:Nat):Int)-1=(k:Int)-1-1 by omega];rfl,rfl,rfl,rfl,rfl,rfl,rfl,trivial⟩ ⟨by rw [hpw,hst];rfl,by rw [hpw];rfl,rfl,rfl,rfl,rfl,rfl,trivial⟩
     ·refine Yv<|Zv<|Zv<|Ox<|Za<|Zd<|Zd<|Zg<|dt (Xs J J Zhm J Zhc J J)<|dt (Xs J J Zlg J Gw J J)<|dt (Oj (i:=4) J J J Zag J)<|dt (Qc J J J)<|Zf<|Za<|Zs J (fun h198=>?_) (fun h198=>?_)
      ·exfalso;simp_all
      ·refine Zj<|Za<|Zd<|Zg<|dt (Zy (i:=97) J J J Qq Yq J J)<|tt (Zm (i:=3) J J J J J (by decide) J Yq J J ⟨Zb J,Zb J,trivial⟩ J hw trivial) fun _ _=>as_ J<|Zf<|Za<|Zu ?_
       obtain rfl:k=0:=by omega
       have hE:¬Kq xs x y:=fun h=>by have:=h.2;omega
       exact Ym (.inl J) hsc () _ (fun a w hs=>Nl hs results186 (Yn (i:=3) J J Qq Yq J) J) (by unfold evv eve;rw [if_neg hE,if_neg hE,←Zou]<;>rfl) trivial J Zk
theorem Zl2(v:Value)(xs:List Int)(x y:Int)(hv:Vp xs)(hx:bl x.natAbs≤65536)(hy:bl y.natAbs≤65536)(hy0:0<y):Mc prog 164 #[v,rX x y] [slp 2 wv v xs] (.tuple #[.int .i64 (evv xs x y).sign,.int .i64 (eve xs x y)]):=by
 refine Yc func164 J ntmps164 J K1 ?_
 intro w0 sc hw hsc
 simp only [Zq,Zp]
 have hlen:=hv.len
 exact Zd<|Zg<|tt (Yu (i:=2) J J J J J hw) fun b _=>as_ J<|as_ J<|Zf<|Za<|Zd<|Zg<|mv J<|dt (Yp (i:=2) J J J Qp Xk J J J J)<|tt (Zh (n:=2) (Zsm _ _ _ _ hv hx hy hy0) J J J K2 call186 (Zc 1 J J J Ze) J hw) fun _ _=>mv J<|dt (Yh J J J)<|dt (Yh J J J)<|tt (Zn (i:=3) J J zeroValue31 J J hw) fun b_2 _=>tt (Zm (i:=3) J J J J J (by decide) J Yq J J ⟨Zb J,Zb J,trivial⟩ J hw trivial) fun _ _=>as_ J<|Zf<|Za<|Zd<|Zg<|dt (Zy (i:=3) J J J Qq Yq J J)<|tt (Zh (n:=3) (Ms _ (evv_bl hlen)) J J J K1 call104 Ze J hw) fun _ _=>mv J<|as_ J<|as_ J<|Zf<|Za<|Zu<|Ym (.inl J) hsc () _ (fun a w hs=>Nl hs results164 J J) J trivial J Zk
theorem Zbt(bd:Nat)(v:Value)(xs:List Int)(hs:Sz 65536 xs):Zqx prog 154 #[.pointer (some ⟨bd,0,none⟩),v] [slp 2 wv v xs] true bd 167 #[.int .i64 0] (G:=Unit) (fun _=>True) (fun _=> .tuple #[Ea v (tzl xs).length,.int .i64 0]) (fun _=>#[.int .i64 0]) (fun _=>[slp 2 wv (Ea v (tzl xs).length) (tzl xs)]):=by
 refine Zcw func154 J ntmps154 J K1 ?_
 intro w0 sc hw hsc
 simp only [Zq,Zp]
 refine Zd<|Zg<|as_ J<|as_ J<|Zf<|Za<|Zd<|Zd<|Zg<|mv J<|dt (Zf7 J J)<|dt (Xs J J Zhm J Zhc J J)<|dt (Xs J J Zlg J Gw J J)<|dt (Oj (i:=1) J J J Zag J)<|dt (Qc J J J)<|Zf<|Za<|Zs J (fun h43=>?_) (fun h43=>?_)
 ·exfalso;simp_all
 ·exact Zj<|Za<|Zd<|Zg<|mv J<|tt (Zh (n:=3) (Za4 _ _ ‹_›) J J J K1 call152 (Zc 2 J J J Ze) J hw) fun _ _=>as_ J<|as_ J<|Zf<|Za<|Zu<|Zec (.inl J) hsc () _ (fun a w hs=>Nl hs results154 J J) J trivial 1 J J J J (Yy 3 J J J Zk)
theorem Zu1(v:Value)(xs:List Int)(hx:xs.length*24≤140737488355328:=by omega):CalO prog 157 #[v] [slp 2 wv v xs] (G:=Value) (fun r=>True) (fun r=>r) (fun r=>osl 2 31 wv r xs):=by
 refine Zvb func157 J ntmps157 J K1 ?_
 intro w0 sc hw hsc
 simp only [Zq,Zp]
 refine Md (f_nil (i:=1) J Zi) fun hnil=>Zd<|Zg<|as_ J<|Zf<|Za<|Zd<|Zd<|Zg<|mv J<|dt (Zus J J J (i:=1) J Zi Qx)<|Zf<|Za<|Mm J (fun h357=>?_) (fun h357=>?_)
 ·refine Zd<|Zg<|as_ J<|Zf<|Za<|Zu<|Xa ?_
  obtain rfl:xs=[]:=hnil (by simpa using h357)
  exact Qu (Na 9 2 31 wv)<|Znc (.inl J) (.slice none 0 0) _ (fun a w hs=>Ni hs results157 J) J trivial J 9 J J J
 ·exact Zj<|Za<|Zd<|Zg<|tt (t_bs0 (i:=2) (enc:=wv) J J J Qx pV J hw) fun v _=>mv J<|tt (Iu (i:=2) (j:=1) (by_:=24) J J J J J J (by decide) J Zi Qx ti31 J pV J J J (by simp;omega) (by decide) J hw) fun v_2 _=>as_ J<|Zf<|Za<|Zu<|Znc (.inl J) _ _ (fun a w hs=>Ni hs results157 J) J trivial J 2 J (by rfl) J
theorem Ze3(v:Value)(xs:List Int)(hv:Vp xs):Mc prog 105 #[v] [slp 2 wv v xs] (.tuple #[.int .i64 ((xs.length:Int)-1),.int .i64 0]):=by
 refine Yc func105 J ntmps105 J K1 ?_
 intro w0 sc hw hsc
 simp only [Zq,Zp]
 have hlen:=hv.len
 exact Zd<|Zg<|as_ J<|as_ J<|Zf<|Za<|Zd<|Zd<|Zg<|mv J<|tt (Zh (n:=1) (Xy _ _ ‹_›) J J J K1 Zfq (Zc 1 J J J Ze) J hw) fun _ _=>dt (Xg J J)<|Zf<|Za<|Ye J<|Zj<|Za<|Zd<|Zg<|mv J<|dt (Yd J J (i:=1) J Zi Qx)<|dt (Qd J J J ⟨by omega,by omega⟩)<|as_ J<|as_ J<|Zf<|Za<|Zu<|Ym (.inl J) hsc () _ (fun a w hs=>Nl hs results105 J J) J trivial J Zk
theorem Zka(v:Value)(xs:List Int)(hv:Vp xs):Mc prog 106 #[v] [slp 2 wv v xs] (.tuple #[.int .i64 (msz xs:Int),.int .i64 0]):=by
 refine Yc func106 J ntmps106 J K1 ?_
 intro w0 sc hw hsc
 simp only [Zq,Zp]
 exact Zd<|Zg<|as_ J<|as_ J<|Zf<|Za<|Zd<|Zd<|Zg<|mv J<|tt (Zh (n:=1) (Xy _ _ ‹_›) J J J K1 Zfq (Zc 1 J J J Ze) J hw) fun _ _=>dt (Xg J J)<|Zf<|Za<|Ye J<|Zj<|Za<|Zd<|Zg<|mv J<|tt (Zh (n:=1) (Ma _ _ hv.sz) J J J K1 Zae (Zc 1 J J J Ze) J hw) fun _ _=>as_ J<|as_ J<|Zf<|Za<|Zu<|Ym (.inl J) hsc () _ (fun a w hs=>Nl hs results106 J J) J trivial J Zk
theorem Zm2(bd:Nat)(v u:Value)(xs ys:List Int)(hv:Vp xs)(hu:Vp ys)(hz:∀i,bl (cf xs i-cf ys i).natAbs≤65536):Zqx prog 136 #[v,u,.pointer (some ⟨bd,0,none⟩),.func (.func 137) #[.pointer (some ⟨bd,0,none⟩)] #[]] [slp 2 wv v xs,slp 2 wv u ys] true bd 167 #[.int .i64 0] (G:=Value) (fun r=>True) (fun r=> .tuple #[r,.int .i64 0]) (fun r=>#[.int .i64 0]) (fun r=>[slp 2 wv r (Zf2 xs ys)]):=by
 refine Zcw func136 J ntmps136 J K2 ?_
 intro w0 sc hw hsc
 simp only [Zq,Zp]
 have hlen:=hv.len
 have hlen2:=hu.len
 refine Zd<|Zg<|as_ J<|as_ J<|Zf<|Za<|Zd<|Zd<|Zg<|mv J<|tt (Zh (n:=3) (Xy _ _ ‹_›) J J J K1 Zfq (Zc 2 J J J Ze) J hw) fun _ _=>dt (Xg J J)<|mv J<|gdt (Yo J J) J J<|gtt (Zh (n:=3) (Xy _ _ ‹_›) J J J K1 Zfq (Zc 3 J J J Ze) J hw) J J J fun _ _=>gdt (Xg J J) J J<|dt (Zz J J J)<|Zf<|Za<|Ye J<|Zj<|Za<|Zd<|Zg<|mv J<|dt (Yd J J (i:=2) J Zi Qx)<|mv J<|dt (Yd J J (i:=3) J Zi Qx)<|dt (Zur J J J)<|tt (Gb (i:=4) (n:=(max xs.length ys.length)) (by_:=24) (enc:=wv) 0 J J J J Qx ti31 J pV.cells pV.pos J J J hw) fun v _=>as_ J<|Zf<|Za<|Zd<|Zd<|Zg<|mv J<|dt (Yd J J (i:=4) J (Yt pV) Qx)<|mv J<|Zf<|Za<|Zo ?_
 refine Nt [(0,_),(1,_),(2,_),(3,_),(10,_),(29,_)] [(0,_),(1,_),(2,_),(3,_)] (fun(k:Nat)=>[(30,.int .i64 (k:Int))]) (fun(k:Nat)=>[(4,osl 2 31 wv v (fill (max xs.length ys.length) k (fun i=>cf xs i-cf ys i)))]) (fun(k:Nat)=>k≤max xs.length ys.length) (fun(k:Nat)=>max xs.length ys.length-k) 0 (by first | omega | (dsimp only<;>omega)) K7 ⟨by rw [Cv (max xs.length ys.length) (fun i=>cf xs i-cf ys i)];rfl,rfl,rfl,rfl,rfl,trivial⟩ ?_
 rintro k hk
 simp only [CA,NA]
 have hlf:(fill (max xs.length ys.length) k (fun i=>cf xs i-cf ys i)).length=max xs.length ys.length:=Ou _ _ _
 refine Zd<|Zg<|dt (Xr J J J)<|Zf<|Za<|Zd<|Zs J (fun h106=>?_) (fun h106=>?_)
 ·try rw [List.length_replicate]at *
  refine Zj<|Za<|Zd<|Zo<|Zd<|Zg<|mv J<|as_ J<|Zf<|Za<|Zd<|Zg<|tt (Zn (i:=5) J J zeroValue31 J J hw) fun b _=>tt (Zn (i:=6) J J zeroValue31 J J hw) fun b_2 _=>Zf<|Za<|Ez [(0,_),(1,_),(2,_),(3,_),(10,_),(11,_),(12,_),(13,_),(29,_),(30,_)] [(0,_),(4,_),(1,_),(2,_),(3,_),(6,_)] (fun(_:Unit)=>[]) (fun(_:Unit)=>[(5,box b 31 (wc (cf xs k)))]) (fun(_:Unit)=>True) K10 K6 ?_ ?_
  ·refine Zd<|Zg<|mv J<|mv J<|dt (Yd J J (i:=2) J Zi Qx)<|dt (Xr J J J)<|Zf<|Za<|Zs J (fun h108=>?_) (fun h108=>?_)
   ·exact Zg<|mv J<|mv J<|dt (Xb (ii:=2) J J J J Zi Qx Yq J (by first | omega | (simp only [List.length_set];omega)))<|dt (Xv (ii:=2) 0 J J J Zi pV (by first | omega | (simp only [List.length_set];omega)))<|tt (Zm (i:=5) J J J J J (by decide) J Yq J J ⟨Zb J,Zb J,trivial⟩ J hw trivial) fun _ _=>Zf<|Qt () trivial K10 ⟨by first | rfl | (rw [Qh (p:=xs) (by omega)];rfl),rfl,rfl,rfl,rfl,rfl,rfl,trivial⟩
   ·exact Zj<|Qt () trivial K10 ⟨by first | rfl | (rw [Qh (p:=xs) (by omega)];rfl),rfl,rfl,rfl,rfl,rfl,rfl,trivial⟩
  ·rintro _ -
   simp only [CA,NA]
   refine Ez [(0,_),(1,_),(2,_),(3,_),(10,_),(11,_),(12,_),(13,_),(29,_),(30,_)] [(0,_),(5,_),(4,_),(1,_),(2,_),(3,_)] (fun(_:Unit)=>[]) (fun(_:Unit)=>[(6,box b_2 31 (wc (cf ys k)))]) (fun(_:Unit)=>True) K10 K6 ?_ ?_
   ·refine Zd<|Zg<|mv J<|mv J<|dt (Yd J J (i:=3) J Zi Qx)<|dt (Xr J J J)<|Zf<|Za<|Zs J (fun h111=>?_) (fun h111=>?_)
    ·exact Zg<|mv J<|mv J<|dt (Xb (ii:=3) J J J J Zi Qx Yq J (by first | omega | (simp only [List.length_set];omega)))<|dt (Xv (ii:=3) 0 J J J Zi pV (by first | omega | (simp only [List.length_set];omega)))<|tt (Zm (i:=6) J J J J J (by decide) J Yq J J ⟨Zb J,Zb J,trivial⟩ J hw trivial) fun _ _=>Zf<|Qt () trivial K10 ⟨by first | rfl | (rw [Qh (p:=ys) (by omega)];rfl),rfl,rfl,rfl,rfl,rfl,rfl,trivial⟩
    ·exact Zj<|Qt () trivial K10 ⟨by first | rfl | (rw [Qh (p:=ys) (by omega)];rfl),rfl,rfl,rfl,rfl,rfl,rfl,trivial⟩
   ·rintro _ -
    simp only [CA,NA]
    exact Zg<|mv J<|mv J<|mv J<|dt (Zy (i:=5) J J J Qq Yq J J)<|dt (Zy (i:=6) J J J Qq Yq J J)<|tt (Zv7 (n:=6) (i:=1) (fs:=[_]) (vs:=[_,_]) (Zum _ _ _ (hv.sz _) (hu.sz _) (hz _)) J J J J K2 call137 J (by decide) Ze J hw trivial) fun _ _=>dt (Xb (ii:=4) (i:=k) J J J J (Yt pV) Qx Yq J (by rw [Ou];omega))<|tt (Ii (i:=4) (enc:=wv) _ J J J J J J pV J hw (by decide) (by rw [Ou];omega)) fun _ _=>Zf<|Oe<|Za<|Zg<|dt (Yx J J J ⟨by omega,by omega⟩)<|mv J<|Zf<|Xn (k+1) (by first | omega | (dsimp only<;>omega)) (by first | omega | (dsimp only<;>omega)) K7 ⟨by rw [←Zd1 (by omega)];rfl,rfl,rfl,rfl,rfl,trivial⟩
 ·try rw [List.length_replicate]at *
  refine Yv<|Zv<|Zv<|Ox<|Za<|Zd ?_
  obtain rfl:k=max xs.length ys.length:=by omega
  exact Yr (Pd 4 J J pV)<|Zg<|mv J<|mv J<|tt (On (n:=7) (i:=1) (Zbt _ _ _ (by rw [Du];exact Zbb fun i _=>hz i)) J J J K2 call154 J (by decide) (Zc 4 J J J Ze) J hw trivial) fun _ _=>dt (Yh J J J)<|dt (Yh J J J)<|as_ J<|as_ J<|Zf<|Za<|Zu<|Zec (.inl J) hsc _ _ (fun a w hs=>Nl hs results136 J J) J trivial 1 J J J J (Yi 7 J J J (by rw [Du]<;>rfl) Zk)
theorem Zob(v u:Value)(xs ys:List Int)(hv:Vp xs)(hu:Vp ys)(hz:∀i,bl (cf xs i-cf ys i).natAbs≤65536):Cal prog 85 #[v,u] [slp 2 wv v xs,slp 2 wv u ys] true (G:=Value) (fun r=>True) (fun r=> .tuple #[r,.int .i64 0]) (fun r=>[slp 2 wv r (Zf2 xs ys)]):=by
 refine Yc func85 J ntmps85 J K2 ?_
 intro w0 sc hw hsc
 simp only [Zq,Zp]
 exact Zd<|Zg<|as_ J<|as_ J<|Zf<|Za<|Zd<|Zg<|tt (Zn (i:=3) J J zeroValue167 J J hw) fun b _=>Zf<|Za<|Zd<|Zg<|mv J<|mv J<|dt (d_mkf (vs:=[_]) J K1)<|tt (On (n:=4) (i:=3) (Zm2 _ _ _ _ _ ‹_› ‹_› ‹_›) J J J K4 call136 J (by decide) (Zc 1 J J J (Zc 2 J J J Ze)) J hw trivial) fun _ _=>dt (Yh J J J)<|dt (Yh J J J)<|as_ J<|as_ J<|Zf<|Za<|Zu<|Ym (.inl J) hsc _ _ (fun a w hs=>Nl hs results85 J J) J trivial J (Yy 4 J J J Zk)
theorem Zxd(v u:Value)(xs ys:List Int)(hv:Vp xs)(hu:Vp ys)(hF:¬Zfb xs ys):Cal prog 112 #[v,u] [slp 2 wv v xs,slp 2 wv u ys] true (G:=Value) (fun r=>True) (fun r=> .tuple #[r,.int .i64 0]) (fun r=>[slp 2 wv r (Mg xs ys)]):=by
 refine Yc func112 J ntmps112 J K2 ?_
 intro w0 sc hw hsc
 simp only [Zq,Zp]
 have hlen:=hv.len
 have hlen2:=hu.len
 have hm1:=Ob hv.sz
 have hm2:=Ob hu.sz
 refine Zd<|Zg<|as_ J<|as_ J<|Zf<|Za<|Zd<|Zd<|Zg<|mv J<|tt (Zh (n:=2) (Xy _ _ ‹_›) J J J K1 Zfq (Zc 1 J J J Ze) J hw) fun _ _=>dt (Xg J J)<|mv J<|gdt (Yo J J) J J<|gtt (Zh (n:=2) (Xy _ _ ‹_›) J J J K1 Zfq (Zc 2 J J J Ze) J hw) J J J fun _ _=>gdt (Xg J J) J J<|dt (Zz J J J)<|Zf<|Za<|Ye J<|Zj<|Za<|Zd<|Zd<|Zg<|mv J<|dt (Yd J J (i:=1) J Zi Qx)<|dt (Pg J J J)<|mv J<|Qm (d:=23) J (fun s136=>?_) (fun s136=>?_)
 ·exact gsk J J J<|gsk J J J<|gsk J J J<|dt (Ys J J J)<|Zf<|Za<|Pf J<|Zd<|Zg<|as_ J<|as_ J<|Zf<|Za<|Zu<|Xa<|Ym (.inl J) hsc _ _ (fun a w hs=>Nl hs results112 J J) J trivial J (Lo (Bl (p:=xs) (q:=ys) (by first | (left;omega) | (right;omega))) Zk)
 ·refine gdt (Yo J J) J J<|gdt (Yd J J (i:=2) J Zi Qx) J J<|gdt (Pg J J J) J J<|dt (Zz J J J)<|Zf<|Za<|Zs J (fun h136=>?_) (fun h136=>?_)
  ·exact Zd<|Zg<|as_ J<|as_ J<|Zf<|Za<|Zu<|Xa<|Ym (.inl J) hsc _ _ (fun a w hs=>Nl hs results112 J J) J trivial J (Lo (Bl (p:=xs) (q:=ys) (by first | (left;omega) | (right;omega))) Zk)
  ·have hnx:xs≠[]:=by intro e;subst e;simp_all
   have hny:ys≠[]:=by intro e;subst e;simp_all
   have hlx:0<xs.length:=List.length_pos_iff.2 hnx
   have hly:0<ys.length:=List.length_pos_iff.2 hny
   refine Zj<|Za<|Zd<|Zd<|Zg<|mv J<|dt (Yd J J (i:=1) J Zi Qx)<|mv J<|dt (Yd J J (i:=2) J Zi Qx)<|dt (Yx J J J ⟨by omega,by omega⟩)<|dt (Qd J J J ⟨by omega,by omega⟩)<|dt (Pm J J J)<|mv J<|Qm (d:=35) J (fun s139=>?_) (fun s139=>?_)
   ·exfalso;exact hF ⟨hnx,hny,.inl (by omega)⟩
   ·refine gdt (Yo J J) J J<|gtt (Zh (n:=2) (Ma _ _ (by first | exact hv.sz | exact hu.sz)) J J J K1 Zae (Zc 1 J J J Ze) J hw) J J J fun _ _=>gdt (Yo J J) J J<|gtt (Zh (n:=2) (Ma _ _ (by first | exact hv.sz | exact hu.sz)) J J J K1 Zae (Zc 2 J J J Ze) J hw) J J J fun _ _=>gdt (Yx J J J ⟨by omega,by omega⟩) J J<|gdt (Yx J J J ⟨by omega,by omega⟩) J J<|gdt (Pm J J J) J J<|dt (Zz J J J)<|Zf<|Za<|Zs J (fun h139=>?_) (fun h139=>?_)
    ·exfalso;exact hF ⟨hnx,hny,by first | (left;omega) | (right;omega)⟩
    ·have hsz:msz xs+msz ys+5≤65536:=by omega
     have hpq:∀i j,bl (cf xs i*cf ys j).natAbs≤65536:=fun i j=>by have:=Xm (cf xs i) (cf ys j);have:=Oh xs i;have:=Oh ys j;omega
     have hac:∀i j t,i<25→bl (Zhb xs ys i j t).natAbs≤65536:=fun i j t hi=>by have:=bl_acc2 (i:=i) (j:=j) (t:=t) (Oh xs) (Oh ys) (by omega);omega
     have hacc:∀t,bl (acc xs ys xs.length t).natAbs≤65536:=fun t=>by have:=bl_acc (i:=xs.length) (t:=t) (Oh xs) (Oh ys) (by omega);omega
     have hsum:∀i j,i<25→bl (Zhb xs ys i j (i+j)+cf xs i*cf ys j).natAbs≤65536:=fun i j hi=>by rw [←Zvq];exact hac i (j+1) _ hi
     refine Zj<|Za<|Zd<|Zg<|tt (Zn (i:=3) J J zeroValue167 J J hw) fun b _=>Zf<|Za<|Zd<|Zg<|mv J<|dt (Yd J J (i:=1) J Zi Qx)<|mv J<|dt (Yd J J (i:=2) J Zi Qx)<|dt (Yx J J J ⟨by omega,by omega⟩)<|dt (Qd J J J ⟨by omega,by omega⟩)<|tt (Gb (i:=4) (n:=(xs.length+ys.length-1)) (by_:=24) (enc:=wv) 0 J J J J Qx ti31 J pV.cells pV.pos J J J hw) fun v _=>as_ J<|Zf<|Za<|Zd<|Zd<|Zg<|mv J<|dt (Yd J J (i:=1) J Zi Qx)<|mv J<|Zf<|Za<|Zo<|Nt [(1,_),(6,_),(7,_),(51,_),(52,_)] [(0,_),(1,_),(2,_),(3,_)] (fun(i:Nat)=>[(53,.int .i64 (i:Int))]) (fun(i:Nat)=>[(4,osl 2 31 wv v (mk (xs.length+ys.length-1) (acc xs ys i)))]) (fun(i:Nat)=>i≤xs.length) (fun(i:Nat)=>xs.length-i) 0 (by first | omega | (dsimp only<;>omega)) K6 ⟨by rw [Zn4];rfl,rfl,rfl,rfl,rfl,trivial⟩ ?_
     rintro i hi
     simp only [CA,NA]
     refine Zd<|Zg<|dt (Xr J J J)<|Zf<|Za<|Zd<|Zs J (fun h144=>?_) (fun h144=>?_)
     ·refine Zj<|Za<|Zd<|Zo<|Zd<|Zg<|mv J<|dt (Xb (ii:=1) J J J J Zi Qx Yq J (by first | omega | (simp only [List.length_set];omega)))<|dt (Xv (ii:=1) 0 J J J Zi pV (by first | omega | (simp only [List.length_set];omega)))<|tt (Zn (i:=5) J J zeroValue31 J J hw) fun b_2 _=>as_ J<|tt (Zm (i:=5) J J J J J (by decide) J Yq J J ⟨Zb J,Zb J,trivial⟩ J hw trivial) fun _ _=>Zf<|Za<|Zd<|Zg<|mv J<|dt (Yd J J (i:=2) J Zi Qx)<|mv J<|Zf<|Za<|Zo<|Nt [(1,_),(6,_),(7,_),(8,_),(9,_),(51,_),(52,_),(53,_),(58,_),(59,_)] [(0,_),(1,_),(2,_),(3,_),(5,_)] (fun(j:Nat)=>[(60,.int .i64 (j:Int))]) (fun(j:Nat)=>[(4,osl 2 31 wv v (mk (xs.length+ys.length-1) (Zhb xs ys i j)))]) (fun(j:Nat)=>j≤ys.length) (fun(j:Nat)=>ys.length-j) 0 (by first | omega | (dsimp only<;>omega)) K11 ⟨by rw [Zvp];rfl,rfl,rfl,rfl,rfl,rfl,trivial⟩ ?_
      rintro j hj
      simp only [CA,NA]
      have hgd:i+j<xs.length+ys.length-1→(mk (xs.length+ys.length-1) (Zhb xs ys i j)).getD (i+j) 0=Zhb xs ys i j (i+j):=fun h=>Zcp h
      refine Zd<|Zg<|dt (Xr J J J)<|Zf<|Za<|Zd<|Zs J (fun h145=>?_) (fun h145=>?_)
      ·refine Zj<|Za<|Zd<|Zo<|Zd<|Zg<|mv J<|dt (Xb (ii:=2) J J J J Zi Qx Yq J (by first | omega | (simp only [List.length_set];omega)))<|dt (Xv (ii:=2) 0 J J J Zi pV (by first | omega | (simp only [List.length_set];omega)))<|tt (Zn (i:=6) J J zeroValue31 J J hw) fun b_3 _=>as_ J<|tt (Zm (i:=6) J J J J J (by decide) J Yq J J ⟨Zb J,Zb J,trivial⟩ J hw trivial) fun _ _=>Zf<|Za<|Qi (fun x=>x=b) [(0,0),(1,0),(2,0),(3,0),(4,0),(5,0),(6,0),(7,0),(8,0),(9,0),(10,0),(11,0),(12,1),(13,1),(14,0),(15,3)] ?_ ?_
       ·kernel_rfl
       refine r0' J J (st1 3 J (Yo J J))<|r0' J J (st1 3 J (Yo J J))<|r0' J J (st1 3 J (Yo J J))<|r0' J J (st1 3 J (Yx J J J ⟨by omega,by omega⟩))<|r0' J J (st1 3 J (Yo J J))<|r0' J J (st1 3 J (Yo J J))<|r0' J J (st1 3 J (Yo J J))<|r0' J J (st1 3 J (Yx J J J ⟨by omega,by omega⟩))<|r0' J J (st1 3 J (Xb (ii:=4) (i:=(i+j)) J J J J (Yt pV) Qx Yq (by omega) (by rw [Xw];omega)))<|r0' J J (st1 3 J (Xv (ii:=4) 0 J J J (Yt pV) pV (by rw [Xw];omega)))<|r0' J J (st1 3 J (Zy (i:=5) J J J Qq Yq J J))<|r0' J J (st1 3 J (Zy (i:=6) J J J Qq Yq J J))<|r1' J (On (n:=6) (i:=3) (Da _ _ _ (hv.sz _) (hu.sz _) (hpq i j)) J J J K3 call153 J (by decide) Ze J hw J) fun _ _=>r1' J (On (n:=6) (i:=3) (Zo6 _ _ _ (by rw [hgd (by omega)];exact hac i j _ (by omega)) (hpq i j) (by rw [hgd (by omega)];exact hsum i j (by omega))) J J J K3 call159 J (by decide) Ze J hw J) fun _ _=>r0' J J (st1 3 J (Xb (ii:=4) (i:=(i+j)) J J J J (Yt pV) Qx Yq (by omega) (by rw [Xw];omega)))<|r3' J (Ii (i:=4) (enc:=wv) _ J J J J J J pV J hw (by decide) (by rw [Xw];omega)) fun _ _=>Of<|Oe<|Za<|Zg<|dt (Yx J J J ⟨by omega,by omega⟩)<|mv J<|Zf ?_
       exact Xn (j+1) (by first | omega | (dsimp only<;>omega)) (by first | omega | (dsimp only<;>omega)) K11 ⟨by rw [←Zyy (by omega),←hgd (by omega)];rfl,rfl,rfl,rfl,rfl,rfl,trivial⟩
      ·refine Yv<|Zv<|Zv<|Ox<|Oe<|Za<|Zg<|dt (Yx J J J ⟨by omega,by omega⟩)<|mv J<|Zf ?_
       obtain rfl:j=ys.length:=by omega
       exact Xn (i+1) (by first | omega | (dsimp only<;>omega)) (by first | omega | (dsimp only<;>omega)) K6 ⟨by rw [←Zyz];rfl,rfl,rfl,rfl,rfl,trivial⟩
     ·refine Yv<|Zv<|Zv<|Ox<|Za<|Zd ?_
      obtain rfl:i=xs.length:=by omega
      exact Yr (Pd 4 J J pV)<|Zg<|mv J<|tt (On (n:=7) (i:=3) (Zbt _ _ _ (Zbb fun t _=>hacc t)) J J J K2 call154 J (by decide) (Zc 4 J J J Ze) J hw trivial) fun _ _=>dt (Yh J J J)<|dt (Yh J J J)<|as_ J<|as_ J<|Zf<|Za<|Zu<|Ym (.inl J) hsc _ _ (fun a w hs=>Nl hs results112 J J) J trivial J (Yi 7 J J J (by rw [Zxg]<;>rfl) Zk)
end Go.Sky

