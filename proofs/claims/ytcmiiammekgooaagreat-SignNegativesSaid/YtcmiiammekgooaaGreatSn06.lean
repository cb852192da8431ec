/- rules, arithmetic and contracts: part 7
   Proved without conditions of its own: each theorem bears its own. -/
import Derived.Test.YtcmiiammekgooaaGreatSn03
import Derived.Test.YtcmiiammekgooaaGreatSn02
import Derived.Test.YtcmiiammekgooaaGreatSn01
import Derived.Test.YtcmiiammekgooaaGreatSn05
set_option linter.all false
namespace Go.Sky
open Go.Proofs.Tryz
open Go.Proofs
set_option maxRecDepth 20000
set_option maxHeartbeats 4000000
set_option linter.unusedSimpArgs false
theorem Ep(v:Value)(xs:List Int)(c:Int)(hv:Vp xs)(hc:bl c.natAbs≤65536)(hz:∀i,bl (cf xs i*c).natAbs≤65536):Cal prog 151 #[v,wv c] [slp 2 wv v xs] true (G:=Value) (fun r=>True) (fun r=> .tuple #[r,.int .i64 0]) (fun r=>[slp 2 wv r (Xn xs c)]):=by
 refine Yd func151 J ntmps151 J K1 ?_
 intro w0 sc hw hsc
 simp only [Zq,Zp]
 have hlen:=hv.len
 refine Ze<|Zg<|tt (Yz (i:=2) J J J J J hw) fun b _=>as_ J<|as_ J<|Zf<|Za<|Ze<|Ze<|Zg<|mv J<|tt (Zh (n:=2) (Xz _ _ ‹_›) J J J K1 Zfo (Zc 1 J J J Zd) J hw) fun _ _=>dt (Xh J J)<|mv J<|gdt (Ya (i:=2) J J J Qr Yo J J) J J<|gtt (Zh (n:=2) (Kf _ ‹_›) J J J K1 Zf7 Zd J hw) J J J fun _ _=>gdt (Xh J J) J J<|dt (Yg J J J)<|Zf<|Za<|Yi J<|Zl<|Za<|Ze<|Zg<|tt (Zr (i:=3) J J zeroValue167 J J hw) fun b_2 _=>Zf<|Za<|Ze<|Zg<|mv J<|dt (Yh J J (i:=1) J Zi Qx)<|tt (Gd (i:=4) (n:=_) (by_:=24) (enc:=wv) 0 J J J J Qx ti31 J pV.cells pV.pos J J J hw J J) fun v _=>as_ J<|Zf<|Za<|Ze<|Ze<|Zg<|mv J<|dt (Yh J J (i:=1) J Zi Qx)<|mv J<|Zf<|Za<|Zo<|Nw [(3,_),(6,_),(7,_),(21,_),(22,_)] [(0,_),(1,_),(2,_),(3,_)] (fun(k:Nat)=>[(23,.int .i64 (k:Int))]) (fun(k:Nat)=>[(4,osl 2 31 wv v (fill xs.length k (fun i=>cf xs i*c)))]) (fun(k:Nat)=>k≤xs.length) (fun(k:Nat)=>xs.length-k) 0 (by first | omega | (dsimp only<;>omega)) K6 ⟨by rw [Cv xs.length (fun i=>cf xs i*c)];rfl,rfl,rfl,rfl,rfl,trivial⟩ ?_
 rintro k hk
 simp only [CA,NA]
 refine Ze<|Zg<|dt (Xv J J J)<|Zf<|Za<|Ze<|Zs J (fun h159=>?_) (fun h159=>?_)
 ·exact Zl<|Za<|Ze<|Zo<|Ze<|Zg<|mv J<|dt (Xc (ii:=1) J J J J Zi Qx Yo J (by first | omega | (simp only [List.length_set];omega)))<|dt (Xs (ii:=1) 0 J J J Zi pV (by first | omega | (simp only [List.length_set];omega)))<|tt (Zr (i:=5) J J zeroValue31 J J hw) fun b_3 _=>as_ J<|tt (Zm (i:=5) J J J J J (by decide) J Yo J J ⟨Zb J,Zb J,trivial⟩ J hw trivial) fun _ _=>Zf<|Za<|Zg<|mv J<|mv J<|dt (Ya (i:=5) J J J Qr Yo J J)<|dt (Ya (i:=2) J J J Qr Yo J J)<|tt (Oo (n:=5) (i:=3) (Db _ _ _ (hv.sz.getD _) hc (hz _)) J J J K3 call153 J (by decide) Zd J hw trivial) fun _ _=>dt (Xc (ii:=4) (i:=k) J J J J (Yt pV) Qx Yo J (by rw [Ov];omega))<|tt (Ij (i:=4) (enc:=wv) _ J J J J J J pV J hw (by decide) (by rw [Ov];omega)) fun _ _=>Zf<|Oe<|Za<|Zg<|dt (Yy J J J ⟨by omega,by omega⟩)<|mv J<|Zf<|Xp (k+1) (by first | omega | (dsimp only<;>omega)) (by first | omega | (dsimp only<;>omega)) K6 ⟨by rw [←Zdu (by omega)];rfl,rfl,rfl,rfl,rfl,trivial⟩
 ·refine Yw<|Zx<|Zx<|Na<|Za<|Ze ?_
  obtain rfl:k=xs.length:=by omega
  exact Yq (Pe 4 J J pV)<|Yq (s_rbox 3 J J)<|Zg<|mv J<|tt (Zh (n:=6) (d_done _ _ _ (by rw [Dz];exact Za7 fun i _=>hz i)) J J J K2 call154 (Zc 3 J J J (Zc 4 J J J Zd)) J hw) fun _ _=>dt (Yl J J J)<|dt (Yl J J J)<|as_ J<|as_ J<|Zf<|Za<|Zw<|Zy (.inl J) hsc _ _ (fun a w hs=>Nr hs results151 J J) J trivial J (Yp 6 J J J (by rw [Zse]<;>rfl) Zj)
theorem Dr(v:Value)(xs:List Int)(hv:Vp xs)(hz:∀i,bl (cf xs (i+1)*((i:Int)+1)).natAbs≤65536):Cal prog 109 #[v] [slp 2 wv v xs] true (G:=Value) (fun r=>True) (fun r=> .tuple #[r,.int .i64 0]) (fun r=>[slp 2 wv r (Pj xs)]):=by
 refine Yd func109 J ntmps109 J K1 ?_
 intro w0 sc hw hsc
 simp only [Zq,Zp]
 have hlen:=hv.len
 refine Ze<|Zg<|as_ J<|as_ J<|Zf<|Za<|Ze<|Ze<|Zg<|mv J<|tt (Zh (n:=1) (Xz _ _ ‹_›) J J J K1 Zfo (Zc 1 J J J Zd) J hw) fun _ _=>dt (Xh J J)<|Zf<|Za<|Yi J<|Zl<|Za<|Ze<|Ze<|Zg<|mv J<|dt (Yh J J (i:=1) J Zi Qx)<|dt (Pv J J J)<|Zf<|Za<|Zs J (fun h170=>?_) (fun h170=>?_)
 ·exact Ze<|Zg<|as_ J<|as_ J<|Zf<|Za<|Zw<|Xa<|Zy (.inl J) hsc _ _ (fun a w hs=>Nr hs results109 J J) J trivial J (Ln (Zxd (by omega)) Zj)
 ·refine Zl<|Za<|Ze<|Zg<|tt (Zr (i:=2) J J zeroValue167 J J hw) fun b _=>Zf<|Za<|Ze<|Zg<|mv J<|dt (Yh J J (i:=1) J Zi Qx)<|dt (Qf J J J ⟨by omega,by omega⟩)<|tt (Gd (i:=3) (n:=(xs.length-1)) (by_:=24) (enc:=wv) 0 J J J J Qx ti31 J pV.cells pV.pos J J J hw) fun v _=>as_ J<|Zf<|Za<|Ze<|Ze<|Zg<|mv J<|dt (Yh J J (i:=3) J (Yt pV) Qx)<|mv J<|Zf<|Za<|Zo<|Nw [(0,_),(4,_),(5,_),(18,_)] [(0,_),(1,_),(2,_)] (fun(k:Nat)=>[(19,.int .i64 (k:Int))]) (fun(k:Nat)=>[(3,osl 2 31 wv v (fill (xs.length-1) k (fun i=>cf xs (i+1)*((i:Int)+1))))]) (fun(k:Nat)=>k≤xs.length-1) (fun(k:Nat)=>xs.length-1-k) 0 (by first | omega | (dsimp only<;>omega)) K5 ⟨by rw [Cv (xs.length-1) (fun i=>cf xs (i+1)*((i:Int)+1))];rfl,rfl,rfl,rfl,trivial⟩ ?_
  rintro k hk
  simp only [CA,NA]
  have hlf:(fill (xs.length-1) k (fun i=>cf xs (i+1)*((i:Int)+1))).length=xs.length-1:=Ov _ _ _
  refine Ze<|Zg<|dt (Xv J J J)<|Zf<|Za<|Ze<|Zs J (fun h175=>?_) (fun h175=>?_)
  ·try rw [List.length_replicate]at *
   refine Zl<|Za<|Ze<|Zo<|Ze<|Zg<|mv J<|as_ J<|Zf<|Za<|Qo (fun x=>x=b) [(0,0),(1,0),(2,0),(3,0),(4,0),(5,0),(6,0),(7,0),(8,0),(9,1),(10,1),(11,0),(12,3)] ?_ ?_
   ·kernel_rfl
   exact r0' J J (st1 2 J (Yr J J))<|r0' J J (st1 2 J (Yr J J))<|r0' J J (st1 2 J (Yr J J))<|r0' J J (st1 2 J (Yr J J))<|r0' J J (st1 2 J (Yy J J J ⟨by omega,by omega⟩))<|r0' J J (st1 2 J (Xc (ii:=1) (i:=k+1) J J J J Zi Qx Yo))<|r0' J J (st1 2 J (Xs (ii:=1) 0 J J J Zi pV))<|r0' J J (st1 2 J (Yr J J))<|r0' J J (st1 2 J (Yy J J J ⟨by omega,by omega⟩))<|r1' J (Zh (n:=3) (Xj _ (by first | assumption | exact⟨by omega,by omega⟩)) J J J K1 Bs Zd J hw) fun _ _=>r1' J (Oo (n:=3) (i:=2) (Db _ (cf xs (k+1)) ((k:Int)+1) (hv.sz _) (Nat.le_trans (Oz (n:=32) (by omega)) (by decide)) (hz k)) J J J K3 call153 J (by decide) Zd J hw J) fun _ _=>r0' J J (st1 2 J (Xc (ii:=3) (i:=k) J J J J (Yt pV) Qx Yo J (by rw [Ov];omega)))<|r3' J (Ij (i:=3) (enc:=wv) _ J J J J J J pV J hw (by decide) (by rw [Ov];omega)) fun _ _=>Oh<|Oe<|Za<|Zg<|dt (Yy J J J ⟨by omega,by omega⟩)<|mv J<|Zf<|Xp (k+1) (by first | omega | (dsimp only<;>omega)) (by first | omega | (dsimp only<;>omega)) K5 ⟨by rw [←Zdu (by omega)];rfl,rfl,rfl,rfl,trivial⟩
  ·try rw [List.length_replicate]at *
   refine Yw<|Zx<|Zx<|Na<|Za<|Ze ?_
   obtain rfl:k=xs.length-1:=by omega
   exact Yq (Pe 3 J J pV)<|Yq (s_rbox 2 J J)<|Zg<|mv J<|tt (Zh (n:=4) (d_done _ _ _ (by rw [Dz];exact Za7 fun i _=>hz i)) J J J K2 call154 (Zc 2 J J J (Zc 3 J J J Zd)) J hw) fun _ _=>dt (Yl J J J)<|dt (Yl J J J)<|as_ J<|as_ J<|Zf<|Za<|Zw<|Zy (.inl J) hsc _ _ (fun a w hs=>Nr hs results109 J J) J trivial J (Yp 4 J J J (by rw [pder_mk hv.tr]<;>rfl) Zj)
theorem Zj3(v:Value)(xs:List Int)(hv:Vp xs):Mb prog 181 #[v] [slp 2 wv v xs] (.tuple #[wv (Qh xs),.int .i64 0]):=by
 refine Yd func181 J ntmps181 J K1 ?_
 intro w0 sc hw hsc
 simp only [Zq,Zp]
 have hlen:=hv.len
 have hcb:∀k,bl (Qh (xs.take k)).natAbs≤65536:=fun k=>Zdr _ (hv.sz.take k)
 refine Ze<|Zg<|tt (Zr (i:=2) J J zeroValue31 J J hw) fun b _=>as_ J<|Zf<|Za<|Ze<|Ze<|Zg<|mv J<|tt (Zh (n:=2) (Xz _ _ ‹_›) J J J K1 Zfo (Zc 1 J J J Zd) J hw) fun _ _=>dt (Xh J J)<|Zf<|Za<|Yi J<|Zl<|Za<|Ze<|Zg<|tt (Zr (i:=3) J J zeroValue167 J J hw) fun b_2 _=>Zf<|Za<|Ze<|Zg<|tt (Zr (i:=4) J J zeroValue31 J J hw) fun b_3 _=>Zf<|Za<|Ze<|Ze<|Zg<|mv J<|dt (Yh J J (i:=1) J Zi Qx)<|mv J<|Zf<|Za<|Zo<|Nw [(2,_),(4,_),(5,_),(12,_),(13,_)] [(0,_),(1,_),(2,_)] (fun(k:Nat)=>[(14,.int .i64 (k:Int))]) (fun(k:Nat)=>[(4,box b_3 31 #[.bool (decide (Qh (xs.take k)<0)),.string (Xd (Qh (xs.take k)).natAbs)]),(3,box b_2 167 #[.int .i64 0])]) (fun(k:Nat)=>k≤xs.length) (fun(k:Nat)=>xs.length-k) 0 (by first | omega | (dsimp only<;>omega)) K6 K5 ?_
 rintro k hk
 simp only [CA,NA]
 have hgc:=fun h=>Mx (p:=xs) (k:=k) h
 refine Ze<|Zg<|dt (Xv J J J)<|Zf<|Za<|Ze<|Zs J (fun h264=>?_) (fun h264=>?_)
 ·refine Zl<|Za<|Ze<|Zo<|Ze<|Zg<|dt (Xc (ii:=1) J J J J Zi Qx Yo J (by first | omega | (simp only [List.length_set];omega)))<|dt (Xs (ii:=1) 0 J J J Zi pV (by first | omega | (simp only [List.length_set];omega)))<|tt (Zr (i:=5) J J zeroValue31 J J hw) fun b_4 _=>tt (Zm (i:=5) J J J J J (by decide) J Yo J J ⟨Zb J,Zb J,trivial⟩ J hw trivial) fun _ _=>Zf<|Za<|Zg<|dt (Xu J J Zhh J Zg7 J J)<|dt (Ya (i:=4) J J J Qr Yo J J)<|dt (Ya (i:=5) J J J Qr Yo J J)<|tt (Zh (n:=5) (Zvs (Qh (xs.take k)) (xs.getD k 0) (hcb _) (hv.sz.getD _)) J J J K2 call196 Zd J hw) fun _ _=>dt (Yl J J J)<|dt (Yl J J J)<|tt (Oo (n:=5) (i:=3) (Zov _ _ _ _ _ _) J J J K3 call175 J (by decide) Zd J hw trivial) fun _ _=>tt (Zm (i:=4) J J J J J (by decide) J Yo J J ⟨Zb J,Zb J,trivial⟩ J hw trivial) fun _ _=>Zf<|Oe<|Za<|Zg<|dt (Yy J J J ⟨by omega,by omega⟩)<|mv J<|Zf ?_
  have hc1:=hcb (k+1)
  rw [hgc (by omega)]at hc1
  exact Xp (k+1) (by first | omega | (dsimp only<;>omega)) (by first | omega | (dsimp only<;>omega)) K6 ⟨by rw [hgc (by omega)];simp only [Nc hc1];rfl,by simp only [Dy hc1];rfl,rfl,rfl,rfl,trivial⟩
 ·exact Yw<|Zx<|Zx<|Na<|Za<|Ze<|Oj [3,4] [5]<|Zu (n:=0) [(0,0),(1,0),(2,0),(3,0),(4,1),(5,3)]<|r0' J J (stf (Ya (i:=4) J J J Qr Yo J J) K2)<|r0' J J (stf (Xu J J Zhh J Zg7 J J) K2)<|r0' J J (stf (Xu J J Zlf J Gy J J) K2)<|r0' J J (stf (Ok (i:=3) J J J Zae J) K2)<|r1' J (Zee 2 J J K2 (fun ob=>(Zm (i:=2) J J J J J (by decide) J Yo J J ⟨Zb J,Zb J,trivial⟩ J hw ob))) fun _ _=>r3' J (Pt (Oy J J) J) fun _ _=>Yk<|Yb<|Za<|Zw<|Zy (.inl J) hsc () _ (fun a w hs=>Nr hs results181 (Ys (i:=2) J J Qr Yo J) J) (by rw [show k=xs.length by omega,List.take_length]<;>rfl) trivial J Zj
theorem Zic(v:Value)(xs:List Int)(c:Int)(hv:Sz 65536 xs)(hlen:xs.length≤1000)(hc:bl c.natAbs≤65536)(hd:∀i,c∣cf xs i)(hc0:xs≠[]→c≠0):Cal prog 182 #[v,wv c] [slp 2 wv v xs] true (G:=Value) (fun r=>True) (fun r=> .tuple #[r,.int .i64 0]) (fun r=>[slp 2 wv r (xs.map (· / c))]):=by
 refine Yd func182 J ntmps182 J K1 ?_
 intro w0 sc hw hsc
 simp only [Zq,Zp]
 refine Ze<|Zg<|tt (Yz (i:=2) J J J J J hw) fun b _=>as_ J<|as_ J<|Zf<|Za<|Ze<|Zg<|mv J<|dt (Yh J J (i:=1) J Zi Qx)<|tt (Gd (i:=3) (n:=_) (by_:=24) (enc:=wv) 0 J J J J Qx ti31 J pV.cells pV.pos J J J hw J J) fun v _=>as_ J<|Zf<|Za<|Ze<|Ze<|Zg<|mv J<|dt (Yh J J (i:=1) J Zi Qx)<|mv J<|Zf<|Za<|Zo<|Nw [(3,_),(6,_),(15,_),(16,_)] [(0,_),(1,_),(2,_)] (fun(k:Nat)=>[(17,.int .i64 (k:Int))]) (fun(k:Nat)=>[(3,osl 2 31 wv v (fill xs.length k (fun i=>cf xs i/c)))]) (fun(k:Nat)=>k≤xs.length) (fun(k:Nat)=>xs.length-k) 0 (by first | omega | (dsimp only<;>omega)) K5 ⟨by rw [Cv xs.length (fun i=>cf xs i/c)];rfl,rfl,rfl,rfl,trivial⟩ ?_
 rintro k hk
 simp only [CA,NA]
 have hcl:Zg2 (xs.getD k 0/c)=cf xs k/c:=Nc (Hh (hd k) (hv k))
 refine Ze<|Zg<|dt (Xv J J J)<|Zf<|Za<|Ze<|Zs J (fun h273=>?_) (fun h273=>?_)
 ·refine Zl<|Za<|Ze<|Zo<|Ze<|Zg<|mv J<|dt (Xc (ii:=1) J J J J Zi Qx Yo J (by first | omega | (simp only [List.length_set];omega)))<|dt (Xs (ii:=1) 0 J J J Zi pV (by first | omega | (simp only [List.length_set];omega)))<|tt (Zr (i:=4) J J zeroValue31 J J hw) fun b_2 _=>as_ J<|tt (Zm (i:=4) J J J J J (by decide) J Yo J J ⟨Zb J,Zb J,trivial⟩ J hw trivial) fun _ _=>Zf<|Za<|Ze<|Zg<|dt (Ya (i:=4) J J J Qr Yo J J)<|dt (Ya (i:=2) J J J Qr Yo J J)<|tt (Zh (n:=4) (Bb _ _ (hv.getD _) hc (hc0 (by intro e;rw [e]at h273;simp at h273;omega))) J J J K2 call158 Zd J hw) fun _ _=>mv J<|dt (Yl J J J)<|dt (Yl J J J)<|dt (Yl J J J)<|tt (Zr (i:=5) J J zeroValue31 J J hw) fun b_3 _=>tt (Zr (i:=6) J J zeroValue31 J J hw) fun b_4 _=>tt (Zm (i:=5) J J J J J (by decide) J Yo J J ⟨Zb J,Zb J,trivial⟩ J hw trivial) fun _ _=>tt (Zm (i:=6) J J J J J (by decide) J Yo J J ⟨Zb J,Zb J,trivial⟩ J hw trivial) fun _ _=>as_ J<|Zf<|Za<|Ze<|Ze<|Zg<|mv J<|dt (Qc J J J)<|Zf<|Za<|Zs J (fun h275=>?_) (fun h275=>?_)
  ·exfalso;simp_all
  ·exact Zl<|Za<|Zg<|mv J<|mv J<|dt (Ya (i:=5) J J J Qr Yo J J)<|dt (Xc (ii:=3) (i:=k) J J J J (Yt pV) Qx Yo J (by rw [Ov];omega))<|tt (Ij (i:=3) (enc:=wv) _ J J J J J J pV J hw (by decide) (by rw [Ov];omega)) fun _ _=>Zf<|Oe<|Za<|Zg<|dt (Yy J J J ⟨by omega,by omega⟩)<|mv J<|Zf<|Xp (k+1) (by first | omega | (dsimp only<;>omega)) (by first | omega | (dsimp only<;>omega)) K5 ⟨by rw [←Zdu (by omega)];simp only [hcl];rfl,rfl,rfl,rfl,trivial⟩
 ·refine Yw<|Zx<|Zx<|Na<|Za<|Ze<|Zg<|mv J<|as_ J<|as_ J<|Zf<|Za<|Zw ?_
  obtain rfl:k=xs.length:=by omega
  exact Zy (.inl J) hsc _ _ (fun a w hs=>Nr hs results182 J J) J trivial J (Ob 3 J J pV (by rw [Dz,Zoj xs (· / c)]<;>rfl) Zj)
theorem Ml(v:Value)(xs:List Int)(hv:Vp xs):Cal prog 150 #[v] [slp 2 wv v xs] true (G:=Value) (fun r=>True) (fun r=> .tuple #[r,.int .i64 0]) (fun r=>[slp 2 wv r (Xe xs)]):=by
 refine Yd func150 J ntmps150 J K1 ?_
 intro w0 sc hw hsc
 simp only [Zq,Zp]
 have hlen:=hv.len
 refine Ze<|Zg<|as_ J<|as_ J<|Zf<|Za<|Ze<|Zg<|mv J<|tt (Zh (n:=1) (Zj3 _ _ ‹_›) J J J K1 call181 (Zc 1 J J J Zd) J hw) fun _ _=>mv J<|dt (Yl J J J)<|dt (Yl J J J)<|tt (Zr (i:=2) J J zeroValue31 J J hw) fun b _=>tt (Zm (i:=2) J J J J J (by decide) J Yo J J ⟨Zb J,Zb J,trivial⟩ J hw trivial) fun _ _=>as_ J<|Zf<|Za<|Ze<|Ze<|Zg<|mv J<|dt (Qc J J J)<|Zf<|Za<|Zs J (fun h286=>?_) (fun h286=>?_)
 ·exfalso;simp_all
 ·exact Zl<|Za<|Ze<|Zg<|mv J<|dt (Ya (i:=2) J J J Qr Yo J J)<|tt (Zh (n:=3) (Zic _ _ _ hv.sz (by omega) (Zdr _ hv.sz) (My _) hv.ne) J J J K2 call182 (Zc 1 J J J Zd) J hw) fun _ _=>dt (Yl J J J)<|dt (Yl J J J)<|as_ J<|as_ J<|Zf<|Za<|Zw<|Zy (.inl J) hsc _ _ (fun a w hs=>Nr hs results150 J J) J trivial J (Yp 3 J J J J Zj)
theorem Zsi(v:Value)(xs:List Int)(x y:Int)(hv:Vp xs)(hx:bl x.natAbs≤65536)(hy:bl y.natAbs≤65536)(hy0:0<y):Mb prog 186 #[v,.agg #[.bool (decide (x<0)),.string (Xd x.natAbs),.bool (decide (y<0)),.string (Xd y.natAbs)]] [slp 2 wv v xs] (.tuple #[wv (evv xs x y),.int .i64 (eve xs x y)]):=by
 refine Yd func186 J ntmps186 J K1 ?_
 intro w0 sc hw hsc
 simp only [Zq,Zp]
 have hlen:=hv.len
 refine Ze<|Zg<|tt (Yz (i:=2) J J J J J hw) fun b _=>tt (Zr (i:=3) J J zeroValue31 J J hw) fun b_2 _=>as_ J<|Zf<|Za<|Ze<|Ze<|Zg<|mv J<|tt (Zh (n:=3) (Xz _ _ ‹_›) J J J K1 Zfo (Zc 1 J J J Zd) J hw) fun _ _=>dt (Xh J J)<|mv J<|gdt (Ym (i:=2) J J J Qi Xg J J J J) J J<|gtt (Zh (n:=3) (Qv _ _ ‹_› ‹_› ‹_›) J J J K1 call117 Zd J hw) J J J fun _ _=>gdt (Xh J J) J J<|dt (Yg J J J)<|Zf<|Za<|Yi J<|Zl<|Za<|Ze<|Ze<|Zg<|mv J<|dt (Yh J J (i:=1) J Zi Qx)<|dt (Pv J J J)<|Zf<|Za<|Zs J (fun h186=>?_) (fun h186=>?_)
 ·exact Ze<|Zg<|dt (Oc (ivs:=[]) J trivial (fun a w hs=>b31_))<|tt (Zm (i:=3) J J J J J (by decide) J Yo J J ⟨Zb J,Zb J,trivial⟩ J hw trivial) fun _ _=>as_ J<|Zf<|Za<|Zw<|Xa<|Zy (.inl J) hsc () _ (fun a w hs=>Nr hs results186 (Ys (i:=3) J J Qr Yo J) J) (by rw [List.eq_nil_of_length_eq_zero (l:=xs) (by omega)];rfl) trivial J Zj
 ·have hne:xs≠[]:=fun e=>by rw [e]at h186;simp at h186
  have hm1:=Pz hv.sz
  have hsxy:Sz 65536 [x,y]:=Sz.of_mem (by intro z hz;simp at hz;rcases hz with rfl | rfl<;>assumption)
  have hm2:=Pz hsxy
  have hm3:(xs.length-1)*msz [x,y]≤24*65536:=Nat.mul_le_mul (by omega) hm2
  have hm4:((xs.length:Int)-1)*(msz [x,y]:Int)=(((xs.length-1)*msz [x,y]:Nat):Int):=by rw [Int.natCast_mul];congr 1;omega
  refine Zl<|Za<|Ze<|Da [(0,_),(3,_),(4,_)] [(0,_),(1,_),(2,_),(3,_)] (fun(_:Unit)=>[(37,.bool (decide ((65536:Int)<(msz xs:Int)+((xs.length:Int)-1)*(msz [x,y]:Int)+8)))]) (fun(_:Unit)=>[]) (fun(_:Unit)=>True) K3 K4 ?_ ?_
  ·refine Gb (fun _=>False) []<|Zu (n:=7) [(0,0),(2,0),(3,0),(4,0),(5,0),(6,0),(7,0),(8,0)]<|r0' J J (st0 (Yr J J))<|r0' J J (st0 (Yr J J))<|r0' J J (st0 (Yh J J (i:=1) J Zi Qx))<|r0' J J (st0 (Qf J J J ⟨by omega,by omega⟩))<|r0' J J (st0 (Xu J J Di J Yo J J))<|r0' J J (st0 (Ya (i:=2) J J J Qr Yo J J))<|r0' J J (st0 (Xu J J Di J Yo J J))<|r0' J J (st0 (Ya (i:=2) J J J Qr Yo J J))<|Yk<|Qp (n:=6) 1 9 ?_ ?_
   ·exact Yf J (Zh (n:=3) (Nz _ _ (by first | exact hv.sz | exact hsxy)) J J J K1 Zac (Zc 1 J J J Zd) J hw) fun _ _=>Zu (n:=0) [(9,1),(10,1),(11,0),(12,0),(13,0),(14,0)]<|r1' J (Pm (i:=90) (ivs:=[(0,_),(1,_)]) (enc:=wv) [x,y] J J K4 uT22 ti31 J J J J J pV.cells J J hw) fun v _=>r1' J (Zh (n:=3) (Nz _ _ (by first | exact hv.sz | exact hsxy)) J J J K1 Zac (Xr 90 J J pV Zd) J hw) fun _ _=>r0' J J (st0 (Cb J J J (by rw [hm4];exact⟨by omega,by omega⟩)))<|r0' J J (st0 (Yy J J J (by rw [hm4];exact⟨by omega,by omega⟩)))<|r0' J J (st0 (Yy J J J (by rw [hm4];exact⟨by omega,by omega⟩)))<|r0' J J (st0 (Of J J J))<|Yk<|Yb<|Ql () trivial K4 K4
   ·exact Yf J (Pm (i:=90) (ivs:=[(0,_),(1,_)]) (enc:=wv) [x,y] J J K4 uT22 ti31 J J J J J pV.cells J J hw) fun v_2 _=>Zu (n:=0) [(1,1),(10,1),(11,0),(12,0),(13,0),(14,0)]<|r1' J (Zh (n:=3) (Nz _ _ (by first | exact hv.sz | exact hsxy)) J J J K1 Zac (Zc 1 J J J Zd) J hw) fun _ _=>r1' J (Zh (n:=3) (Nz _ _ (by first | exact hv.sz | exact hsxy)) J J J K1 Zac (Xr 90 J J pV Zd) J hw) fun _ _=>r0' J J (st0 (Cb J J J (by rw [hm4];exact⟨by omega,by omega⟩)))<|r0' J J (st0 (Yy J J J (by rw [hm4];exact⟨by omega,by omega⟩)))<|r0' J J (st0 (Yy J J J (by rw [hm4];exact⟨by omega,by omega⟩)))<|r0' J J (st0 (Of J J J))<|Yk<|Yb<|Ql () trivial K4 K4
  ·rintro _ -
   simp only [CA,NA]
   refine Zs J (fun h189=>?_) (fun h189=>?_)
   ·have hE:Kq xs x y:=⟨hne,by rw [hm4]at h189;omega⟩
    exact Ze<|Zg<|dt (Oc (ivs:=[]) J trivial (fun a w hs=>b31_))<|tt (Zm (i:=3) J J J J J (by decide) J Yo J J ⟨Zb J,Zb J,trivial⟩ J hw trivial) fun _ _=>as_ J<|Zf<|Za<|Zw<|Xa<|Zy (.inl J) hsc () _ (fun a w hs=>Nr hs results186 (Ys (i:=3) J J Qr Yo J) J) (by unfold evv eve;rw [if_pos hE,if_pos hE]<;>rfl) trivial J Zj
   ·have hF:msz xs+(xs.length-1)*msz [x,y]+8≤65536:=by rw [hm4]at h189;omega
    refine Zl<|Za<|Ze<|Zg<|tt (Zr (i:=4) J J zeroValue167 J J hw) fun b_3 _=>Zf<|Za<|Da [(0,_),(3,_),(4,_),(6,_)] [(0,_),(1,_),(2,_),(3,_),(4,_)] (fun(q:Nat×Nat)=>[(7,.pointer (some ⟨q.1,0,none⟩)),(8,.pointer (some ⟨q.2,0,none⟩))]) (fun(q:Nat×Nat)=>[(97,box q.1 31 (wc (xs.getD (xs.length-1) 0))),(98,box q.2 31 (wc 1))]) (fun(q:Nat×Nat)=>True) K4 K5 ?_ ?_
    ·refine Gb (fun _=>False) [9,10]<|Zu (n:=5) [(0,0),(1,0),(2,0),(3,0),(4,0),(5,0)]<|r0' J J (st0 (Yr J J))<|r0' J J (st0 (Yr J J))<|r0' J J (st0 (Yh J J (i:=1) J Zi Qx))<|r0' J J (st0 (Qf J J J ⟨by omega,by omega⟩))<|r0' J J (st0 (Xc (ii:=1) (i:=(xs.length-1)) J J J J Zi Qx Yo))<|r0' J J (st0 (Xs (ii:=1) 0 J J J Zi pV))<|Yk<|Dg (n:=4) 6 7 8 ?_ ?_ ?_
     ·refine Yf J (Zh (n:=4) (Xj _ (by first | assumption | exact⟨by omega,by omega⟩)) J J J K1 Bs Zd J hw) fun _ _=>Qp (n:=3) 7 8 ?_ ?_
      ·exact Yf J (Zr (i:=97) J J zeroValue31 J J hw) fun b_4 _=>Zu (n:=0) [(8,1),(9,3),(10,3)]<|r1' J (Zr (i:=98) J J zeroValue31 J J hw) fun b_5 _=>r3' J (Zm (i:=97) J J J J J (by decide) J Yo J J ⟨Zb J,Zb J,trivial⟩ J hw trivial) fun _ _=>r3' J (Zm (i:=98) J J J J J (by decide) J Yo J J ⟨Zb J,Zb J,trivial⟩ J hw trivial) fun _ _=>Yk<|Yb<|Ql (_,_) trivial K6 K7
      ·exact Yf J (Zr (i:=98) J J zeroValue31 J J hw) fun b_6 _=>Zu (n:=0) [(7,1),(9,3),(10,3)]<|r1' J (Zr (i:=97) J J zeroValue31 J J hw) fun b_7 _=>r3' J (Zm (i:=97) J J J J J (by decide) J Yo J J ⟨Zb J,Zb J,trivial⟩ J hw trivial) fun _ _=>r3' J (Zm (i:=98) J J J J J (by decide) J Yo J J ⟨Zb J,Zb J,trivial⟩ J hw trivial) fun _ _=>Yk<|Yb<|Ql (_,_) trivial K6 K7
     ·refine Yf J (Zr (i:=97) J J zeroValue31 J J hw) fun b_8 _=>Qp (n:=3) 6 8 ?_ ?_
      ·exact Yf J (Zh (n:=4) (Xj _ (by first | assumption | exact⟨by omega,by omega⟩)) J J J K1 Bs Zd J hw) fun _ _=>Zu (n:=0) [(8,1),(9,3),(10,3)]<|r1' J (Zr (i:=98) J J zeroValue31 J J hw) fun b_9 _=>r3' J (Zm (i:=97) J J J J J (by decide) J Yo J J ⟨Zb J,Zb J,trivial⟩ J hw trivial) fun _ _=>r3' J (Zm (i:=98) J J J J J (by decide) J Yo J J ⟨Zb J,Zb J,trivial⟩ J hw trivial) fun _ _=>Yk<|Yb<|Ql (_,_) trivial K6 K7
      ·exact Yf J (Zr (i:=98) J J zeroValue31 J J hw) fun b_10 _=>Zu (n:=0) [(6,1),(9,3),(10,3)]<|r1' J (Zh (n:=4) (Xj _ (by first | assumption | exact⟨by omega,by omega⟩)) J J J K1 Bs Zd J hw) fun _ _=>r3' J (Zm (i:=97) J J J J J (by decide) J Yo J J ⟨Zb J,Zb J,trivial⟩ J hw trivial) fun _ _=>r3' J (Zm (i:=98) J J J J J (by decide) J Yo J J ⟨Zb J,Zb J,trivial⟩ J hw trivial) fun _ _=>Yk<|Yb<|Ql (_,_) trivial K6 K7
     ·refine Yf J (Zr (i:=98) J J zeroValue31 J J hw) fun b_11 _=>Qp (n:=3) 6 7 ?_ ?_
      ·exact Yf J (Zh (n:=4) (Xj _ (by first | assumption | exact⟨by omega,by omega⟩)) J J J K1 Bs Zd J hw) fun _ _=>Zu (n:=0) [(7,1),(9,3),(10,3)]<|r1' J (Zr (i:=97) J J zeroValue31 J J hw) fun b_12 _=>r3' J (Zm (i:=97) J J J J J (by decide) J Yo J J ⟨Zb J,Zb J,trivial⟩ J hw trivial) fun _ _=>r3' J (Zm (i:=98) J J J J J (by decide) J Yo J J ⟨Zb J,Zb J,trivial⟩ J hw trivial) fun _ _=>Yk<|Yb<|Ql (_,_) trivial K6 K7
      ·exact Yf J (Zr (i:=97) J J zeroValue31 J J hw) fun b_13 _=>Zu (n:=0) [(6,1),(9,3),(10,3)]<|r1' J (Zh (n:=4) (Xj _ (by first | assumption | exact⟨by omega,by omega⟩)) J J J K1 Bs Zd J hw) fun _ _=>r3' J (Zm (i:=97) J J J J J (by decide) J Yo J J ⟨Zb J,Zb J,trivial⟩ J hw trivial) fun _ _=>r3' J (Zm (i:=98) J J J J J (by decide) J Yo J J ⟨Zb J,Zb J,trivial⟩ J hw trivial) fun _ _=>Yk<|Yb<|Ql (_,_) trivial K6 K7
    ·rintro⟨b7,b8⟩ -
     simp only [CA,NA]
     refine Ze<|Ze<|Zg<|mv J<|dt (Yh J J (i:=1) J Zi Qx)<|dt (Qf J J J ⟨by omega,by omega⟩)<|as_ J<|Zf<|Za<|Zo<|Nw [(0,_),(3,_),(4,_),(6,_),(7,_),(8,_)] [(0,_),(1,_),(2,_),(3,_),(4,_)] (fun(k:Nat)=>[(9,.int .i64 ((k:Int)-1))]) (fun(k:Nat)=>[(97,box b7 31 (wc (hor xs x y k))),(98,box b8 31 (wc (y^(xs.length-1-k))))]) (fun(k:Nat)=>k≤xs.length-1) (fun(k:Nat)=>k) (xs.length-1) (by first | omega | (dsimp only<;>omega)) ⟨by rw [show((xs.length-1:Nat):Int)-1=(xs.length:Int)-2 by omega];rfl,rfl,rfl,rfl,rfl,rfl,rfl,trivial⟩ ⟨by rw [hor_top x y (by omega)];rfl,by rw [Nat.sub_self,Int.pow_zero];rfl,rfl,rfl,rfl,rfl,rfl,trivial⟩ ?_
     rintro k hk
     simp only [CA,NA]
     refine Ze<|Ze<|Zg<|mv J<|dt (Ke J J J)<|Zf<|Za<|Zs J (fun h194=>?_) (fun h194=>?_)
     ·have hpw:y^(xs.length-1-k)*y=y^(xs.length-1-(k-1)):=Zw6 y (by omega) hk
      have hst:hor xs x y k*x+xs.getD (k-1) 0*y^(xs.length-1-(k-1))=hor xs x y (k-1):=Ztr x y (by omega) hk
      refine Zl<|Za<|Ze<|Zo<|Ze<|Zg<|dt (Ya (i:=98) J J J Qr Yo J J)<|dt (Xu J J Di J Yo J J)<|dt (Ya (i:=2) J J J Qr Yo J J)<|tt (Oo (n:=4) (i:=4) (Db _ _ _ (Zow hF) hy (by rw [hpw];exact Zow hF)) J J J K3 call153 J (by decide) Zd J hw trivial) fun _ _=>tt (Zm (i:=98) J J J J J (by decide) J Yo J J ⟨Zb J,Zb J,trivial⟩ J hw trivial) fun _ _=>Zf<|Za<|Qo (fun x=>x=b_3) [(0,0),(1,0),(2,0),(4,0),(5,0),(6,0),(7,0),(8,0),(3,1),(9,1),(10,1),(11,3)] ?_ ?_
      ·kernel_rfl
      refine r0' J J (st1 4 J (Ya (i:=97) J J J Qr Yo J J))<|r0' J J (st1 4 J (Xu J J Di J Yo J J))<|r0' J J (st1 4 J (Ya (i:=2) J J J Qr Yo J J))<|r0' J J (st1 4 J (Yr J J))<|r0' J J (st1 4 J (Yr J J))<|r0' J J (st1 4 J (Xc (ii:=1) (i:=(k-1)) J J J J Zi Qx Yo))<|r0' J J (st1 4 J (Xs (ii:=1) 0 J J J Zi pV))<|r0' J J (st1 4 J (Ya (i:=98) J J J Qr Yo J J))<|r1' J (Oo (n:=4) (i:=4) (Db _ _ _ (by first | exact Zox hF hlen _ | exact hv.sz.getD _) (by first | exact hx | (rw [hpw];exact Zow hF)) (by first | exact Ztz hF hlen (by omega) hk | (rw [hpw];exact Zmp hF))) J J J K3 call153 J (by decide) Zd J hw J) fun _ _=>r1' J (Oo (n:=4) (i:=4) (Db _ _ _ (by first | exact Zox hF hlen _ | exact hv.sz.getD _) (by first | exact hx | (rw [hpw];exact Zow hF)) (by first | exact Ztz hF hlen (by omega) hk | (rw [hpw];exact Zmp hF))) J J J K3 call153 J (by decide) Zd J hw J) fun _ _=>r1' J (Oo (n:=4) (i:=4) (Zo4 _ _ _ (Ztz hF hlen (by omega) hk) (by rw [hpw];exact Zmp hF) (by rw [hpw,hst];exact Zox hF hlen _)) J J J K3 call159 J (by decide) Zd J hw J) fun _ _=>r3' J (Zm (i:=97) J J J J J (by decide) J Yo J J ⟨Zb J,Zb J,trivial⟩ J hw trivial) fun _ _=>Oh ?_
      exact Oe<|Za<|Zg<|mv J<|dt (Qf J J J ⟨by omega,by omega⟩)<|as_ J<|Zf<|Xp (k-1) (by first | omega | (dsimp only<;>omega)) (by first | omega | (dsimp only<;>omega)) ⟨by rw [show((k-1:Nat):Int)-1=(k:Int)-1-1 by omega];rfl,rfl,rfl,rfl,rfl,rfl,rfl,trivial⟩ ⟨by rw [hpw,hst];rfl,by rw [hpw];rfl,rfl,rfl,rfl,rfl,rfl,trivial⟩
     ·refine Yw<|Zx<|Zx<|Na<|Za<|Ze<|Ze<|Zg<|dt (Xu J J Zhh J Zg7 J J)<|dt (Xu J J Zlf J Gy J J)<|dt (Ok (i:=4) J J J Zae J)<|dt (Qc J J J)<|Zf<|Za<|Zs J (fun h198=>?_) (fun h198=>?_)
      ·exfalso;simp_all
      ·refine Zl<|Za<|Ze<|Zg<|dt (Ya (i:=97) J J J Qr Yo J J)<|tt (Zm (i:=3) J J J J J (by decide) J Yo J J ⟨Zb J,Zb J,trivial⟩ J hw trivial) fun _ _=>as_ J<|Zf<|Za<|Zw ?_
       obtain rfl:k=0:=by omega
       have hE:¬Kq xs x y:=fun h=>by have:=h.2;omega
       exact Zy (.inl J) hsc () _ (fun a w hs=>Nr hs results186 (Ys (i:=3) J J Qr Yo J) J) (by unfold evv eve;rw [if_neg hE,if_neg hE,←Zor]<;>rfl) trivial J Zj
theorem Zl1(v:Value)(xs:List Int)(x y:Int)(hv:Vp xs)(hx:bl x.natAbs≤65536)(hy:bl y.natAbs≤65536)(hy0:0<y):Mb prog 164 #[v,.agg #[.bool (decide (x<0)),.string (Xd x.natAbs),.bool (decide (y<0)),.string (Xd y.natAbs)]] [slp 2 wv v xs] (.tuple #[.int .i64 (evv xs x y).sign,.int .i64 (eve xs x y)]):=by
 refine Yd func164 J ntmps164 J K1 ?_
 intro w0 sc hw hsc
 simp only [Zq,Zp]
 have hlen:=hv.len
 exact Ze<|Zg<|tt (Yz (i:=2) J J J J J hw) fun b _=>as_ J<|as_ J<|Zf<|Za<|Ze<|Zg<|mv J<|dt (Ym (i:=2) J J J Qi Xg J J J J)<|tt (Zh (n:=2) (Zsi _ _ _ _ hv hx hy hy0) J J J K2 call186 (Zc 1 J J J Zd) J hw) fun _ _=>mv J<|dt (Yl J J J)<|dt (Yl J J J)<|tt (Zr (i:=3) J J zeroValue31 J J hw) fun b_2 _=>tt (Zm (i:=3) J J J J J (by decide) J Yo J J ⟨Zb J,Zb J,trivial⟩ J hw trivial) fun _ _=>as_ J<|Zf<|Za<|Ze<|Zg<|dt (Ya (i:=3) J J J Qr Yo J J)<|tt (Zh (n:=3) (Ms _ (evv_bl hlen)) J J J K1 call104 Zd J hw) fun _ _=>mv J<|as_ J<|as_ J<|Zf<|Za<|Zw<|Zy (.inl J) hsc () _ (fun a w hs=>Nr hs results164 J J) J trivial J Zj
theorem Zbn(bd:Nat)(v:Value)(xs:List Int)(hs:Sz 65536 xs):Zqt prog 154 #[.pointer (some ⟨bd,0,none⟩),v] [slp 2 wv v xs] true bd 167 #[.int .i64 0] (G:=Unit) (fun _=>True) (fun _=> .tuple #[Eb v (tzl xs).length,.int .i64 0]) (fun _=>#[.int .i64 0]) (fun _=>[slp 2 wv (Eb v (tzl xs).length) (tzl xs)]):=by
 refine Zcq func154 J ntmps154 J K1 ?_
 intro w0 sc hw hsc
 simp only [Zq,Zp]
 refine Ze<|Zg<|as_ J<|as_ J<|Zf<|Za<|Ze<|Ze<|Zg<|mv J<|dt (Zf4 J J)<|dt (Xu J J Zhh J Zg7 J J)<|dt (Xu J J Zlf J Gy J J)<|dt (Ok (i:=1) J J J Zae J)<|dt (Qc J J J)<|Zf<|Za<|Zs J (fun h43=>?_) (fun h43=>?_)
 ·exfalso;simp_all
 ·exact Zl<|Za<|Ze<|Zg<|mv J<|tt (Zh (n:=3) (Za0 _ _ ‹_›) J J J K1 call152 (Zc 2 J J J Zd) J hw) fun _ _=>as_ J<|as_ J<|Zf<|Za<|Zw<|Zd5 (.inl J) hsc () _ (fun a w hs=>Nr hs results154 J J) J trivial 1 J J J J (Xb 3 J J J Zj)
theorem Zux(v:Value)(xs:List Int)(hx:xs.length*24≤140737488355328:=by omega):CalO prog 157 #[v] [slp 2 wv v xs] (G:=Value) (fun r=>True) (fun r=>r) (fun r=>osl 2 31 wv r xs):=by
 refine Zu7 func157 J ntmps157 J K1 ?_
 intro w0 sc hw hsc
 simp only [Zq,Zp]
 refine Md (f_nil (i:=1) J Zi) fun hnil=>Ze<|Zg<|as_ J<|Zf<|Za<|Ze<|Ze<|Zg<|mv J<|dt (Zun J J J (i:=1) J Zi Qx)<|Zf<|Za<|La J (fun h357=>?_) (fun h357=>?_)
 ·refine Ze<|Zg<|as_ J<|Zf<|Za<|Zw<|Xa ?_
  obtain rfl:xs=[]:=hnil (by simpa using h357)
  exact Qy (Nh 9 2 31 wv)<|Zna (.inl J) (.slice none 0 0) _ (fun a w hs=>Xy hs results157 J) J trivial J 9 J J J
 ·exact Zl<|Za<|Ze<|Zg<|tt (t_bs0 (i:=2) (enc:=wv) J J J Qx pV J hw) fun v _=>mv J<|tt (Iv (i:=2) (j:=1) (by_:=24) J J J J J J (by decide) J Zi Qx ti31 J pV J J J (by simp;omega) (by decide) J hw) fun v_2 _=>as_ J<|Zf<|Za<|Zw<|Zna (.inl J) _ _ (fun a w hs=>Xy hs results157 J) J trivial J 2 J (by rfl) J
theorem Ze0(v:Value)(xs:List Int)(hv:Vp xs):Mb prog 105 #[v] [slp 2 wv v xs] (.tuple #[.int .i64 ((xs.length:Int)-1),.int .i64 0]):=by
 refine Yd func105 J ntmps105 J K1 ?_
 intro w0 sc hw hsc
 simp only [Zq,Zp]
 have hlen:=hv.len
 exact Ze<|Zg<|as_ J<|as_ J<|Zf<|Za<|Ze<|Ze<|Zg<|mv J<|tt (Zh (n:=1) (Xz _ _ ‹_›) J J J K1 Zfo (Zc 1 J J J Zd) J hw) fun _ _=>dt (Xh J J)<|Zf<|Za<|Yi J<|Zl<|Za<|Ze<|Zg<|mv J<|dt (Yh J J (i:=1) J Zi Qx)<|dt (Qf J J J ⟨by omega,by omega⟩)<|as_ J<|as_ J<|Zf<|Za<|Zw<|Zy (.inl J) hsc () _ (fun a w hs=>Nr hs results105 J J) J trivial J Zj
theorem Zj5(v:Value)(xs:List Int)(hv:Vp xs):Mb prog 106 #[v] [slp 2 wv v xs] (.tuple #[.int .i64 (msz xs:Int),.int .i64 0]):=by
 refine Yd func106 J ntmps106 J K1 ?_
 intro w0 sc hw hsc
 simp only [Zq,Zp]
 exact Ze<|Zg<|as_ J<|as_ J<|Zf<|Za<|Ze<|Ze<|Zg<|mv J<|tt (Zh (n:=1) (Xz _ _ ‹_›) J J J K1 Zfo (Zc 1 J J J Zd) J hw) fun _ _=>dt (Xh J J)<|Zf<|Za<|Yi J<|Zl<|Za<|Ze<|Zg<|mv J<|tt (Zh (n:=1) (Nz _ _ hv.sz) J J J K1 Zac (Zc 1 J J J Zd) J hw) fun _ _=>as_ J<|as_ J<|Zf<|Za<|Zw<|Zy (.inl J) hsc () _ (fun a w hs=>Nr hs results106 J J) J trivial J Zj
theorem Zm1(bd:Nat)(v u:Value)(xs ys:List Int)(hv:Vp xs)(hu:Vp ys)(hz:∀i,bl (cf xs i-cf ys i).natAbs≤65536):Zqt prog 136 #[v,u,.pointer (some ⟨bd,0,none⟩),.func (.func 137) #[.pointer (some ⟨bd,0,none⟩)] #[]] [slp 2 wv v xs,slp 2 wv u ys] true bd 167 #[.int .i64 0] (G:=Value) (fun r=>True) (fun r=> .tuple #[r,.int .i64 0]) (fun r=>#[.int .i64 0]) (fun r=>[slp 2 wv r (Zf0 xs ys)]):=by
 refine Zcq func136 J ntmps136 J K2 ?_
 intro w0 sc hw hsc
 simp only [Zq,Zp]
 have hlen:=hv.len
 have hlen2:=hu.len
 refine Ze<|Zg<|as_ J<|as_ J<|Zf<|Za<|Ze<|Ze<|Zg<|mv J<|tt (Zh (n:=3) (Xz _ _ ‹_›) J J J K1 Zfo (Zc 2 J J J Zd) J hw) fun _ _=>dt (Xh J J)<|mv J<|gdt (Yr J J) J J<|gtt (Zh (n:=3) (Xz _ _ ‹_›) J J J K1 Zfo (Zc 3 J J J Zd) J hw) J J J fun _ _=>gdt (Xh J J) J J<|dt (Yg J J J)<|Zf<|Za<|Yi J<|Zl<|Za<|Ze<|Zg<|mv J<|dt (Yh J J (i:=2) J Zi Qx)<|mv J<|dt (Yh J J (i:=3) J Zi Qx)<|dt (Zum J J J)<|tt (Gd (i:=4) (n:=(max xs.length ys.length)) (by_:=24) (enc:=wv) 0 J J J J Qx ti31 J pV.cells pV.pos J J J hw) fun v _=>as_ J<|Zf<|Za<|Ze<|Ze<|Zg<|mv J<|dt (Yh J J (i:=4) J (Yt pV) Qx)<|mv J<|Zf<|Za<|Zo ?_
 refine Nw [(0,_),(1,_),(2,_),(3,_),(10,_),(29,_)] [(0,_),(1,_),(2,_),(3,_)] (fun(k:Nat)=>[(30,.int .i64 (k:Int))]) (fun(k:Nat)=>[(4,osl 2 31 wv v (fill (max xs.length ys.length) k (fun i=>cf xs i-cf ys i)))]) (fun(k:Nat)=>k≤max xs.length ys.length) (fun(k:Nat)=>max xs.length ys.length-k) 0 (by first | omega | (dsimp only<;>omega)) K7 ⟨by rw [Cv (max xs.length ys.length) (fun i=>cf xs i-cf ys i)];rfl,rfl,rfl,rfl,rfl,trivial⟩ ?_
 rintro k hk
 simp only [CA,NA]
 have hlf:(fill (max xs.length ys.length) k (fun i=>cf xs i-cf ys i)).length=max xs.length ys.length:=Ov _ _ _
 refine Ze<|Zg<|dt (Xv J J J)<|Zf<|Za<|Ze<|Zs J (fun h106=>?_) (fun h106=>?_)
 ·try rw [List.length_replicate]at *
  refine Zl<|Za<|Ze<|Zo<|Ze<|Zg<|mv J<|as_ J<|Zf<|Za<|Ze<|Zg<|tt (Zr (i:=5) J J zeroValue31 J J hw) fun b _=>tt (Zr (i:=6) J J zeroValue31 J J hw) fun b_2 _=>Zf<|Za<|Da [(0,_),(1,_),(2,_),(3,_),(10,_),(11,_),(12,_),(13,_),(29,_),(30,_)] [(0,_),(4,_),(1,_),(2,_),(3,_),(6,_)] (fun(_:Unit)=>[]) (fun(_:Unit)=>[(5,box b 31 (wc (cf xs k)))]) (fun(_:Unit)=>True) K10 K6 ?_ ?_
  ·refine Ze<|Zg<|mv J<|mv J<|dt (Yh J J (i:=2) J Zi Qx)<|dt (Xv J J J)<|Zf<|Za<|Zs J (fun h108=>?_) (fun h108=>?_)
   ·exact Zg<|mv J<|mv J<|dt (Xc (ii:=2) J J J J Zi Qx Yo J (by first | omega | (simp only [List.length_set];omega)))<|dt (Xs (ii:=2) 0 J J J Zi pV (by first | omega | (simp only [List.length_set];omega)))<|tt (Zm (i:=5) J J J J J (by decide) J Yo J J ⟨Zb J,Zb J,trivial⟩ J hw trivial) fun _ _=>Zf<|Ql () trivial K10 ⟨by first | rfl | (rw [Qk (p:=xs) (by omega)];rfl),rfl,rfl,rfl,rfl,rfl,rfl,trivial⟩
   ·exact Zl<|Ql () trivial K10 ⟨by first | rfl | (rw [Qk (p:=xs) (by omega)];rfl),rfl,rfl,rfl,rfl,rfl,rfl,trivial⟩
  ·rintro _ -
   simp only [CA,NA]
   refine Da [(0,_),(1,_),(2,_),(3,_),(10,_),(11,_),(12,_),(13,_),(29,_),(30,_)] [(0,_),(5,_),(4,_),(1,_),(2,_),(3,_)] (fun(_:Unit)=>[]) (fun(_:Unit)=>[(6,box b_2 31 (wc (cf ys k)))]) (fun(_:Unit)=>True) K10 K6 ?_ ?_
   ·refine Ze<|Zg<|mv J<|mv J<|dt (Yh J J (i:=3) J Zi Qx)<|dt (Xv J J J)<|Zf<|Za<|Zs J (fun h111=>?_) (fun h111=>?_)
    ·exact Zg<|mv J<|mv J<|dt (Xc (ii:=3) J J J J Zi Qx Yo J (by first | omega | (simp only [List.length_set];omega)))<|dt (Xs (ii:=3) 0 J J J Zi pV (by first | omega | (simp only [List.length_set];omega)))<|tt (Zm (i:=6) J J J J J (by decide) J Yo J J ⟨Zb J,Zb J,trivial⟩ J hw trivial) fun _ _=>Zf<|Ql () trivial K10 ⟨by first | rfl | (rw [Qk (p:=ys) (by omega)];rfl),rfl,rfl,rfl,rfl,rfl,rfl,trivial⟩
    ·exact Zl<|Ql () trivial K10 ⟨by first | rfl | (rw [Qk (p:=ys) (by omega)];rfl),rfl,rfl,rfl,rfl,rfl,rfl,trivial⟩
   ·rintro _ -
    simp only [CA,NA]
    exact Zg<|mv J<|mv J<|mv J<|dt (Ya (i:=5) J J J Qr Yo J J)<|dt (Ya (i:=6) J J J Qr Yo J J)<|tt (Zv0 (n:=6) (i:=1) (fs:=[_]) (vs:=[_,_]) (Zuh _ _ _ (hv.sz _) (hu.sz _) (hz _)) J J J J K2 call137 J (by decide) Zd J hw trivial) fun _ _=>dt (Xc (ii:=4) (i:=k) J J J J (Yt pV) Qx Yo J (by rw [Ov];omega))<|tt (Ij (i:=4) (enc:=wv) _ J J J J J J pV J hw (by decide) (by rw [Ov];omega)) fun _ _=>Zf<|Oe<|Za<|Zg<|dt (Yy J J J ⟨by omega,by omega⟩)<|mv J<|Zf<|Xp (k+1) (by first | omega | (dsimp only<;>omega)) (by first | omega | (dsimp only<;>omega)) K7 ⟨by rw [←Zdu (by omega)];rfl,rfl,rfl,rfl,rfl,trivial⟩
 ·try rw [List.length_replicate]at *
  refine Yw<|Zx<|Zx<|Na<|Za<|Ze ?_
  obtain rfl:k=max xs.length ys.length:=by omega
  exact Yq (Pe 4 J J pV)<|Zg<|mv J<|mv J<|tt (Oo (n:=7) (i:=1) (Zbn _ _ _ (by rw [Dz];exact Za7 fun i _=>hz i)) J J J K2 call154 J (by decide) (Zc 4 J J J Zd) J hw trivial) fun _ _=>dt (Yl J J J)<|dt (Yl J J J)<|as_ J<|as_ J<|Zf<|Za<|Zw<|Zd5 (.inl J) hsc _ _ (fun a w hs=>Nr hs results136 J J) J trivial 1 J J J J (Yp 7 J J J (by rw [Dz]<;>rfl) Zj)
theorem Zn8(v u:Value)(xs ys:List Int)(hv:Vp xs)(hu:Vp ys)(hz:∀i,bl (cf xs i-cf ys i).natAbs≤65536):Cal prog 85 #[v,u] [slp 2 wv v xs,slp 2 wv u ys] true (G:=Value) (fun r=>True) (fun r=> .tuple #[r,.int .i64 0]) (fun r=>[slp 2 wv r (Zf0 xs ys)]):=by
 refine Yd func85 J ntmps85 J K2 ?_
 intro w0 sc hw hsc
 simp only [Zq,Zp]
 exact Ze<|Zg<|as_ J<|as_ J<|Zf<|Za<|Ze<|Zg<|tt (Zr (i:=3) J J zeroValue167 J J hw) fun b _=>Zf<|Za<|Ze<|Zg<|mv J<|mv J<|dt (d_mkf (vs:=[_]) J K1)<|tt (Oo (n:=4) (i:=3) (Zm1 _ _ _ _ _ ‹_› ‹_› ‹_›) J J J K4 call136 J (by decide) (Zc 1 J J J (Zc 2 J J J Zd)) J hw trivial) fun _ _=>dt (Yl J J J)<|dt (Yl J J J)<|as_ J<|as_ J<|Zf<|Za<|Zw<|Zy (.inl J) hsc _ _ (fun a w hs=>Nr hs results85 J J) J trivial J (Xb 4 J J J Zj)
theorem Zw7(v u:Value)(xs ys:List Int)(hv:Vp xs)(hu:Vp ys)(hF:¬Ze9 xs ys):Cal prog 112 #[v,u] [slp 2 wv v xs,slp 2 wv u ys] true (G:=Value) (fun r=>True) (fun r=> .tuple #[r,.int .i64 0]) (fun r=>[slp 2 wv r (Mf xs ys)]):=by
 refine Yd func112 J ntmps112 J K2 ?_
 intro w0 sc hw hsc
 simp only [Zq,Zp]
 have hlen:=hv.len
 have hlen2:=hu.len
 have hm1:=Pz hv.sz
 have hm2:=Pz hu.sz
 refine Ze<|Zg<|as_ J<|as_ J<|Zf<|Za<|Ze<|Ze<|Zg<|mv J<|tt (Zh (n:=2) (Xz _ _ ‹_›) J J J K1 Zfo (Zc 1 J J J Zd) J hw) fun _ _=>dt (Xh J J)<|mv J<|gdt (Yr J J) J J<|gtt (Zh (n:=2) (Xz _ _ ‹_›) J J J K1 Zfo (Zc 2 J J J Zd) J hw) J J J fun _ _=>gdt (Xh J J) J J<|dt (Yg J J J)<|Zf<|Za<|Yi J<|Zl<|Za<|Ze<|Ze<|Zg<|mv J<|dt (Yh J J (i:=1) J Zi Qx)<|dt (Pv J J J)<|mv J<|Pa (d:=23) J (fun s136=>?_) (fun s136=>?_)
 ·exact gsk J J J<|gsk J J J<|gsk J J J<|dt (Yu J J J)<|Zf<|Za<|Pu J<|Ze<|Zg<|as_ J<|as_ J<|Zf<|Za<|Zw<|Xa<|Zy (.inl J) hsc _ _ (fun a w hs=>Nr hs results112 J J) J trivial J (Ln (Bk (p:=xs) (q:=ys) (by first | (left;omega) | (right;omega))) Zj)
 ·refine gdt (Yr J J) J J<|gdt (Yh J J (i:=2) J Zi Qx) J J<|gdt (Pv J J J) J J<|dt (Yg J J J)<|Zf<|Za<|Zs J (fun h136=>?_) (fun h136=>?_)
  ·exact Ze<|Zg<|as_ J<|as_ J<|Zf<|Za<|Zw<|Xa<|Zy (.inl J) hsc _ _ (fun a w hs=>Nr hs results112 J J) J trivial J (Ln (Bk (p:=xs) (q:=ys) (by first | (left;omega) | (right;omega))) Zj)
  ·have hnx:xs≠[]:=by intro e;subst e;simp_all
   have hny:ys≠[]:=by intro e;subst e;simp_all
   have hlx:0<xs.length:=List.length_pos_iff.2 hnx
   have hly:0<ys.length:=List.length_pos_iff.2 hny
   refine Zl<|Za<|Ze<|Ze<|Zg<|mv J<|dt (Yh J J (i:=1) J Zi Qx)<|mv J<|dt (Yh J J (i:=2) J Zi Qx)<|dt (Yy J J J ⟨by omega,by omega⟩)<|dt (Qf J J J ⟨by omega,by omega⟩)<|dt (Of J J J)<|mv J<|Pa (d:=35) J (fun s139=>?_) (fun s139=>?_)
   ·exfalso;exact hF ⟨hnx,hny,.inl (by omega)⟩
   ·refine gdt (Yr J J) J J<|gtt (Zh (n:=2) (Nz _ _ (by first | exact hv.sz | exact hu.sz)) J J J K1 Zac (Zc 1 J J J Zd) J hw) J J J fun _ _=>gdt (Yr J J) J J<|gtt (Zh (n:=2) (Nz _ _ (by first | exact hv.sz | exact hu.sz)) J J J K1 Zac (Zc 2 J J J Zd) J hw) J J J fun _ _=>gdt (Yy J J J ⟨by omega,by omega⟩) J J<|gdt (Yy J J J ⟨by omega,by omega⟩) J J<|gdt (Of J J J) J J<|dt (Yg J J J)<|Zf<|Za<|Zs J (fun h139=>?_) (fun h139=>?_)
    ·exfalso;exact hF ⟨hnx,hny,by first | (left;omega) | (right;omega)⟩
    ·have hsz:msz xs+msz ys+5≤65536:=by omega
     have hpq:∀i j,bl (cf xs i*cf ys j).natAbs≤65536:=fun i j=>by have:=Xw (cf xs i) (cf ys j);have:=Oi xs i;have:=Oi ys j;omega
     have hac:∀i j t,i<25→bl (Zg6 xs ys i j t).natAbs≤65536:=fun i j t hi=>by have:=bl_acc2 (i:=i) (j:=j) (t:=t) (Oi xs) (Oi ys) (by omega);omega
     have hacc:∀t,bl (acc xs ys xs.length t).natAbs≤65536:=fun t=>by have:=bl_acc (i:=xs.length) (t:=t) (Oi xs) (Oi ys) (by omega);omega
     have hsum:∀i j,i<25→bl (Zg6 xs ys i j (i+j)+cf xs i*cf ys j).natAbs≤65536:=fun i j hi=>by rw [←Zvk];exact hac i (j+1) _ hi
     refine Zl<|Za<|Ze<|Zg<|tt (Zr (i:=3) J J zeroValue167 J J hw) fun b _=>Zf<|Za<|Ze<|Zg<|mv J<|dt (Yh J J (i:=1) J Zi Qx)<|mv J<|dt (Yh J J (i:=2) J Zi Qx)<|dt (Yy J J J ⟨by omega,by omega⟩)<|dt (Qf J J J ⟨by omega,by omega⟩)<|tt (Gd (i:=4) (n:=(xs.length+ys.length-1)) (by_:=24) (enc:=wv) 0 J J J J Qx ti31 J pV.cells pV.pos J J J hw) fun v _=>as_ J<|Zf<|Za<|Ze<|Ze<|Zg<|mv J<|dt (Yh J J (i:=1) J Zi Qx)<|mv J<|Zf<|Za<|Zo<|Nw [(1,_),(6,_),(7,_),(51,_),(52,_)] [(0,_),(1,_),(2,_),(3,_)] (fun(i:Nat)=>[(53,.int .i64 (i:Int))]) (fun(i:Nat)=>[(4,osl 2 31 wv v (mk (xs.length+ys.length-1) (acc xs ys i)))]) (fun(i:Nat)=>i≤xs.length) (fun(i:Nat)=>xs.length-i) 0 (by first | omega | (dsimp only<;>omega)) K6 ⟨by rw [Zn2];rfl,rfl,rfl,rfl,rfl,trivial⟩ ?_
     rintro i hi
     simp only [CA,NA]
     refine Ze<|Zg<|dt (Xv J J J)<|Zf<|Za<|Ze<|Zs J (fun h144=>?_) (fun h144=>?_)
     ·refine Zl<|Za<|Ze<|Zo<|Ze<|Zg<|mv J<|dt (Xc (ii:=1) J J J J Zi Qx Yo J (by first | omega | (simp only [List.length_set];omega)))<|dt (Xs (ii:=1) 0 J J J Zi pV (by first | omega | (simp only [List.length_set];omega)))<|tt (Zr (i:=5) J J zeroValue31 J J hw) fun b_2 _=>as_ J<|tt (Zm (i:=5) J J J J J (by decide) J Yo J J ⟨Zb J,Zb J,trivial⟩ J hw trivial) fun _ _=>Zf<|Za<|Ze<|Zg<|mv J<|dt (Yh J J (i:=2) J Zi Qx)<|mv J<|Zf<|Za<|Zo<|Nw [(1,_),(6,_),(7,_),(8,_),(9,_),(51,_),(52,_),(53,_),(58,_),(59,_)] [(0,_),(1,_),(2,_),(3,_),(5,_)] (fun(j:Nat)=>[(60,.int .i64 (j:Int))]) (fun(j:Nat)=>[(4,osl 2 31 wv v (mk (xs.length+ys.length-1) (Zg6 xs ys i j)))]) (fun(j:Nat)=>j≤ys.length) (fun(j:Nat)=>ys.length-j) 0 (by first | omega | (dsimp only<;>omega)) K11 ⟨by rw [Zvj];rfl,rfl,rfl,rfl,rfl,rfl,trivial⟩ ?_
      rintro j hj
      simp only [CA,NA]
      have hgd:i+j<xs.length+ys.length-1→(mk (xs.length+ys.length-1) (Zg6 xs ys i j)).getD (i+j) 0=Zg6 xs ys i j (i+j):=fun h=>Zck h
      refine Ze<|Zg<|dt (Xv J J J)<|Zf<|Za<|Ze<|Zs J (fun h145=>?_) (fun h145=>?_)
      ·refine Zl<|Za<|Ze<|Zo<|Ze<|Zg<|mv J<|dt (Xc (ii:=2) J J J J Zi Qx Yo J (by first | omega | (simp only [List.length_set];omega)))<|dt (Xs (ii:=2) 0 J J J Zi pV (by first | omega | (simp only [List.length_set];omega)))<|tt (Zr (i:=6) J J zeroValue31 J J hw) fun b_3 _=>as_ J<|tt (Zm (i:=6) J J J J J (by decide) J Yo J J ⟨Zb J,Zb J,trivial⟩ J hw trivial) fun _ _=>Zf<|Za<|Qo (fun x=>x=b) [(0,0),(1,0),(2,0),(3,0),(4,0),(5,0),(6,0),(7,0),(8,0),(9,0),(10,0),(11,0),(12,1),(13,1),(14,0),(15,3)] ?_ ?_
       ·kernel_rfl
       refine r0' J J (st1 3 J (Yr J J))<|r0' J J (st1 3 J (Yr J J))<|r0' J J (st1 3 J (Yr J J))<|r0' J J (st1 3 J (Yy J J J ⟨by omega,by omega⟩))<|r0' J J (st1 3 J (Yr J J))<|r0' J J (st1 3 J (Yr J J))<|r0' J J (st1 3 J (Yr J J))<|r0' J J (st1 3 J (Yy J J J ⟨by omega,by omega⟩))<|r0' J J (st1 3 J (Xc (ii:=4) (i:=(i+j)) J J J J (Yt pV) Qx Yo (by omega) (by rw [Xt];omega)))<|r0' J J (st1 3 J (Xs (ii:=4) 0 J J J (Yt pV) pV (by rw [Xt];omega)))<|r0' J J (st1 3 J (Ya (i:=5) J J J Qr Yo J J))<|r0' J J (st1 3 J (Ya (i:=6) J J J Qr Yo J J))<|r1' J (Oo (n:=6) (i:=3) (Db _ _ _ (hv.sz _) (hu.sz _) (hpq i j)) J J J K3 call153 J (by decide) Zd J hw J) fun _ _=>r1' J (Oo (n:=6) (i:=3) (Zo4 _ _ _ (by rw [hgd (by omega)];exact hac i j _ (by omega)) (hpq i j) (by rw [hgd (by omega)];exact hsum i j (by omega))) J J J K3 call159 J (by decide) Zd J hw J) fun _ _=>r0' J J (st1 3 J (Xc (ii:=4) (i:=(i+j)) J J J J (Yt pV) Qx Yo (by omega) (by rw [Xt];omega)))<|r3' J (Ij (i:=4) (enc:=wv) _ J J J J J J pV J hw (by decide) (by rw [Xt];omega)) fun _ _=>Oh<|Oe<|Za<|Zg<|dt (Yy J J J ⟨by omega,by omega⟩)<|mv J<|Zf ?_
       exact Xp (j+1) (by first | omega | (dsimp only<;>omega)) (by first | omega | (dsimp only<;>omega)) K11 ⟨by rw [←Zys (by omega),←hgd (by omega)];rfl,rfl,rfl,rfl,rfl,rfl,trivial⟩
      ·refine Yw<|Zx<|Zx<|Na<|Oe<|Za<|Zg<|dt (Yy J J J ⟨by omega,by omega⟩)<|mv J<|Zf ?_
       obtain rfl:j=ys.length:=by omega
       exact Xp (i+1) (by first | omega | (dsimp only<;>omega)) (by first | omega | (dsimp only<;>omega)) K6 ⟨by rw [←Zyt];rfl,rfl,rfl,rfl,rfl,trivial⟩
     ·refine Yw<|Zx<|Zx<|Na<|Za<|Ze ?_
      obtain rfl:i=xs.length:=by omega
      exact Yq (Pe 4 J J pV)<|Zg<|mv J<|tt (Oo (n:=7) (i:=3) (Zbn _ _ _ (Za7 fun t _=>hacc t)) J J J K2 call154 J (by decide) (Zc 4 J J J Zd) J hw trivial) fun _ _=>dt (Yl J J J)<|dt (Yl J J J)<|as_ J<|as_ J<|Zf<|Za<|Zw<|Zy (.inl J) hsc _ _ (fun a w hs=>Nr hs results112 J J) J trivial J (Yp 7 J J J (by rw [Zxa]<;>rfl) Zj)
end Go.Sky

