/- Rules, arithmetic and contracts: part 7. No conditions but those that each theorem names. -/
import Derived.Test.YtcmiiammekgooaaGreatSp05
set_option linter.all false
namespace Go.Sky
open Go.Proofs.Tryz
open Go.Proofs
set_option maxRecDepth 20000
set_option maxHeartbeats 4000000
set_option linter.unusedSimpArgs false
theorem Ak(v:Value)(xs:List Int)(c:Int)(hv:Vp xs)(hc:bl c.natAbs≤65536)(hz:∀i,bl (cf xs i*c).natAbs≤65536):Cal prog 151 #[v,wv c] [Pw 2 wv v xs] true (G:=Value) (fun r=>True) (fun r=> .tuple #[r,.int .i64 0]) (fun r=>[Pw 2 wv r (Xm xs c)]):=by
 refine Yg func151 J ntmps151 J K1 fun w0 sc hw hsc=>?_
 simp only [Zs,Zq]
 have hlen:=hv.len
 refine Zb<|Zf<|tt (Xp (i:=2) K5 hw) fun b _=>Zo J<|Zo J<|Zd<|Za<|Zb<|Zb<|Zf<|mv J<|tt (Zy (n:=2) (Qt _ _ ‹_›) K4 Av (Zi 1 K3 Ze) J hw) fun _ _=>dt (Xh J J)<|mv J<|Zx (Qm (i:=2) K3 Xl Yb K2) K2<|Pp (Zy (n:=2) (Gb _ ‹_›) K4 Zey Ze J hw) K3 fun _ _=>Zx (Xh J J) K2<|dt (Ql K3)<|Zd<|Za<|Yk J<|Zl<|Za<|Zb<|Zf<|tt (Xi (i:=3) K2 zeroValue167 K2 hw) fun b_2 _=>Zd<|Za<|Zb<|Zf<|mv J<|dt (Yc J J (i:=1) J Zg Xn)<|tt (Gh (i:=4) (n:=_) (by_:=24) (enc:=wv) 0 J J J J Xn ti31 J pV.cells pV.pos J J J hw J J) fun v _=>Zo J<|Zd<|Za<|Zb<|Zb<|Zf<|mv J<|dt (Yc J J (i:=1) J Zg Xn)<|mv J<|Zd<|Za<|Zn<|Px [(3,_),(6,_),(7,_),(21,_),(22,_)] [(0,_),(1,_),(2,_),(3,_)] (fun(k:Nat)=>[(23,.int .i64 (k:Int))]) (fun(k:Nat)=>[(4,Lf 2 31 wv v (fill xs.length k (fun i=>cf xs i*c)))]) (fun(k:Nat)=>k≤xs.length) (fun(k:Nat)=>xs.length-k) 0 (by first | omega | (dsimp only<;>omega)) K6 ⟨by rw [Zbi xs.length (fun i=>cf xs i*c)];rfl,rfl,rfl,rfl,rfl,trivial⟩ ?_
 rintro k hk
 simp only [CA,NA]
 refine Zb<|Zf<|dt (Pa K3)<|Zd<|Za<|Zb<|Zr J (fun h159=>?_) (fun h159=>?_)
 ·exact Zl<|Za<|Zb<|Zn<|Zb<|Zf<|mv J<|dt (Nj (ii:=1) K4 Zg Xn Yb J (by first | omega | (simp only [List.length_set];omega)))<|dt (Ms (ii:=1) 0 K3 Zg pV (by first | omega | (simp only [List.length_set];omega)))<|tt (Xi (i:=5) K2 zeroValue31 K2 hw) fun b_3 _=>Zo J<|tt (Zt (i:=5) K6 Yb K2 ⟨Zc J,Zc J,trivial⟩ J hw trivial) fun _ _=>Zd<|Za<|Zf<|mv J<|mv J<|dt (Qm (i:=5) K3 Xl Yb K2)<|dt (Qm (i:=2) K3 Xl Yb K2)<|tt (Nl (n:=5) (i:=3) (Cg _ _ _ (hv.sz.getD _) hc (hz _)) J J J K3 call153 J (by decide) Ze J hw trivial) fun _ _=>dt (Nj (ii:=4) (i:=k) K4 (Yu pV) Xn Yb J (by rw [Mg];omega))<|tt (Ip (i:=4) (enc:=wv) _ J J J J J J pV J hw (by decide) (by rw [Mg];omega)) fun _ _=>Zd<|Qh<|Za<|Zf<|dt (Ov K3)<|mv J<|Zd<|Xg (k+1) (by first | omega | (dsimp only<;>omega)) (by first | omega | (dsimp only<;>omega)) K6 ⟨by rw [←Zgw (by omega)];rfl,rfl,rfl,rfl,rfl,trivial⟩
 ·refine Yt<|Zv<|Zv<|Pd<|Za<|Zb ?_
  obtain rfl:k=xs.length:=by omega
  exact Yl (Qw 4 J J pV)<|Yl (Zz9 3 J J)<|Zf<|mv J<|tt (Yf (n:=6) (Yc6 _ _ _ (by rw [Aq];exact Zaf fun i _=>hz i)) K5 call154 (Zi 3 K3 (Zi 4 K3 Ze)) J hw) fun _ _=>dt (Xa K3)<|dt (Xa K3)<|Zo J<|Zo J<|Zd<|Za<|Zp<|Yr (.inl J) hsc _ _ (fun a w hs=>Pz hs results151 J J) J trivial J (Lg 6 K3 (by rw [Zx6]<;>rfl) Zm)
theorem Zae(v:Value)(xs:List Int)(hv:Vp xs)(hz:∀i,bl (cf xs (i+1)*((i:Int)+1)).natAbs≤65536):Cal prog 109 #[v] [Pw 2 wv v xs] true (G:=Value) (fun r=>True) (fun r=> .tuple #[r,.int .i64 0]) (fun r=>[Pw 2 wv r (Xy xs)]):=by
 refine Yg func109 J ntmps109 J K1 fun w0 sc hw hsc=>?_
 simp only [Zs,Zq]
 have hlen:=hv.len
 refine Zb<|Zf<|Zo J<|Zo J<|Zd<|Za<|Zb<|Zb<|Zf<|mv J<|tt (Zy (n:=1) (Qt _ _ ‹_›) K4 Av (Zi 1 K3 Ze) J hw) fun _ _=>dt (Xh J J)<|Zd<|Za<|Yk J<|Zl<|Za<|Zb<|Zb<|Zf<|mv J<|dt (Yc J J (i:=1) J Zg Xn)<|dt (Hf K3)<|Zd<|Za<|Zr J (fun h170=>?_) (fun h170=>?_)
 ·exact Zb<|Zf<|Zo J<|Zo J<|Zd<|Za<|Zp<|Yp<|Yr (.inl J) hsc _ _ (fun a w hs=>Pz hs results109 J J) J trivial J (Ii (Ybe (by omega)) Zm)
 ·refine Zl<|Za<|Zb<|Zf<|tt (Xi (i:=2) K2 zeroValue167 K2 hw) fun b _=>Zd<|Za<|Zb<|Zf<|mv J<|dt (Yc J J (i:=1) J Zg Xn)<|dt (Pq K3)<|tt (Gh (i:=3) (n:=(xs.length-1)) (by_:=24) (enc:=wv) 0 J J J J Xn ti31 J pV.cells pV.pos J J J hw) fun v _=>Zo J<|Zd<|Za<|Zb<|Zb<|Zf<|mv J<|dt (Yc J J (i:=3) J (Yu pV) Xn)<|mv J<|Zd<|Za<|Zn<|Px [(0,_),(4,_),(5,_),(18,_)] [(0,_),(1,_),(2,_)] (fun(k:Nat)=>[(19,.int .i64 (k:Int))]) (fun(k:Nat)=>[(3,Lf 2 31 wv v (fill (xs.length-1) k (fun i=>cf xs (i+1)*((i:Int)+1))))]) (fun(k:Nat)=>k≤xs.length-1) (fun(k:Nat)=>xs.length-1-k) 0 (by first | omega | (dsimp only<;>omega)) K5 ⟨by rw [Zbi (xs.length-1) (fun i=>cf xs (i+1)*((i:Int)+1))];rfl,rfl,rfl,rfl,trivial⟩ ?_
  rintro k hk
  simp only [CA,NA]
  have hlf:(fill (xs.length-1) k (fun i=>cf xs (i+1)*((i:Int)+1))).length=xs.length-1:=Mg _ _ _
  refine Zb<|Zf<|dt (Pa K3)<|Zd<|Za<|Zb<|Zr J (fun h175=>?_) (fun h175=>?_)
  ·try rw [List.length_replicate]at *
   refine Zl<|Za<|Zb<|Zn<|Zb<|Zf<|mv J<|Zo J<|Zd<|Za<|Qj (fun x=>x=b) [(0,0),(1,0),(2,0),(3,0),(4,0),(5,0),(6,0),(7,0),(8,0),(9,1),(10,1),(11,0),(12,3)] ?_ ?_
   ·kernel_rfl
   exact Zh K2 (Ka 2 J (Ya K2))<|Zh K2 (Ka 2 J (Ya K2))<|Zh K2 (Ka 2 J (Ya K2))<|Zh K2 (Ka 2 J (Ya K2))<|Zh K2 (Ka 2 J (Ov K3))<|Zh K2 (Ka 2 J (Nj (ii:=1) (i:=k+1) K4 Zg Xn Yb))<|Zh K2 (Ka 2 J (Ms (ii:=1) 0 K3 Zg pV))<|Zh K2 (Ka 2 J (Ya K2))<|Zh K2 (Ka 2 J (Ov K3))<|Yq J (Zy (n:=3) (Xw _ (by first | assumption | exact⟨by omega,by omega⟩)) K4 Fb Ze J hw) fun _ _=>Yq J (Nl (n:=3) (i:=2) (Cg _ (cf xs (k+1)) ((k:Int)+1) (hv.sz _) (Nat.le_trans (Nu (n:=32) (by omega)) (by decide)) (hz k)) J J J K3 call153 J (by decide) Ze J hw J) fun _ _=>Zh K2 (Ka 2 J (Nj (ii:=3) (i:=k) K4 (Yu pV) Xn Yb J (by rw [Mg];omega)))<|Qs J (Ip (i:=3) (enc:=wv) _ J J J J J J pV J hw (by decide) (by rw [Mg];omega)) fun _ _=>Pv<|Qh<|Za<|Zf<|dt (Ov K3)<|mv J<|Zd<|Xg (k+1) (by first | omega | (dsimp only<;>omega)) (by first | omega | (dsimp only<;>omega)) K5 ⟨by rw [←Zgw (by omega)];rfl,rfl,rfl,rfl,trivial⟩
  ·try rw [List.length_replicate]at *
   refine Yt<|Zv<|Zv<|Pd<|Za<|Zb ?_
   obtain rfl:k=xs.length-1:=by omega
   exact Yl (Qw 3 J J pV)<|Yl (Zz9 2 J J)<|Zf<|mv J<|tt (Yf (n:=4) (Yc6 _ _ _ (by rw [Aq];exact Zaf fun i _=>hz i)) K5 call154 (Zi 2 K3 (Zi 3 K3 Ze)) J hw) fun _ _=>dt (Xa K3)<|dt (Xa K3)<|Zo J<|Zo J<|Zd<|Za<|Zp<|Yr (.inl J) hsc _ _ (fun a w hs=>Pz hs results109 J J) J trivial J (Lg 4 K3 (by rw [Ye1 hv.tr]<;>rfl) Zm)
theorem Zoq(v:Value)(xs:List Int)(hv:Vp xs):Od prog 181 #[v] [Pw 2 wv v xs] (.tuple #[wv (Qc xs),.int .i64 0]):=by
 refine Yg func181 J ntmps181 J K1 fun w0 sc hw hsc=>?_
 simp only [Zs,Zq]
 have hlen:=hv.len
 have hcb:∀k,bl (Qc (xs.take k)).natAbs≤65536:=fun k=>Zgm _ (hv.sz.take k)
 refine Zb<|Zf<|tt (Xi (i:=2) K2 zeroValue31 K2 hw) fun b _=>Zo J<|Zd<|Za<|Zb<|Zb<|Zf<|mv J<|tt (Zy (n:=2) (Qt _ _ ‹_›) K4 Av (Zi 1 K3 Ze) J hw) fun _ _=>dt (Xh J J)<|Zd<|Za<|Yk J<|Zl<|Za<|Zb<|Zf<|tt (Xi (i:=3) K2 zeroValue167 K2 hw) fun b_2 _=>Zd<|Za<|Zb<|Zf<|tt (Xi (i:=4) K2 zeroValue31 K2 hw) fun b_3 _=>Zd<|Za<|Zb<|Zb<|Zf<|mv J<|dt (Yc J J (i:=1) J Zg Xn)<|mv J<|Zd<|Za<|Zn<|Px [(2,_),(4,_),(5,_),(12,_),(13,_)] [(0,_),(1,_),(2,_)] (fun(k:Nat)=>[(14,.int .i64 (k:Int))]) (fun(k:Nat)=>[(4,box b_3 31 #[.bool (decide (Qc (xs.take k)<0)),.string (Xk (Qc (xs.take k)).natAbs)]),(3,box b_2 167 #[.int .i64 0])]) (fun(k:Nat)=>k≤xs.length) (fun(k:Nat)=>xs.length-k) 0 (by first | omega | (dsimp only<;>omega)) K6 K5 ?_
 rintro k hk
 simp only [CA,NA]
 have hgc:=fun h=>Ih (p:=xs) (k:=k) h
 refine Zb<|Zf<|dt (Pa K3)<|Zd<|Za<|Zb<|Zr J (fun h264=>?_) (fun h264=>?_)
 ·refine Zl<|Za<|Zb<|Zn<|Zb<|Zf<|dt (Nj (ii:=1) K4 Zg Xn Yb J (by first | omega | (simp only [List.length_set];omega)))<|dt (Ms (ii:=1) 0 K3 Zg pV (by first | omega | (simp only [List.length_set];omega)))<|tt (Xi (i:=5) K2 zeroValue31 K2 hw) fun b_4 _=>tt (Zt (i:=5) K6 Yb K2 ⟨Zc J,Zc J,trivial⟩ J hw trivial) fun _ _=>Zd<|Za<|Zf<|dt (Qy K2 Zfu J Zfo K2)<|dt (Qm (i:=4) K3 Xl Yb K2)<|dt (Qm (i:=5) K3 Xl Yb K2)<|tt (Yf (n:=5) (Zza (Qc (xs.take k)) (xs.getD k 0) (hcb _) (hv.sz.getD _)) K5 call196 Ze J hw) fun _ _=>dt (Xa K3)<|dt (Xa K3)<|tt (Nl (n:=5) (i:=3) (Zpc _ _ _ _ _ _) J J J K3 call175 J (by decide) Ze J hw trivial) fun _ _=>tt (Zt (i:=4) K6 Yb K2 ⟨Zc J,Zc J,trivial⟩ J hw trivial) fun _ _=>Zd<|Qh<|Za<|Zf<|dt (Ov K3)<|mv J<|Zd ?_
  have hc1:=hcb (k+1)
  rw [hgc (by omega)]at hc1
  exact Xg (k+1) (by first | omega | (dsimp only<;>omega)) (by first | omega | (dsimp only<;>omega)) K6 ⟨by rw [hgc (by omega)];simp only [Ma hc1];rfl,by simp only [Bu hc1];rfl,rfl,rfl,rfl,trivial⟩
 ·exact Yt<|Zv<|Zv<|Pd<|Za<|Zb<|Ni [3,4] [5]<|Zw (n:=0) [(0,0),(1,0),(2,0),(3,0),(4,1),(5,3)]<|Zh K2 (Yy (Qm (i:=4) K3 Xl Yb K2) K2)<|Zh K2 (Yy (Qy K2 Zfu J Zfo K2) K2)<|Zh K2 (Yy (Qy K2 Zjy J Ie K2) K2)<|Zh K2 (Yy (Mc (i:=3) K3 Ee J) K2)<|Yq J (Zcz 2 J J K2 (fun ob=>Zt (i:=2) K6 Yb K2 ⟨Zc J,Zc J,trivial⟩ J hw ob)) fun _ _=>Qs J (Pu (Ok J J) J) fun _ _=>Yi<|Yh<|Za<|Zp<|Yr (.inl J) hsc () _ (fun a w hs=>Pz hs results181 (Yw (i:=2) J J Xl Yb J) J) (by rw [show k=xs.length by omega,List.take_length]<;>rfl) trivial J Zm
theorem Zma(v:Value)(xs:List Int)(c:Int)(hv:Sz 65536 xs)(hlen:xs.length≤1000)(hc:bl c.natAbs≤65536)(hd:∀i,c∣cf xs i)(hc0:xs≠[]→c≠0):Cal prog 182 #[v,wv c] [Pw 2 wv v xs] true (G:=Value) (fun r=>True) (fun r=> .tuple #[r,.int .i64 0]) (fun r=>[Pw 2 wv r (xs.map (· / c))]):=by
 refine Yg func182 J ntmps182 J K1 fun w0 sc hw hsc=>?_
 simp only [Zs,Zq]
 refine Zb<|Zf<|tt (Xp (i:=2) K5 hw) fun b _=>Zo J<|Zo J<|Zd<|Za<|Zb<|Zf<|mv J<|dt (Yc J J (i:=1) J Zg Xn)<|tt (Gh (i:=3) (n:=_) (by_:=24) (enc:=wv) 0 J J J J Xn ti31 J pV.cells pV.pos J J J hw J J) fun v _=>Zo J<|Zd<|Za<|Zb<|Zb<|Zf<|mv J<|dt (Yc J J (i:=1) J Zg Xn)<|mv J<|Zd<|Za<|Zn<|Px [(3,_),(6,_),(15,_),(16,_)] [(0,_),(1,_),(2,_)] (fun(k:Nat)=>[(17,.int .i64 (k:Int))]) (fun(k:Nat)=>[(3,Lf 2 31 wv v (fill xs.length k (fun i=>cf xs i/c)))]) (fun(k:Nat)=>k≤xs.length) (fun(k:Nat)=>xs.length-k) 0 (by first | omega | (dsimp only<;>omega)) K5 ⟨by rw [Zbi xs.length (fun i=>cf xs i/c)];rfl,rfl,rfl,rfl,trivial⟩ ?_
 rintro k hk
 simp only [CA,NA]
 have hcl:Zbl (xs.getD k 0/c)=cf xs k/c:=Ma (Ei (hd k) (hv k))
 refine Zb<|Zf<|dt (Pa K3)<|Zd<|Za<|Zb<|Zr J (fun h273=>?_) (fun h273=>?_)
 ·refine Zl<|Za<|Zb<|Zn<|Zb<|Zf<|mv J<|dt (Nj (ii:=1) K4 Zg Xn Yb J (by first | omega | (simp only [List.length_set];omega)))<|dt (Ms (ii:=1) 0 K3 Zg pV (by first | omega | (simp only [List.length_set];omega)))<|tt (Xi (i:=4) K2 zeroValue31 K2 hw) fun b_2 _=>Zo J<|tt (Zt (i:=4) K6 Yb K2 ⟨Zc J,Zc J,trivial⟩ J hw trivial) fun _ _=>Zd<|Za<|Zb<|Zf<|dt (Qm (i:=4) K3 Xl Yb K2)<|dt (Qm (i:=2) K3 Xl Yb K2)<|tt (Yf (n:=4) (Za1 _ _ (hv.getD _) hc (hc0 (by intro e;rw [e]at h273;simp at h273;omega))) K5 call158 Ze J hw) fun _ _=>mv J<|dt (Xa K3)<|dt (Xa K3)<|dt (Xa K3)<|tt (Xi (i:=5) K2 zeroValue31 K2 hw) fun b_3 _=>tt (Xi (i:=6) K2 zeroValue31 K2 hw) fun b_4 _=>tt (Zt (i:=5) K6 Yb K2 ⟨Zc J,Zc J,trivial⟩ J hw trivial) fun _ _=>tt (Zt (i:=6) K6 Yb K2 ⟨Zc J,Zc J,trivial⟩ J hw trivial) fun _ _=>Zo J<|Zd<|Za<|Zb<|Zb<|Zf<|mv J<|dt (Pk K3)<|Zd<|Za<|Zr J (fun h275=>?_) (fun h275=>?_)
  ·exfalso;simp_all
  ·exact Zl<|Za<|Zf<|mv J<|mv J<|dt (Qm (i:=5) K3 Xl Yb K2)<|dt (Nj (ii:=3) (i:=k) K4 (Yu pV) Xn Yb J (by rw [Mg];omega))<|tt (Ip (i:=3) (enc:=wv) _ J J J J J J pV J hw (by decide) (by rw [Mg];omega)) fun _ _=>Zd<|Qh<|Za<|Zf<|dt (Ov K3)<|mv J<|Zd<|Xg (k+1) (by first | omega | (dsimp only<;>omega)) (by first | omega | (dsimp only<;>omega)) K5 ⟨by rw [←Zgw (by omega)];simp only [hcl];rfl,rfl,rfl,rfl,trivial⟩
 ·refine Yt<|Zv<|Zv<|Pd<|Za<|Zb<|Zf<|mv J<|Zo J<|Zo J<|Zd<|Za<|Zp ?_
  obtain rfl:k=xs.length:=by omega
  exact Yr (.inl J) hsc _ _ (fun a w hs=>Pz hs results182 J J) J trivial J (Ng 3 J J pV (by rw [Aq,Zo2 xs (· / c)]<;>rfl) Zm)
theorem Ku(v:Value)(xs:List Int)(hv:Vp xs):Cal prog 150 #[v] [Pw 2 wv v xs] true (G:=Value) (fun r=>True) (fun r=> .tuple #[r,.int .i64 0]) (fun r=>[Pw 2 wv r (Yx xs)]):=by
 refine Yg func150 J ntmps150 J K1 fun w0 sc hw hsc=>?_
 simp only [Zs,Zq]
 have hlen:=hv.len
 refine Zb<|Zf<|Zo J<|Zo J<|Zd<|Za<|Zb<|Zf<|mv J<|tt (Zy (n:=1) (Zoq _ _ ‹_›) K4 call181 (Zi 1 K3 Ze) J hw) fun _ _=>mv J<|dt (Xa K3)<|dt (Xa K3)<|tt (Xi (i:=2) K2 zeroValue31 K2 hw) fun b _=>tt (Zt (i:=2) K6 Yb K2 ⟨Zc J,Zc J,trivial⟩ J hw trivial) fun _ _=>Zo J<|Zd<|Za<|Zb<|Zb<|Zf<|mv J<|dt (Pk K3)<|Zd<|Za<|Zr J (fun h286=>?_) (fun h286=>?_)
 ·exfalso;simp_all
 ·exact Zl<|Za<|Zb<|Zf<|mv J<|dt (Qm (i:=2) K3 Xl Yb K2)<|tt (Yf (n:=3) (Zma _ _ _ hv.sz (by omega) (Zgm _ hv.sz) (Kn _) hv.ne) K5 call182 (Zi 1 K3 Ze) J hw) fun _ _=>dt (Xa K3)<|dt (Xa K3)<|Zo J<|Zo J<|Zd<|Za<|Zp<|Yr (.inl J) hsc _ _ (fun a w hs=>Pz hs results150 J J) J trivial J (Lg 3 K3 J Zm)
theorem Zyb(v:Value)(xs:List Int)(x y:Int)(hv:Vp xs)(hx:bl x.natAbs≤65536)(hy:bl y.natAbs≤65536)(hy0:0<y):Od prog 186 #[v,rX x y] [Pw 2 wv v xs] (.tuple #[wv (evv xs x y),.int .i64 (eve xs x y)]):=by
 refine Yg func186 J ntmps186 J K1 fun w0 sc hw hsc=>?_
 simp only [Zs,Zq]
 have hlen:=hv.len
 refine Zb<|Zf<|tt (Xp (i:=2) K5 hw) fun b _=>tt (Xi (i:=3) K2 zeroValue31 K2 hw) fun b_2 _=>Zo J<|Zd<|Za<|Zb<|Zb<|Zf<|mv J<|tt (Zy (n:=3) (Qt _ _ ‹_›) K4 Av (Zi 1 K3 Ze) J hw) fun _ _=>dt (Xh J J)<|mv J<|Zx (Pj (i:=2) K3 Xf Ym K4) K2<|Pp (Zy (n:=3) (Oh _ _ ‹_› ‹_› ‹_›) K4 Zbq Ze J hw) K3 fun _ _=>Zx (Xh J J) K2<|dt (Ql K3)<|Zd<|Za<|Yk J<|Zl<|Za<|Zb<|Zb<|Zf<|mv J<|dt (Yc J J (i:=1) J Zg Xn)<|dt (Hf K3)<|Zd<|Za<|Zr J (fun h186=>?_) (fun h186=>?_)
 ·exact Zb<|Zf<|dt (Oi (ivs:=[]) J trivial (fun a w hs=>Ygs))<|tt (Zt (i:=3) K6 Yb K2 ⟨Zc J,Zc J,trivial⟩ J hw trivial) fun _ _=>Zo J<|Zd<|Za<|Zp<|Yp<|Yr (.inl J) hsc () _ (fun a w hs=>Pz hs results186 (Yw (i:=3) J J Xl Yb J) J) (by rw [List.eq_nil_of_length_eq_zero (l:=xs) (by omega)];rfl) trivial J Zm
 ·have hne:xs≠[]:=fun e=>by rw [e]at h186;simp at h186
  have hm1:=Oc hv.sz
  have hsxy:Sz 65536 [x,y]:=Sz.of_mem (by intro z hz;simp at hz;rcases hz with rfl | rfl<;>assumption)
  have hm2:=Oc hsxy
  have hm3:(xs.length-1)*Pf [x,y]≤24*65536:=Nat.mul_le_mul (by omega) hm2
  have hm4:((xs.length:Int)-1)*(Pf [x,y]:Int)=(((xs.length-1)*Pf [x,y]:Nat):Int):=by rw [Int.natCast_mul];congr 1;omega
  refine Zl<|Za<|Zb<|Iy [(0,_),(3,_),(4,_)] [(0,_),(1,_),(2,_),(3,_)] (fun(_:Unit)=>[(37,.bool (decide ((65536:Int)<(Pf xs:Int)+((xs.length:Int)-1)*(Pf [x,y]:Int)+8)))]) (fun(_:Unit)=>[]) (fun(_:Unit)=>True) K3 K4 ?_ ?_
  ·refine Fy (fun _=>False) []<|Zw (n:=7) [(0,0),(2,0),(3,0),(4,0),(5,0),(6,0),(7,0),(8,0)]<|Zh K2 (Yo (Ya K2))<|Zh K2 (Yo (Ya K2))<|Zh K2 (Yo (Yc J J (i:=1) J Zg Xn))<|Zh K2 (Yo (Pq K3))<|Zh K2 (Yo (Qy K2 Hn J Yb K2))<|Zh K2 (Yo (Qm (i:=2) K3 Xl Yb K2))<|Zh K2 (Yo (Qy K2 Hn J Yb K2))<|Zh K2 (Yo (Qm (i:=2) K3 Xl Yb K2))<|Yi<|Qg (n:=6) 1 9 ?_ ?_
   ·exact Yd J (Zy (n:=3) (Lj _ _ (by first | exact hv.sz | exact hsxy)) K4 Aw (Zi 1 K3 Ze) J hw) fun _ _=>Zw (n:=0) [(9,1),(10,1),(11,0),(12,0),(13,0),(14,0)]<|Yq J (Ic (i:=90) (ivs:=[(0,_),(1,_)]) (enc:=wv) [x,y] J J K4 Zxp ti31 J J J J J pV.cells J J hw) fun v _=>Yq J (Zy (n:=3) (Lj _ _ (by first | exact hv.sz | exact hsxy)) K4 Aw (Qk 90 J J pV Ze) J hw) fun _ _=>Zh K2 (Yo (Eu J J J (by rw [hm4];exact⟨by omega,by omega⟩)))<|Zh K2 (Yo (Ov K3 (by rw [hm4];exact⟨by omega,by omega⟩)))<|Zh K2 (Yo (Ov K3 (by rw [hm4];exact⟨by omega,by omega⟩)))<|Zh K2 (Yo (Fd K3))<|Yi<|Yh<|Xd () trivial K4 K4
   ·exact Yd J (Ic (i:=90) (ivs:=[(0,_),(1,_)]) (enc:=wv) [x,y] J J K4 Zxp ti31 J J J J J pV.cells J J hw) fun v_2 _=>Zw (n:=0) [(1,1),(10,1),(11,0),(12,0),(13,0),(14,0)]<|Yq J (Zy (n:=3) (Lj _ _ (by first | exact hv.sz | exact hsxy)) K4 Aw (Zi 1 K3 Ze) J hw) fun _ _=>Yq J (Zy (n:=3) (Lj _ _ (by first | exact hv.sz | exact hsxy)) K4 Aw (Qk 90 J J pV Ze) J hw) fun _ _=>Zh K2 (Yo (Eu J J J (by rw [hm4];exact⟨by omega,by omega⟩)))<|Zh K2 (Yo (Ov K3 (by rw [hm4];exact⟨by omega,by omega⟩)))<|Zh K2 (Yo (Ov K3 (by rw [hm4];exact⟨by omega,by omega⟩)))<|Zh K2 (Yo (Fd K3))<|Yi<|Yh<|Xd () trivial K4 K4
  ·rintro _ -
   simp only [CA,NA]
   refine Zr J (fun h189=>?_) (fun h189=>?_)
   ·have hE:Iv xs x y:=⟨hne,by rw [hm4]at h189;omega⟩
    exact Zb<|Zf<|dt (Oi (ivs:=[]) J trivial (fun a w hs=>Ygs))<|tt (Zt (i:=3) K6 Yb K2 ⟨Zc J,Zc J,trivial⟩ J hw trivial) fun _ _=>Zo J<|Zd<|Za<|Zp<|Yp<|Yr (.inl J) hsc () _ (fun a w hs=>Pz hs results186 (Yw (i:=3) J J Xl Yb J) J) (by unfold evv eve;rw [if_pos hE,if_pos hE]<;>rfl) trivial J Zm
   ·have hF:Pf xs+(xs.length-1)*Pf [x,y]+8≤65536:=by rw [hm4]at h189;omega
    refine Zl<|Za<|Zb<|Zf<|tt (Xi (i:=4) K2 zeroValue167 K2 hw) fun b_3 _=>Zd<|Za<|Iy [(0,_),(3,_),(4,_),(6,_)] [(0,_),(1,_),(2,_),(3,_),(4,_)] (fun(q:Nat×Nat)=>[(7,.pointer (some ⟨q.1,0,none⟩)),(8,.pointer (some ⟨q.2,0,none⟩))]) (fun(q:Nat×Nat)=>[(97,box q.1 31 (wc (xs.getD (xs.length-1) 0))),(98,box q.2 31 (wc 1))]) (fun(q:Nat×Nat)=>True) K4 K5 ?_ ?_
    ·refine Fy (fun _=>False) [9,10]<|Zw (n:=5) [(0,0),(1,0),(2,0),(3,0),(4,0),(5,0)]<|Zh K2 (Yo (Ya K2))<|Zh K2 (Yo (Ya K2))<|Zh K2 (Yo (Yc J J (i:=1) J Zg Xn))<|Zh K2 (Yo (Pq K3))<|Zh K2 (Yo (Nj (ii:=1) (i:=(xs.length-1)) K4 Zg Xn Yb))<|Zh K2 (Yo (Ms (ii:=1) 0 K3 Zg pV))<|Yi<|Fu (n:=4) 6 7 8 ?_ ?_ ?_
     ·refine Yd J (Zy (n:=4) (Xw _ (by first | assumption | exact⟨by omega,by omega⟩)) K4 Fb Ze J hw) fun _ _=>Qg (n:=3) 7 8 ?_ ?_
      ·exact Yd J (Xi (i:=97) K2 zeroValue31 K2 hw) fun b_4 _=>Zw (n:=0) [(8,1),(9,3),(10,3)]<|Yq J (Xi (i:=98) K2 zeroValue31 K2 hw) fun b_5 _=>Qs J (Zt (i:=97) K6 Yb K2 ⟨Zc J,Zc J,trivial⟩ J hw trivial) fun _ _=>Qs J (Zt (i:=98) K6 Yb K2 ⟨Zc J,Zc J,trivial⟩ J hw trivial) fun _ _=>Yi<|Yh<|Xd (_,_) trivial K6 K7
      ·exact Yd J (Xi (i:=98) K2 zeroValue31 K2 hw) fun b_6 _=>Zw (n:=0) [(7,1),(9,3),(10,3)]<|Yq J (Xi (i:=97) K2 zeroValue31 K2 hw) fun b_7 _=>Qs J (Zt (i:=97) K6 Yb K2 ⟨Zc J,Zc J,trivial⟩ J hw trivial) fun _ _=>Qs J (Zt (i:=98) K6 Yb K2 ⟨Zc J,Zc J,trivial⟩ J hw trivial) fun _ _=>Yi<|Yh<|Xd (_,_) trivial K6 K7
     ·refine Yd J (Xi (i:=97) K2 zeroValue31 K2 hw) fun b_8 _=>Qg (n:=3) 6 8 ?_ ?_
      ·exact Yd J (Zy (n:=4) (Xw _ (by first | assumption | exact⟨by omega,by omega⟩)) K4 Fb Ze J hw) fun _ _=>Zw (n:=0) [(8,1),(9,3),(10,3)]<|Yq J (Xi (i:=98) K2 zeroValue31 K2 hw) fun b_9 _=>Qs J (Zt (i:=97) K6 Yb K2 ⟨Zc J,Zc J,trivial⟩ J hw trivial) fun _ _=>Qs J (Zt (i:=98) K6 Yb K2 ⟨Zc J,Zc J,trivial⟩ J hw trivial) fun _ _=>Yi<|Yh<|Xd (_,_) trivial K6 K7
      ·exact Yd J (Xi (i:=98) K2 zeroValue31 K2 hw) fun b_10 _=>Zw (n:=0) [(6,1),(9,3),(10,3)]<|Yq J (Zy (n:=4) (Xw _ (by first | assumption | exact⟨by omega,by omega⟩)) K4 Fb Ze J hw) fun _ _=>Qs J (Zt (i:=97) K6 Yb K2 ⟨Zc J,Zc J,trivial⟩ J hw trivial) fun _ _=>Qs J (Zt (i:=98) K6 Yb K2 ⟨Zc J,Zc J,trivial⟩ J hw trivial) fun _ _=>Yi<|Yh<|Xd (_,_) trivial K6 K7
     ·refine Yd J (Xi (i:=98) K2 zeroValue31 K2 hw) fun b_11 _=>Qg (n:=3) 6 7 ?_ ?_
      ·exact Yd J (Zy (n:=4) (Xw _ (by first | assumption | exact⟨by omega,by omega⟩)) K4 Fb Ze J hw) fun _ _=>Zw (n:=0) [(7,1),(9,3),(10,3)]<|Yq J (Xi (i:=97) K2 zeroValue31 K2 hw) fun b_12 _=>Qs J (Zt (i:=97) K6 Yb K2 ⟨Zc J,Zc J,trivial⟩ J hw trivial) fun _ _=>Qs J (Zt (i:=98) K6 Yb K2 ⟨Zc J,Zc J,trivial⟩ J hw trivial) fun _ _=>Yi<|Yh<|Xd (_,_) trivial K6 K7
      ·exact Yd J (Xi (i:=97) K2 zeroValue31 K2 hw) fun b_13 _=>Zw (n:=0) [(6,1),(9,3),(10,3)]<|Yq J (Zy (n:=4) (Xw _ (by first | assumption | exact⟨by omega,by omega⟩)) K4 Fb Ze J hw) fun _ _=>Qs J (Zt (i:=97) K6 Yb K2 ⟨Zc J,Zc J,trivial⟩ J hw trivial) fun _ _=>Qs J (Zt (i:=98) K6 Yb K2 ⟨Zc J,Zc J,trivial⟩ J hw trivial) fun _ _=>Yi<|Yh<|Xd (_,_) trivial K6 K7
    ·rintro⟨b7,b8⟩ -
     simp only [CA,NA]
     refine Zb<|Zb<|Zf<|mv J<|dt (Yc J J (i:=1) J Zg Xn)<|dt (Pq K3)<|Zo J<|Zd<|Za<|Zn<|Px [(0,_),(3,_),(4,_),(6,_),(7,_),(8,_)] [(0,_),(1,_),(2,_),(3,_),(4,_)] (fun(k:Nat)=>[(9,.int .i64 ((k:Int)-1))]) (fun(k:Nat)=>[(97,box b7 31 (wc (Ge xs x y k))),(98,box b8 31 (wc (y^(xs.length-1-k))))]) (fun(k:Nat)=>k≤xs.length-1) (fun(k:Nat)=>k) (xs.length-1) (by first | omega | (dsimp only<;>omega)) ⟨by rw [show((xs.length-1:Nat):Int)-1=(xs.length:Int)-2 by omega];rfl,rfl,rfl,rfl,rfl,rfl,rfl,trivial⟩ ⟨by rw [Yfh x y (by omega)];rfl,by rw [Nat.sub_self,Int.pow_zero];rfl,rfl,rfl,rfl,rfl,rfl,trivial⟩ ?_
     rintro k hk
     simp only [CA,NA]
     refine Zb<|Zb<|Zf<|mv J<|dt (Lh J J J)<|Zd<|Za<|Zr J (fun h194=>?_) (fun h194=>?_)
     ·have hpw:y^(xs.length-1-k)*y=y^(xs.length-1-(k-1)):=Ya7 y (by omega) hk
      have hst:Ge xs x y k*x+xs.getD (k-1) 0*y^(xs.length-1-(k-1))=Ge xs x y (k-1):=Zyv x y (by omega) hk
      refine Zl<|Za<|Zb<|Zn<|Zb<|Zf<|dt (Qm (i:=98) K3 Xl Yb K2)<|dt (Qy K2 Hn J Yb K2)<|dt (Qm (i:=2) K3 Xl Yb K2)<|tt (Nl (n:=4) (i:=4) (Cg _ _ _ (Zpe hF) hy (by rw [hpw];exact Zpe hF)) J J J K3 call153 J (by decide) Ze J hw trivial) fun _ _=>tt (Zt (i:=98) K6 Yb K2 ⟨Zc J,Zc J,trivial⟩ J hw trivial) fun _ _=>Zd<|Za<|Qj (fun x=>x=b_3) [(0,0),(1,0),(2,0),(4,0),(5,0),(6,0),(7,0),(8,0),(3,1),(9,1),(10,1),(11,3)] ?_ ?_
      ·kernel_rfl
      refine Zh K2 (Ka 4 J (Qm (i:=97) K3 Xl Yb K2))<|Zh K2 (Ka 4 J (Qy K2 Hn J Yb K2))<|Zh K2 (Ka 4 J (Qm (i:=2) K3 Xl Yb K2))<|Zh K2 (Ka 4 J (Ya K2))<|Zh K2 (Ka 4 J (Ya K2))<|Zh K2 (Ka 4 J (Nj (ii:=1) (i:=(k-1)) K4 Zg Xn Yb))<|Zh K2 (Ka 4 J (Ms (ii:=1) 0 K3 Zg pV))<|Zh K2 (Ka 4 J (Qm (i:=98) K3 Xl Yb K2))<|Yq J (Nl (n:=4) (i:=4) (Cg _ _ _ (by first | exact Zpf hF hlen _ | exact hv.sz.getD _) (by first | exact hx | (rw [hpw];exact Zpe hF)) (by first | exact Ztz hF hlen (by omega) hk | (rw [hpw];exact Zpd hF))) J J J K3 call153 J (by decide) Ze J hw J) fun _ _=>Yq J (Nl (n:=4) (i:=4) (Cg _ _ _ (by first | exact Zpf hF hlen _ | exact hv.sz.getD _) (by first | exact hx | (rw [hpw];exact Zpe hF)) (by first | exact Ztz hF hlen (by omega) hk | (rw [hpw];exact Zpd hF))) J J J K3 call153 J (by decide) Ze J hw J) fun _ _=>Yq J (Nl (n:=4) (i:=4) (Zpl _ _ _ (Ztz hF hlen (by omega) hk) (by rw [hpw];exact Zpd hF) (by rw [hpw,hst];exact Zpf hF hlen _)) J J J K3 call159 J (by decide) Ze J hw J) fun _ _=>Qs J (Zt (i:=97) K6 Yb K2 ⟨Zc J,Zc J,trivial⟩ J hw trivial) fun _ _=>Pv<|Qh ?_
      exact Za<|Zf<|mv J<|dt (Pq K3)<|Zo J<|Zd<|Xg (k-1) (by first | omega | (dsimp only<;>omega)) (by first | omega | (dsimp only<;>omega)) ⟨by rw [show((k-1:Nat):Int)-1=(k:Int)-1-1 by omega];rfl,rfl,rfl,rfl,rfl,rfl,rfl,trivial⟩ ⟨by rw [hpw,hst];rfl,by rw [hpw];rfl,rfl,rfl,rfl,rfl,rfl,trivial⟩
     ·refine Yt<|Zv<|Zv<|Pd<|Za<|Zb<|Zb<|Zf<|dt (Qy K2 Zfu J Zfo K2)<|dt (Qy K2 Zjy J Ie K2)<|dt (Mc (i:=4) K3 Ee J)<|dt (Pk K3)<|Zd<|Za<|Zr J (fun h198=>?_) (fun h198=>?_)
      ·exfalso;simp_all
      ·refine Zl<|Za<|Zb<|Zf<|dt (Qm (i:=97) K3 Xl Yb K2)<|tt (Zt (i:=3) K6 Yb K2 ⟨Zc J,Zc J,trivial⟩ J hw trivial) fun _ _=>Zo J<|Zd<|Za<|Zp ?_
       obtain rfl:k=0:=by omega
       have hE:¬Iv xs x y:=fun h=>by have:=h.2;omega
       exact Yr (.inl J) hsc () _ (fun a w hs=>Pz hs results186 (Yw (i:=3) J J Xl Yb J) J) (by unfold evv eve;rw [if_neg hE,if_neg hE,←Zr1]<;>rfl) trivial J Zm
theorem Zra(v:Value)(xs:List Int)(x y:Int)(hv:Vp xs)(hx:bl x.natAbs≤65536)(hy:bl y.natAbs≤65536)(hy0:0<y):Od prog 164 #[v,rX x y] [Pw 2 wv v xs] (.tuple #[.int .i64 (evv xs x y).sign,.int .i64 (eve xs x y)]):=by
 refine Yg func164 J ntmps164 J K1 fun w0 sc hw hsc=>?_
 simp only [Zs,Zq]
 have hlen:=hv.len
 exact Zb<|Zf<|tt (Xp (i:=2) K5 hw) fun b _=>Zo J<|Zo J<|Zd<|Za<|Zb<|Zf<|mv J<|dt (Pj (i:=2) K3 Xf Ym K4)<|tt (Yf (n:=2) (Zyb _ _ _ _ hv hx hy hy0) K5 call186 (Zi 1 K3 Ze) J hw) fun _ _=>mv J<|dt (Xa K3)<|dt (Xa K3)<|tt (Xi (i:=3) K2 zeroValue31 K2 hw) fun b_2 _=>tt (Zt (i:=3) K6 Yb K2 ⟨Zc J,Zc J,trivial⟩ J hw trivial) fun _ _=>Zo J<|Zd<|Za<|Zb<|Zf<|dt (Qm (i:=3) K3 Xl Yb K2)<|tt (Zy (n:=3) (Km _ (evv_bl hlen)) K4 call104 Ze J hw) fun _ _=>mv J<|Zo J<|Zo J<|Zd<|Za<|Zp<|Yr (.inl J) hsc () _ (fun a w hs=>Pz hs results164 J J) J trivial J Zm
theorem Zdn(bd:Nat)(v:Value)(xs:List Int)(hs:Sz 65536 xs):Zi0 prog 154 #[.pointer (some ⟨bd,0,none⟩),v] [Pw 2 wv v xs] true bd 167 #[.int .i64 0] (G:=Unit) (fun _=>True) (fun _=> .tuple #[Ix v (tzl xs).length,.int .i64 0]) (fun _=>#[.int .i64 0]) (fun _=>[Pw 2 wv (Ix v (tzl xs).length) (tzl xs)]):=by
 refine Zel func154 J ntmps154 J K1 fun w0 sc hw hsc=>?_
 simp only [Zs,Zq]
 refine Zb<|Zf<|Zo J<|Zo J<|Zd<|Za<|Zb<|Zb<|Zf<|mv J<|dt (Zay J J)<|dt (Qy K2 Zfu J Zfo K2)<|dt (Qy K2 Zjy J Ie K2)<|dt (Mc (i:=1) K3 Ee J)<|dt (Pk K3)<|Zd<|Za<|Zr J (fun h43=>?_) (fun h43=>?_)
 ·exfalso;simp_all
 ·exact Zl<|Za<|Zb<|Zf<|mv J<|tt (Zy (n:=3) (Zd6 _ _ ‹_›) K4 call152 (Zi 2 K3 Ze) J hw) fun _ _=>Zo J<|Zo J<|Zd<|Za<|Zp<|Ze0 (.inl J) hsc () _ (fun a w hs=>Pz hs results154 J J) J trivial 1 J J J J (Kg 3 K3 Zm)
theorem Zw4(v:Value)(xs:List Int)(hx:xs.length*24≤140737488355328:=by omega):Ygt prog 157 #[v] [Pw 2 wv v xs] (G:=Value) (fun r=>True) (fun r=>r) (fun r=>Lf 2 31 wv r xs):=by
 refine Zxd func157 J ntmps157 J K1 fun w0 sc hw hsc=>?_
 simp only [Zs,Zq]
 refine Mi (f_nil (i:=1) J Zg) fun hnil=>Zb<|Zf<|Zo J<|Zd<|Za<|Zb<|Zb<|Zf<|mv J<|dt (Zwt J J J (i:=1) J Zg Xn)<|Zd<|Za<|Mx J (fun h357=>?_) (fun h357=>?_)
 ·refine Zb<|Zf<|Zo J<|Zd<|Za<|Zp<|Yp ?_
  obtain rfl:xs=[]:=hnil (by simpa using h357)
  exact Qn (Nc 9 2 31 wv)<|Zns (.inl J) (.slice none 0 0) _ (fun a w hs=>Nr hs results157 J) J trivial J 9 J J J
 ·exact Zl<|Za<|Zb<|Zf<|tt (t_bs0 (i:=2) (enc:=wv) J J J Xn pV J hw) fun v _=>mv J<|tt (Ho (i:=2) (j:=1) (by_:=24) J J J J J J (by decide) J Zg Xn ti31 J pV J J J (by simp;omega) (by decide) J hw) fun v_2 _=>Zo J<|Zd<|Za<|Zp<|Zns (.inl J) _ _ (fun a w hs=>Nr hs results157 J) J trivial J 2 J (by rfl) J
theorem Zig(v:Value)(xs:List Int)(hv:Vp xs):Od prog 105 #[v] [Pw 2 wv v xs] (.tuple #[.int .i64 ((xs.length:Int)-1),.int .i64 0]):=by
 refine Yg func105 J ntmps105 J K1 fun w0 sc hw hsc=>?_
 simp only [Zs,Zq]
 have hlen:=hv.len
 exact Zb<|Zf<|Zo J<|Zo J<|Zd<|Za<|Zb<|Zb<|Zf<|mv J<|tt (Zy (n:=1) (Qt _ _ ‹_›) K4 Av (Zi 1 K3 Ze) J hw) fun _ _=>dt (Xh J J)<|Zd<|Za<|Yk J<|Zl<|Za<|Zb<|Zf<|mv J<|dt (Yc J J (i:=1) J Zg Xn)<|dt (Pq K3)<|Zo J<|Zo J<|Zd<|Za<|Zp<|Yr (.inl J) hsc () _ (fun a w hs=>Pz hs results105 J J) J trivial J Zm
theorem Zm2(v:Value)(xs:List Int)(hv:Vp xs):Od prog 106 #[v] [Pw 2 wv v xs] (.tuple #[.int .i64 (Pf xs:Int),.int .i64 0]):=by
 refine Yg func106 J ntmps106 J K1 fun w0 sc hw hsc=>?_
 simp only [Zs,Zq]
 exact Zb<|Zf<|Zo J<|Zo J<|Zd<|Za<|Zb<|Zb<|Zf<|mv J<|tt (Zy (n:=1) (Qt _ _ ‹_›) K4 Av (Zi 1 K3 Ze) J hw) fun _ _=>dt (Xh J J)<|Zd<|Za<|Yk J<|Zl<|Za<|Zb<|Zf<|mv J<|tt (Zy (n:=1) (Lj _ _ hv.sz) K4 Aw (Zi 1 K3 Ze) J hw) fun _ _=>Zo J<|Zo J<|Zd<|Za<|Zp<|Yr (.inl J) hsc () _ (fun a w hs=>Pz hs results106 J J) J trivial J Zm
theorem Zsk(bd:Nat)(v u:Value)(xs ys:List Int)(hv:Vp xs)(hu:Vp ys)(hz:∀i,bl (cf xs i-cf ys i).natAbs≤65536):Zi0 prog 136 #[v,u,.pointer (some ⟨bd,0,none⟩),.func (.func 137) #[.pointer (some ⟨bd,0,none⟩)] #[]] [Pw 2 wv v xs,Pw 2 wv u ys] true bd 167 #[.int .i64 0] (G:=Value) (fun r=>True) (fun r=> .tuple #[r,.int .i64 0]) (fun r=>#[.int .i64 0]) (fun r=>[Pw 2 wv r (Zat xs ys)]):=by
 refine Zel func136 J ntmps136 J K2 fun w0 sc hw hsc=>?_
 simp only [Zs,Zq]
 have hlen:=hv.len
 have hlen2:=hu.len
 refine Zb<|Zf<|Zo J<|Zo J<|Zd<|Za<|Zb<|Zb<|Zf<|mv J<|tt (Zy (n:=3) (Qt _ _ ‹_›) K4 Av (Zi 2 K3 Ze) J hw) fun _ _=>dt (Xh J J)<|mv J<|Zx (Ya K2) K2<|Pp (Zy (n:=3) (Qt _ _ ‹_›) K4 Av (Zi 3 K3 Ze) J hw) K3 fun _ _=>Zx (Xh J J) K2<|dt (Ql K3)<|Zd<|Za<|Yk J<|Zl<|Za<|Zb<|Zf<|mv J<|dt (Yc J J (i:=2) J Zg Xn)<|mv J<|dt (Yc J J (i:=3) J Zg Xn)<|dt (Zsi J J J)<|tt (Gh (i:=4) (n:=(max xs.length ys.length)) (by_:=24) (enc:=wv) 0 J J J J Xn ti31 J pV.cells pV.pos J J J hw) fun v _=>Zo J<|Zd<|Za<|Zb<|Zb<|Zf<|mv J<|dt (Yc J J (i:=4) J (Yu pV) Xn)<|mv J<|Zd<|Za<|Zn ?_
 refine Px [(0,_),(1,_),(2,_),(3,_),(10,_),(29,_)] [(0,_),(1,_),(2,_),(3,_)] (fun(k:Nat)=>[(30,.int .i64 (k:Int))]) (fun(k:Nat)=>[(4,Lf 2 31 wv v (fill (max xs.length ys.length) k (fun i=>cf xs i-cf ys i)))]) (fun(k:Nat)=>k≤max xs.length ys.length) (fun(k:Nat)=>max xs.length ys.length-k) 0 (by first | omega | (dsimp only<;>omega)) K7 ⟨by rw [Zbi (max xs.length ys.length) (fun i=>cf xs i-cf ys i)];rfl,rfl,rfl,rfl,rfl,trivial⟩ ?_
 rintro k hk
 simp only [CA,NA]
 have hlf:(fill (max xs.length ys.length) k (fun i=>cf xs i-cf ys i)).length=max xs.length ys.length:=Mg _ _ _
 refine Zb<|Zf<|dt (Pa K3)<|Zd<|Za<|Zb<|Zr J (fun h106=>?_) (fun h106=>?_)
 ·try rw [List.length_replicate]at *
  refine Zl<|Za<|Zb<|Zn<|Zb<|Zf<|mv J<|Zo J<|Zd<|Za<|Zb<|Zf<|tt (Xi (i:=5) K2 zeroValue31 K2 hw) fun b _=>tt (Xi (i:=6) K2 zeroValue31 K2 hw) fun b_2 _=>Zd<|Za<|Iy [(0,_),(1,_),(2,_),(3,_),(10,_),(11,_),(12,_),(13,_),(29,_),(30,_)] [(0,_),(4,_),(1,_),(2,_),(3,_),(6,_)] (fun(_:Unit)=>[]) (fun(_:Unit)=>[(5,box b 31 (wc (cf xs k)))]) (fun(_:Unit)=>True) K10 K6 ?_ ?_
  ·refine Zb<|Zf<|mv J<|mv J<|dt (Yc J J (i:=2) J Zg Xn)<|dt (Pa K3)<|Zd<|Za<|Zr J (fun h108=>?_) (fun h108=>?_)
   ·exact Zf<|mv J<|mv J<|dt (Nj (ii:=2) K4 Zg Xn Yb J (by first | omega | (simp only [List.length_set];omega)))<|dt (Ms (ii:=2) 0 K3 Zg pV (by first | omega | (simp only [List.length_set];omega)))<|tt (Zt (i:=5) K6 Yb K2 ⟨Zc J,Zc J,trivial⟩ J hw trivial) fun _ _=>Zd<|Xd () trivial K10 ⟨by first | rfl | (rw [Xt (p:=xs) (by omega)];rfl),rfl,rfl,rfl,rfl,rfl,rfl,trivial⟩
   ·exact Zl<|Xd () trivial K10 ⟨by first | rfl | (rw [Xt (p:=xs) (by omega)];rfl),rfl,rfl,rfl,rfl,rfl,rfl,trivial⟩
  ·rintro _ -
   simp only [CA,NA]
   refine Iy [(0,_),(1,_),(2,_),(3,_),(10,_),(11,_),(12,_),(13,_),(29,_),(30,_)] [(0,_),(5,_),(4,_),(1,_),(2,_),(3,_)] (fun(_:Unit)=>[]) (fun(_:Unit)=>[(6,box b_2 31 (wc (cf ys k)))]) (fun(_:Unit)=>True) K10 K6 ?_ ?_
   ·refine Zb<|Zf<|mv J<|mv J<|dt (Yc J J (i:=3) J Zg Xn)<|dt (Pa K3)<|Zd<|Za<|Zr J (fun h111=>?_) (fun h111=>?_)
    ·exact Zf<|mv J<|mv J<|dt (Nj (ii:=3) K4 Zg Xn Yb J (by first | omega | (simp only [List.length_set];omega)))<|dt (Ms (ii:=3) 0 K3 Zg pV (by first | omega | (simp only [List.length_set];omega)))<|tt (Zt (i:=6) K6 Yb K2 ⟨Zc J,Zc J,trivial⟩ J hw trivial) fun _ _=>Zd<|Xd () trivial K10 ⟨by first | rfl | (rw [Xt (p:=ys) (by omega)];rfl),rfl,rfl,rfl,rfl,rfl,rfl,trivial⟩
    ·exact Zl<|Xd () trivial K10 ⟨by first | rfl | (rw [Xt (p:=ys) (by omega)];rfl),rfl,rfl,rfl,rfl,rfl,rfl,trivial⟩
   ·rintro _ -
    simp only [CA,NA]
    exact Zf<|mv J<|mv J<|mv J<|dt (Qm (i:=5) K3 Xl Yb K2)<|dt (Qm (i:=6) K3 Xl Yb K2)<|tt (Zzk (n:=6) (i:=1) (fs:=[_]) (vs:=[_,_]) (Zt3 _ _ _ (hv.sz _) (hu.sz _) (hz _)) J J J J K2 call137 J (by decide) Ze J hw trivial) fun _ _=>dt (Nj (ii:=4) (i:=k) K4 (Yu pV) Xn Yb J (by rw [Mg];omega))<|tt (Ip (i:=4) (enc:=wv) _ J J J J J J pV J hw (by decide) (by rw [Mg];omega)) fun _ _=>Zd<|Qh<|Za<|Zf<|dt (Ov K3)<|mv J<|Zd<|Xg (k+1) (by first | omega | (dsimp only<;>omega)) (by first | omega | (dsimp only<;>omega)) K7 ⟨by rw [←Zgw (by omega)];rfl,rfl,rfl,rfl,rfl,trivial⟩
 ·try rw [List.length_replicate]at *
  refine Yt<|Zv<|Zv<|Pd<|Za<|Zb ?_
  obtain rfl:k=max xs.length ys.length:=by omega
  exact Yl (Qw 4 J J pV)<|Zf<|mv J<|mv J<|tt (Nl (n:=7) (i:=1) (Zdn _ _ _ (by rw [Aq];exact Zaf fun i _=>hz i)) J J J K2 call154 J (by decide) (Zi 4 K3 Ze) J hw trivial) fun _ _=>dt (Xa K3)<|dt (Xa K3)<|Zo J<|Zo J<|Zd<|Za<|Zp<|Ze0 (.inl J) hsc _ _ (fun a w hs=>Pz hs results136 J J) J trivial 1 J J J J (Lg 7 K3 (by rw [Aq]<;>rfl) Zm)
theorem Zq9(v u:Value)(xs ys:List Int)(hv:Vp xs)(hu:Vp ys)(hz:∀i,bl (cf xs i-cf ys i).natAbs≤65536):Cal prog 85 #[v,u] [Pw 2 wv v xs,Pw 2 wv u ys] true (G:=Value) (fun r=>True) (fun r=> .tuple #[r,.int .i64 0]) (fun r=>[Pw 2 wv r (Zat xs ys)]):=by
 refine Yg func85 J ntmps85 J K2 fun w0 sc hw hsc=>?_
 simp only [Zs,Zq]
 exact Zb<|Zf<|Zo J<|Zo J<|Zd<|Za<|Zb<|Zf<|tt (Xi (i:=3) K2 zeroValue167 K2 hw) fun b _=>Zd<|Za<|Zb<|Zf<|mv J<|mv J<|dt (d_mkf (vs:=[_]) J K1)<|tt (Nl (n:=4) (i:=3) (Zsk _ _ _ _ _ ‹_› ‹_› ‹_›) J J J K4 call136 J (by decide) (Zi 1 K3 (Zi 2 K3 Ze)) J hw trivial) fun _ _=>dt (Xa K3)<|dt (Xa K3)<|Zo J<|Zo J<|Zd<|Za<|Zp<|Yr (.inl J) hsc _ _ (fun a w hs=>Pz hs results85 J J) J trivial J (Kg 4 K3 Zm)
theorem Ya8(v u:Value)(xs ys:List Int)(hv:Vp xs)(hu:Vp ys)(hF:¬Zgr xs ys):Cal prog 112 #[v,u] [Pw 2 wv v xs,Pw 2 wv u ys] true (G:=Value) (fun r=>True) (fun r=> .tuple #[r,.int .i64 0]) (fun r=>[Pw 2 wv r (Oo xs ys)]):=by
 refine Yg func112 J ntmps112 J K2 fun w0 sc hw hsc=>?_
 simp only [Zs,Zq]
 have hlen:=hv.len
 have hlen2:=hu.len
 have hm1:=Oc hv.sz
 have hm2:=Oc hu.sz
 refine Zb<|Zf<|Zo J<|Zo J<|Zd<|Za<|Zb<|Zb<|Zf<|mv J<|tt (Zy (n:=2) (Qt _ _ ‹_›) K4 Av (Zi 1 K3 Ze) J hw) fun _ _=>dt (Xh J J)<|mv J<|Zx (Ya K2) K2<|Pp (Zy (n:=2) (Qt _ _ ‹_›) K4 Av (Zi 2 K3 Ze) J hw) K3 fun _ _=>Zx (Xh J J) K2<|dt (Ql K3)<|Zd<|Za<|Yk J<|Zl<|Za<|Zb<|Zb<|Zf<|mv J<|dt (Yc J J (i:=1) J Zg Xn)<|dt (Hf K3)<|mv J<|Pb (d:=23) J (fun s136=>?_) (fun s136=>?_)
 ·exact Yj K3<|Yj K3<|Yj K3<|dt (Om K3)<|Zd<|Za<|Of J<|Zb<|Zf<|Zo J<|Zo J<|Zd<|Za<|Zp<|Yp<|Yr (.inl J) hsc _ _ (fun a w hs=>Pz hs results112 J J) J trivial J (Ii (Zba (p:=xs) (q:=ys) (by first | (left;omega) | (right;omega))) Zm)
 ·refine Zx (Ya K2) K2<|Zx (Yc J J (i:=2) J Zg Xn) K2<|Zx (Hf K3) K2<|dt (Ql K3)<|Zd<|Za<|Zr J (fun h136=>?_) (fun h136=>?_)
  ·exact Zb<|Zf<|Zo J<|Zo J<|Zd<|Za<|Zp<|Yp<|Yr (.inl J) hsc _ _ (fun a w hs=>Pz hs results112 J J) J trivial J (Ii (Zba (p:=xs) (q:=ys) (by first | (left;omega) | (right;omega))) Zm)
  ·have hnx:xs≠[]:=by intro e;subst e;simp_all
   have hny:ys≠[]:=by intro e;subst e;simp_all
   have hlx:0<xs.length:=List.length_pos_iff.2 hnx
   have hly:0<ys.length:=List.length_pos_iff.2 hny
   refine Zl<|Za<|Zb<|Zb<|Zf<|mv J<|dt (Yc J J (i:=1) J Zg Xn)<|mv J<|dt (Yc J J (i:=2) J Zg Xn)<|dt (Ov K3)<|dt (Pq K3)<|dt (Fd K3)<|mv J<|Pb (d:=35) J (fun s139=>?_) (fun s139=>?_)
   ·exfalso;exact hF ⟨hnx,hny,.inl (by omega)⟩
   ·refine Zx (Ya K2) K2<|Pp (Zy (n:=2) (Lj _ _ (by first | exact hv.sz | exact hu.sz)) K4 Aw (Zi 1 K3 Ze) J hw) K3 fun _ _=>Zx (Ya K2) K2<|Pp (Zy (n:=2) (Lj _ _ (by first | exact hv.sz | exact hu.sz)) K4 Aw (Zi 2 K3 Ze) J hw) K3 fun _ _=>Zx (Ov K3) K2<|Zx (Ov K3) K2<|Zx (Fd K3) K2<|dt (Ql K3)<|Zd<|Za<|Zr J (fun h139=>?_) (fun h139=>?_)
    ·exfalso;exact hF ⟨hnx,hny,by first | (left;omega) | (right;omega)⟩
    ·have hsz:Pf xs+Pf ys+5≤65536:=by omega
     have hpq:∀i j,bl (cf xs i*cf ys j).natAbs≤65536:=fun i j=>by have:=Qb (cf xs i) (cf ys j);have:=On xs i;have:=On ys j;omega
     have hac:∀i j t,i<25→bl (Zbs xs ys i j t).natAbs≤65536:=fun i j t hi=>by have:=Ygq (i:=i) (j:=j) (t:=t) (On xs) (On ys) (by omega);omega
     have hacc:∀t,bl (acc xs ys xs.length t).natAbs≤65536:=fun t=>by have:=bl_acc (i:=xs.length) (t:=t) (On xs) (On ys) (by omega);omega
     have hsum:∀i j,i<25→bl (Zbs xs ys i j (i+j)+cf xs i*cf ys j).natAbs≤65536:=fun i j hi=>by rw [←Zy8];exact hac i (j+1) _ hi
     refine Zl<|Za<|Zb<|Zf<|tt (Xi (i:=3) K2 zeroValue167 K2 hw) fun b _=>Zd<|Za<|Zb<|Zf<|mv J<|dt (Yc J J (i:=1) J Zg Xn)<|mv J<|dt (Yc J J (i:=2) J Zg Xn)<|dt (Ov K3)<|dt (Pq K3)<|tt (Gh (i:=4) (n:=(xs.length+ys.length-1)) (by_:=24) (enc:=wv) 0 J J J J Xn ti31 J pV.cells pV.pos J J J hw) fun v _=>Zo J<|Zd<|Za<|Zb<|Zb<|Zf<|mv J<|dt (Yc J J (i:=1) J Zg Xn)<|mv J<|Zd<|Za<|Zn<|Px [(1,_),(6,_),(7,_),(51,_),(52,_)] [(0,_),(1,_),(2,_),(3,_)] (fun(i:Nat)=>[(53,.int .i64 (i:Int))]) (fun(i:Nat)=>[(4,Lf 2 31 wv v (mk (xs.length+ys.length-1) (acc xs ys i)))]) (fun(i:Nat)=>i≤xs.length) (fun(i:Nat)=>xs.length-i) 0 (by first | omega | (dsimp only<;>omega)) K6 ⟨by rw [Zoh];rfl,rfl,rfl,rfl,rfl,trivial⟩ ?_
     rintro i hi
     simp only [CA,NA]
     refine Zb<|Zf<|dt (Pa K3)<|Zd<|Za<|Zb<|Zr J (fun h144=>?_) (fun h144=>?_)
     ·refine Zl<|Za<|Zb<|Zn<|Zb<|Zf<|mv J<|dt (Nj (ii:=1) K4 Zg Xn Yb J (by first | omega | (simp only [List.length_set];omega)))<|dt (Ms (ii:=1) 0 K3 Zg pV (by first | omega | (simp only [List.length_set];omega)))<|tt (Xi (i:=5) K2 zeroValue31 K2 hw) fun b_2 _=>Zo J<|tt (Zt (i:=5) K6 Yb K2 ⟨Zc J,Zc J,trivial⟩ J hw trivial) fun _ _=>Zd<|Za<|Zb<|Zf<|mv J<|dt (Yc J J (i:=2) J Zg Xn)<|mv J<|Zd<|Za<|Zn<|Px [(1,_),(6,_),(7,_),(8,_),(9,_),(51,_),(52,_),(53,_),(58,_),(59,_)] [(0,_),(1,_),(2,_),(3,_),(5,_)] (fun(j:Nat)=>[(60,.int .i64 (j:Int))]) (fun(j:Nat)=>[(4,Lf 2 31 wv v (mk (xs.length+ys.length-1) (Zbs xs ys i j)))]) (fun(j:Nat)=>j≤ys.length) (fun(j:Nat)=>ys.length-j) 0 (by first | omega | (dsimp only<;>omega)) K11 ⟨by rw [Zy7];rfl,rfl,rfl,rfl,rfl,rfl,trivial⟩ ?_
      rintro j hj
      simp only [CA,NA]
      have hgd:i+j<xs.length+ys.length-1→(mk (xs.length+ys.length-1) (Zbs xs ys i j)).getD (i+j) 0=Zbs xs ys i j (i+j):=fun h=>Zef h
      refine Zb<|Zf<|dt (Pa K3)<|Zd<|Za<|Zb<|Zr J (fun h145=>?_) (fun h145=>?_)
      ·refine Zl<|Za<|Zb<|Zn<|Zb<|Zf<|mv J<|dt (Nj (ii:=2) K4 Zg Xn Yb J (by first | omega | (simp only [List.length_set];omega)))<|dt (Ms (ii:=2) 0 K3 Zg pV (by first | omega | (simp only [List.length_set];omega)))<|tt (Xi (i:=6) K2 zeroValue31 K2 hw) fun b_3 _=>Zo J<|tt (Zt (i:=6) K6 Yb K2 ⟨Zc J,Zc J,trivial⟩ J hw trivial) fun _ _=>Zd<|Za<|Qj (fun x=>x=b) [(0,0),(1,0),(2,0),(3,0),(4,0),(5,0),(6,0),(7,0),(8,0),(9,0),(10,0),(11,0),(12,1),(13,1),(14,0),(15,3)] ?_ ?_
       ·kernel_rfl
       refine Zh K2 (Ka 3 J (Ya K2))<|Zh K2 (Ka 3 J (Ya K2))<|Zh K2 (Ka 3 J (Ya K2))<|Zh K2 (Ka 3 J (Ov K3))<|Zh K2 (Ka 3 J (Ya K2))<|Zh K2 (Ka 3 J (Ya K2))<|Zh K2 (Ka 3 J (Ya K2))<|Zh K2 (Ka 3 J (Ov K3))<|Zh K2 (Ka 3 J (Nj (ii:=4) (i:=(i+j)) K4 (Yu pV) Xn Yb (by omega) (by rw [Qe];omega)))<|Zh K2 (Ka 3 J (Ms (ii:=4) 0 K3 (Yu pV) pV (by rw [Qe];omega)))<|Zh K2 (Ka 3 J (Qm (i:=5) K3 Xl Yb K2))<|Zh K2 (Ka 3 J (Qm (i:=6) K3 Xl Yb K2))<|Yq J (Nl (n:=6) (i:=3) (Cg _ _ _ (hv.sz _) (hu.sz _) (hpq i j)) J J J K3 call153 J (by decide) Ze J hw J) fun _ _=>Yq J (Nl (n:=6) (i:=3) (Zpl _ _ _ (by rw [hgd (by omega)];exact hac i j _ (by omega)) (hpq i j) (by rw [hgd (by omega)];exact hsum i j (by omega))) J J J K3 call159 J (by decide) Ze J hw J) fun _ _=>Zh K2 (Ka 3 J (Nj (ii:=4) (i:=(i+j)) K4 (Yu pV) Xn Yb (by omega) (by rw [Qe];omega)))<|Qs J (Ip (i:=4) (enc:=wv) _ J J J J J J pV J hw (by decide) (by rw [Qe];omega)) fun _ _=>Pv<|Qh<|Za<|Zf<|dt (Ov K3)<|mv J<|Zd ?_
       exact Xg (j+1) (by first | omega | (dsimp only<;>omega)) (by first | omega | (dsimp only<;>omega)) K11 ⟨by rw [←Ydm (by omega),←hgd (by omega)];rfl,rfl,rfl,rfl,rfl,rfl,trivial⟩
      ·refine Yt<|Zv<|Zv<|Pd<|Qh<|Za<|Zf<|dt (Ov K3)<|mv J<|Zd ?_
       obtain rfl:j=ys.length:=by omega
       exact Xg (i+1) (by first | omega | (dsimp only<;>omega)) (by first | omega | (dsimp only<;>omega)) K6 ⟨by rw [←Ydn];rfl,rfl,rfl,rfl,rfl,trivial⟩
     ·refine Yt<|Zv<|Zv<|Pd<|Za<|Zb ?_
      obtain rfl:i=xs.length:=by omega
      exact Yl (Qw 4 J J pV)<|Zf<|mv J<|tt (Nl (n:=7) (i:=3) (Zdn _ _ _ (Zaf fun t _=>hacc t)) J J J K2 call154 J (by decide) (Zi 4 K3 Ze) J hw trivial) fun _ _=>dt (Xa K3)<|dt (Xa K3)<|Zo J<|Zo J<|Zd<|Za<|Zp<|Yr (.inl J) hsc _ _ (fun a w hs=>Pz hs results112 J J) J trivial J (Lg 7 K3 (by rw [Ybb]<;>rfl) Zm)
end Go.Sky

