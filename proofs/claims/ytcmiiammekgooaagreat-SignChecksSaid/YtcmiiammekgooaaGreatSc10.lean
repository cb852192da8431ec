/- Rules, arithmetic and contracts: part 11. No conditions but those that each theorem names. -/
import Derived.Test.YtcmiiammekgooaaGreatSc09
set_option linter.all false
namespace Go.Sky
open Go.Proofs.Tryz
open Go.Proofs
set_option maxRecDepth 20000
set_option maxHeartbeats 4000000
set_option linter.unusedSimpArgs false
theorem Ae(v:Value)(xs:List Int)(c:Int)(hv:Vp xs)(hc:bl c.natAbs≤65536)(hz:∀i,bl (cf xs i*c).natAbs≤65536):Cal prog 151 #[v,wv c] [Px 2 wv v xs] true (G:=Value) (fun r=>True) (fun r=> .tuple #[r,.int .i64 0]) (fun r=>[Px 2 wv r (Xw xs c)]):=by
 refine Yi func151 J ntmps151 J K1 fun w0 sc hw hsc=>?_
 simp only [Zu,Zt]
 have hlen:=hv.len
 refine Zb<|Ze<|tt (Yw (i:=2) J J J J J hw) fun b _=>Zp J<|Zp J<|Zc<|Za<|Zb<|Zb<|Ze<|mv J<|tt (Zh (n:=2) (Qx _ _ ‹_›) J J J K1 Bq (Zd 1 J J J Zg) J hw) fun _ _=>dt (Xl J J)<|mv J<|Xh (Yb (i:=2) J J J Xs Ye J J) J J<|Lz (Zh (n:=2) (Hx _ ‹_›) J J J K1 Zez Zg J hw) J J J fun _ _=>Xh (Xl J J) J J<|dt (Yh J J J)<|Zc<|Za<|Yp J<|Zk<|Za<|Zb<|Ze<|tt (Zy (i:=3) J J zeroValue167 J J hw) fun b_2 _=>Zc<|Za<|Zb<|Ze<|mv J<|dt (Yf J J (i:=1) J Zi Xx)<|tt (Ge (i:=4) (n:=_) (by_:=24) (enc:=wv) 0 J J J J Xx ti31 J pV.cells pV.pos J J J hw J J) fun v _=>Zp J<|Zc<|Za<|Zb<|Zb<|Ze<|mv J<|dt (Yf J J (i:=1) J Zi Xx)<|mv J<|Zc<|Za<|Zo<|Oc [(3,_),(6,_),(7,_),(21,_),(22,_)] [(0,_),(1,_),(2,_),(3,_)] (fun(k:Nat)=>[(23,.int .i64 (k:Int))]) (fun(k:Nat)=>[(4,Ld 2 31 wv v (fill xs.length k (fun i=>cf xs i*c)))]) (fun(k:Nat)=>k≤xs.length) (fun(k:Nat)=>xs.length-k) 0 (by first | omega | (dsimp only<;>omega)) K6 ⟨by rw [Zbc xs.length (fun i=>cf xs i*c)];rfl,rfl,rfl,rfl,rfl,trivial⟩ ?_
 rintro k hk
 simp only [CA,NA]
 refine Zb<|Ze<|dt (Xv J J J)<|Zc<|Za<|Zb<|Zr J (fun h159=>?_) (fun h159=>?_)
 ·exact Zk<|Za<|Zb<|Zo<|Zb<|Ze<|mv J<|dt (Xc (ii:=1) J J J J Zi Xx Ye J (by first | omega | (simp only [List.length_set];omega)))<|dt (Xr (ii:=1) 0 J J J Zi pV (by first | omega | (simp only [List.length_set];omega)))<|tt (Zy (i:=5) J J zeroValue31 J J hw) fun b_3 _=>Zp J<|tt (Zl (i:=5) J J J J J J Ye J J ⟨Zf J,Zf J,trivial⟩ J hw trivial) fun _ _=>Zc<|Za<|Ze<|mv J<|mv J<|dt (Yb (i:=5) J J J Xs Ye J J)<|dt (Yb (i:=2) J J J Xs Ye J J)<|tt (Ns (n:=5) (i:=3) (Ca _ _ _ (hv.sz.getD _) hc (hz _)) J J J K3 call153 J (by decide) Zg J hw trivial) fun _ _=>dt (Xc (ii:=4) (i:=k) J J J J (Xa pV) Xx Ye J (by rw [Mj];omega))<|tt (Im (i:=4) (enc:=wv) _ J J J J J J pV J hw (by decide) (by rw [Mj];omega)) fun _ _=>Zc<|Qn<|Za<|Ze<|dt (Ys J J J)<|mv J<|Zc<|Xk (k+1) (by first | omega | (dsimp only<;>omega)) (by first | omega | (dsimp only<;>omega)) K6 ⟨by rw [←Zgx (by omega)];rfl,rfl,rfl,rfl,rfl,trivial⟩
 ·refine Yx<|Zx<|Zx<|Pd<|Za<|Zb ?_
  obtain rfl:k=xs.length:=by omega
  exact Yo (Pg 4 J J pV)<|Yo (Zzx 3 J J)<|Ze<|mv J<|tt (Zh (n:=6) (Yco _ _ _ (by rw [Ak];exact Az fun i _=>hz i)) J J J K2 call154 (Zd 3 J J J (Zd 4 J J J Zg)) J hw) fun _ _=>dt (Zz J J J)<|dt (Zz J J J)<|Zp J<|Zp J<|Zc<|Za<|Zq<|Yu (.inl J) hsc _ _ (fun a w hs=>Og hs results151 J J) J trivial J (Xe 6 J J J (by rw [Zxv]<;>rfl) Zm)
theorem Ay(v:Value)(xs:List Int)(hv:Vp xs)(hz:∀i,bl (cf xs (i+1)*((i:Int)+1)).natAbs≤65536):Cal prog 109 #[v] [Px 2 wv v xs] true (G:=Value) (fun r=>True) (fun r=> .tuple #[r,.int .i64 0]) (fun r=>[Px 2 wv r (Qi xs)]):=by
 refine Yi func109 J ntmps109 J K1 fun w0 sc hw hsc=>?_
 simp only [Zu,Zt]
 have hlen:=hv.len
 refine Zb<|Ze<|Zp J<|Zp J<|Zc<|Za<|Zb<|Zb<|Ze<|mv J<|tt (Zh (n:=1) (Qx _ _ ‹_›) J J J K1 Bq (Zd 1 J J J Zg) J hw) fun _ _=>dt (Xl J J)<|Zc<|Za<|Yp J<|Zk<|Za<|Zb<|Zb<|Ze<|mv J<|dt (Yf J J (i:=1) J Zi Xx)<|dt (Pj J J J)<|Zc<|Za<|Zr J (fun h170=>?_) (fun h170=>?_)
 ·exact Zb<|Ze<|Zp J<|Zp J<|Zc<|Za<|Zq<|Yn<|Yu (.inl J) hsc _ _ (fun a w hs=>Og hs results109 J J) J trivial J (Ig (Yay (by omega)) Zm)
 ·refine Zk<|Za<|Zb<|Ze<|tt (Zy (i:=2) J J zeroValue167 J J hw) fun b _=>Zc<|Za<|Zb<|Ze<|mv J<|dt (Yf J J (i:=1) J Zi Xx)<|dt (Qd J J J)<|tt (Ge (i:=3) (n:=(xs.length-1)) (by_:=24) (enc:=wv) 0 J J J J Xx ti31 J pV.cells pV.pos J J J hw) fun v _=>Zp J<|Zc<|Za<|Zb<|Zb<|Ze<|mv J<|dt (Yf J J (i:=3) J (Xa pV) Xx)<|mv J<|Zc<|Za<|Zo<|Oc [(0,_),(4,_),(5,_),(18,_)] [(0,_),(1,_),(2,_)] (fun(k:Nat)=>[(19,.int .i64 (k:Int))]) (fun(k:Nat)=>[(3,Ld 2 31 wv v (fill (xs.length-1) k (fun i=>cf xs (i+1)*((i:Int)+1))))]) (fun(k:Nat)=>k≤xs.length-1) (fun(k:Nat)=>xs.length-1-k) 0 (by first | omega | (dsimp only<;>omega)) K5 ⟨by rw [Zbc (xs.length-1) (fun i=>cf xs (i+1)*((i:Int)+1))];rfl,rfl,rfl,rfl,trivial⟩ ?_
  rintro k hk
  simp only [CA,NA]
  have hlf:(fill (xs.length-1) k (fun i=>cf xs (i+1)*((i:Int)+1))).length=xs.length-1:=Mj _ _ _
  refine Zb<|Ze<|dt (Xv J J J)<|Zc<|Za<|Zb<|Zr J (fun h175=>?_) (fun h175=>?_)
  ·try rw [List.length_replicate]at *
   refine Zk<|Za<|Zb<|Zo<|Zb<|Ze<|mv J<|Zp J<|Zc<|Za<|Qs (fun x=>x=b) [(0,0),(1,0),(2,0),(3,0),(4,0),(5,0),(6,0),(7,0),(8,0),(9,1),(10,1),(11,0),(12,3)] ?_ ?_
   ·kernel_rfl
   exact Zs J J (Ke 2 J (Yd J J))<|Zs J J (Ke 2 J (Yd J J))<|Zs J J (Ke 2 J (Yd J J))<|Zs J J (Ke 2 J (Yd J J))<|Zs J J (Ke 2 J (Ys J J J))<|Zs J J (Ke 2 J (Xc (ii:=1) (i:=k+1) J J J J Zi Xx Ye))<|Zs J J (Ke 2 J (Xr (ii:=1) 0 J J J Zi pV))<|Zs J J (Ke 2 J (Yd J J))<|Zs J J (Ke 2 J (Ys J J J))<|Xb J (Zh (n:=3) (Qg _ (by first | assumption | exact⟨by omega,by omega⟩)) J J J K1 Gy Zg J hw) fun _ _=>Xb J (Ns (n:=3) (i:=2) (Ca _ (cf xs (k+1)) ((k:Int)+1) (hv.sz _) (Nat.le_trans (Ny (n:=32) (by omega)) (by decide)) (hz k)) J J J K3 call153 J (by decide) Zg J hw J) fun _ _=>Zs J J (Ke 2 J (Xc (ii:=3) (i:=k) J J J J (Xa pV) Xx Ye J (by rw [Mj];omega)))<|Po J (Im (i:=3) (enc:=wv) _ J J J J J J pV J hw (by decide) (by rw [Mj];omega)) fun _ _=>Ob<|Qn<|Za<|Ze<|dt (Ys J J J)<|mv J<|Zc<|Xk (k+1) (by first | omega | (dsimp only<;>omega)) (by first | omega | (dsimp only<;>omega)) K5 ⟨by rw [←Zgx (by omega)];rfl,rfl,rfl,rfl,trivial⟩
  ·try rw [List.length_replicate]at *
   refine Yx<|Zx<|Zx<|Pd<|Za<|Zb ?_
   obtain rfl:k=xs.length-1:=by omega
   exact Yo (Pg 3 J J pV)<|Yo (Zzx 2 J J)<|Ze<|mv J<|tt (Zh (n:=4) (Yco _ _ _ (by rw [Ak];exact Az fun i _=>hz i)) J J J K2 call154 (Zd 2 J J J (Zd 3 J J J Zg)) J hw) fun _ _=>dt (Zz J J J)<|dt (Zz J J J)<|Zp J<|Zp J<|Zc<|Za<|Zq<|Yu (.inl J) hsc _ _ (fun a w hs=>Og hs results109 J J) J trivial J (Xe 4 J J J (by rw [Yel hv.tr]<;>rfl) Zm)
theorem Zoh(v:Value)(xs:List Int)(hv:Vp xs):On prog 181 #[v] [Px 2 wv v xs] (.tuple #[wv (Ql xs),.int .i64 0]):=by
 refine Yi func181 J ntmps181 J K1 fun w0 sc hw hsc=>?_
 simp only [Zu,Zt]
 have hlen:=hv.len
 have hcb:∀k,bl (Ql (xs.take k)).natAbs≤65536:=fun k=>Zgl _ (hv.sz.take k)
 refine Zb<|Ze<|tt (Zy (i:=2) J J zeroValue31 J J hw) fun b _=>Zp J<|Zc<|Za<|Zb<|Zb<|Ze<|mv J<|tt (Zh (n:=2) (Qx _ _ ‹_›) J J J K1 Bq (Zd 1 J J J Zg) J hw) fun _ _=>dt (Xl J J)<|Zc<|Za<|Yp J<|Zk<|Za<|Zb<|Ze<|tt (Zy (i:=3) J J zeroValue167 J J hw) fun b_2 _=>Zc<|Za<|Zb<|Ze<|tt (Zy (i:=4) J J zeroValue31 J J hw) fun b_3 _=>Zc<|Za<|Zb<|Zb<|Ze<|mv J<|dt (Yf J J (i:=1) J Zi Xx)<|mv J<|Zc<|Za<|Zo<|Oc [(2,_),(4,_),(5,_),(12,_),(13,_)] [(0,_),(1,_),(2,_)] (fun(k:Nat)=>[(14,.int .i64 (k:Int))]) (fun(k:Nat)=>[(4,box b_3 31 #[.bool (decide (Ql (xs.take k)<0)),.string (Xp (Ql (xs.take k)).natAbs)]),(3,box b_2 167 #[.int .i64 0])]) (fun(k:Nat)=>k≤xs.length) (fun(k:Nat)=>xs.length-k) 0 (by first | omega | (dsimp only<;>omega)) K6 K5 ?_
 rintro k hk
 simp only [CA,NA]
 have hgc:=fun h=>Ie (p:=xs) (k:=k) h
 refine Zb<|Ze<|dt (Xv J J J)<|Zc<|Za<|Zb<|Zr J (fun h264=>?_) (fun h264=>?_)
 ·refine Zk<|Za<|Zb<|Zo<|Zb<|Ze<|dt (Xc (ii:=1) J J J J Zi Xx Ye J (by first | omega | (simp only [List.length_set];omega)))<|dt (Xr (ii:=1) 0 J J J Zi pV (by first | omega | (simp only [List.length_set];omega)))<|tt (Zy (i:=5) J J zeroValue31 J J hw) fun b_4 _=>tt (Zl (i:=5) J J J J J J Ye J J ⟨Zf J,Zf J,trivial⟩ J hw trivial) fun _ _=>Zc<|Za<|Ze<|dt (Yv J J Zfu J Zfo J J)<|dt (Yb (i:=4) J J J Xs Ye J J)<|dt (Yb (i:=5) J J J Xs Ye J J)<|tt (Zh (n:=5) (Zyy (Ql (xs.take k)) (xs.getD k 0) (hcb _) (hv.sz.getD _)) J J J K2 call196 Zg J hw) fun _ _=>dt (Zz J J J)<|dt (Zz J J J)<|tt (Ns (n:=5) (i:=3) (Zo1 _ _ _ _ _ _) J J J K3 call175 J (by decide) Zg J hw trivial) fun _ _=>tt (Zl (i:=4) J J J J J J Ye J J ⟨Zf J,Zf J,trivial⟩ J hw trivial) fun _ _=>Zc<|Qn<|Za<|Ze<|dt (Ys J J J)<|mv J<|Zc ?_
  have hc1:=hcb (k+1)
  rw [hgc (by omega)]at hc1
  exact Xk (k+1) (by first | omega | (dsimp only<;>omega)) (by first | omega | (dsimp only<;>omega)) K6 ⟨by rw [hgc (by omega)];simp only [Mg hc1];rfl,by simp only [Bo hc1];rfl,rfl,rfl,rfl,trivial⟩
 ·exact Yx<|Zx<|Zx<|Pd<|Za<|Zb<|Nm [3,4] [5]<|Ya (n:=0) [(0,0),(1,0),(2,0),(3,0),(4,1),(5,3)]<|Zs J J (Xm (Yb (i:=4) J J J Xs Ye J J) K2)<|Zs J J (Xm (Yv J J Zfu J Zfo J J) K2)<|Zs J J (Xm (Yv J J Zjr J Ih J J) K2)<|Zs J J (Xm (Qw (i:=3) J J J Eo J) K2)<|Xb J (Zcp 2 J J K2 (fun ob=>Zl (i:=2) J J J J J J Ye J J ⟨Zf J,Zf J,trivial⟩ J hw ob)) fun _ _=>Po J (Od (Mb J J) J) fun _ _=>Yl<|Yk<|Za<|Zq<|Yu (.inl J) hsc () _ (fun a w hs=>Og hs results181 (Xg (i:=2) J J Xs Ye J) J) (by rw [show k=xs.length by omega,List.take_length]<;>rfl) trivial J Zm
theorem Zl0(v:Value)(xs:List Int)(c:Int)(hv:Sz 65536 xs)(hlen:xs.length≤1000)(hc:bl c.natAbs≤65536)(hd:∀i,c∣cf xs i)(hc0:xs≠[]→c≠0):Cal prog 182 #[v,wv c] [Px 2 wv v xs] true (G:=Value) (fun r=>True) (fun r=> .tuple #[r,.int .i64 0]) (fun r=>[Px 2 wv r (xs.map (· / c))]):=by
 refine Yi func182 J ntmps182 J K1 fun w0 sc hw hsc=>?_
 simp only [Zu,Zt]
 refine Zb<|Ze<|tt (Yw (i:=2) J J J J J hw) fun b _=>Zp J<|Zp J<|Zc<|Za<|Zb<|Ze<|mv J<|dt (Yf J J (i:=1) J Zi Xx)<|tt (Ge (i:=3) (n:=_) (by_:=24) (enc:=wv) 0 J J J J Xx ti31 J pV.cells pV.pos J J J hw J J) fun v _=>Zp J<|Zc<|Za<|Zb<|Zb<|Ze<|mv J<|dt (Yf J J (i:=1) J Zi Xx)<|mv J<|Zc<|Za<|Zo<|Oc [(3,_),(6,_),(15,_),(16,_)] [(0,_),(1,_),(2,_)] (fun(k:Nat)=>[(17,.int .i64 (k:Int))]) (fun(k:Nat)=>[(3,Ld 2 31 wv v (fill xs.length k (fun i=>cf xs i/c)))]) (fun(k:Nat)=>k≤xs.length) (fun(k:Nat)=>xs.length-k) 0 (by first | omega | (dsimp only<;>omega)) K5 ⟨by rw [Zbc xs.length (fun i=>cf xs i/c)];rfl,rfl,rfl,rfl,trivial⟩ ?_
 rintro k hk
 simp only [CA,NA]
 have hcl:Zbf (xs.getD k 0/c)=cf xs k/c:=Mg (Ea (hd k) (hv k))
 refine Zb<|Ze<|dt (Xv J J J)<|Zc<|Za<|Zb<|Zr J (fun h273=>?_) (fun h273=>?_)
 ·refine Zk<|Za<|Zb<|Zo<|Zb<|Ze<|mv J<|dt (Xc (ii:=1) J J J J Zi Xx Ye J (by first | omega | (simp only [List.length_set];omega)))<|dt (Xr (ii:=1) 0 J J J Zi pV (by first | omega | (simp only [List.length_set];omega)))<|tt (Zy (i:=4) J J zeroValue31 J J hw) fun b_2 _=>Zp J<|tt (Zl (i:=4) J J J J J J Ye J J ⟨Zf J,Zf J,trivial⟩ J hw trivial) fun _ _=>Zc<|Za<|Zb<|Ze<|dt (Yb (i:=4) J J J Xs Ye J J)<|dt (Yb (i:=2) J J J Xs Ye J J)<|tt (Zh (n:=4) (Zat _ _ (hv.getD _) hc (hc0 (by intro e;rw [e]at h273;simp at h273;omega))) J J J K2 call158 Zg J hw) fun _ _=>mv J<|dt (Zz J J J)<|dt (Zz J J J)<|dt (Zz J J J)<|tt (Zy (i:=5) J J zeroValue31 J J hw) fun b_3 _=>tt (Zy (i:=6) J J zeroValue31 J J hw) fun b_4 _=>tt (Zl (i:=5) J J J J J J Ye J J ⟨Zf J,Zf J,trivial⟩ J hw trivial) fun _ _=>tt (Zl (i:=6) J J J J J J Ye J J ⟨Zf J,Zf J,trivial⟩ J hw trivial) fun _ _=>Zp J<|Zc<|Za<|Zb<|Zb<|Ze<|mv J<|dt (Xz J J J)<|Zc<|Za<|Zr J (fun h275=>?_) (fun h275=>?_)
  ·exfalso;simp_all
  ·exact Zk<|Za<|Ze<|mv J<|mv J<|dt (Yb (i:=5) J J J Xs Ye J J)<|dt (Xc (ii:=3) (i:=k) J J J J (Xa pV) Xx Ye J (by rw [Mj];omega))<|tt (Im (i:=3) (enc:=wv) _ J J J J J J pV J hw (by decide) (by rw [Mj];omega)) fun _ _=>Zc<|Qn<|Za<|Ze<|dt (Ys J J J)<|mv J<|Zc<|Xk (k+1) (by first | omega | (dsimp only<;>omega)) (by first | omega | (dsimp only<;>omega)) K5 ⟨by rw [←Zgx (by omega)];simp only [hcl];rfl,rfl,rfl,rfl,trivial⟩
 ·refine Yx<|Zx<|Zx<|Pd<|Za<|Zb<|Ze<|mv J<|Zp J<|Zp J<|Zc<|Za<|Zq ?_
  obtain rfl:k=xs.length:=by omega
  exact Yu (.inl J) hsc _ _ (fun a w hs=>Og hs results182 J J) J trivial J (Nj 3 J J pV (by rw [Ak,Zov xs (· / c)]<;>rfl) Zm)
theorem Ku(v:Value)(xs:List Int)(hv:Vp xs):Cal prog 150 #[v] [Px 2 wv v xs] true (G:=Value) (fun r=>True) (fun r=> .tuple #[r,.int .i64 0]) (fun r=>[Px 2 wv r (Xf xs)]):=by
 refine Yi func150 J ntmps150 J K1 fun w0 sc hw hsc=>?_
 simp only [Zu,Zt]
 have hlen:=hv.len
 refine Zb<|Ze<|Zp J<|Zp J<|Zc<|Za<|Zb<|Ze<|mv J<|tt (Zh (n:=1) (Zoh _ _ ‹_›) J J J K1 call181 (Zd 1 J J J Zg) J hw) fun _ _=>mv J<|dt (Zz J J J)<|dt (Zz J J J)<|tt (Zy (i:=2) J J zeroValue31 J J hw) fun b _=>tt (Zl (i:=2) J J J J J J Ye J J ⟨Zf J,Zf J,trivial⟩ J hw trivial) fun _ _=>Zp J<|Zc<|Za<|Zb<|Zb<|Ze<|mv J<|dt (Xz J J J)<|Zc<|Za<|Zr J (fun h286=>?_) (fun h286=>?_)
 ·exfalso;simp_all
 ·exact Zk<|Za<|Zb<|Ze<|mv J<|dt (Yb (i:=2) J J J Xs Ye J J)<|tt (Zh (n:=3) (Zl0 _ _ _ hv.sz (by omega) (Zgl _ hv.sz) (Kp _) hv.ne) J J J K2 call182 (Zd 1 J J J Zg) J hw) fun _ _=>dt (Zz J J J)<|dt (Zz J J J)<|Zp J<|Zp J<|Zc<|Za<|Zq<|Yu (.inl J) hsc _ _ (fun a w hs=>Og hs results150 J J) J trivial J (Xe 3 J J J J Zm)
theorem Zx0(v:Value)(xs:List Int)(x y:Int)(hv:Vp xs)(hx:bl x.natAbs≤65536)(hy:bl y.natAbs≤65536)(hy0:0<y):On prog 186 #[v,rX x y] [Px 2 wv v xs] (.tuple #[wv (evv xs x y),.int .i64 (eve xs x y)]):=by
 refine Yi func186 J ntmps186 J K1 fun w0 sc hw hsc=>?_
 simp only [Zu,Zt]
 have hlen:=hv.len
 refine Zb<|Ze<|tt (Yw (i:=2) J J J J J hw) fun b _=>tt (Zy (i:=3) J J zeroValue31 J J hw) fun b_2 _=>Zp J<|Zc<|Za<|Zb<|Zb<|Ze<|mv J<|tt (Zh (n:=3) (Qx _ _ ‹_›) J J J K1 Bq (Zd 1 J J J Zg) J hw) fun _ _=>dt (Xl J J)<|mv J<|Xh (Ym (i:=2) J J J Xq Yr J J J J) J J<|Lz (Zh (n:=3) (Pt _ _ ‹_› ‹_› ‹_›) J J J K1 Di Zg J hw) J J J fun _ _=>Xh (Xl J J) J J<|dt (Yh J J J)<|Zc<|Za<|Yp J<|Zk<|Za<|Zb<|Zb<|Ze<|mv J<|dt (Yf J J (i:=1) J Zi Xx)<|dt (Pj J J J)<|Zc<|Za<|Zr J (fun h186=>?_) (fun h186=>?_)
 ·exact Zb<|Ze<|dt (Oq (ivs:=[]) J trivial (fun a w hs=>Yf8))<|tt (Zl (i:=3) J J J J J J Ye J J ⟨Zf J,Zf J,trivial⟩ J hw trivial) fun _ _=>Zp J<|Zc<|Za<|Zq<|Yn<|Yu (.inl J) hsc () _ (fun a w hs=>Og hs results186 (Xg (i:=3) J J Xs Ye J) J) (by rw [List.eq_nil_of_length_eq_zero (l:=xs) (by omega)];rfl) trivial J Zm
 ·have hne:xs≠[]:=fun e=>by rw [e]at h186;simp at h186
  have hm1:=Oi hv.sz
  have hsxy:Sz 65536 [x,y]:=Sz.of_mem (by intro z hz;simp at hz;rcases hz with rfl | rfl<;>assumption)
  have hm2:=Oi hsxy
  have hm3:(xs.length-1)*Pi [x,y]≤24*65536:=Nat.mul_le_mul (by omega) hm2
  have hm4:((xs.length:Int)-1)*(Pi [x,y]:Int)=(((xs.length-1)*Pi [x,y]:Nat):Int):=by rw [Int.natCast_mul];congr 1;omega
  refine Zk<|Za<|Zb<|Iz [(0,_),(3,_),(4,_)] [(0,_),(1,_),(2,_),(3,_)] (fun(_:Unit)=>[(37,.bool (decide ((65536:Int)<(Pi xs:Int)+((xs.length:Int)-1)*(Pi [x,y]:Int)+8)))]) (fun(_:Unit)=>[]) (fun(_:Unit)=>True) K3 K4 ?_ ?_
  ·refine Fs (fun _=>False) []<|Ya (n:=7) [(0,0),(2,0),(3,0),(4,0),(5,0),(6,0),(7,0),(8,0)]<|Zs J J (Yt (Yd J J))<|Zs J J (Yt (Yd J J))<|Zs J J (Yt (Yf J J (i:=1) J Zi Xx))<|Zs J J (Yt (Qd J J J))<|Zs J J (Yt (Yv J J Gb J Ye J J))<|Zs J J (Yt (Yb (i:=2) J J J Xs Ye J J))<|Zs J J (Yt (Yv J J Gb J Ye J J))<|Zs J J (Yt (Yb (i:=2) J J J Xs Ye J J))<|Yl<|Pb (n:=6) 1 9 ?_ ?_
   ·exact Yj J (Zh (n:=3) (Ll _ _ (by first | exact hv.sz | exact hsxy)) J J J K1 An (Zd 1 J J J Zg) J hw) fun _ _=>Ya (n:=0) [(9,1),(10,1),(11,0),(12,0),(13,0),(14,0)]<|Xb J (Pn (i:=90) (ivs:=[(0,_),(1,_)]) (enc:=wv) [x,y] J J K4 Zxe ti31 J J J J J pV.cells J J hw) fun v _=>Xb J (Zh (n:=3) (Ll _ _ (by first | exact hv.sz | exact hsxy)) J J J K1 An (Qt 90 J J pV Zg) J hw) fun _ _=>Zs J J (Yt (Db J J J (by rw [hm4];exact⟨by omega,by omega⟩)))<|Zs J J (Yt (Ys J J J (by rw [hm4];exact⟨by omega,by omega⟩)))<|Zs J J (Yt (Ys J J J (by rw [hm4];exact⟨by omega,by omega⟩)))<|Zs J J (Yt (Pw J J J))<|Yl<|Yk<|Xo () trivial K4 K4
   ·exact Yj J (Pn (i:=90) (ivs:=[(0,_),(1,_)]) (enc:=wv) [x,y] J J K4 Zxe ti31 J J J J J pV.cells J J hw) fun v_2 _=>Ya (n:=0) [(1,1),(10,1),(11,0),(12,0),(13,0),(14,0)]<|Xb J (Zh (n:=3) (Ll _ _ (by first | exact hv.sz | exact hsxy)) J J J K1 An (Zd 1 J J J Zg) J hw) fun _ _=>Xb J (Zh (n:=3) (Ll _ _ (by first | exact hv.sz | exact hsxy)) J J J K1 An (Qt 90 J J pV Zg) J hw) fun _ _=>Zs J J (Yt (Db J J J (by rw [hm4];exact⟨by omega,by omega⟩)))<|Zs J J (Yt (Ys J J J (by rw [hm4];exact⟨by omega,by omega⟩)))<|Zs J J (Yt (Ys J J J (by rw [hm4];exact⟨by omega,by omega⟩)))<|Zs J J (Yt (Pw J J J))<|Yl<|Yk<|Xo () trivial K4 K4
  ·rintro _ -
   simp only [CA,NA]
   refine Zr J (fun h189=>?_) (fun h189=>?_)
   ·have hE:Iw xs x y:=⟨hne,by rw [hm4]at h189;omega⟩
    exact Zb<|Ze<|dt (Oq (ivs:=[]) J trivial (fun a w hs=>Yf8))<|tt (Zl (i:=3) J J J J J J Ye J J ⟨Zf J,Zf J,trivial⟩ J hw trivial) fun _ _=>Zp J<|Zc<|Za<|Zq<|Yn<|Yu (.inl J) hsc () _ (fun a w hs=>Og hs results186 (Xg (i:=3) J J Xs Ye J) J) (by unfold evv eve;rw [if_pos hE,if_pos hE]<;>rfl) trivial J Zm
   ·have hF:Pi xs+(xs.length-1)*Pi [x,y]+8≤65536:=by rw [hm4]at h189;omega
    refine Zk<|Za<|Zb<|Ze<|tt (Zy (i:=4) J J zeroValue167 J J hw) fun b_3 _=>Zc<|Za<|Iz [(0,_),(3,_),(4,_),(6,_)] [(0,_),(1,_),(2,_),(3,_),(4,_)] (fun(q:Nat×Nat)=>[(7,.pointer (some ⟨q.1,0,none⟩)),(8,.pointer (some ⟨q.2,0,none⟩))]) (fun(q:Nat×Nat)=>[(97,box q.1 31 (wc (xs.getD (xs.length-1) 0))),(98,box q.2 31 (wc 1))]) (fun(q:Nat×Nat)=>True) K4 K5 ?_ ?_
    ·refine Fs (fun _=>False) [9,10]<|Ya (n:=5) [(0,0),(1,0),(2,0),(3,0),(4,0),(5,0)]<|Zs J J (Yt (Yd J J))<|Zs J J (Yt (Yd J J))<|Zs J J (Yt (Yf J J (i:=1) J Zi Xx))<|Zs J J (Yt (Qd J J J))<|Zs J J (Yt (Xc (ii:=1) (i:=(xs.length-1)) J J J J Zi Xx Ye))<|Zs J J (Yt (Xr (ii:=1) 0 J J J Zi pV))<|Yl<|Dm (n:=4) 6 7 8 ?_ ?_ ?_
     ·refine Yj J (Zh (n:=4) (Qg _ (by first | assumption | exact⟨by omega,by omega⟩)) J J J K1 Gy Zg J hw) fun _ _=>Pb (n:=3) 7 8 ?_ ?_
      ·exact Yj J (Zy (i:=97) J J zeroValue31 J J hw) fun b_4 _=>Ya (n:=0) [(8,1),(9,3),(10,3)]<|Xb J (Zy (i:=98) J J zeroValue31 J J hw) fun b_5 _=>Po J (Zl (i:=97) J J J J J J Ye J J ⟨Zf J,Zf J,trivial⟩ J hw trivial) fun _ _=>Po J (Zl (i:=98) J J J J J J Ye J J ⟨Zf J,Zf J,trivial⟩ J hw trivial) fun _ _=>Yl<|Yk<|Xo (_,_) trivial K6 K7
      ·exact Yj J (Zy (i:=98) J J zeroValue31 J J hw) fun b_6 _=>Ya (n:=0) [(7,1),(9,3),(10,3)]<|Xb J (Zy (i:=97) J J zeroValue31 J J hw) fun b_7 _=>Po J (Zl (i:=97) J J J J J J Ye J J ⟨Zf J,Zf J,trivial⟩ J hw trivial) fun _ _=>Po J (Zl (i:=98) J J J J J J Ye J J ⟨Zf J,Zf J,trivial⟩ J hw trivial) fun _ _=>Yl<|Yk<|Xo (_,_) trivial K6 K7
     ·refine Yj J (Zy (i:=97) J J zeroValue31 J J hw) fun b_8 _=>Pb (n:=3) 6 8 ?_ ?_
      ·exact Yj J (Zh (n:=4) (Qg _ (by first | assumption | exact⟨by omega,by omega⟩)) J J J K1 Gy Zg J hw) fun _ _=>Ya (n:=0) [(8,1),(9,3),(10,3)]<|Xb J (Zy (i:=98) J J zeroValue31 J J hw) fun b_9 _=>Po J (Zl (i:=97) J J J J J J Ye J J ⟨Zf J,Zf J,trivial⟩ J hw trivial) fun _ _=>Po J (Zl (i:=98) J J J J J J Ye J J ⟨Zf J,Zf J,trivial⟩ J hw trivial) fun _ _=>Yl<|Yk<|Xo (_,_) trivial K6 K7
      ·exact Yj J (Zy (i:=98) J J zeroValue31 J J hw) fun b_10 _=>Ya (n:=0) [(6,1),(9,3),(10,3)]<|Xb J (Zh (n:=4) (Qg _ (by first | assumption | exact⟨by omega,by omega⟩)) J J J K1 Gy Zg J hw) fun _ _=>Po J (Zl (i:=97) J J J J J J Ye J J ⟨Zf J,Zf J,trivial⟩ J hw trivial) fun _ _=>Po J (Zl (i:=98) J J J J J J Ye J J ⟨Zf J,Zf J,trivial⟩ J hw trivial) fun _ _=>Yl<|Yk<|Xo (_,_) trivial K6 K7
     ·refine Yj J (Zy (i:=98) J J zeroValue31 J J hw) fun b_11 _=>Pb (n:=3) 6 7 ?_ ?_
      ·exact Yj J (Zh (n:=4) (Qg _ (by first | assumption | exact⟨by omega,by omega⟩)) J J J K1 Gy Zg J hw) fun _ _=>Ya (n:=0) [(7,1),(9,3),(10,3)]<|Xb J (Zy (i:=97) J J zeroValue31 J J hw) fun b_12 _=>Po J (Zl (i:=97) J J J J J J Ye J J ⟨Zf J,Zf J,trivial⟩ J hw trivial) fun _ _=>Po J (Zl (i:=98) J J J J J J Ye J J ⟨Zf J,Zf J,trivial⟩ J hw trivial) fun _ _=>Yl<|Yk<|Xo (_,_) trivial K6 K7
      ·exact Yj J (Zy (i:=97) J J zeroValue31 J J hw) fun b_13 _=>Ya (n:=0) [(6,1),(9,3),(10,3)]<|Xb J (Zh (n:=4) (Qg _ (by first | assumption | exact⟨by omega,by omega⟩)) J J J K1 Gy Zg J hw) fun _ _=>Po J (Zl (i:=97) J J J J J J Ye J J ⟨Zf J,Zf J,trivial⟩ J hw trivial) fun _ _=>Po J (Zl (i:=98) J J J J J J Ye J J ⟨Zf J,Zf J,trivial⟩ J hw trivial) fun _ _=>Yl<|Yk<|Xo (_,_) trivial K6 K7
    ·rintro⟨b7,b8⟩ -
     simp only [CA,NA]
     refine Zb<|Zb<|Ze<|mv J<|dt (Yf J J (i:=1) J Zi Xx)<|dt (Qd J J J)<|Zp J<|Zc<|Za<|Zo<|Oc [(0,_),(3,_),(4,_),(6,_),(7,_),(8,_)] [(0,_),(1,_),(2,_),(3,_),(4,_)] (fun(k:Nat)=>[(9,.int .i64 ((k:Int)-1))]) (fun(k:Nat)=>[(97,box b7 31 (wc (Ga xs x y k))),(98,box b8 31 (wc (y^(xs.length-1-k))))]) (fun(k:Nat)=>k≤xs.length-1) (fun(k:Nat)=>k) (xs.length-1) (by first | omega | (dsimp only<;>omega)) ⟨by rw [show((xs.length-1:Nat):Int)-1=(xs.length:Int)-2 by omega];rfl,rfl,rfl,rfl,rfl,rfl,rfl,trivial⟩ ⟨by rw [Ye0 x y (by omega)];rfl,by rw [Nat.sub_self,Int.pow_zero];rfl,rfl,rfl,rfl,rfl,rfl,trivial⟩ ?_
     rintro k hk
     simp only [CA,NA]
     refine Zb<|Zb<|Ze<|mv J<|dt (Lg J J J)<|Zc<|Za<|Zr J (fun h194=>?_) (fun h194=>?_)
     ·have hpw:y^(xs.length-1-k)*y=y^(xs.length-1-(k-1)):=Yar y (by omega) hk
      have hst:Ga xs x y k*x+xs.getD (k-1) 0*y^(xs.length-1-(k-1))=Ga xs x y (k-1):=Zyj x y (by omega) hk
      refine Zk<|Za<|Zb<|Zo<|Zb<|Ze<|dt (Yb (i:=98) J J J Xs Ye J J)<|dt (Yv J J Gb J Ye J J)<|dt (Yb (i:=2) J J J Xs Ye J J)<|tt (Ns (n:=4) (i:=4) (Ca _ _ _ (Zo3 hF) hy (by rw [hpw];exact Zo3 hF)) J J J K3 call153 J (by decide) Zg J hw trivial) fun _ _=>tt (Zl (i:=98) J J J J J J Ye J J ⟨Zf J,Zf J,trivial⟩ J hw trivial) fun _ _=>Zc<|Za<|Qs (fun x=>x=b_3) [(0,0),(1,0),(2,0),(4,0),(5,0),(6,0),(7,0),(8,0),(3,1),(9,1),(10,1),(11,3)] ?_ ?_
      ·kernel_rfl
      refine Zs J J (Ke 4 J (Yb (i:=97) J J J Xs Ye J J))<|Zs J J (Ke 4 J (Yv J J Gb J Ye J J))<|Zs J J (Ke 4 J (Yb (i:=2) J J J Xs Ye J J))<|Zs J J (Ke 4 J (Yd J J))<|Zs J J (Ke 4 J (Yd J J))<|Zs J J (Ke 4 J (Xc (ii:=1) (i:=(k-1)) J J J J Zi Xx Ye))<|Zs J J (Ke 4 J (Xr (ii:=1) 0 J J J Zi pV))<|Zs J J (Ke 4 J (Yb (i:=98) J J J Xs Ye J J))<|Xb J (Ns (n:=4) (i:=4) (Ca _ _ _ (by first | exact Zo4 hF hlen _ | exact hv.sz.getD _) (by first | exact hx | (rw [hpw];exact Zo3 hF)) (by first | exact Ztt hF hlen (by omega) hk | (rw [hpw];exact Zo2 hF))) J J J K3 call153 J (by decide) Zg J hw J) fun _ _=>Xb J (Ns (n:=4) (i:=4) (Ca _ _ _ (by first | exact Zo4 hF hlen _ | exact hv.sz.getD _) (by first | exact hx | (rw [hpw];exact Zo3 hF)) (by first | exact Ztt hF hlen (by omega) hk | (rw [hpw];exact Zo2 hF))) J J J K3 call153 J (by decide) Zg J hw J) fun _ _=>Xb J (Ns (n:=4) (i:=4) (Zpb _ _ _ (Ztt hF hlen (by omega) hk) (by rw [hpw];exact Zo2 hF) (by rw [hpw,hst];exact Zo4 hF hlen _)) J J J K3 call159 J (by decide) Zg J hw J) fun _ _=>Po J (Zl (i:=97) J J J J J J Ye J J ⟨Zf J,Zf J,trivial⟩ J hw trivial) fun _ _=>Ob<|Qn ?_
      exact Za<|Ze<|mv J<|dt (Qd J J J)<|Zp J<|Zc<|Xk (k-1) (by first | omega | (dsimp only<;>omega)) (by first | omega | (dsimp only<;>omega)) ⟨by rw [show((k-1:Nat):Int)-1=(k:Int)-1-1 by omega];rfl,rfl,rfl,rfl,rfl,rfl,rfl,trivial⟩ ⟨by rw [hpw,hst];rfl,by rw [hpw];rfl,rfl,rfl,rfl,rfl,rfl,trivial⟩
     ·refine Yx<|Zx<|Zx<|Pd<|Za<|Zb<|Zb<|Ze<|dt (Yv J J Zfu J Zfo J J)<|dt (Yv J J Zjr J Ih J J)<|dt (Qw (i:=4) J J J Eo J)<|dt (Xz J J J)<|Zc<|Za<|Zr J (fun h198=>?_) (fun h198=>?_)
      ·exfalso;simp_all
      ·refine Zk<|Za<|Zb<|Ze<|dt (Yb (i:=97) J J J Xs Ye J J)<|tt (Zl (i:=3) J J J J J J Ye J J ⟨Zf J,Zf J,trivial⟩ J hw trivial) fun _ _=>Zp J<|Zc<|Za<|Zq ?_
       obtain rfl:k=0:=by omega
       have hE:¬Iw xs x y:=fun h=>by have:=h.2;omega
       exact Yu (.inl J) hsc () _ (fun a w hs=>Og hs results186 (Xg (i:=3) J J Xs Ye J) J) (by unfold evv eve;rw [if_neg hE,if_neg hE,←Zrs]<;>rfl) trivial J Zm
theorem Zq1(v:Value)(xs:List Int)(x y:Int)(hv:Vp xs)(hx:bl x.natAbs≤65536)(hy:bl y.natAbs≤65536)(hy0:0<y):On prog 164 #[v,rX x y] [Px 2 wv v xs] (.tuple #[.int .i64 (evv xs x y).sign,.int .i64 (eve xs x y)]):=by
 refine Yi func164 J ntmps164 J K1 fun w0 sc hw hsc=>?_
 simp only [Zu,Zt]
 have hlen:=hv.len
 exact Zb<|Ze<|tt (Yw (i:=2) J J J J J hw) fun b _=>Zp J<|Zp J<|Zc<|Za<|Zb<|Ze<|mv J<|dt (Ym (i:=2) J J J Xq Yr J J J J)<|tt (Zh (n:=2) (Zx0 _ _ _ _ hv hx hy hy0) J J J K2 call186 (Zd 1 J J J Zg) J hw) fun _ _=>mv J<|dt (Zz J J J)<|dt (Zz J J J)<|tt (Zy (i:=3) J J zeroValue31 J J hw) fun b_2 _=>tt (Zl (i:=3) J J J J J J Ye J J ⟨Zf J,Zf J,trivial⟩ J hw trivial) fun _ _=>Zp J<|Zc<|Za<|Zb<|Ze<|dt (Yb (i:=3) J J J Xs Ye J J)<|tt (Zh (n:=3) (Ko _ (evv_bl hlen)) J J J K1 call104 Zg J hw) fun _ _=>mv J<|Zp J<|Zp J<|Zc<|Za<|Zq<|Yu (.inl J) hsc () _ (fun a w hs=>Og hs results164 J J) J trivial J Zm
theorem Zdk(bd:Nat)(v:Value)(xs:List Int)(hs:Sz 65536 xs):Ziq prog 154 #[.pointer (some ⟨bd,0,none⟩),v] [Px 2 wv v xs] true bd 167 #[.int .i64 0] (G:=Unit) (fun _=>True) (fun _=> .tuple #[Iy v (tzl xs).length,.int .i64 0]) (fun _=>#[.int .i64 0]) (fun _=>[Px 2 wv (Iy v (tzl xs).length) (tzl xs)]):=by
 refine Zel func154 J ntmps154 J K1 fun w0 sc hw hsc=>?_
 simp only [Zu,Zt]
 refine Zb<|Ze<|Zp J<|Zp J<|Zc<|Za<|Zb<|Zb<|Ze<|mv J<|dt (Zar J J)<|dt (Yv J J Zfu J Zfo J J)<|dt (Yv J J Zjr J Ih J J)<|dt (Qw (i:=1) J J J Eo J)<|dt (Xz J J J)<|Zc<|Za<|Zr J (fun h43=>?_) (fun h43=>?_)
 ·exfalso;simp_all
 ·exact Zk<|Za<|Zb<|Ze<|mv J<|tt (Zh (n:=3) (Zd5 _ _ ‹_›) J J J K1 call152 (Zd 2 J J J Zg) J hw) fun _ _=>Zp J<|Zp J<|Zc<|Za<|Zq<|Ze1 (.inl J) hsc () _ (fun a w hs=>Og hs results154 J J) J trivial 1 J J J J (Xu 3 J J J Zm)
theorem Zwr(v:Value)(xs:List Int)(hx:xs.length*24≤140737488355328:=by omega):Yf9 prog 157 #[v] [Px 2 wv v xs] (G:=Value) (fun r=>True) (fun r=>r) (fun r=>Ld 2 31 wv r xs):=by
 refine Zw0 func157 J ntmps157 J K1 fun w0 sc hw hsc=>?_
 simp only [Zu,Zt]
 refine Nl (f_nil (i:=1) J Zi) fun hnil=>Zb<|Ze<|Zp J<|Zc<|Za<|Zb<|Zb<|Ze<|mv J<|dt (Zwg J J J (i:=1) J Zi Xx)<|Zc<|Za<|Mf J (fun h357=>?_) (fun h357=>?_)
 ·refine Zb<|Ze<|Zp J<|Zc<|Za<|Zq<|Yn ?_
  obtain rfl:xs=[]:=hnil (by simpa using h357)
  exact Qu (Np 9 2 31 wv)<|Znh (.inl J) (.slice none 0 0) _ (fun a w hs=>Ni hs results157 J) J trivial J 9 J J J
 ·exact Zk<|Za<|Zb<|Ze<|tt (t_bs0 (i:=2) (enc:=wv) J J J Xx pV J hw) fun v _=>mv J<|tt (Hd (i:=2) (j:=1) (by_:=24) J J J J J J (by decide) J Zi Xx ti31 J pV J J J (by simp;omega) (by decide) J hw) fun v_2 _=>Zp J<|Zc<|Za<|Zq<|Znh (.inl J) _ _ (fun a w hs=>Ni hs results157 J) J trivial J 2 J (by rfl) J
theorem Zia(v:Value)(xs:List Int)(hv:Vp xs):On prog 105 #[v] [Px 2 wv v xs] (.tuple #[.int .i64 ((xs.length:Int)-1),.int .i64 0]):=by
 refine Yi func105 J ntmps105 J K1 fun w0 sc hw hsc=>?_
 simp only [Zu,Zt]
 have hlen:=hv.len
 exact Zb<|Ze<|Zp J<|Zp J<|Zc<|Za<|Zb<|Zb<|Ze<|mv J<|tt (Zh (n:=1) (Qx _ _ ‹_›) J J J K1 Bq (Zd 1 J J J Zg) J hw) fun _ _=>dt (Xl J J)<|Zc<|Za<|Yp J<|Zk<|Za<|Zb<|Ze<|mv J<|dt (Yf J J (i:=1) J Zi Xx)<|dt (Qd J J J)<|Zp J<|Zp J<|Zc<|Za<|Zq<|Yu (.inl J) hsc () _ (fun a w hs=>Og hs results105 J J) J trivial J Zm
theorem Zmu(v:Value)(xs:List Int)(hv:Vp xs):On prog 106 #[v] [Px 2 wv v xs] (.tuple #[.int .i64 (Pi xs:Int),.int .i64 0]):=by
 refine Yi func106 J ntmps106 J K1 fun w0 sc hw hsc=>?_
 simp only [Zu,Zt]
 exact Zb<|Ze<|Zp J<|Zp J<|Zc<|Za<|Zb<|Zb<|Ze<|mv J<|tt (Zh (n:=1) (Qx _ _ ‹_›) J J J K1 Bq (Zd 1 J J J Zg) J hw) fun _ _=>dt (Xl J J)<|Zc<|Za<|Yp J<|Zk<|Za<|Zb<|Ze<|mv J<|tt (Zh (n:=1) (Ll _ _ hv.sz) J J J K1 An (Zd 1 J J J Zg) J hw) fun _ _=>Zp J<|Zp J<|Zc<|Za<|Zq<|Yu (.inl J) hsc () _ (fun a w hs=>Og hs results106 J J) J trivial J Zm
theorem Zsd(bd:Nat)(v u:Value)(xs ys:List Int)(hv:Vp xs)(hu:Vp ys)(hz:∀i,bl (cf xs i-cf ys i).natAbs≤65536):Ziq prog 136 #[v,u,.pointer (some ⟨bd,0,none⟩),.func (.func 137) #[.pointer (some ⟨bd,0,none⟩)] #[]] [Px 2 wv v xs,Px 2 wv u ys] true bd 167 #[.int .i64 0] (G:=Value) (fun r=>True) (fun r=> .tuple #[r,.int .i64 0]) (fun r=>#[.int .i64 0]) (fun r=>[Px 2 wv r (Zan xs ys)]):=by
 refine Zel func136 J ntmps136 J K2 fun w0 sc hw hsc=>?_
 simp only [Zu,Zt]
 have hlen:=hv.len
 have hlen2:=hu.len
 refine Zb<|Ze<|Zp J<|Zp J<|Zc<|Za<|Zb<|Zb<|Ze<|mv J<|tt (Zh (n:=3) (Qx _ _ ‹_›) J J J K1 Bq (Zd 2 J J J Zg) J hw) fun _ _=>dt (Xl J J)<|mv J<|Xh (Yd J J) J J<|Lz (Zh (n:=3) (Qx _ _ ‹_›) J J J K1 Bq (Zd 3 J J J Zg) J hw) J J J fun _ _=>Xh (Xl J J) J J<|dt (Yh J J J)<|Zc<|Za<|Yp J<|Zk<|Za<|Zb<|Ze<|mv J<|dt (Yf J J (i:=2) J Zi Xx)<|mv J<|dt (Yf J J (i:=3) J Zi Xx)<|dt (Zsa J J J)<|tt (Ge (i:=4) (n:=(max xs.length ys.length)) (by_:=24) (enc:=wv) 0 J J J J Xx ti31 J pV.cells pV.pos J J J hw) fun v _=>Zp J<|Zc<|Za<|Zb<|Zb<|Ze<|mv J<|dt (Yf J J (i:=4) J (Xa pV) Xx)<|mv J<|Zc<|Za<|Zo ?_
 refine Oc [(0,_),(1,_),(2,_),(3,_),(10,_),(29,_)] [(0,_),(1,_),(2,_),(3,_)] (fun(k:Nat)=>[(30,.int .i64 (k:Int))]) (fun(k:Nat)=>[(4,Ld 2 31 wv v (fill (max xs.length ys.length) k (fun i=>cf xs i-cf ys i)))]) (fun(k:Nat)=>k≤max xs.length ys.length) (fun(k:Nat)=>max xs.length ys.length-k) 0 (by first | omega | (dsimp only<;>omega)) K7 ⟨by rw [Zbc (max xs.length ys.length) (fun i=>cf xs i-cf ys i)];rfl,rfl,rfl,rfl,rfl,trivial⟩ ?_
 rintro k hk
 simp only [CA,NA]
 have hlf:(fill (max xs.length ys.length) k (fun i=>cf xs i-cf ys i)).length=max xs.length ys.length:=Mj _ _ _
 refine Zb<|Ze<|dt (Xv J J J)<|Zc<|Za<|Zb<|Zr J (fun h106=>?_) (fun h106=>?_)
 ·try rw [List.length_replicate]at *
  refine Zk<|Za<|Zb<|Zo<|Zb<|Ze<|mv J<|Zp J<|Zc<|Za<|Zb<|Ze<|tt (Zy (i:=5) J J zeroValue31 J J hw) fun b _=>tt (Zy (i:=6) J J zeroValue31 J J hw) fun b_2 _=>Zc<|Za<|Iz [(0,_),(1,_),(2,_),(3,_),(10,_),(11,_),(12,_),(13,_),(29,_),(30,_)] [(0,_),(4,_),(1,_),(2,_),(3,_),(6,_)] (fun(_:Unit)=>[]) (fun(_:Unit)=>[(5,box b 31 (wc (cf xs k)))]) (fun(_:Unit)=>True) K10 K6 ?_ ?_
  ·refine Zb<|Ze<|mv J<|mv J<|dt (Yf J J (i:=2) J Zi Xx)<|dt (Xv J J J)<|Zc<|Za<|Zr J (fun h108=>?_) (fun h108=>?_)
   ·exact Ze<|mv J<|mv J<|dt (Xc (ii:=2) J J J J Zi Xx Ye J (by first | omega | (simp only [List.length_set];omega)))<|dt (Xr (ii:=2) 0 J J J Zi pV (by first | omega | (simp only [List.length_set];omega)))<|tt (Zl (i:=5) J J J J J J Ye J J ⟨Zf J,Zf J,trivial⟩ J hw trivial) fun _ _=>Zc<|Xo () trivial K10 ⟨by first | rfl | (rw [Qe (p:=xs) (by omega)];rfl),rfl,rfl,rfl,rfl,rfl,rfl,trivial⟩
   ·exact Zk<|Xo () trivial K10 ⟨by first | rfl | (rw [Qe (p:=xs) (by omega)];rfl),rfl,rfl,rfl,rfl,rfl,rfl,trivial⟩
  ·rintro _ -
   simp only [CA,NA]
   refine Iz [(0,_),(1,_),(2,_),(3,_),(10,_),(11,_),(12,_),(13,_),(29,_),(30,_)] [(0,_),(5,_),(4,_),(1,_),(2,_),(3,_)] (fun(_:Unit)=>[]) (fun(_:Unit)=>[(6,box b_2 31 (wc (cf ys k)))]) (fun(_:Unit)=>True) K10 K6 ?_ ?_
   ·refine Zb<|Ze<|mv J<|mv J<|dt (Yf J J (i:=3) J Zi Xx)<|dt (Xv J J J)<|Zc<|Za<|Zr J (fun h111=>?_) (fun h111=>?_)
    ·exact Ze<|mv J<|mv J<|dt (Xc (ii:=3) J J J J Zi Xx Ye J (by first | omega | (simp only [List.length_set];omega)))<|dt (Xr (ii:=3) 0 J J J Zi pV (by first | omega | (simp only [List.length_set];omega)))<|tt (Zl (i:=6) J J J J J J Ye J J ⟨Zf J,Zf J,trivial⟩ J hw trivial) fun _ _=>Zc<|Xo () trivial K10 ⟨by first | rfl | (rw [Qe (p:=ys) (by omega)];rfl),rfl,rfl,rfl,rfl,rfl,rfl,trivial⟩
    ·exact Zk<|Xo () trivial K10 ⟨by first | rfl | (rw [Qe (p:=ys) (by omega)];rfl),rfl,rfl,rfl,rfl,rfl,rfl,trivial⟩
   ·rintro _ -
    simp only [CA,NA]
    exact Ze<|mv J<|mv J<|mv J<|dt (Yb (i:=5) J J J Xs Ye J J)<|dt (Yb (i:=6) J J J Xs Ye J J)<|tt (Zy8 (n:=6) (i:=1) (fs:=[_]) (vs:=[_,_]) (Ztx _ _ _ (hv.sz _) (hu.sz _) (hz _)) J J J J K2 call137 J (by decide) Zg J hw trivial) fun _ _=>dt (Xc (ii:=4) (i:=k) J J J J (Xa pV) Xx Ye J (by rw [Mj];omega))<|tt (Im (i:=4) (enc:=wv) _ J J J J J J pV J hw (by decide) (by rw [Mj];omega)) fun _ _=>Zc<|Qn<|Za<|Ze<|dt (Ys J J J)<|mv J<|Zc<|Xk (k+1) (by first | omega | (dsimp only<;>omega)) (by first | omega | (dsimp only<;>omega)) K7 ⟨by rw [←Zgx (by omega)];rfl,rfl,rfl,rfl,rfl,trivial⟩
 ·try rw [List.length_replicate]at *
  refine Yx<|Zx<|Zx<|Pd<|Za<|Zb ?_
  obtain rfl:k=max xs.length ys.length:=by omega
  exact Yo (Pg 4 J J pV)<|Ze<|mv J<|mv J<|tt (Ns (n:=7) (i:=1) (Zdk _ _ _ (by rw [Ak];exact Az fun i _=>hz i)) J J J K2 call154 J (by decide) (Zd 4 J J J Zg) J hw trivial) fun _ _=>dt (Zz J J J)<|dt (Zz J J J)<|Zp J<|Zp J<|Zc<|Za<|Zq<|Ze1 (.inl J) hsc _ _ (fun a w hs=>Og hs results136 J J) J trivial 1 J J J J (Xe 7 J J J (by rw [Ak]<;>rfl) Zm)
theorem Zq0(v u:Value)(xs ys:List Int)(hv:Vp xs)(hu:Vp ys)(hz:∀i,bl (cf xs i-cf ys i).natAbs≤65536):Cal prog 85 #[v,u] [Px 2 wv v xs,Px 2 wv u ys] true (G:=Value) (fun r=>True) (fun r=> .tuple #[r,.int .i64 0]) (fun r=>[Px 2 wv r (Zan xs ys)]):=by
 refine Yi func85 J ntmps85 J K2 fun w0 sc hw hsc=>?_
 simp only [Zu,Zt]
 exact Zb<|Ze<|Zp J<|Zp J<|Zc<|Za<|Zb<|Ze<|tt (Zy (i:=3) J J zeroValue167 J J hw) fun b _=>Zc<|Za<|Zb<|Ze<|mv J<|mv J<|dt (d_mkf (vs:=[_]) J K1)<|tt (Ns (n:=4) (i:=3) (Zsd _ _ _ _ _ ‹_› ‹_› ‹_›) J J J K4 call136 J (by decide) (Zd 1 J J J (Zd 2 J J J Zg)) J hw trivial) fun _ _=>dt (Zz J J J)<|dt (Zz J J J)<|Zp J<|Zp J<|Zc<|Za<|Zq<|Yu (.inl J) hsc _ _ (fun a w hs=>Og hs results85 J J) J trivial J (Xu 4 J J J Zm)
theorem Yas(v u:Value)(xs ys:List Int)(hv:Vp xs)(hu:Vp ys)(hF:¬Zgq xs ys):Cal prog 112 #[v,u] [Px 2 wv v xs,Px 2 wv u ys] true (G:=Value) (fun r=>True) (fun r=> .tuple #[r,.int .i64 0]) (fun r=>[Px 2 wv r (Ou xs ys)]):=by
 refine Yi func112 J ntmps112 J K2 fun w0 sc hw hsc=>?_
 simp only [Zu,Zt]
 have hlen:=hv.len
 have hlen2:=hu.len
 have hm1:=Oi hv.sz
 have hm2:=Oi hu.sz
 refine Zb<|Ze<|Zp J<|Zp J<|Zc<|Za<|Zb<|Zb<|Ze<|mv J<|tt (Zh (n:=2) (Qx _ _ ‹_›) J J J K1 Bq (Zd 1 J J J Zg) J hw) fun _ _=>dt (Xl J J)<|mv J<|Xh (Yd J J) J J<|Lz (Zh (n:=2) (Qx _ _ ‹_›) J J J K1 Bq (Zd 2 J J J Zg) J hw) J J J fun _ _=>Xh (Xl J J) J J<|dt (Yh J J J)<|Zc<|Za<|Yp J<|Zk<|Za<|Zb<|Zb<|Ze<|mv J<|dt (Yf J J (i:=1) J Zi Xx)<|dt (Pj J J J)<|mv J<|Pf (d:=23) J (fun s136=>?_) (fun s136=>?_)
 ·exact Xt J J J<|Xt J J J<|Xt J J J<|dt (Yy J J J)<|Zc<|Za<|Pv J<|Zb<|Ze<|Zp J<|Zp J<|Zc<|Za<|Zq<|Yn<|Yu (.inl J) hsc _ _ (fun a w hs=>Og hs results112 J J) J trivial J (Ig (Za4 (p:=xs) (q:=ys) (by first | (left;omega) | (right;omega))) Zm)
 ·refine Xh (Yd J J) J J<|Xh (Yf J J (i:=2) J Zi Xx) J J<|Xh (Pj J J J) J J<|dt (Yh J J J)<|Zc<|Za<|Zr J (fun h136=>?_) (fun h136=>?_)
  ·exact Zb<|Ze<|Zp J<|Zp J<|Zc<|Za<|Zq<|Yn<|Yu (.inl J) hsc _ _ (fun a w hs=>Og hs results112 J J) J trivial J (Ig (Za4 (p:=xs) (q:=ys) (by first | (left;omega) | (right;omega))) Zm)
  ·have hnx:xs≠[]:=by intro e;subst e;simp_all
   have hny:ys≠[]:=by intro e;subst e;simp_all
   have hlx:0<xs.length:=List.length_pos_iff.2 hnx
   have hly:0<ys.length:=List.length_pos_iff.2 hny
   refine Zk<|Za<|Zb<|Zb<|Ze<|mv J<|dt (Yf J J (i:=1) J Zi Xx)<|mv J<|dt (Yf J J (i:=2) J Zi Xx)<|dt (Ys J J J)<|dt (Qd J J J)<|dt (Pw J J J)<|mv J<|Pf (d:=35) J (fun s139=>?_) (fun s139=>?_)
   ·exfalso;exact hF ⟨hnx,hny,.inl (by omega)⟩
   ·refine Xh (Yd J J) J J<|Lz (Zh (n:=2) (Ll _ _ (by first | exact hv.sz | exact hu.sz)) J J J K1 An (Zd 1 J J J Zg) J hw) J J J fun _ _=>Xh (Yd J J) J J<|Lz (Zh (n:=2) (Ll _ _ (by first | exact hv.sz | exact hu.sz)) J J J K1 An (Zd 2 J J J Zg) J hw) J J J fun _ _=>Xh (Ys J J J) J J<|Xh (Ys J J J) J J<|Xh (Pw J J J) J J<|dt (Yh J J J)<|Zc<|Za<|Zr J (fun h139=>?_) (fun h139=>?_)
    ·exfalso;exact hF ⟨hnx,hny,by first | (left;omega) | (right;omega)⟩
    ·have hsz:Pi xs+Pi ys+5≤65536:=by omega
     have hpq:∀i j,bl (cf xs i*cf ys j).natAbs≤65536:=fun i j=>by have:=Qk (cf xs i) (cf ys j);have:=Ot xs i;have:=Ot ys j;omega
     have hac:∀i j t,i<25→bl (Zbm xs ys i j t).natAbs≤65536:=fun i j t hi=>by have:=Yf6 (i:=i) (j:=j) (t:=t) (Ot xs) (Ot ys) (by omega);omega
     have hacc:∀t,bl (acc xs ys xs.length t).natAbs≤65536:=fun t=>by have:=bl_acc (i:=xs.length) (t:=t) (Ot xs) (Ot ys) (by omega);omega
     have hsum:∀i j,i<25→bl (Zbm xs ys i j (i+j)+cf xs i*cf ys j).natAbs≤65536:=fun i j hi=>by rw [←Zyw];exact hac i (j+1) _ hi
     refine Zk<|Za<|Zb<|Ze<|tt (Zy (i:=3) J J zeroValue167 J J hw) fun b _=>Zc<|Za<|Zb<|Ze<|mv J<|dt (Yf J J (i:=1) J Zi Xx)<|mv J<|dt (Yf J J (i:=2) J Zi Xx)<|dt (Ys J J J)<|dt (Qd J J J)<|tt (Ge (i:=4) (n:=(xs.length+ys.length-1)) (by_:=24) (enc:=wv) 0 J J J J Xx ti31 J pV.cells pV.pos J J J hw) fun v _=>Zp J<|Zc<|Za<|Zb<|Zb<|Ze<|mv J<|dt (Yf J J (i:=1) J Zi Xx)<|mv J<|Zc<|Za<|Zo<|Oc [(1,_),(6,_),(7,_),(51,_),(52,_)] [(0,_),(1,_),(2,_),(3,_)] (fun(i:Nat)=>[(53,.int .i64 (i:Int))]) (fun(i:Nat)=>[(4,Ld 2 31 wv v (mk (xs.length+ys.length-1) (acc xs ys i)))]) (fun(i:Nat)=>i≤xs.length) (fun(i:Nat)=>xs.length-i) 0 (by first | omega | (dsimp only<;>omega)) K6 ⟨by rw [Zn7];rfl,rfl,rfl,rfl,rfl,trivial⟩ ?_
     rintro i hi
     simp only [CA,NA]
     refine Zb<|Ze<|dt (Xv J J J)<|Zc<|Za<|Zb<|Zr J (fun h144=>?_) (fun h144=>?_)
     ·refine Zk<|Za<|Zb<|Zo<|Zb<|Ze<|mv J<|dt (Xc (ii:=1) J J J J Zi Xx Ye J (by first | omega | (simp only [List.length_set];omega)))<|dt (Xr (ii:=1) 0 J J J Zi pV (by first | omega | (simp only [List.length_set];omega)))<|tt (Zy (i:=5) J J zeroValue31 J J hw) fun b_2 _=>Zp J<|tt (Zl (i:=5) J J J J J J Ye J J ⟨Zf J,Zf J,trivial⟩ J hw trivial) fun _ _=>Zc<|Za<|Zb<|Ze<|mv J<|dt (Yf J J (i:=2) J Zi Xx)<|mv J<|Zc<|Za<|Zo<|Oc [(1,_),(6,_),(7,_),(8,_),(9,_),(51,_),(52,_),(53,_),(58,_),(59,_)] [(0,_),(1,_),(2,_),(3,_),(5,_)] (fun(j:Nat)=>[(60,.int .i64 (j:Int))]) (fun(j:Nat)=>[(4,Ld 2 31 wv v (mk (xs.length+ys.length-1) (Zbm xs ys i j)))]) (fun(j:Nat)=>j≤ys.length) (fun(j:Nat)=>ys.length-j) 0 (by first | omega | (dsimp only<;>omega)) K11 ⟨by rw [Zyv];rfl,rfl,rfl,rfl,rfl,rfl,trivial⟩ ?_
      rintro j hj
      simp only [CA,NA]
      have hgd:i+j<xs.length+ys.length-1→(mk (xs.length+ys.length-1) (Zbm xs ys i j)).getD (i+j) 0=Zbm xs ys i j (i+j):=fun h=>Zee h
      refine Zb<|Ze<|dt (Xv J J J)<|Zc<|Za<|Zb<|Zr J (fun h145=>?_) (fun h145=>?_)
      ·refine Zk<|Za<|Zb<|Zo<|Zb<|Ze<|mv J<|dt (Xc (ii:=2) J J J J Zi Xx Ye J (by first | omega | (simp only [List.length_set];omega)))<|dt (Xr (ii:=2) 0 J J J Zi pV (by first | omega | (simp only [List.length_set];omega)))<|tt (Zy (i:=6) J J zeroValue31 J J hw) fun b_3 _=>Zp J<|tt (Zl (i:=6) J J J J J J Ye J J ⟨Zf J,Zf J,trivial⟩ J hw trivial) fun _ _=>Zc<|Za<|Qs (fun x=>x=b) [(0,0),(1,0),(2,0),(3,0),(4,0),(5,0),(6,0),(7,0),(8,0),(9,0),(10,0),(11,0),(12,1),(13,1),(14,0),(15,3)] ?_ ?_
       ·kernel_rfl
       refine Zs J J (Ke 3 J (Yd J J))<|Zs J J (Ke 3 J (Yd J J))<|Zs J J (Ke 3 J (Yd J J))<|Zs J J (Ke 3 J (Ys J J J))<|Zs J J (Ke 3 J (Yd J J))<|Zs J J (Ke 3 J (Yd J J))<|Zs J J (Ke 3 J (Yd J J))<|Zs J J (Ke 3 J (Ys J J J))<|Zs J J (Ke 3 J (Xc (ii:=4) (i:=(i+j)) J J J J (Xa pV) Xx Ye (by omega) (by rw [Qp];omega)))<|Zs J J (Ke 3 J (Xr (ii:=4) 0 J J J (Xa pV) pV (by rw [Qp];omega)))<|Zs J J (Ke 3 J (Yb (i:=5) J J J Xs Ye J J))<|Zs J J (Ke 3 J (Yb (i:=6) J J J Xs Ye J J))<|Xb J (Ns (n:=6) (i:=3) (Ca _ _ _ (hv.sz _) (hu.sz _) (hpq i j)) J J J K3 call153 J (by decide) Zg J hw J) fun _ _=>Xb J (Ns (n:=6) (i:=3) (Zpb _ _ _ (by rw [hgd (by omega)];exact hac i j _ (by omega)) (hpq i j) (by rw [hgd (by omega)];exact hsum i j (by omega))) J J J K3 call159 J (by decide) Zg J hw J) fun _ _=>Zs J J (Ke 3 J (Xc (ii:=4) (i:=(i+j)) J J J J (Xa pV) Xx Ye (by omega) (by rw [Qp];omega)))<|Po J (Im (i:=4) (enc:=wv) _ J J J J J J pV J hw (by decide) (by rw [Qp];omega)) fun _ _=>Ob<|Qn<|Za<|Ze<|dt (Ys J J J)<|mv J<|Zc ?_
       exact Xk (j+1) (by first | omega | (dsimp only<;>omega)) (by first | omega | (dsimp only<;>omega)) K11 ⟨by rw [←Yc4 (by omega),←hgd (by omega)];rfl,rfl,rfl,rfl,rfl,rfl,trivial⟩
      ·refine Yx<|Zx<|Zx<|Pd<|Qn<|Za<|Ze<|dt (Ys J J J)<|mv J<|Zc ?_
       obtain rfl:j=ys.length:=by omega
       exact Xk (i+1) (by first | omega | (dsimp only<;>omega)) (by first | omega | (dsimp only<;>omega)) K6 ⟨by rw [←Yc5];rfl,rfl,rfl,rfl,rfl,trivial⟩
     ·refine Yx<|Zx<|Zx<|Pd<|Za<|Zb ?_
      obtain rfl:i=xs.length:=by omega
      exact Yo (Pg 4 J J pV)<|Ze<|mv J<|tt (Ns (n:=7) (i:=3) (Zdk _ _ _ (Az fun t _=>hacc t)) J J J K2 call154 J (by decide) (Zd 4 J J J Zg) J hw trivial) fun _ _=>dt (Zz J J J)<|dt (Zz J J J)<|Zp J<|Zp J<|Zc<|Za<|Zq<|Yu (.inl J) hsc _ _ (fun a w hs=>Og hs results112 J J) J trivial J (Xe 7 J J J (by rw [Yav]<;>rfl) Zm)
end Go.Sky

