/- Rules, arithmetic and contracts: part 14. No conditions but those that each theorem names. -/
import Derived.Test.YtcmiiammekgooaaGreatSc12
set_option linter.all false
set_option maxHeartbeats 4000000
namespace Go.Sky
open Go.Proofs.Tryz
open Go.Proofs
set_option maxRecDepth 20000
set_option maxHeartbeats 4000000
set_option linter.unusedSimpArgs false
theorem Yd1(v:Value)(xs:List Int)(hs:Sz 1000000 xs)(hl:xs.length≤1000):Cal prog 16 #[v] [Px 2 wv v xs] true (G:=Value×List (Int×SL)) (fun r=>Zj r.2=xs) (fun r=>r.1) (fun r=>[pp r.1 r.2]):=by
 refine Yi func16 J ntmps16 J K1 fun w0 sc hw hsc=>?_
 simp only [Zu,Zt]
 refine Zb<|Ze<|Zp J<|Zc<|Za<|Zb<|Ze<|Zp J<|Zc<|Za<|Zb<|Zb<|Ze<|Zp J<|Zc<|Za<|Zo<|Yo (Np 70 2 48 Hk)<|Yo (Kj qI 71)<|Oc [(0,_)] [(0,_),(1,_)] (fun(q:Nat×Value×List (Int×SL))=>[(4,.int .i64 (q.1:Int)),(3,q.2.1)]) (fun(q:Nat×Value×List (Int×SL))=>[(70,Ld 2 48 Hk q.2.1 q.2.2),(71,Dx qI q.2.2)]) (fun(q:Nat×Value×List (Int×SL))=>(q.1≤xs.length)∧(Zj q.2.2=xs.take q.1)∧(q.2.2.length=q.1)) (fun(q:Nat×Value×List (Int×SL))=>xs.length-q.1) (0,.slice none 0 0,[]) ⟨by first | omega | (dsimp only<;>omega),rfl,rfl⟩ K3 K4 ?_
 rintro⟨i,vo,zs⟩ ⟨hi,hz,hzl⟩
 dsimp only at hi hz hzl
 simp only [CA,NA]
 refine Zb<|Zb<|Ze<|mv J<|mv J<|dt (Yf J J (i:=1) J Zi Xx)<|dt (Xv J J J)<|Zc<|Za<|Zr J (fun h41=>?_) (fun h41=>?_)
 ·refine Zk<|Za<|Zb<|Zo<|Ze<|mv J<|mv J<|mv J<|dt (Xc (ii:=1) J J J J Zi Xx Ye J (by first | omega | (simp only [List.length_set];omega)))<|dt (Xr (ii:=1) 0 J J J Zi pV (by first | omega | (simp only [List.length_set];omega)))<|tt (Zh (n:=2) (Zs8 _ (by have:=hs.getD i;omega)) J J J K1 call30 Zg J hw) fun v _=>Ybu (Nk 2 J Zi) (fun sl hsl=>?_)
  subst hsl
  exact tt (Pn (i:=3) (ivs:=[(0,_)]) (enc:=Hk) [(xs.getD i 0,sl)] J J K2 Pq ti48 J J J J J pI.cells J J hw) fun v_2 _=>tt (Hd (i:=70) (j:=3) (by_:=32) J J J J J J (by decide) J (Xa pI) Pq ti48 J pI J J J (by simp;omega) (by decide) J hw) fun v_3 _=>Zp J<|Zc<|Qn<|Za<|Ze<|mv J<|dt (Ys J J J)<|Zp J<|Zc<|Qu (Ow (q:=qI) (z:=(xs.getD i 0,sl)) 71 2 71 J J J J J)<|Xk (i+1,_,zs ++ [(xs.getD i 0,sl)]) ⟨by first | omega | (dsimp only<;>omega),by rw [Mc 0 _ _ (by omega),←hz];simp [Zj],by simp [hzl]⟩ (by first | omega | (dsimp only<;>omega)) K3 K4
 ·exact Yx<|Zx<|Zx<|Pd<|Za<|Zb<|Yo (Pg 70 J J pI)<|Yo (Kb 70 71 72 J J J J)<|Ze<|mv J<|Zp J<|Zc<|Za<|Zq<|Yu (.inl J) hsc (_,zs) _ (fun a w hs=>Ni hs results16 J) J (by rw [hz,List.take_of_length_le (by omega)]) J (Xu 72 J J J Zm)
theorem rp_to(v:Value)(zs:List (Int×SL))(hs:Sz 1000000 (Zj zs))(hl:zs.length≤1000):Cal prog 18 #[v] [pp v zs] false (G:=Value) (fun r=>True) (fun r=>r) (fun r=>[Px 2 wv r (Zj zs)]):=by
 refine Yi func18 J ntmps18 J K1 fun w0 sc hw hsc=>?_
 simp only [Zu,Zt]
 have hli:=Yc zs
 refine Zb<|Ze<|Zp J<|Zc<|Za<|Zb<|Ze<|Zp J<|Zc<|Za<|Zb<|Zb<|Ze<|Zp J<|Zc<|Za<|Zo<|Yo (Np 70 2 31 wv)<|Oc [(0,_)] [(0,_),(1,_)] (fun(q:Nat×Value)=>[(4,.int .i64 (q.1:Int)),(3,q.2)]) (fun(q:Nat×Value)=>[(70,Ld 2 31 wv q.2 ((Zj zs).take q.1))]) (fun(q:Nat×Value)=>q.1≤zs.length) (fun(q:Nat×Value)=>zs.length-q.1) (0,.slice none 0 0) (by first | omega | (dsimp only<;>omega)) K3 K3 ?_
 rintro⟨i,vo⟩ hi
 dsimp only at hi
 simp only [CA,NA]
 have htl:((Zj zs).take i).length=i:=by rw [List.length_take];omega
 have hci:=Nx zs i
 refine Zb<|Zb<|Ze<|mv J<|mv J<|dt (Yf J J (i:=1) J Yg Pq)<|dt (Xv J J J)<|Zc<|Za<|Zr J (fun h50=>?_) (fun h50=>?_)
 ·exact Zk<|Za<|Zb<|Zo<|Ze<|mv J<|mv J<|mv J<|dt (Xc (ii:=1) J J J J Yg Pq Yz J (by first | omega | (simp only [List.length_set];omega)))<|dt (Xr (ii:=1) I0 J J J Yg pI (by first | omega | (simp only [List.length_set];omega)))<|tt (Zh (n:=1) (r_to _ _ (by rw [hci];have:=hs i;omega)) J J J K1 call53 (Nf 1 J J (Xj) Zg) J hw) fun _ _=>tt (Pn (i:=2) (ivs:=[(0,_)]) (enc:=wv) [(zs.getD i I0).1] J J K2 Xx ti31 J J J J J pV.cells J J hw) fun v _=>tt (Hd (i:=70) (j:=2) (by_:=24) J J J J J J (by decide) J (Xa pV) Xx ti31 J pV J J J (by simp;omega) (by decide) J hw) fun v_2 _=>Zp J<|Zc<|Qn<|Za<|Ze<|mv J<|dt (Ys J J J)<|Zp J<|Zc<|Xk (i+1,_) (by first | omega | (dsimp only<;>omega)) (by first | omega | (dsimp only<;>omega)) K3 ⟨by rw [Mc 0 _ _ (by omega),show(Zj zs).getD i 0=(zs.getD i I0).1 from hci.symm];rfl,rfl,rfl,trivial⟩
 ·exact Yx<|Zx<|Zx<|Pd<|Za<|Zb<|Ze<|mv J<|Zp J<|Zc<|Za<|Zq<|xG hsc _ results18 J J trivial J (Nj 70 J J pV (List.take_of_length_le (by omega)) Zm)
theorem Zby(v:Value)(zs:List (Int×SL))(hs:Sz 3000000000 (Zj zs)):Cal prog 89 #[v] [pp v zs] true (G:=Value×List (Int×SL)) (fun r=>Zj r.2=tzl (Zj zs)) (fun r=>r.1) (fun r=>[pp r.1 r.2]):=by
 refine Yi func89 J ntmps89 J K1 fun w0 sc hw hsc=>?_
 simp only [Zu,Zt]
 refine Nl (Zrw (i:=1) J) fun hself=>Nl (Kk (i:=1) J Yg) (fun hlen=>?_)
 have hli:=Yc zs
 refine Zb<|Ze<|Zp J<|Zc<|Za<|Zb<|Zo<|Oc [] [(0,_)] (fun(k:Nat)=>[(0,Iy v k)]) (fun(k:Nat)=>[(1,pp (Iy v k) (zs.take k))]) (fun(k:Nat)=>(k≤zs.length)∧(tzl ((Zj zs).take k)=tzl (Zj zs))) (fun(k:Nat)=>k) zs.length ⟨Nat.le_refl _,by rw [List.take_of_length_le (by omega)]⟩ ⟨by rw [hself];rfl,trivial⟩ ⟨by rw [hself,List.take_length];rfl,rfl,trivial⟩ ?_
 rintro k ⟨hk,ht⟩
 simp only [CA,NA]
 have hl:(zs.take k).length=k:=by rw [List.length_take];omega
 have hce:((zs.take k).getD (k-1) I0).1=((Zj zs).take k).getD (k-1) 0:=by rw [Nx,Zhi];rfl
 refine Zb<|Zb<|Ze<|mv J<|dt (Yf J J (i:=1) J Yg Pq)<|dt (Pw J J J)<|mv J<|Pf (d:=6) J (fun s22=>?_) (fun s22=>?_)
 ·refine Xh (Yd J J) J J<|Xh (Yd J J) J J<|Xh (Yf J J (i:=1) J Yg Pq) J J<|Xh (Qd J J J) J J<|Xh (Xc (ii:=1) (i:=k-1) J J J J Yg Pq Yz) J J<|Xh (Xr (ii:=1) I0 J J J Yg pI) J J<|Lz (Zh (n:=1) (Dw _ _ (by rw [hce];exact(hs.take _).getD _)) J J J K1 call72 (Nf 1 J J (Xj) Zg) J hw) J J J fun _ _=>Xh (Pj J J J) J J<|dt (Yy J J J)<|Zc<|Za<|Zr J (fun h22=>?_) (fun h22=>?_)
  ·rw [hce]at h22
   have hstep:=Zp5 (xs:=Zj zs) (k:=k) (by omega) (by omega) (Zju (k:=k) (by omega) (Int.sign_eq_zero_iff_zero.1 h22))
   exact Zk<|Za<|Zo<|Ze<|mv J<|mv J<|dt (Yf J J (i:=1) J Yg Pq)<|dt (Qd J J J)<|dt (Zwe (ii:=1) (i:=k-1) J J J J Yg Pq Yz)<|Zp J<|Zc<|Qn<|Qu (Zxl 1 1 (k-1) J J (by omega))<|Xk (k-1) ⟨by first | omega | (dsimp only<;>omega),by rw [←ht,←hstep]⟩ (by first | omega | (dsimp only<;>omega)) ⟨by rw [←Eg v k (k-1)];rfl,trivial⟩ ⟨by rw [Eg,List.take_take,Nat.min_eq_left (by omega)];rfl,rfl,trivial⟩
  ·try rw [hce]at h22
   exact Yx<|Zx<|Zx<|Pd<|Za<|Zb<|Ze<|mv J<|Zp J<|Zc<|Za<|Zq<|Yu (.inl J) hsc (_,zs.take k) _ (fun a w hs=>Ni hs results89 J) J (by rw [Zhi,←ht];exact(Zfv (by omega) (by first | (left;omega) | (right;exact Zfx (k:=k) (by omega) ‹_›))).symm) J (Xu 1 J J J Zm)
 ·exact Xt J J J<|Xt J J J<|Xt J J J<|Xt J J J<|Xt J J J<|Xt J J J<|Xt J J J<|Xt J J J<|dt (Yh J J J)<|Zc<|Za<|Yp J<|Yx<|Zx<|Zx<|Pd<|Za<|Zb<|Ze<|mv J<|Zp J<|Zc<|Za<|Zq<|Yu (.inl J) hsc (_,zs.take k) _ (fun a w hs=>Ni hs results89 J) J (by rw [Zhi,←ht];exact(Zfv (by omega) (by first | (left;omega) | (right;exact Zfx (k:=k) (by omega) ‹_›))).symm) J (Xu 1 J J J Zm)
theorem Zu3(v:Value)(l:List Int)(hl:∀x∈l,inI x)(hlen:l.length≤1000):Cal prog 102 #[v] [Px 1 Fz v l] true (G:=Value×List (Int×SL)) (fun r=>Zj r.2=tzl l) (fun r=>r.1) (fun r=>[pp r.1 r.2]):=by
 refine Yi func102 J ntmps102 J K1 fun w0 sc hw hsc=>?_
 simp only [Zu,Zt]
 have hsz:=Zfy hl
 refine Zb<|Ze<|Zp J<|Zc<|Za<|Zb<|Ze<|Zp J<|Zc<|Za<|Zb<|Zb<|Ze<|Zp J<|Zc<|Za<|Zo<|Yo (Np 70 2 48 Hk)<|Yo (Kj qI 71)<|Oc [(0,_)] [(0,_),(1,_)] (fun(q:Nat×Value×List (Int×SL))=>[(4,.int .i64 (q.1:Int)),(3,q.2.1)]) (fun(q:Nat×Value×List (Int×SL))=>[(70,Ld 2 48 Hk q.2.1 q.2.2),(71,Dx qI q.2.2)]) (fun(q:Nat×Value×List (Int×SL))=>(q.1≤l.length)∧(Zj q.2.2=mk q.1 (cf l))∧(q.2.2.length=q.1)) (fun(q:Nat×Value×List (Int×SL))=>l.length-q.1) (0,.slice none 0 0,[]) ⟨by first | omega | (dsimp only<;>omega),rfl,rfl⟩ K3 K4 ?_
 rintro⟨i,vo,ws⟩ ⟨hi,hz,hzl⟩
 dsimp only at hi hz hzl
 simp only [CA,NA]
 refine Zb<|Zb<|Ze<|mv J<|mv J<|dt (Yf J J (i:=1) J Zi Oo)<|dt (Xv J J J)<|Zc<|Za<|Zr J (fun h59=>?_) (fun h59=>?_)
 ·refine Zk<|Za<|Zb<|Zo<|Ze<|mv J<|mv J<|mv J<|dt (Xc (ii:=1) J J J J Zi Oo zT3 J (by first | omega | (simp only [List.length_set];omega)))<|dt (Xr (ii:=1) 0 J J J Zi pZ (by first | omega | (simp only [List.length_set];omega)))<|tt (Zh (n:=2) (Zgg _ (hl _ (Xj))) J J J K1 call34 Zg J hw) fun v _=>Ybu (Nk 2 J Zi) (fun sl hsl=>?_)
  subst hsl
  exact tt (Pn (i:=3) (ivs:=[(0,_)]) (enc:=Hk) [(l.getD i 0,sl)] J J K2 Pq ti48 J J J J J pI.cells J J hw) fun v_2 _=>tt (Hd (i:=70) (j:=3) (by_:=32) J J J J J J (by decide) J (Xa pI) Pq ti48 J pI J J J (by simp;omega) (by decide) J hw) fun v_3 _=>Zp J<|Zc<|Qn<|Za<|Ze<|mv J<|dt (Ys J J J)<|Zp J<|Zc<|Qu (Ow (q:=qI) (z:=(l.getD i 0,sl)) 71 2 71 J J J J J)<|Xk (i+1,_,ws ++ [(l.getD i 0,sl)]) ⟨by first | omega | (dsimp only<;>omega),by rw [Hz,Zb4,hz];dsimp only;rfl,by simp [hzl]⟩ (by first | omega | (dsimp only<;>omega)) K3 K4
 ·exact Yx<|Zx<|Zx<|Pd<|Za<|Zb<|Yo (Pg 70 J J pI)<|Yo (Kb 70 71 72 J J J J)<|Ze<|mv J<|tt (Zh (n:=4) (Zby _ _ (by rw [hz];exact Az fun t ht=>by have:=hsz t;omega)) J J J K1 call89 (Zd 72 J J J Zg) J hw) fun g hg=>Zp J<|Zc<|Za<|Zq<|xG hsc _ results102 J J (by rw [hg,hz,show i=l.length by omega,Zi5]) J (Xu 4 J J J Zm)
theorem Zga(v:Value)(zs:List (Int×SL))(j:Int)(i:Nat)(hj:j=(i:Int):=by omega)(hi:i≤1000000:=by omega):Cal prog 101 #[v,.int .i64 j] [pp v zs] true (G:=Value) (fun r=>True) (fun r=> .agg #[.bool (decide (cf (Zj zs) i<0)),r]) (fun r=>[Mw r (cf (Zj zs) i).natAbs]):=by
 refine Yi func101 J ntmps101 J K1 fun w0 sc hw hsc=>?_
 simp only [Zu,Zt]
 have hli:=Yc zs
 refine Nl (Kk (i:=1) J Yg) fun hlen=>Yo (Np 60 1 3 Ht)<|Yo (Pg 60 J J pN)<|Zb<|Ze<|tt (Zy (i:=2) J J zeroValue48 J J hw) fun b _=>Zc<|Za<|Zb<|Zb<|Ze<|mv J<|dt (Xv J J J)<|mv J<|Pf (d:=7) J (fun s91=>?_) (fun s91=>?_)
 ·exfalso;omega
 ·refine Xh (Yd J J) J J<|Xh (Yd J J) J J<|Xh (Yf J J (i:=1) J Yg Pq) J J<|Xh (Lg J J J) J J<|dt (Yh J J J)<|Zc<|Za<|Zr J (fun h91=>?_) (fun h91=>?_)
  ·refine Zb<|Ze<|dt (Oq (ivs:=[]) J trivial (fun a w hs=>Zyu))<|tt (Zl (i:=2) J J J J J J Yz J J ⟨Zf J,Zf J,trivial⟩ J hw trivial) fun _ _=>Zc<|Za<|Zq<|Yn ?_
   have hz0:cf (Zj zs) i=0:=Qe (by omega)
   exact Yu (.inl J) hsc (.slice none 0 0) _ (fun a w hs=>Ni hs results101 (Xg (i:=2) J J Oy Yz J)) (by rw [hz0]<;>rfl) trivial J (Ig (by rw [hz0];rfl) Zm)
  ·exact Zk<|Za<|Zb<|Ze<|mv J<|mv J<|dt (Xc (ii:=1) (i:=i) J J J J Yg Pq Yz hj)<|dt (Xr (ii:=1) I0 J J J Yg pI)<|tt (Zl (i:=2) J J J J J J Yz J J ⟨Zf J,Zf J,trivial⟩ J hw trivial) fun _ _=>Zc<|Za<|Zq<|Yu (.inl J) hsc _ _ (fun a w hs=>Ni hs results101 (Xg (i:=2) J J Oy Yz J)) (by rw [←Nx]<;>rfl) trivial J (Ye2 1 J J (Xj (i:=i)) (by rw [←Nx]<;>rfl) Zm)
theorem Zaz(v w:Value)(zs:List (Int×SL))(y:Int)(hs:Sz 1000000 (Zj zs))(hy:bl y.natAbs≤1000000)(hl:zs.length≤1000:=by omega):Cal prog 56 #[v,.agg #[.bool (decide (y<0)),w]] [pp v zs,Mw w y.natAbs] true (G:=Value×List (Int×SL)) (fun r=>Zj r.2=Xw (Zj zs) y) (fun r=>r.1) (fun r=>[pp r.1 r.2]):=by
 refine Yi func56 J ntmps56 J K2 fun w0 sc hw hsc=>?_
 simp only [Zu,Zt]
 have hli:=Yc zs
 refine Zb<|Ze<|tt (Yw (i:=3) J J J J J hw) fun b _=>Zp J<|Zc<|Za<|Zb<|Ze<|Zp J<|Zc<|Za<|Zb<|Zb<|Ze<|Zp J<|Zc<|Za<|Zo<|Yo (Np 70 2 48 Hk)<|Yo (Kj qI 71)<|Oc [(0,_),(3,_)] [(0,_),(1,_),(2,_),(3,_)] (fun(q:Nat×Value×List (Int×SL))=>[(6,.int .i64 (q.1:Int)),(5,q.2.1)]) (fun(q:Nat×Value×List (Int×SL))=>[(70,Ld 2 48 Hk q.2.1 q.2.2),(71,Dx qI q.2.2)]) (fun(q:Nat×Value×List (Int×SL))=>(q.1≤zs.length)∧(Zj q.2.2=mk q.1 (fun t=>cf (Zj zs) t*y))∧(q.2.2.length=q.1)) (fun(q:Nat×Value×List (Int×SL))=>zs.length-q.1) (0,.slice none 0 0,[]) ⟨by first | omega | (dsimp only<;>omega),rfl,rfl⟩ K4 K6 ?_
 rintro⟨i,vo,ws⟩ ⟨hi,hz,hzl⟩
 dsimp only at hi hz hzl
 simp only [CA,NA]
 have hci:=Nx zs i
 refine Zb<|Zb<|Ze<|mv J<|mv J<|dt (Yf J J (i:=1) J Yg Pq)<|dt (Xv J J J)<|Zc<|Za<|Zr J (fun h109=>?_) (fun h109=>?_)
 ·refine Zk<|Za<|Zb<|Zo<|Nm [1,3] [9]<|Ya (n:=3) [(0,0),(1,0),(2,0),(3,0),(4,0),(5,0),(6,1)]<|Zs J J (Xm (Yd J J) K2)<|Zs J J (Xm (Yd J J) K2)<|Zs J J (Xm (Yd J J) K2)<|Zs J J (Xm (Xc (ii:=1) J J J J Yg Pq Yz J (by first | omega | (simp only [List.length_set];omega))) K2)<|Zs J J (Xm (Xr (ii:=1) I0 J J J Yg pI (by first | omega | (simp only [List.length_set];omega))) K2)<|Zs J J (Xm (Yb (i:=3) J J J Oy Yz J J) K2)<|Xb J (Zh (n:=4) (Kc _ _ _ _ (by rw [hci];have:=hs i;omega)) J J J K2 Gp (Nf 1 J J (Xj) (Zd 2 J J J Zg)) J hw) fun v _=>Yl<|Zdo (Nk 4 J Zi) (fun sl hsl=>?_)
  subst hsl
  exact Ya (n:=0) [(7,1),(8,1),(9,3)]<|Xb J (Pn (i:=73) (ivs:=[(0,_)]) (enc:=Hk) [((zs.getD i I0).1*y,sl)] J J K2 Pq ti48 J J J J J pI.cells J J hw) fun v_2 _=>Xb J (Ze6 70 J J J K2 (fun hoffr=>(Zbs (xs:=ws) (ys:=[_]) (i:=70) (j:=73) (by_:=32) J J J J J J (by decide) J (Xa pI) Pq ti48 J pI J J J (by simp;omega) (by decide) J hw hoffr))) fun v_3 _=>Po J (Od (Mb J J) J) fun _ _=>Yl<|Yk<|Qn<|Za<|Ze<|mv J<|dt (Ys J J J)<|Zp J<|Zc<|Qu (Ow (q:=qI) (z:=((zs.getD i I0).1*y,sl)) 71 4 71 J J J J J)<|Xk (i+1,_,ws ++ [((zs.getD i I0).1*y,sl)]) ⟨by first | omega | (dsimp only<;>omega),by rw [Hz,Zb4,hz];dsimp only;rw [Nx],by simp [hzl]⟩ (by first | omega | (dsimp only<;>omega)) K4 K6
 ·exact Yx<|Zx<|Zx<|Pd<|Za<|Zb<|Yo (Pg 70 J J pI)<|Yo (Kb 70 71 72 J J J J)<|Ze<|mv J<|tt (Zh (n:=5) (Zby _ _ (by rw [hz];exact Az fun t ht=>by have:=Qk (cf (Zj zs) t) y;have:=hs t;omega)) J J J K1 call89 (Zd 72 J J J Zg) J hw) fun g hg=>Zp J<|Zc<|Za<|Zq<|xG hsc _ results56 J J (by rw [hg,hz,show i=(Zj zs).length by omega,Ztb]) J (Xu 5 J J J Zm)
theorem Zn2(v:Value)(zs:List (Int×SL))(hs:Sz 1000000 (Zj zs))(hl:zs.length≤1000:=by omega):Cal prog 138 #[v] [pp v zs] true (G:=Value×List (Int×SL)) (fun r=>Zj r.2=Xw (Zj zs) (-1)) (fun r=>r.1) (fun r=>[pp r.1 r.2]):=by
 refine Yi func138 J ntmps138 J K1 fun w0 sc hw hsc=>?_
 simp only [Zu,Zt]
 exact Zb<|Ze<|Zp J<|Zc<|Za<|Zb<|Ze<|mv J<|tt (Zh (n:=2) (Zgg (-1)) J J J K1 call34 Zg J hw) fun v _=>tt (Zh (n:=3) (Zaz _ _ _ _ hs (by decide) hl) J J J K2 call56 (Zd 1 J J J (Zd 2 J J J Zg)) J hw) fun g hg=>Zp J<|Zc<|Za<|Zq<|xG hsc _ results138 J J hg J (Xu 3 J J J Zm)
theorem Zz5(v u:Value)(zs ys:List (Int×SL))(hs:Sz 1000000 (Zj zs))(hl:zs.length≤1000)(ht:Sz 1000000 (Zj ys))(hk:ys.length≤1000):Cal prog 43 #[v,u] [pp v zs,pp u ys] true (G:=Value×List (Int×SL)) (fun r=>Zj r.2=Zfd (Zj zs) (Zj ys)) (fun r=>r.1) (fun r=>[pp r.1 r.2]):=by
 refine Yi func43 J ntmps43 J K2 fun w0 sc hw hsc=>?_
 simp only [Zu,Zt]
 have hli:=Yc zs
 have hli2:=Yc ys
 refine Nl (Kk (i:=1) J Yg) fun hlen=>Nl (Kk (i:=2) J Yg) fun hlen2=>Zb<|Ze<|Zp J<|Zc<|Za<|Zb<|Ze<|Zp J<|Zc<|Za<|Zb<|Zb<|Ze<|Zp J<|Zc<|Za<|Zo<|Yo (Np 70 2 48 Hk)<|Yo (Kj qI 71)<|Oc [(0,_),(1,_)] [(0,_),(1,_),(2,_)] (fun(q:Nat×Value×List (Int×SL))=>[(6,.int .i64 (q.1:Int)),(5,q.2.1)]) (fun(q:Nat×Value×List (Int×SL))=>[(70,Ld 2 48 Hk q.2.1 q.2.2),(71,Dx qI q.2.2)]) (fun(q:Nat×Value×List (Int×SL))=>(q.1≤(max zs.length ys.length))∧(Zj q.2.2=mk q.1 (fun t=>cf (Zj zs) t+cf (Zj ys) t))∧(q.2.2.length=q.1)) (fun(q:Nat×Value×List (Int×SL))=>(max zs.length ys.length)-q.1) (0,.slice none 0 0,[]) ⟨by first | omega | (dsimp only<;>omega),rfl,rfl⟩ K4 K5 ?_
 rintro⟨i,vo,ws⟩ ⟨hi,hz,hzl⟩
 dsimp only at hi hz hzl
 simp only [CA,NA]
 refine Zb<|Iz [(0,_),(1,_),(5,_),(6,_)] [(0,_),(70,_),(71,_),(1,_),(2,_)] (fun(_:Unit)=>[(16,.bool (decide (i<max zs.length ys.length)))]) (fun(_:Unit)=>[]) (fun(_:Unit)=>True) K4 K5 ?_ ?_
 ·refine Ze<|mv J<|mv J<|dt (Yf J J (i:=1) J Yg Pq)<|dt (Xv J J J)<|mv J<|Pf (d:=11) J (fun s100=>?_) (fun s100=>?_)
  ·exact Xt J J J<|Xt J J J<|Xt J J J<|Xt J J J<|dt (Yy J J J)<|Zc<|Xo () trivial ⟨by first | exact congrArg some (vB (decide_eq_decide.2 (by omega))) | exact congrArg some (vB (decide_eq_true (by omega)).symm),rfl,rfl,rfl,rfl,trivial⟩ K5
  ·exact Xh (Yd J J) J J<|Xh (Yd J J) J J<|Xh (Yf J J (i:=2) J Yg Pq) J J<|Xh (Xv J J J) J J<|dt (Yh J J J)<|Zc<|Xo () trivial ⟨by first | exact congrArg some (vB (decide_eq_decide.2 (by omega))) | exact congrArg some (vB (decide_eq_true (by omega)).symm),rfl,rfl,rfl,rfl,trivial⟩ K5
 ·rintro _ -
  simp only [CA,NA]
  refine Zr J (fun h100=>?_) (fun h100=>?_)
  ·refine Zk<|Za<|Zb<|Zo<|Ze<|mv J<|mv J<|mv J<|tt (Zh (n:=3) (Zga _ _ _ i J) J J J K2 call101 (Zd 1 J J J Zg) J hw) fun v _=>mv J<|mv J<|tt (Zh (n:=4) (Zga _ _ _ i J) J J J K2 call101 (Zd 2 J J J Zg) J hw) fun v_2 _=>tt (Zh (n:=5) (Zmr _ _ _ _ (by have:=hs i;omega) (by have:=ht i;omega)) J J J K2 call37 (Zd 3 J J J (Zd 4 J J J Zg)) J hw) fun v_3 _=>Ybu (Nk 5 J Zi) (fun sl hsl=>?_)
   subst hsl
   exact tt (Pn (i:=6) (ivs:=[(0,_)]) (enc:=Hk) [(cf (Zj zs) i+cf (Zj ys) i,sl)] J J K2 Pq ti48 J J J J J pI.cells J J hw) fun v_4 _=>tt (Hd (i:=70) (j:=6) (by_:=32) J J J J J J (by decide) J (Xa pI) Pq ti48 J pI J J J (by simp;omega) (by decide) J hw) fun v_5 _=>Zp J<|Zc<|Qn<|Za<|Ze<|mv J<|dt (Ys J J J)<|Zp J<|Zc<|Qu (Ow (q:=qI) (z:=(cf (Zj zs) i+cf (Zj ys) i,sl)) 71 5 71 J J J J J)<|Xk (i+1,_,ws ++ [(cf (Zj zs) i+cf (Zj ys) i,sl)]) ⟨by first | omega | (dsimp only<;>omega),by rw [Hz,Zb4,hz],by simp [hzl]⟩ (by first | omega | (dsimp only<;>omega)) K4 K5
  ·exact Yx<|Zx<|Zx<|Pd<|Za<|Zb<|Yo (Pg 70 J J pI)<|Yo (Kb 70 71 72 J J J J)<|Ze<|mv J<|tt (Zh (n:=7) (Zby _ _ (by rw [hz];exact Az fun t h=>by have:=Ky (cf (Zj zs) t) (cf (Zj ys) t);have:=hs t;have:=ht t;omega)) J J J K1 call89 (Zd 72 J J J Zg) J hw) fun g hg=>Zp J<|Zc<|Za<|Zq<|xG hsc _ results43 J J (by rw [hg,hz,show i=max (Zj zs).length (Zj ys).length by omega,Yem]) J (Xu 7 J J J Zm)
theorem Zn1(v u:Value)(zs ys:List (Int×SL))(hs:Sz 1000000 (Zj zs))(ht:Sz 1000000 (Zj ys))(hl:zs.length≤1000:=by omega)(hk:ys.length≤1000:=by omega):Cal prog 88 #[v,u] [pp v zs,pp u ys] true (G:=Value×List (Int×SL)) (fun r=>Zj r.2=Zan (Zj zs) (Zj ys)) (fun r=>r.1) (fun r=>[pp r.1 r.2]):=by
 refine Yi func88 J ntmps88 J K2 fun w0 sc hw hsc=>?_
 simp only [Zu,Zt]
 exact Zb<|Ze<|Zp J<|Zc<|Za<|Zb<|Ze<|mv J<|mv J<|tt (Zh (n:=3) (Zn2 _ _ ht hk) J J J K1 call138 (Zd 2 J J J Zg) J hw) fun g hg=>tt (Zh (n:=4) (Zz5 _ _ _ _ hs hl (by rw [hg];intro t;rw [Qo];have h1:=ht t;rw [Int.mul_neg,Int.mul_one,Zlh];exact h1) (by rw [←Yc,hg];have:=Hq (Zj ys) (-1);rw [Yc]at this;omega)) J J J K2 call43 (Zd 1 J J J (Zd 3 J J J Zg)) J hw) fun g_2 hg_2=>Zp J<|Zc<|Za<|Zq<|xG hsc _ results88 J J (by rw [hg_2,hg,Yee]) J (Xu 4 J J J Zm)
theorem Zhp(v:Value)(zs:List (Int×SL))(hs:Sz 1000000 (Zj zs))(hl:zs.length≤1000:=by omega):Cal prog 115 #[v] [pp v zs] true (G:=Value×List (Int×SL)) (fun r=>Zj r.2=Qi (Zj zs)) (fun r=>r.1) (fun r=>[pp r.1 r.2]):=by
 refine Yi func115 J ntmps115 J K1 fun w0 sc hw hsc=>?_
 simp only [Zu,Zt]
 have hli:=Yc zs
 refine Zb<|Ze<|Zp J<|Zc<|Za<|Zb<|Ze<|Zp J<|Zc<|Za<|Zb<|Zb<|Ze<|Zp J<|Zc<|Za<|Zo<|Yo (Np 70 2 48 Hk)<|Yo (Kj qI 71)<|Oc [(0,_)] [(0,_),(1,_)] (fun(q:Nat×Value×List (Int×SL))=>[(4,.int .i64 ((q.1:Int)+1)),(3,q.2.1)]) (fun(q:Nat×Value×List (Int×SL))=>[(70,Ld 2 48 Hk q.2.1 q.2.2),(71,Dx qI q.2.2)]) (fun(q:Nat×Value×List (Int×SL))=>(q.1≤(zs.length-1))∧(Zj q.2.2=mk q.1 (fun t=>cf (Zj zs) (t+1)*((t:Int)+1)))∧(q.2.2.length=q.1)) (fun(q:Nat×Value×List (Int×SL))=>(zs.length-1)-q.1) (0,.slice none 0 0,[]) ⟨by first | omega | (dsimp only<;>omega),rfl,rfl⟩ K3 K4 ?_
 rintro⟨i,vo,ws⟩ ⟨hi,hz,hzl⟩
 dsimp only at hi hz hzl
 simp only [CA,NA]
 have hci:=Nx zs (i+1)
 refine Zb<|Zb<|Ze<|mv J<|mv J<|dt (Yf J J (i:=1) J Yg Pq)<|dt (Xv J J J)<|Zc<|Za<|Zr J (fun h140=>?_) (fun h140=>?_)
 ·refine Zk<|Za<|Zb<|Zo<|Nm [1] [10]<|Ya (n:=3) [(0,0),(1,0),(2,0),(3,0),(4,0),(5,0),(6,1),(7,1)]<|Zs J J (Xm (Yd J J) K1)<|Zs J J (Xm (Yd J J) K1)<|Zs J J (Xm (Yd J J) K1)<|Zs J J (Xm (Xc (ii:=1) (i:=(i+1)) J J J J Yg Pq Yz) K1)<|Zs J J (Xm (Xr (ii:=1) I0 J J J Yg pI) K1)<|Zs J J (Xm (Yd J J) K1)<|Xb J (Zh (n:=2) (Zgg ((i:Int)+1)) J J J K1 call34 Zg J hw) fun v _=>Xb J (Zh (n:=3) (Kc _ _ _ _ (by rw [hci];have:=hs (i+1);omega) (bl_i1 (by omega))) J J J K2 Gp (Nf 1 J J (Xj (i:=i+1)) (Zd 2 J J J Zg)) J hw) fun v_2 _=>Yl<|Zdo (Nk 3 J Zi) (fun sl hsl=>?_)
  subst hsl
  exact Ya (n:=0) [(8,1),(9,1),(10,3)]<|Xb J (Pn (i:=73) (ivs:=[(0,_)]) (enc:=Hk) [((zs.getD (i+1) I0).1*((i:Int)+1),sl)] J J K2 Pq ti48 J J J J J pI.cells J J hw) fun v_3 _=>Xb J (Ze6 70 J J J K1 (fun hoffr=>(Zbs (xs:=ws) (ys:=[_]) (i:=70) (j:=73) (by_:=32) J J J J J J (by decide) J (Xa pI) Pq ti48 J pI J J J (by simp;omega) (by decide) J hw hoffr))) fun v_4 _=>Po J (Od (Mb J J) J) fun _ _=>Yl<|Yk<|Qn<|Za<|Ze<|mv J<|dt (Ys J J J)<|Zp J<|Zc<|Qu (Ow (q:=qI) (z:=((zs.getD (i+1) I0).1*((i:Int)+1),sl)) 71 3 71 J J J J J)<|Xk (i+1,_,ws ++ [((zs.getD (i+1) I0).1*((i:Int)+1),sl)]) ⟨by first | omega | (dsimp only<;>omega),by rw [Hz,Zb4,hz];dsimp only;rw [Nx],by simp [hzl]⟩ (by first | omega | (dsimp only<;>omega)) K3 K4
 ·exact Yx<|Zx<|Zx<|Pd<|Za<|Zb<|Yo (Pg 70 J J pI)<|Yo (Kb 70 71 72 J J J J)<|Ze<|mv J<|Zp J<|Zc<|Za<|Zq<|Yu (.inl J) hsc (_,ws) _ (fun a w hs=>Ni hs results115 J) J (by rw [hz,show i=(Zj zs).length-1 by omega]<;>rfl) J (Xu 72 J J J Zm)
theorem Zf9(v:Value)(x:Int)(j:Int)(n:Nat)(hx:bl x.natAbs≤1000000)(hj:j=(n:Int):=by omega)(hn:n≤100:=by omega):Cal prog 165 #[.agg #[.bool (decide (x<0)),v],.int .i64 j] [Mw v x.natAbs] true (G:=Value) (fun r=>True) (fun r=> .agg #[.bool (decide (x^n<0)),r]) (fun r=>[Mw r (x^n).natAbs]):=by
 refine Yi func165 J ntmps165 J K1 fun w0 sc hw hsc=>?_
 simp only [Zu,Zt]
 have hpb:=fun k=>Zbu hx k
 refine Zb<|Ze<|tt (Yw (i:=2) J J J J J hw) fun b _=>tt (Zy (i:=3) J J zeroValue48 J J hw) fun b_2 _=>Zc<|Za<|Zb<|Ze<|tt (Zh (n:=98) (Zgg 1) J J J K1 call34 Zg J hw) fun v _=>tt (Zy (i:=97) J J zeroValue48 J J hw) fun b_3 _=>tt (Zl (i:=97) J J J J J J Yz J J ⟨Zf J,Zn (i:=98) J Zi,trivial⟩ J hw trivial) fun _ _=>Zc<|Za<|Zb<|Zb<|Ze<|Zp J<|Zc<|Za<|Zo<|Oc [(1,_),(2,_),(4,_),(5,_)] [(0,_),(1,_),(2,_),(3,_)] (fun(q:Nat×Value)=>[(6,.int .i64 (q.1:Int))]) (fun(q:Nat×Value)=>[(97,box b_3 48 #[.bool (decide (x^q.1<0)),q.2]),(98,Mw q.2 (x^q.1).natAbs)]) (fun(q:Nat×Value)=>q.1≤n) (fun(q:Nat×Value)=>n-q.1) (0,_) (by first | omega | (dsimp only<;>omega)) K5 ⟨by rw [Int.pow_zero];rfl,by rw [Int.pow_zero];rfl,rfl,rfl,rfl,rfl,trivial⟩ ?_
 rintro⟨i,vs⟩ hi
 dsimp only at hi
 simp only [CA,NA]
 have hp1:=hpb i
 have hp2:i*1000000≤100*1000000:=Nat.mul_le_mul_right _ (by omega)
 refine Zb<|Zb<|Ze<|mv J<|mv J<|dt (Xv J J J)<|Zc<|Za<|Zr J (fun h149=>?_) (fun h149=>?_)
 ·exact Zk<|Za<|Zb<|Zo<|Ze<|dt (Yb (i:=97) J J J Oy Yz J J)<|dt (Yb (i:=2) J J J Oy Yz J J)<|tt (Zh (n:=4) (Kc _ _ _ _) J J J K2 Gp (Zd 98 J J J (Zd 1 J J J Zg)) J hw) fun v_2 _=>tt (Zl (i:=97) J J J J J J Yz J J ⟨Zf J,Zn (i:=4) J Zi,trivial⟩ J hw trivial) fun _ _=>Zc<|Qn<|Za<|Ze<|mv J<|dt (Ys J J J)<|Zp J<|Zc<|Qu (Pu 4 98 J J J)<|Xk (i+1,v_2) (by first | omega | (dsimp only<;>omega)) (by first | omega | (dsimp only<;>omega)) K5 ⟨by rw [Int.pow_succ];rfl,by rw [Int.pow_succ];rfl,rfl,rfl,rfl,rfl,trivial⟩
 ·refine Yx<|Zx<|Zx<|Pd<|Za<|Zb ?_
  obtain rfl:i=n:=by omega
  exact Ze<|dt (Yb (i:=97) J J J Oy Yz J J)<|tt (Zl (i:=3) J J J J J J Yz J J ⟨Zf J,Zn (i:=98) J Zi,trivial⟩ J hw trivial) fun _ _=>Zc<|Za<|Zq<|Yu (.inl J) hsc _ _ (fun a w hs=>Ni hs results165 (Xg (i:=3) J J Oy Yz J)) J trivial J (Xu 98 J J J Zm)
theorem Zu4(v w u:Value)(zs:List (Int×SL))(x y:Int)(hs:Sz 1000000 (Zj zs))(hx:bl x.natAbs≤1000000)(hy:bl y.natAbs≤1000000)(hl:zs.length≤30:=by omega):Cal prog 121 #[v,.agg #[.bool (decide (x<0)),w,.bool (decide (y<0)),u]] [pp v zs,Mw w x.natAbs,Mw u y.natAbs] true (G:=Value) (fun r=>True) (fun r=> .agg #[.bool (decide (pev (Zj zs) x y<0)),r]) (fun r=>[Mw r (pev (Zj zs) x y).natAbs]):=by
 refine Yi func121 J ntmps121 J K3 fun w0 sc hw hsc=>?_
 simp only [Zu,Zt]
 have hli:=Yc zs
 have hpx:=fun k=>Zbu hx k
 have hpy:=fun k=>Zbu hy k
 have htb:=ev_tb hs hpx hpy (by omega:(Zj zs).length≤30)
 have hsb:=fun i (h:i≤30)=>Zpr (n:=i) (fun t _=>htb t) (by omega)
 refine Zb<|Ze<|tt (Yw (i:=4) J J J J J hw) fun b _=>tt (Zy (i:=5) J J zeroValue48 J J hw) fun b_2 _=>Zc<|Za<|Zb<|Ze<|dt (Oq (ivs:=[]) J trivial (fun a w hs=>Zyu))<|tt (Zy (i:=97) J J zeroValue48 J J hw) fun b_3 _=>tt (Zl (i:=97) J J J J J J Yz J J ⟨Zf J,Zf J,trivial⟩ J hw trivial) fun _ _=>Zc<|Za<|Zb<|Zb<|Ze<|Zp J<|Zc<|Za<|Zo<|Yo (Np 98 1 3 Ht)<|Yo (Pg 98 J J pN)<|Oc [(0,_),(3,_),(4,_),(5,_)] [(0,_),(1,_),(2,_),(3,_),(4,_),(5,_)] (fun(q:Nat×Value)=>[(6,.int .i64 (q.1:Int))]) (fun(q:Nat×Value)=>[(97,box b_3 48 #[.bool (decide (Qr (fun t=>cf (Zj zs) t*(x^t*y^((Zj zs).length-1-t))) q.1<0)),q.2]),(98,Mw q.2 (Qr (fun t=>cf (Zj zs) t*(x^t*y^((Zj zs).length-1-t))) q.1).natAbs)]) (fun(q:Nat×Value)=>q.1≤zs.length) (fun(q:Nat×Value)=>zs.length-q.1) (0,.slice none 0 0) (by first | omega | (dsimp only<;>omega)) K5 K8 ?_
 rintro⟨i,vs⟩ hi
 dsimp only at hi
 simp only [CA,NA]
 have hci:=Nx zs i
 have h1:=hpx i
 have h2:=hpy ((Zj zs).length-1-i)
 have h3:i*1000000≤30*1000000:=Nat.mul_le_mul_right _ (by omega)
 have h4:((Zj zs).length-1-i)*1000000≤30*1000000:=Nat.mul_le_mul_right _ (by omega)
 have h5:=Qk (x^i) (y^((Zj zs).length-1-i))
 have h6:=hs i
 have h7:=hsb i (by omega)
 refine Zb<|Zb<|Ze<|mv J<|mv J<|dt (Yf J J (i:=1) J Yg Pq)<|dt (Xv J J J)<|Zc<|Za<|Zr J (fun h158=>?_) (fun h158=>?_)
 ·refine Zk<|Za<|Zb<|Zo<|Qs (fun _=>False) [(0,0),(1,0),(2,0),(3,0),(4,0),(5,0),(6,0),(7,0),(9,0),(10,0),(11,0),(12,0),(13,0),(14,0),(15,0),(8,1),(16,1),(17,1),(18,1),(19,1),(20,3)] ?_ ?_
  ·kernel_rfl
  refine Zs J J (Yt (Yb (i:=97) J J J Oy Yz J J))<|Zs J J (Yt (Yd J J))<|Zs J J (Yt (Yd J J))<|Zs J J (Yt (Xc (ii:=1) J J J J Yg Pq Yz J (by first | omega | (simp only [List.length_set];omega))))<|Zs J J (Yt (Xr (ii:=1) I0 J J J Yg pI (by first | omega | (simp only [List.length_set];omega))))<|Zs J J (Yt (Yv J J Zii J Yz J J))<|Zs J J (Yt (Yb (i:=4) J J J Oy Yz J J))<|Zs J J (Yt (Yd J J))<|Zs J J (Yt (Yv J J Zii J Yz J J))<|Zs J J (Yt (Yb (i:=4) J J J Oy Yz J J))<|Zs J J (Yt (Yd J J))<|Zs J J (Yt (Yf J J (i:=1) J Yg Pq))<|Zs J J (Yt (Qd J J J))<|Zs J J (Yt (Yd J J))<|Zs J J (Yt (Qd J J J))<|Xb J (Zh (n:=6) (Zf9 _ _ _ i hx J) J J J K2 call165 (Zd 2 J J J Zg) J hw) fun v _=>Xb J (Zh (n:=7) (Zf9 _ _ _ ((Zj zs).length-1-i) hy) J J J K2 call165 (Zd 3 J J J Zg) J hw) fun v_2 _=>Xb J (Zh (n:=8) (Kc _ _ _ _ (by first | omega | (rw [hci];omega))) J J J K2 Gp (Zd 6 J J J (Zd 7 J J J Zg)) J hw) fun v_3 _=>Xb J (Zh (n:=9) (Kc _ _ _ _ (by first | omega | (rw [hci];omega))) J J J K2 Gp (Nf 1 J J (Xj) (Zd 8 J J J Zg)) J hw) (fun v_4 _=>?_)
  exact Xb J (Zh (n:=10) (Zmr _ _ _ _ (by omega) (by rw [hci];have:=htb i;omega)) J J J K2 call37 (Zd 98 J J J (Zd 9 J J J Zg)) J hw) fun v_5 _=>Po J (Zl (i:=97) J J J J J J Yz J J ⟨Zf J,Zn (i:=10) J Zi,trivial⟩ J hw trivial) fun _ _=>Ob<|Qn<|Za<|Ze<|mv J<|dt (Ys J J J)<|Zp J<|Zc<|Qu (Pu 10 98 J J J)<|Xk (i+1,v_5) (by first | omega | (dsimp only<;>omega)) (by first | omega | (dsimp only<;>omega)) K5 ⟨by rw [hci,Qq];rfl,by rw [hci,Qq];rfl,rfl,rfl,rfl,rfl,rfl,rfl,trivial⟩
 ·refine Yx<|Zx<|Zx<|Pd<|Za<|Zb ?_
  obtain rfl:i=zs.length:=by omega
  exact Ze<|dt (Yb (i:=97) J J J Oy Yz J J)<|tt (Zl (i:=5) J J J J J J Yz J J ⟨Zf J,Zn (i:=98) J Zi,trivial⟩ J hw trivial) fun _ _=>Zc<|Za<|Zq<|Yu (.inl J) hsc _ _ (fun a w hs=>Ni hs results121 (Xg (i:=5) J J Oy Yz J)) (by unfold pev;rw [hli]<;>rfl) trivial J (Xe 98 J J J (by unfold pev;rw [hli]<;>rfl) Zm)
theorem Zs2(v:Value)(zs:List (Int×SL))(hs:Sz 1000000 (Zj zs))(hl:zs.length≤1000):Cal prog 116 #[v] [pp v zs] true (G:=Value) (fun r=>True) (fun r=> .agg #[.bool (decide (Ql (Zj zs)<0)),r]) (fun r=>[Mw r (Ql (Zj zs)).natAbs]):=by
 refine Yi func116 J ntmps116 J K1 fun w0 sc hw hsc=>?_
 simp only [Zu,Zt]
 have hli:=Yc zs
 have hcb:∀k,bl (Ql ((Zj zs).take k)).natAbs≤1000000:=fun k=>Zgl _ (hs.take k)
 refine Zb<|Ze<|tt (Zy (i:=2) J J zeroValue48 J J hw) fun b _=>Zc<|Za<|Zb<|Ze<|dt (Oq (ivs:=[]) J trivial (fun a w hs=>Zyu))<|tt (Zy (i:=97) J J zeroValue48 J J hw) fun b_2 _=>tt (Zl (i:=97) J J J J J J Yz J J ⟨Zf J,Zf J,trivial⟩ J hw trivial) fun _ _=>Zc<|Za<|Zb<|Zb<|Ze<|Zp J<|Zc<|Za<|Zo<|Yo (Np 98 1 3 Ht)<|Yo (Pg 98 J J pN)<|Oc [(0,_),(2,_),(3,_)] [(0,_),(1,_),(2,_)] (fun(q:Nat×Value)=>[(4,.int .i64 (q.1:Int))]) (fun(q:Nat×Value)=>[(97,box b_2 48 #[.bool (decide (Ql ((Zj zs).take q.1)<0)),q.2]),(98,Mw q.2 (Ql ((Zj zs).take q.1)).natAbs)]) (fun(q:Nat×Value)=>q.1≤zs.length) (fun(q:Nat×Value)=>zs.length-q.1) (0,.slice none 0 0) (by first | omega | (dsimp only<;>omega)) K4 K5 ?_
 rintro⟨i,vs⟩ hi
 dsimp only at hi
 simp only [CA,NA]
 have hci:=Nx zs i
 have hgc:=fun h=>Ie (p:=Zj zs) (k:=i) h
 have h1:=hcb i
 have h2:=hs i
 refine Zb<|Zb<|Ze<|mv J<|mv J<|dt (Yf J J (i:=1) J Yg Pq)<|dt (Xv J J J)<|Zc<|Za<|Zr J (fun h186=>?_) (fun h186=>?_)
 ·refine Zk<|Za<|Zb<|Zo<|Qs (fun _=>False) [(0,0),(1,0),(2,0),(3,0),(4,0),(5,1),(6,3)] ?_ ?_
  ·kernel_rfl
  exact Zs J J (Yt (Yb (i:=97) J J J Oy Yz J J))<|Zs J J (Yt (Yd J J))<|Zs J J (Yt (Yd J J))<|Zs J J (Yt (Xc (ii:=1) J J J J Yg Pq Yz J (by first | omega | (simp only [List.length_set];omega))))<|Zs J J (Yt (Xr (ii:=1) I0 J J J Yg pI (by first | omega | (simp only [List.length_set];omega))))<|Xb J (Zh (n:=3) (r_gcd _ _ _ _ (by rw [hci];omega)) J J J K2 call71 (Zd 98 J J J (Nf 1 J J (Xj) Zg)) J hw) fun v _=>Po J (Zl (i:=97) J J J J J J Yz J J ⟨Zf J,Zn (i:=3) J Zi,trivial⟩ J hw trivial) fun _ _=>Ob<|Qn<|Za<|Ze<|mv J<|dt (Ys J J J)<|Zp J<|Zc<|Qu (Pu 3 98 J J J)<|Xk (i+1,v) (by first | omega | (dsimp only<;>omega)) (by first | omega | (dsimp only<;>omega)) K4 ⟨by rw [hgc (by omega),show(Zj zs).getD i 0=(zs.getD i I0).1 from hci.symm];rfl,by rw [hgc (by omega),show(Zj zs).getD i 0=(zs.getD i I0).1 from hci.symm];rfl,rfl,rfl,rfl,trivial⟩
 ·refine Yx<|Zx<|Zx<|Pd<|Za<|Zb ?_
  obtain rfl:i=zs.length:=by omega
  rw [List.take_of_length_le (by omega:(Zj zs).length≤zs.length)]
  exact Ze<|dt (Yb (i:=97) J J J Oy Yz J J)<|tt (Zl (i:=2) J J J J J J Yz J J ⟨Zf J,Zn (i:=98) J Zi,trivial⟩ J hw trivial) fun _ _=>Zc<|Za<|Zq<|Yu (.inl J) hsc _ _ (fun a w hs=>Ni hs results116 (Xg (i:=2) J J Oy Yz J)) J trivial J (Xu 98 J J J Zm)
theorem Gs(v:Value)(zs:List (Int×SL))(hs:Sz 1000000 (Zj zs))(hc:zs.length≠0→Ql (Zj zs)≠0)(hl:zs.length≤1000:=by omega):Cal prog 57 #[v] [pp v zs] true (G:=Value×List (Int×SL)) (fun r=>Zj r.2=Xf (Zj zs)) (fun r=>r.1) (fun r=>[pp r.1 r.2]):=by
 refine Yi func57 J ntmps57 J K1 fun w0 sc hw hsc=>?_
 simp only [Zu,Zt]
 have hli:=Yc zs
 have hcb:bl (Ql (Zj zs)).natAbs≤1000000:=Zgl _ hs
 refine Zb<|Ze<|Zp J<|Zc<|Za<|Zb<|Ze<|mv J<|tt (Zh (n:=2) (Zs2 _ _ hs hl) J J J K1 call116 (Zd 1 J J J Zg) J hw) fun v _=>tt (Zy (i:=3) J J zeroValue48 J J hw) fun b _=>tt (Zl (i:=3) J J J J J J Yz J J ⟨Zf J,Zn (i:=2) J Zi,trivial⟩ J hw trivial) fun _ _=>Zc<|Za<|Zb<|Ze<|Zp J<|Zc<|Za<|Zb<|Zb<|Ze<|Zp J<|Zc<|Za<|Zo<|Yo (Np 70 2 48 Hk)<|Yo (Kj qI 71)<|Oc [(0,_),(3,_)] [(0,_),(1,_),(2,_),(3,_)] (fun(q:Nat×Value×List (Int×SL))=>[(5,.int .i64 (q.1:Int)),(4,q.2.1)]) (fun(q:Nat×Value×List (Int×SL))=>[(70,Ld 2 48 Hk q.2.1 q.2.2),(71,Dx qI q.2.2)]) (fun(q:Nat×Value×List (Int×SL))=>(q.1≤zs.length)∧(Zj q.2.2=mk q.1 (fun t=>cf (Zj zs) t/Ql (Zj zs)))∧(q.2.2.length=q.1)) (fun(q:Nat×Value×List (Int×SL))=>zs.length-q.1) (0,.slice none 0 0,[]) ⟨by first | omega | (dsimp only<;>omega),rfl,rfl⟩ K4 K6 ?_
 rintro⟨i,vo,ws⟩ ⟨hi,hz,hzl⟩
 dsimp only at hi hz hzl
 simp only [CA,NA]
 have hci:=Nx zs i
 refine Zb<|Zb<|Ze<|mv J<|mv J<|dt (Yf J J (i:=1) J Yg Pq)<|dt (Xv J J J)<|Zc<|Za<|Zr J (fun h196=>?_) (fun h196=>?_)
 ·refine Zk<|Za<|Zb<|Zo<|Iz [(0,_),(3,_),(4,_),(5,_)] [(0,_),(70,_),(71,_),(1,_),(2,_),(3,_)] (fun(q:Value×Nat)=>[(6,.pointer (some ⟨q.2,0,none⟩))]) (fun(q:Value×Nat)=>[(83,Mw q.1 ((zs.getD i I0).1/Ql (Zj zs)).natAbs),(97,box q.2 48 #[.bool (decide ((zs.getD i I0).1/Ql (Zj zs)<0)),q.1])]) (fun(q:Value×Nat)=>True) K4 K6 ?_ ?_
  ·refine Nm [1,3] [12]<|Ya (n:=8) [(0,0),(1,0),(2,0),(3,0),(4,0)]<|Zs J J (Xm (Yd J J) K2)<|Zs J J (Xm (Yd J J) K2)<|Zs J J (Xm (Xc (ii:=1) J J J J Yg Pq Yz J (by first | omega | (simp only [List.length_set];omega))) K2)<|Zs J J (Xm (Xr (ii:=1) I0 J J J Yg pI (by first | omega | (simp only [List.length_set];omega))) K2)<|Zs J J (Xm (Yb (i:=3) J J J Oy Yz J J) K2)<|Yl<|Dm (n:=7) 5 9 10 ?_ ?_ ?_
   ·refine Yj J (Zh (n:=83) (Fj _ _ _ _ (by rw [hci];have:=hs i;omega) (hc (by omega))) J J J K2 Zas (Nf 1 J J (Xj) (Zd 2 J J J Zg)) J hw) fun g _=>Ya (n:=4) [(6,0),(7,0),(8,0)]<|Zs J J (Xm (Yd J J) K2)<|Zs J J (Xm (Zz J J J) K2)<|Zs J J (Xm (Zz J J J) K2)<|Yl<|Pb (n:=3) 9 10 ?_ ?_
    ·exact Yj J (Zv (i:=97) J J zeroValue48 J J hw K2) fun b_2 ho=>Ya (n:=0) [(10,1),(11,1),(12,3)]<|Xb J (Zv (i:=99) J J zeroValue48 J J hw K2) fun b_3 ho2=>Xb J (Zl (i:=97) J J J J J J Yz J J ⟨Zf J,Zn (i:=83) J Zi,trivial⟩ J hw ho) fun _ _=>Po J (Zl (i:=99) J J J J J J Yz J J ⟨Zf J,Zn (i:=84) J Zi,trivial⟩ J hw trivial) fun _ _=>Yl<|Yk<|Xo (_,_) trivial K5 K8
    ·exact Yj J (Zv (i:=99) J J zeroValue48 J J hw K2) fun b_4 ho3=>Ya (n:=0) [(9,1),(11,1),(12,3)]<|Xb J (Zv (i:=97) J J zeroValue48 J J hw K2) fun b_5 ho4=>Xb J (Zl (i:=97) J J J J J J Yz J J ⟨Zf J,Zn (i:=83) J Zi,trivial⟩ J hw ho4) fun _ _=>Po J (Zl (i:=99) J J J J J J Yz J J ⟨Zf J,Zn (i:=84) J Zi,trivial⟩ J hw trivial) fun _ _=>Yl<|Yk<|Xo (_,_) trivial K5 K8
   ·refine Yj J (Zv (i:=97) J J zeroValue48 J J hw K2) fun b_6 ho5=>Pb (n:=6) 5 10 ?_ ?_
    ·exact Yj J (Zh (n:=83) (Fj _ _ _ _ (by rw [hci];have:=hs i;omega) (hc (by omega))) J J J K2 Zas (Nf 1 J J (Xj) (Zd 2 J J J Zg)) J hw) fun g_2 _=>Ya (n:=0) [(6,0),(7,0),(8,0),(10,1),(11,1),(12,3)]<|Zs J J (Xm (Yd J J) K2)<|Zs J J (Xm (Zz J J J) K2)<|Zs J J (Xm (Zz J J J) K2)<|Xb J (Zv (i:=99) J J zeroValue48 J J hw K2) fun b_7 ho6=>Xb J (Zl (i:=97) J J J J J J Yz J J ⟨Zf J,Zn (i:=83) J Zi,trivial⟩ J hw ho5) fun _ _=>Po J (Zl (i:=99) J J J J J J Yz J J ⟨Zf J,Zn (i:=84) J Zi,trivial⟩ J hw trivial) fun _ _=>Yl<|Yk<|Xo (_,_) trivial K5 K8
    ·exact Yj J (Zv (i:=99) J J zeroValue48 J J hw K2) fun b_8 ho7=>Ya (n:=0) [(5,1),(6,0),(7,0),(8,0),(11,1),(12,3)]<|Xb J (Zh (n:=83) (Fj _ _ _ _ (by rw [hci];have:=hs i;omega) (hc (by omega))) J J J K2 Zas (Nf 1 J J (Xj) (Zd 2 J J J Zg)) J hw) fun g_3 _=>Zs J J (Xm (Yd J J) K2)<|Zs J J (Xm (Zz J J J) K2)<|Zs J J (Xm (Zz J J J) K2)<|Xb J (Zl (i:=97) J J J J J J Yz J J ⟨Zf J,Zn (i:=83) J Zi,trivial⟩ J hw ho5) fun _ _=>Po J (Zl (i:=99) J J J J J J Yz J J ⟨Zf J,Zn (i:=84) J Zi,trivial⟩ J hw trivial) fun _ _=>Yl<|Yk<|Xo (_,_) trivial K5 K8
   ·refine Yj J (Zv (i:=99) J J zeroValue48 J J hw K2) fun b_9 ho8=>Pb (n:=6) 5 9 ?_ ?_
    ·exact Yj J (Zh (n:=83) (Fj _ _ _ _ (by rw [hci];have:=hs i;omega) (hc (by omega))) J J J K2 Zas (Nf 1 J J (Xj) (Zd 2 J J J Zg)) J hw) fun g_4 _=>Ya (n:=0) [(6,0),(7,0),(8,0),(9,1),(11,1),(12,3)]<|Zs J J (Xm (Yd J J) K2)<|Zs J J (Xm (Zz J J J) K2)<|Zs J J (Xm (Zz J J J) K2)<|Xb J (Zv (i:=97) J J zeroValue48 J J hw K2) fun b_10 ho9=>Xb J (Zl (i:=97) J J J J J J Yz J J ⟨Zf J,Zn (i:=83) J Zi,trivial⟩ J hw ho9) fun _ _=>Po J (Zl (i:=99) J J J J J J Yz J J ⟨Zf J,Zn (i:=84) J Zi,trivial⟩ J hw trivial) fun _ _=>Yl<|Yk<|Xo (_,_) trivial K5 K8
    ·exact Yj J (Zv (i:=97) J J zeroValue48 J J hw K2) fun b_11 ho10=>Ya (n:=0) [(5,1),(6,0),(7,0),(8,0),(11,1),(12,3)]<|Xb J (Zh (n:=83) (Fj _ _ _ _ (by rw [hci];have:=hs i;omega) (hc (by omega))) J J J K2 Zas (Nf 1 J J (Xj) (Zd 2 J J J Zg)) J hw) fun g_5 _=>Zs J J (Xm (Yd J J) K2)<|Zs J J (Xm (Zz J J J) K2)<|Zs J J (Xm (Zz J J J) K2)<|Xb J (Zl (i:=97) J J J J J J Yz J J ⟨Zf J,Zn (i:=83) J Zi,trivial⟩ J hw ho10) fun _ _=>Po J (Zl (i:=99) J J J J J J Yz J J ⟨Zf J,Zn (i:=84) J Zi,trivial⟩ J hw trivial) fun _ _=>Yl<|Yk<|Xo (_,_) trivial K5 K8
  ·rintro⟨qv,b6⟩ -
   simp only [CA,NA]
   refine Zo9 (Nk 83 J Zi) (fun sl hsl=>?_)
   subst hsl
   exact Ze<|mv J<|dt (Yb (i:=97) J J J Oy Yz J J)<|tt (Pn (i:=4) (ivs:=[(0,_)]) (enc:=Hk) [((zs.getD i I0).1/Ql (Zj zs),sl)] J J K2 Pq ti48 J J J J J pI.cells J J hw) fun v_2 _=>tt (Hd (i:=70) (j:=4) (by_:=32) J J J J J J (by decide) J (Xa pI) Pq ti48 J pI J J J (by simp;omega) (by decide) J hw) fun v_3 _=>Zp J<|Zc<|Qn<|Za<|Ze<|mv J<|dt (Ys J J J)<|Zp J<|Zc<|Qu (Ow (q:=qI) (z:=((zs.getD i I0).1/Ql (Zj zs),sl)) 71 83 71 J J J J J)<|Xk (i+1,_,ws ++ [((zs.getD i I0).1/Ql (Zj zs),sl)]) ⟨by first | omega | (dsimp only<;>omega),by rw [Hz,Zb4,hz];dsimp only;rw [Nx],by simp [hzl]⟩ (by first | omega | (dsimp only<;>omega)) K4 K6
 ·exact Yx<|Zx<|Zx<|Pd<|Za<|Zb<|Yo (Pg 70 J J pI)<|Yo (Kb 70 71 72 J J J J)<|Ze<|mv J<|Zp J<|Zc<|Za<|Zq<|Yu (.inl J) hsc (_,ws) _ (fun a w hs=>Ni hs results57 J) J (by rw [hz,show i=(Zj zs).length by omega,Zov (Zj zs) (· / Ql (Zj zs))]<;>rfl) J (Xu 72 J J J Zm)
theorem Zz4(v u:Value)(zs ys:List (Int×SL))(hs:Sz 1000000 (Zj zs))(ht:Sz 1000000 (Zj ys))(hk:ys.length≤60)(hl:zs.length≤60:=by omega):Cal prog 42 #[v,u] [pp v zs,pp u ys] true (G:=Value×List (Int×SL)) (fun r=>Zj r.2=Ou (Zj zs) (Zj ys)) (fun r=>r.1) (fun r=>[pp r.1 r.2]):=by
 refine Yi func42 J ntmps42 J K2 fun w0 sc hw hsc=>?_
 simp only [Zu,Zt]
 have hli:=Yc zs
 have hli2:=Yc ys
 have htb:∀i k,bl (cf (Zj zs) k*cf (Zj ys) (i-k)).natAbs≤2000000:=fun i k=>by have:=Qk (cf (Zj zs) k) (cf (Zj ys) (i-k));have:=hs k;have:=ht (i-k);omega
 have hsb:∀i n,n≤1000→bl (Qr (fun k=>cf (Zj zs) k*cf (Zj ys) (i-k)) n).natAbs≤2000010:=fun i n hn=>Zpr (fun t _=>htb i t) (by omega)
 refine Zb<|Ze<|Zp J<|Zc<|Za<|Zb<|Ze<|Zp J<|Zc<|Za<|Zb<|Zb<|Ze<|Zp J<|Zc<|Za<|Zo<|Yo (Np 70 2 48 Hk)<|Yo (Kj qI 71)<|Oc [(0,_),(1,_)] [(0,_),(1,_),(2,_)] (fun(q:Nat×Value×List (Int×SL))=>[(6,.int .i64 (q.1:Int)),(5,q.2.1)]) (fun(q:Nat×Value×List (Int×SL))=>[(70,Ld 2 48 Hk q.2.1 q.2.2),(71,Dx qI q.2.2)]) (fun(q:Nat×Value×List (Int×SL))=>(q.1≤(zs.length+ys.length-1))∧(Zj q.2.2=mk q.1 (fun t=>Qr (fun a9=>cf (Zj zs) a9*cf (Zj ys) (t-a9)) (t+1)))∧(q.2.2.length=q.1)) (fun(q:Nat×Value×List (Int×SL))=>(zs.length+ys.length-1)-q.1) (0,.slice none 0 0,[]) ⟨by first | omega | (dsimp only<;>omega),rfl,rfl⟩ K4 K5 ?_
 rintro⟨i,vo,ws⟩ ⟨hi,hz,hzl⟩
 dsimp only at hi hz hzl
 simp only [CA,NA]
 refine Zb<|Zb<|Ze<|mv J<|mv J<|dt (Yf J J (i:=1) J Yg Pq)<|mv J<|dt (Yf J J (i:=2) J Yg Pq)<|dt (Ys J J J)<|dt (Qd J J J)<|dt (Xv J J J)<|Zc<|Za<|Zr J (fun h124=>?_) (fun h124=>?_)
 ·refine Zk<|Za<|Zb<|Zo<|Zb<|Ze<|dt (Oq (ivs:=[]) J trivial (fun a w hs=>Zyu))<|tt (Zy (i:=97) J J zeroValue48 J J hw) fun b _=>tt (Zl (i:=97) J J J J J J Yz J J ⟨Zf J,Zf J,trivial⟩ J hw trivial) fun _ _=>Zc<|Za<|Zb<|Zb<|Ze<|Zp J<|Zc<|Za<|Zo<|Yo (Np 98 1 3 Ht)<|Yo (Pg 98 J J pN)<|Oc [(0,_),(1,_),(5,_),(6,_),(7,_)] [(0,_),(70,_),(71,_),(1,_),(2,_)] (fun(q:Nat×Value)=>[(8,.int .i64 (q.1:Int))]) (fun(q:Nat×Value)=>[(97,box b 48 #[.bool (decide (Qr (fun a9=>cf (Zj zs) a9*cf (Zj ys) (i-a9)) q.1<0)),q.2]),(98,Mw q.2 (Qr (fun a9=>cf (Zj zs) a9*cf (Zj ys) (i-a9)) q.1).natAbs)]) (fun(q:Nat×Value)=>q.1≤i+1) (fun(q:Nat×Value)=>i+1-q.1) (0,.slice none 0 0) (by first | omega | (dsimp only<;>omega)) K6 K7 ?_
  rintro⟨k,vs⟩ hk1
  dsimp only at hk1
  simp only [CA,NA]
  have h1:=hsb i k
  have h2:=htb i k
  have h3:=hs k
  have h4:=ht (i-k)
  refine Zb<|Zb<|Ze<|mv J<|mv J<|dt (Dc J J J)<|Zc<|Za<|Zr J (fun h126=>?_) (fun h126=>?_)
  ·refine Zk<|Za<|Zb<|Zo<|Qs (fun _=>False) [(0,0),(1,0),(2,0),(4,0),(5,0),(6,0),(7,0),(3,1),(8,1),(9,1),(10,1),(11,3)] ?_ ?_
   ·kernel_rfl
   exact Zs J J (Yt (Yb (i:=97) J J J Oy Yz J J))<|Zs J J (Yt (Yd J J))<|Zs J J (Yt (Yd J J))<|Zs J J (Yt (Yd J J))<|Zs J J (Yt (Yd J J))<|Zs J J (Yt (Yd J J))<|Zs J J (Yt (Qd J J J))<|Xb J (Zh (n:=3) (Zga _ _ _ k J) J J J K2 call101 (Zd 1 J J J Zg) J hw) fun v _=>Xb J (Zh (n:=4) (Zga _ _ _ (i-k)) J J J K2 call101 (Zd 2 J J J Zg) J hw) fun v_2 _=>Xb J (Zh (n:=5) (Kc _ _ _ _) J J J K2 Gp (Zd 3 J J J (Zd 4 J J J Zg)) J hw) fun v_3 _=>Xb J (Zh (n:=6) (Zmr _ _ _ _) J J J K2 call37 (Zd 98 J J J (Zd 5 J J J Zg)) J hw) fun v_4 _=>Po J (Zl (i:=97) J J J J J J Yz J J ⟨Zf J,Zn (i:=6) J Zi,trivial⟩ J hw trivial) fun _ _=>Ob<|Qn<|Za<|Ze<|mv J<|dt (Ys J J J)<|Zp J<|Zc<|Qu (Pu 6 98 J J J)<|Xk (k+1,v_4) (by first | omega | (dsimp only<;>omega)) (by first | omega | (dsimp only<;>omega)) K6 ⟨by rw [Qq];rfl,by rw [Qq];rfl,rfl,rfl,rfl,rfl,rfl,trivial⟩
  ·refine Yx<|Zx<|Zx<|Pd<|Za ?_
   obtain rfl:k=i+1:=by omega
   refine Zo9 (Nk 98 J Zi) (fun sl hsl=>?_)
   subst hsl
   exact Ze<|mv J<|dt (Yb (i:=97) J J J Oy Yz J J)<|tt (Pn (i:=7) (ivs:=[(0,_)]) (enc:=Hk) [(Qr (fun a9=>cf (Zj zs) a9*cf (Zj ys) (i-a9)) (i+1),sl)] J J K2 Pq ti48 J J J J J pI.cells J J hw) fun v_5 _=>tt (Hd (i:=70) (j:=7) (by_:=32) J J J J J J (by decide) J (Xa pI) Pq ti48 J pI J J J (by simp;omega) (by decide) J hw) fun v_6 _=>Zp J<|Zc<|Qn<|Za<|Ze<|mv J<|dt (Ys J J J)<|Zp J<|Zc<|Qu (Ow (q:=qI) (z:=(Qr (fun a9=>cf (Zj zs) a9*cf (Zj ys) (i-a9)) (i+1),sl)) 71 98 71 J J J J J)<|Xk (i+1,_,ws ++ [(Qr (fun a9=>cf (Zj zs) a9*cf (Zj ys) (i-a9)) (i+1),sl)]) ⟨by first | omega | (dsimp only<;>omega),by rw [Hz,Zb4,hz],by simp [hzl]⟩ (by first | omega | (dsimp only<;>omega)) K4 K5
 ·refine Yx<|Zx<|Zx<|Pd<|Za<|Zb<|Zb<|Ze<|mv J<|dt (Yf J J (i:=1) J Yg Pq)<|dt (Pj J J J)<|mv J<|Pf (d:=43) J (fun s131=>?_) (fun s131=>?_)
  ·refine Xt J J J<|Xt J J J<|Xt J J J<|dt (Yy J J J)<|Zc<|Za<|Pv J<|Zb<|Ze<|Zp J<|Zc<|Za<|Zq<|Yn<|Qu (Du 62) ?_
   have hp0:Ou (Zj zs) (Zj ys)=[]:=Za4 (by first | (left;omega) | (right;omega))
   exact Yu (.inl J) hsc (.slice none 0 0,[]) _ (fun a w hs=>Ni hs results42 J) J (by rw [hp0]<;>rfl) J (Xu 62 J J J Zm)
  ·refine Xh (Yd J J) J J<|Xh (Yf J J (i:=2) J Yg Pq) J J<|Xh (Pj J J J) J J<|dt (Yh J J J)<|Zc<|Za<|Zr J (fun h131=>?_) (fun h131=>?_)
   ·refine Zb<|Ze<|Zp J<|Zc<|Za<|Zq<|Yn<|Qu (Du 62) ?_
    have hp0:Ou (Zj zs) (Zj ys)=[]:=Za4 (by first | (left;omega) | (right;omega))
    exact Yu (.inl J) hsc (.slice none 0 0,[]) _ (fun a w hs=>Ni hs results42 J) J (by rw [hp0]<;>rfl) J (Xu 62 J J J Zm)
   ·exact Zk<|Za<|Zb<|Yo (Pg 70 J J pI)<|Yo (Kb 70 71 72 J J J J)<|Ze<|mv J<|tt (Zh (n:=8) (Zby _ _ (by rw [hz];exact Az fun t h=>by have:=hsb t (t+1) (by omega);omega)) J J J K1 call89 (Zd 72 J J J Zg) J hw) fun g hg=>Zp J<|Zc<|Za<|Zq<|xG hsc _ results42 J J (by rw [hg,hz,show i=(Zj zs).length+(Zj ys).length-1 by omega,Yeh]) J (Xu 8 J J J Zm)
theorem r_same(v u:Value)(r t:List (Bool×ByteArray)):On prog 17 #[v,u] [Px 2 Aq v r,Px 2 Aq u t] (.bool (decide (r=t))):=by
 refine Yi func17 J ntmps17 J K2 fun w0 sc hw hsc=>?_
 simp only [Zu,Zt]
 refine Nl (Kk (i:=1) J Zi) fun hlr=>Nl (Kk (i:=2) J Zi) fun hlt=>Zb<|Ze<|Zp J<|Zc<|Za<|Zb<|Zb<|Ze<|mv J<|dt (Yf J J (i:=1) J Zi Xx)<|mv J<|dt (Yf J J (i:=2) J Zi Xx)<|dt (Xz J J J)<|Zc<|Za<|Zr J (fun h78=>?_) (fun h78=>?_)
 ·exact Zb<|Ze<|Zp J<|Zc<|Za<|Zq<|Yn<|xU hsc results17 J J (by rw [decide_eq_false (fun e=>by subst e;exact h78 rfl)])
 ·have hle:r.length=t.length:=by omega
  refine Zk<|Za<|Zb<|Zb<|Ze<|Zp J<|Zc<|Za<|Zo<|Oc [(0,_),(1,_)] [(0,_),(1,_),(2,_)] (fun(k:Nat)=>[(5,.int .i64 (k:Int))]) (fun(k:Nat)=>[]) (fun(k:Nat)=>(k≤r.length)∧(r.take k=t.take k)) (fun(k:Nat)=>r.length-k) 0 ⟨by first | omega | (dsimp only<;>omega),by simp⟩ K3 K3 ?_
  rintro k ⟨hk,ht⟩
  simp only [CA,NA]
  refine Zb<|Zb<|Ze<|mv J<|mv J<|dt (Yf J J (i:=1) J Zi Xx)<|dt (Xv J J J)<|Zc<|Za<|Zr J (fun h81=>?_) (fun h81=>?_)
  ·refine Zk<|Za<|Zb<|Zo<|Zb<|Qs (fun _=>False) [(0,0),(1,0),(2,0),(3,0),(4,0),(5,0),(6,0),(7,0),(8,0)] ?_ ?_
   ·kernel_rfl
   refine Zs J J (Yt (Yd J J))<|Zs J J (Yt (Yd J J))<|Zs J J (Yt (Xc (ii:=1) J J J J Zi Xx Ye J (by first | omega | (simp only [List.length_set];omega))))<|Zs J J (Yt (Xr (ii:=1) (false,⟨#[]⟩) J J J Zi pW (by first | omega | (simp only [List.length_set];omega))))<|Zs J J (Yt (Yd J J))<|Zs J J (Yt (Yd J J))<|Zs J J (Yt (Xc (ii:=2) J J J J Zi Xx Ye J (by first | omega | (simp only [List.length_set];omega))))<|Zs J J (Yt (Xr (ii:=2) (false,⟨#[]⟩) J J J Zi pW (by first | omega | (simp only [List.length_set];omega))))<|Zs J J (Yt (Znb J J J Ye8 (fun w=>Zvo w _ _ _ _)))<|Ob<|Za<|Mf J (fun h82=>?_) (fun h82=>?_)
   ·exact Zb<|Ze<|Zp J<|Zc<|Za<|Zq<|Nq<|Yn<|Yn<|Nq<|Yn<|xU hsc results17 J J (by rw [decide_eq_false (fun e=>by rw [e]at h82;simp [Zbd]at h82)])
   ·exact Zk<|Qn<|Za<|Ze<|mv J<|dt (Ys J J J)<|Zp J<|Zc<|Xk (k+1) ⟨by first | omega | (dsimp only<;>omega),by rw [Mc (false,⟨#[]⟩) _ _ (by omega),Mc (false,⟨#[]⟩) _ _ (by omega),ht,Yca (x:=r.getD k (false,⟨#[]⟩)) (y:=t.getD k (false,⟨#[]⟩)) (by simpa using h82)]⟩ (by first | omega | (dsimp only<;>omega)) K3 K3
  ·exact Yx<|Zx<|Zx<|Pd<|Za<|Zb<|Ze<|Zp J<|Zc<|Za<|Zq<|xU hsc results17 J J (by rw [decide_eq_true (by rw [show k=r.length by omega,List.take_length,hle,List.take_length]at ht;exact ht)])
theorem Zhq(v u:Value)(xs ys:List Int):On prog 17 #[v,u] [Px 2 wv v xs,Px 2 wv u ys] (.bool (decide (xs=ys))):=by
 have h:=((r_same v u (xs.map wr) (ys.map wr)).imp (Zsx v xs) (fun _ h=>h)).imp2 (Zsx u ys) (fun _ h=>h)
 rw [decide_eq_decide.2 (Ztn xs ys)]at h;exact h
theorem Zqo(v:Value)(r:List (Bool×ByteArray)):On prog 13 #[v] [Px 2 Aq v r] (.bool (okP r)):=by
 refine Yi func13 J ntmps13 J K1 fun w0 sc hw hsc=>?_
 simp only [Zu,Zt]
 refine Nl (Kk (i:=1) J Zi) fun hlen=>Zb<|Ze<|Zp J<|Zc<|Za<|Zb<|Zb<|Ze<|Zp J<|Zc<|Za<|Zo<|Oc [(0,_)] [(0,_),(1,_)] (fun(k:Nat)=>[(3,.int .i64 (k:Int))]) (fun(k:Nat)=>[]) (fun(k:Nat)=>(k≤r.length)∧((r.take k).all (fun w=>okW w.1 w.2)=true)) (fun(k:Nat)=>r.length-k) 0 ⟨by first | omega | (dsimp only<;>omega),by simp⟩ K2 K2 ?_
 rintro k ⟨hk,ha⟩
 simp only [CA,NA]
 refine Zb<|Zb<|Ze<|mv J<|mv J<|dt (Yf J J (i:=1) J Zi Xx)<|dt (Xv J J J)<|Zc<|Za<|Zr J (fun h30=>?_) (fun h30=>?_)
 ·refine Zk<|Za<|Zb<|Zo<|Zb<|Ze<|mv J<|mv J<|dt (Xc (ii:=1) J J J J Zi Xx Ye J (by first | omega | (simp only [List.length_set];omega)))<|dt (Xr (ii:=1) (false,⟨#[]⟩) J J J Zi pW (by first | omega | (simp only [List.length_set];omega)))<|tt (Zh (n:=1) (Zn9 _ _) J J J K1 call35 Zg J hw) fun _ _=>dt (Xl J J)<|Zc<|Za<|Mf J (fun h31=>?_) (fun h31=>?_)
  ·exact Zb<|Ze<|Zp J<|Zc<|Za<|Zq<|Nq<|Yn<|Yn<|Nq<|Yn<|xU hsc results13 J J (by rw [Zvm (Xj (i:=k) (d:=(false,⟨#[]⟩))) (by simpa using h31)])
  ·exact Zk<|Qn<|Za<|Ze<|mv J<|dt (Ys J J J)<|Zp J<|Zc<|Xk (k+1) ⟨by first | omega | (dsimp only<;>omega),by rw [Mc (false,⟨#[]⟩) _ _ (by omega),List.all_append,ha];simpa using h31⟩ (by first | omega | (dsimp only<;>omega)) K2 K2
 ·refine Yx<|Zx<|Zx<|Pd<|Za<|Zb ?_
  obtain rfl:k=r.length:=by omega
  rw [List.take_length]at ha
  refine Ze<|mv J<|dt (Yf J J (i:=1) J Zi Xx)<|dt (Dc J J J)<|mv J<|Pf (d:=19) J (fun s35=>?_) (fun s35=>?_)
  ·refine Xh (Yd J J) J J<|Xh (Yf J J (i:=1) J Zi Xx) J J<|Xh (Pj J J J) J J<|Xh (Yd J J) J J<|Pf (d:=23) J (fun s35_2=>?_) (fun s35_2=>?_)
   ·exact Xt J J J<|Xt J J J<|Xt J J J<|Xt J J J<|Xt J J J<|Xt J J J<|Xt J J J<|Xt J J J<|Xt J J J<|Xh (Yy J J J) J J<|dt (Yy J J J)<|Zp J<|Zc<|Za<|Zq<|xU hsc results13 J J (by rw [Zkj ha];first | (rw [decide_eq_false (show ¬r.length≤25 by omega)];rfl) | (rw [decide_eq_true (show r.length≤25 by omega),decide_eq_true (show r.length=0 by omega)];rfl) | (rw [decide_eq_true (show r.length≤25 by omega),decide_eq_false (show ¬r.length=0 by omega)];rfl))
   ·exact Xh (Yd J J) J J<|Xh (Yd J J) J J<|Xh (Yf J J (i:=1) J Zi Xx) J J<|Xh (Qd J J J) J J<|Xh (Xc (ii:=1) (i:=(r.length-1)) J J J J Zi Xx Ye) J J<|Xh (Zwh (ii:=1) J J J Zi Dl J zT9 J) J J<|Xh (d_ldf (ii:=1) (false,⟨#[]⟩) J J J Zi iA9 J) J J<|Xh (Cz J J uT9) J J<|Xh (Pw J J J) J J<|Xh (Yh J J J) J J<|dt (Yy J J J)<|Zp J<|Zc<|Za<|Zq<|xU hsc results13 J J (by rw [Zkj ha];first | (rw [decide_eq_false (show ¬r.length≤25 by omega)];rfl) | (rw [decide_eq_true (show r.length≤25 by omega),decide_eq_true (show r.length=0 by omega)];rfl) | (rw [decide_eq_true (show r.length≤25 by omega),decide_eq_false (show ¬r.length=0 by omega)];rfl))
  ·exact Xt J J J<|Xt J J J<|Xt J J J<|Xt J J J<|Zc9 J J<|Zc9 J J<|Zc9 J J<|Zc9 J J<|Zc9 J J<|Zc9 J J<|Zc9 J J<|Zc9 J J<|Zc9 J J<|Xt J J J<|dt (Yh J J J)<|Zp J<|Zc<|Za<|Zq<|xU hsc results13 J J (by rw [Zkj ha];first | (rw [decide_eq_false (show ¬r.length≤25 by omega)];rfl) | (rw [decide_eq_true (show r.length≤25 by omega),decide_eq_true (show r.length=0 by omega)];rfl) | (rw [decide_eq_true (show r.length≤25 by omega),decide_eq_false (show ¬r.length=0 by omega)];rfl))
theorem Yd0(v u:Value)(zs ys:List (Int×SL))(hl:zs.length≤30)(hk:ys.length≤30)(hy0:0<ys.length)(ht:Tr (Zj ys))(hF:ys.length≤zs.length→Pi (Zj zs)+(zs.length-ys.length+1)*(Pi (Zj ys)+1)≤900000):Cal prog 160 #[v,u] [pp v zs,pp u ys] true (G:=Value×List (Int×SL)) (fun r=>Zj r.2=Pr (Zj zs) (Zj ys)) (fun r=>r.1) (fun r=>[pp r.1 r.2]):=by
 refine Yi func160 J ntmps160 J K2 fun w0 sc hw hsc=>?_
 simp only [Zu,Zt]
 have hli:=Yc zs
 have hli2:=Yc ys
 have hlead:(cf (Zj ys) ((Zj ys).length-1))≠0:=ht.mem (fun e=>by rw [←hli2,e]at hy0;simp at hy0)
 refine Nl (Kk (i:=1) J Yg) fun hlen=>Nl (Kk (i:=2) J Yg) fun hlen2=>Zb<|Ze<|Zp J<|Zc<|Za<|Zb<|Zb<|Ze<|mv J<|dt (Yf J J (i:=1) J Yg Pq)<|mv J<|dt (Yf J J (i:=2) J Yg Pq)<|dt (Xv J J J)<|Zc<|Za<|Zr J (fun h205=>?_) (fun h205=>?_)
 ·exact Zb<|Ze<|mv J<|Zp J<|Zc<|Za<|Zq<|Yn<|Yu (.inl J) hsc (_,zs) _ (fun a w hs=>Ni hs results160 J) J (by unfold Pr;rw [if_pos (by omega)]) J (Xu 1 J J J Zm)
 ·have hF2:=hF (by omega)
  have hF3:Pi (Zj zs)+((Zj zs).length-(Zj ys).length+1)*(Pi (Zj ys)+1)≤900000:=by rw [hli,hli2];exact hF2
  have hN:1≤zs.length-ys.length+1:=by omega
  have hB:=Nat.mul_le_mul_right (Pi (Zj ys)+1) hN
  rw [Nat.one_mul]at hB
  have hcl:=Nx ys (ys.length-1)
  have hci2:(ys.getD (ys.length-1) I0).1=(cf (Zj ys) ((Zj ys).length-1)):=by rw [hcl,hli2]
  have hsy:=Ot (Zj ys)
  have hlq:=hsy ((Zj ys).length-1)
  have hpw:=Zbu hlq (zs.length-ys.length+1)
  have hpw2:(zs.length-ys.length+1)*Pi (Zj ys)≤(zs.length-ys.length+1)*(Pi (Zj ys)+1):=Nat.mul_le_mul_left _ (by omega)
  refine Zk<|Za<|Zb<|Ze<|mv J<|mv J<|dt (Yf J J (i:=2) J Yg Pq)<|dt (Qd J J J)<|dt (Xc (ii:=2) (i:=(ys.length-1)) J J J J Yg Pq Yz)<|dt (Xr (ii:=2) I0 J J J Yg pI)<|tt (Zy (i:=96) J J zeroValue48 J J hw) fun b _=>tt (Zl (i:=96) J J J J J J Yz J J ⟨Zf J,Zf J,trivial⟩ J hw trivial) fun _ _=>Zc<|Za<|Zb<|Ze<|mv J<|dt (Yb (i:=96) J J J Oy Yz J J)<|mv J<|dt (Yf J J (i:=1) J Yg Pq)<|mv J<|dt (Yf J J (i:=2) J Yg Pq)<|dt (Qd J J J)<|dt (Ys J J J)<|tt (Zh (n:=3) (Zf9 _ _ _ (zs.length-ys.length+1) (by rw [hci2];omega)) J J J K2 call165 (Nf 2 J J (Xj (i:=ys.length-1)) Zg) J hw) fun v _=>tt (Zh (n:=80) (Zaz _ _ _ _ ((Ot _).mono (by omega)) (by rw [hci2];omega)) J J J K2 call56 (Zd 1 J J J (Zd 3 J J J Zg)) J hw) fun g hg=>Zp J<|Zc<|Za<|Zb<|Zo ?_
  refine Oc [(1,_),(5,_)] [(0,_),(1,_),(2,_),(96,_),(3,_)] (fun(q:Nat×List (Int×SL)×Value)=>[(6,q.2.2)]) (fun(q:Nat×List (Int×SL)×Value)=>[(80,pp q.2.2 q.2.1)]) (fun(q:Nat×List (Int×SL)×Value)=>(q.1≤zs.length-ys.length+1)∧(Ck (Zj zs) (Zj ys) (Zj q.2.1) q.1)) (fun(q:Nat×List (Int×SL)×Value)=>zs.length-ys.length+1-q.1) (0,_,_) ⟨Nat.zero_le _,by dsimp only;rw [hg,hci2,←hli,←hli2];exact Zn5⟩ K3 K6 ?_
  rintro⟨j,ws,vr⟩ ⟨hj,hI⟩
  dsimp only at hj hI
  simp only [CA,NA]
  have hlw:=Yc ws
  have hwl:=Zqr hI
  refine Zb<|Zb<|Ze<|mv J<|dt (Yf J J (i:=80) J Yg Pq)<|mv J<|dt (Yf J J (i:=2) J Yg Pq)<|dt (Lg J J J)<|Zc<|Za<|Zr J (fun h210=>?_) (fun h210=>?_)
  ·have hR0:(Zj ys).length≤(Zj ws).length:=by omega
   obtain⟨g1,g2,g3,hI2⟩:=Zs5 (by omega) (by omega) hlead (by omega) hI hR0
   have hst:=Zn6 hlead hI2 (by omega) hR0 g3
   have hqe:=Zh8 hlead hI2 (by omega) hR0 g3
   have hsR:=Zs6 (by omega) hI
   have hsw:Sz 1000000 (Zj ws):=hsR.mono (by omega)
   have hcw:=Nx ws (ws.length-1)
   have hcqb:bl (cf (Zj ws) ((Zj ws).length-1)/(cf (Zj ys) ((Zj ys).length-1))).natAbs≤900001:=by have:=Zw4 hqe (Bs (Zj zs) (Zj ys) _ _) hlq;have h7:=Yd6 (p:=Zj zs) (q:=Zj ys) (R:=Zj ws) (by omega) (by omega) g3;omega
   have hcqa:(ws.getD (ws.length-1) I0).1/(ys.getD (ys.length-1) I0).1=(cf (Zj ws) ((Zj ws).length-1)/(cf (Zj ys) ((Zj ys).length-1))):=by rw [hci2,hcw,hlw]
   refine Zk<|Za<|Zo<|Iz [(1,_),(5,_),(6,_)] [(0,_),(80,_),(1,_),(2,_),(96,_),(3,_)] (fun(q:Value×Nat)=>[(7,.pointer (some ⟨q.2,0,none⟩))]) (fun(q:Value×Nat)=>[(83,Mw q.1 (cf (Zj ws) ((Zj ws).length-1)/(cf (Zj ys) ((Zj ys).length-1))).natAbs),(97,box q.2 48 #[.bool (decide ((cf (Zj ws) ((Zj ws).length-1)/(cf (Zj ys) ((Zj ys).length-1)))<0)),q.1])]) (fun(q:Value×Nat)=>True) K3 K6 ?_ ?_
   ·refine Nm [80,96] [14]<|Ya (n:=8) [(0,0),(1,0),(2,0),(3,0),(4,0),(5,0),(6,0)]<|Zs J J (Xm (Yd J J) K2)<|Zs J J (Xm (Yd J J) K2)<|Zs J J (Xm (Yf J J (i:=80) J Yg Pq) K2)<|Zs J J (Xm (Qd J J J) K2)<|Zs J J (Xm (Xc (ii:=80) (i:=(ws.length-1)) J J J J Yg Pq Yz) K2)<|Zs J J (Xm (Xr (ii:=80) I0 J J J Yg pI) K2)<|Zs J J (Xm (Yb (i:=96) J J J Oy Yz J J) K2)<|Yl<|Dm (n:=7) 7 11 12 ?_ ?_ ?_
    ·refine Yj J (Zh (n:=83) (Fj _ _ _ _ (by rw [hcw];have:=hsw (ws.length-1);omega) (by rw [hci2];exact hlead) (by rw [hci2];omega)) J J J K2 Zas (Nf 80 J J (Xj (zs:=ws) (i:=ws.length-1) (d:=I0)) (Nf 2 J J (Xj (zs:=ys) (i:=ys.length-1) (d:=I0)) Zg)) J hw) fun g_2 _=>Ya (n:=4) [(8,0),(9,0),(10,0)]<|Zs J J (Xm (Yd J J) K2)<|Zs J J (Xm (Zz J J J) K2)<|Zs J J (Xm (Zz J J J) K2)<|Yl<|Pb (n:=3) 11 12 ?_ ?_
     ·exact Yj J (Zv (i:=97) J J zeroValue48 J J hw K2) fun b_2 ho=>Ya (n:=0) [(12,1),(13,1),(14,3)]<|Xb J (Zv (i:=99) J J zeroValue48 J J hw K2) fun b_3 ho2=>Xb J (Zl (i:=97) J J J J J J Yz J J ⟨Zf J,Zn (i:=83) J Zi,trivial⟩ J hw ho) fun _ _=>Po J (Zl (i:=99) J J J J J J Yz J J ⟨Zf J,Zn (i:=84) J Zi,trivial⟩ J hw trivial) fun _ _=>Yl<|Yk<|Xo (_,_) trivial K4 ⟨by rw [←hcqa];rfl,by rw [←hcqa];rfl,rfl,rfl,rfl,rfl,rfl,rfl,trivial⟩
     ·exact Yj J (Zv (i:=99) J J zeroValue48 J J hw K2) fun b_4 ho3=>Ya (n:=0) [(11,1),(13,1),(14,3)]<|Xb J (Zv (i:=97) J J zeroValue48 J J hw K2) fun b_5 ho4=>Xb J (Zl (i:=97) J J J J J J Yz J J ⟨Zf J,Zn (i:=83) J Zi,trivial⟩ J hw ho4) fun _ _=>Po J (Zl (i:=99) J J J J J J Yz J J ⟨Zf J,Zn (i:=84) J Zi,trivial⟩ J hw trivial) fun _ _=>Yl<|Yk<|Xo (_,_) trivial K4 ⟨by rw [←hcqa];rfl,by rw [←hcqa];rfl,rfl,rfl,rfl,rfl,rfl,rfl,trivial⟩
    ·refine Yj J (Zv (i:=97) J J zeroValue48 J J hw K2) fun b_6 ho5=>Pb (n:=6) 7 12 ?_ ?_
     ·exact Yj J (Zh (n:=83) (Fj _ _ _ _ (by rw [hcw];have:=hsw (ws.length-1);omega) (by rw [hci2];exact hlead) (by rw [hci2];omega)) J J J K2 Zas (Nf 80 J J (Xj (zs:=ws) (i:=ws.length-1) (d:=I0)) (Nf 2 J J (Xj (zs:=ys) (i:=ys.length-1) (d:=I0)) Zg)) J hw) fun g_3 _=>Ya (n:=0) [(8,0),(9,0),(10,0),(12,1),(13,1),(14,3)]<|Zs J J (Xm (Yd J J) K2)<|Zs J J (Xm (Zz J J J) K2)<|Zs J J (Xm (Zz J J J) K2)<|Xb J (Zv (i:=99) J J zeroValue48 J J hw K2) fun b_7 ho6=>Xb J (Zl (i:=97) J J J J J J Yz J J ⟨Zf J,Zn (i:=83) J Zi,trivial⟩ J hw ho5) fun _ _=>Po J (Zl (i:=99) J J J J J J Yz J J ⟨Zf J,Zn (i:=84) J Zi,trivial⟩ J hw trivial) fun _ _=>Yl<|Yk<|Xo (_,_) trivial K4 ⟨by rw [←hcqa];rfl,by rw [←hcqa];rfl,rfl,rfl,rfl,rfl,rfl,rfl,trivial⟩
     ·exact Yj J (Zv (i:=99) J J zeroValue48 J J hw K2) fun b_8 ho7=>Ya (n:=0) [(7,1),(8,0),(9,0),(10,0),(13,1),(14,3)]<|Xb J (Zh (n:=83) (Fj _ _ _ _ (by rw [hcw];have:=hsw (ws.length-1);omega) (by rw [hci2];exact hlead) (by rw [hci2];omega)) J J J K2 Zas (Nf 80 J J (Xj (zs:=ws) (i:=ws.length-1) (d:=I0)) (Nf 2 J J (Xj (zs:=ys) (i:=ys.length-1) (d:=I0)) Zg)) J hw) fun g_4 _=>Zs J J (Xm (Yd J J) K2)<|Zs J J (Xm (Zz J J J) K2)<|Zs J J (Xm (Zz J J J) K2)<|Xb J (Zl (i:=97) J J J J J J Yz J J ⟨Zf J,Zn (i:=83) J Zi,trivial⟩ J hw ho5) fun _ _=>Po J (Zl (i:=99) J J J J J J Yz J J ⟨Zf J,Zn (i:=84) J Zi,trivial⟩ J hw trivial) fun _ _=>Yl<|Yk<|Xo (_,_) trivial K4 ⟨by rw [←hcqa];rfl,by rw [←hcqa];rfl,rfl,rfl,rfl,rfl,rfl,rfl,trivial⟩
    ·refine Yj J (Zv (i:=99) J J zeroValue48 J J hw K2) fun b_9 ho8=>Pb (n:=6) 7 11 ?_ ?_
     ·exact Yj J (Zh (n:=83) (Fj _ _ _ _ (by rw [hcw];have:=hsw (ws.length-1);omega) (by rw [hci2];exact hlead) (by rw [hci2];omega)) J J J K2 Zas (Nf 80 J J (Xj (zs:=ws) (i:=ws.length-1) (d:=I0)) (Nf 2 J J (Xj (zs:=ys) (i:=ys.length-1) (d:=I0)) Zg)) J hw) fun g_5 _=>Ya (n:=0) [(8,0),(9,0),(10,0),(11,1),(13,1),(14,3)]<|Zs J J (Xm (Yd J J) K2)<|Zs J J (Xm (Zz J J J) K2)<|Zs J J (Xm (Zz J J J) K2)<|Xb J (Zv (i:=97) J J zeroValue48 J J hw K2) fun b_10 ho9=>Xb J (Zl (i:=97) J J J J J J Yz J J ⟨Zf J,Zn (i:=83) J Zi,trivial⟩ J hw ho9) fun _ _=>Po J (Zl (i:=99) J J J J J J Yz J J ⟨Zf J,Zn (i:=84) J Zi,trivial⟩ J hw trivial) fun _ _=>Yl<|Yk<|Xo (_,_) trivial K4 ⟨by rw [←hcqa];rfl,by rw [←hcqa];rfl,rfl,rfl,rfl,rfl,rfl,rfl,trivial⟩
     ·exact Yj J (Zv (i:=97) J J zeroValue48 J J hw K2) fun b_11 ho10=>Ya (n:=0) [(7,1),(8,0),(9,0),(10,0),(13,1),(14,3)]<|Xb J (Zh (n:=83) (Fj _ _ _ _ (by rw [hcw];have:=hsw (ws.length-1);omega) (by rw [hci2];exact hlead) (by rw [hci2];omega)) J J J K2 Zas (Nf 80 J J (Xj (zs:=ws) (i:=ws.length-1) (d:=I0)) (Nf 2 J J (Xj (zs:=ys) (i:=ys.length-1) (d:=I0)) Zg)) J hw) fun g_6 _=>Zs J J (Xm (Yd J J) K2)<|Zs J J (Xm (Zz J J J) K2)<|Zs J J (Xm (Zz J J J) K2)<|Xb J (Zl (i:=97) J J J J J J Yz J J ⟨Zf J,Zn (i:=83) J Zi,trivial⟩ J hw ho10) fun _ _=>Po J (Zl (i:=99) J J J J J J Yz J J ⟨Zf J,Zn (i:=84) J Zi,trivial⟩ J hw trivial) fun _ _=>Yl<|Yk<|Xo (_,_) trivial K4 ⟨by rw [←hcqa];rfl,by rw [←hcqa];rfl,rfl,rfl,rfl,rfl,rfl,rfl,trivial⟩
   ·rintro⟨qv,b7⟩ -
    simp only [CA,NA]
    refine Zb<|Ze<|mv J<|dt (Yf J J (i:=80) J Yg Pq)<|mv J<|dt (Yf J J (i:=2) J Yg Pq)<|dt (Qd J J J)<|tt (Ge (i:=70) (n:=(ws.length-ys.length)) (by_:=32) (enc:=Hk) I0 J J J J Pq ti48 J pI.cells pI.pos J J J hw) fun v_2 _=>Zp J<|Zc<|Za<|Zb<|Zb<|Ze<|Zp J<|Zc<|Za<|Zo<|Yo (Aa 71 (ws.length-ys.length))<|Oc [(1,_),(5,_),(6,_),(7,_)] [(0,_),(83,_),(97,_),(80,_),(1,_),(2,_),(96,_),(3,_)] (fun(q:Nat×Value×List (Int×SL))=>[(10,.int .i64 (q.1:Int)),(9,q.2.1)]) (fun(q:Nat×Value×List (Int×SL))=>[(70,Ld 2 48 Hk q.2.1 q.2.2),(71,Dx qI q.2.2)]) (fun(q:Nat×Value×List (Int×SL))=>(q.1≤ys.length)∧(Zj q.2.2=shm (Zj ys) (cf (Zj ws) ((Zj ws).length-1)/(cf (Zj ys) ((Zj ys).length-1))) ((Zj ws).length-(Zj ys).length) q.1)∧(q.2.2.length=((Zj ws).length-(Zj ys).length)+q.1)) (fun(q:Nat×Value×List (Int×SL))=>ys.length-q.1) (0,_,List.replicate (ws.length-ys.length) I0) ⟨by first | omega | (dsimp only<;>omega),by rw [←Zf4,←hlw,←hli2];simp [Zj],by simp<;>omega⟩ K6 K10 ?_
    rintro⟨i,vo,ms⟩ ⟨hi,hms,hml⟩
    dsimp only at hi hms hml
    simp only [CA,NA]
    have hci:=Nx ys i
    refine Zb<|Zb<|Ze<|mv J<|mv J<|dt (Yf J J (i:=2) J Yg Pq)<|dt (Xv J J J)<|Zc<|Za<|Zr J (fun h214=>?_) (fun h214=>?_)
    ·refine Zk<|Za<|Zb<|Zo<|Nm [2,97] [9]<|Ya (n:=3) [(0,0),(1,0),(2,0),(3,0),(4,0),(5,0),(6,1)]<|Zs J J (Xm (Yd J J) K2)<|Zs J J (Xm (Yb (i:=97) J J J Oy Yz J J) K2)<|Zs J J (Xm (Yd J J) K2)<|Zs J J (Xm (Yd J J) K2)<|Zs J J (Xm (Xc (ii:=2) J J J J Yg Pq Yz J (by first | omega | (simp only [List.length_set];omega))) K2)<|Zs J J (Xm (Xr (ii:=2) I0 J J J Yg pI (by first | omega | (simp only [List.length_set];omega))) K2)<|Xb J (Zh (n:=86) (Kc _ _ _ _ (by omega) (by rw [hci];have:=hsy i;omega)) J J J K2 Gp (Zd 83 J J J (Nf 2 J J (Xj (i:=i)) Zg)) J hw) fun v_3 _=>Yl<|Zdo (Nk 86 J Zi) (fun sl hsl=>?_)
     subst hsl
     exact Ya (n:=0) [(7,1),(8,1),(9,3)]<|Xb J (Pn (i:=87) (ivs:=[(0,_)]) (enc:=Hk) [((cf (Zj ws) ((Zj ws).length-1)/(cf (Zj ys) ((Zj ys).length-1)))*(ys.getD i I0).1,sl)] J J K2 Pq ti48 J J J J J pI.cells J J hw) fun v_4 _=>Xb J (Ze6 70 J J J K2 (fun hoffr=>(Zbs (xs:=ms) (ys:=[_]) (i:=70) (j:=87) (by_:=32) J J J J J J (by decide) J (Xa pI) Pq ti48 J pI J J J (by simp;omega) (by decide) J hw hoffr))) fun v_5 _=>Po J (Od (Mb J J) J) fun _ _=>Yl<|Yk<|Qn<|Za<|Ze<|mv J<|dt (Ys J J J)<|Zp J<|Zc<|Qu (Ow (q:=qI) (z:=((cf (Zj ws) ((Zj ws).length-1)/(cf (Zj ys) ((Zj ys).length-1)))*(ys.getD i I0).1,sl)) 71 86 71 J J J J J)<|Xk (i+1,_,ms ++ [((cf (Zj ws) ((Zj ws).length-1)/(cf (Zj ys) ((Zj ys).length-1)))*(ys.getD i I0).1,sl)]) ⟨by first | omega | (dsimp only<;>omega),by rw [Hz,hms,←Zf5];dsimp only;rw [hci],by simp;omega⟩ (by first | omega | (dsimp only<;>omega)) K6 K10
    ·exact Yx<|Zx<|Zx<|Pd<|Za<|Yo (Pg 70 J J pI)<|Yo (Kb 70 71 72 J J J J)<|Ze<|mv J<|mv J<|tt (Zh (n:=4) (Zn1 _ _ _ _ hsw (by rw [hms];exact Znr (fun t=>by have h8:=Qk (cf (Zj ws) ((Zj ws).length-1)/(cf (Zj ys) ((Zj ys).length-1))) (cf (Zj ys) t);have h9:=hsy t;have h10:=Zz8 (p:=Zj zs) (q:=Zj ys) (R:=Zj ws) hqe (Bs (Zj zs) (Zj ys) _ _) hsy (by omega) (by omega) g3 t;omega))) J J J K2 call88 (Zd 80 J J J (Zd 72 J J J Zg)) J hw) fun g_7 hg_2=>Zp J<|Zc<|Qn<|Qu (Pu 4 80 J J J)<|Xk ((Zj zs).length-(Zj ws).length+1,_,_) ⟨by dsimp only;omega,by dsimp only;rw [hg_2,hms,show i=(Zj ys).length by omega];exact hst⟩ (by dsimp only;omega) K3 K6
  ·exact Yx<|Zx<|Zx<|Pd<|Za<|Zb<|Ze<|mv J<|Zp J<|Zc<|Za<|Zq<|Yu (.inl J) hsc (_,ws) _ (fun a w hs=>Ni hs results160 J) J (Zqs (R:=Zj ws) (by omega) (by omega) hlead (by omega) hI (by have:=Yc ws;omega)) J (Xu 80 J J J Zm)
theorem Zd0(v u:Value)(zs ys:List (Int×SL))(htz:Tr (Zj zs))(ht:Tr (Zj ys))(hF:ys.length≤zs.length→Pi (Zj zs)+(zs.length-ys.length+1)*(Pi (Zj ys)+1)≤900000)(hl:zs.length≤30:=by omega)(hk:ys.length≤30:=by omega)(hy0:0<ys.length:=by omega):Cal prog 55 #[v,u] [pp v zs,pp u ys] true (G:=Value×List (Int×SL)) (fun r=>pdv (Zj zs) (Zj ys)→Zj r.2=Kt (Zj zs) (Zj ys)) (fun r=> .tuple #[r.1,.bool (decide (pdv (Zj zs) (Zj ys)))]) (fun r=>[pp r.1 r.2]):=by
 refine Yi func55 J ntmps55 J K2 fun w0 sc hw hsc=>?_
 simp only [Zu,Zt]
 have hli:=Yc zs
 have hli2:=Yc ys
 have hlead:(cf (Zj ys) ((Zj ys).length-1))≠0:=ht.mem (fun e=>by rw [←hli2,e]at hy0;simp at hy0)
 refine Nl (Kk (i:=1) J Yg) fun hlen=>Nl (Kk (i:=2) J Yg) fun hlen2=>Zb<|Ze<|Zp J<|Zp J<|Zc<|Za<|Zb<|Zb<|Ze<|mv J<|dt (Yf J J (i:=1) J Yg Pq)<|dt (Pj J J J)<|Zc<|Za<|Zr J (fun h224=>?_) (fun h224=>?_)
 ·refine Zb<|Ze<|Zp J<|Zp J<|Zc<|Za<|Zq<|Yn<|Qu (Du 62) ?_
  have hzn:Zj zs=[]:=List.eq_nil_of_length_eq_zero (by omega)
  exact Yu (.inl J) hsc (.slice none 0 0,[]) _ (fun a w hs=>Og hs results55 J J) (by rw [Yei hzn]) (fun _=>by unfold Kt;rw [if_pos hzn];rfl) J (Xu 62 J J J Zm)
 ·have hnz:Zj zs≠[]:=fun e=>by have h7:=congrArg List.length e;simp only [List.length_nil]at h7;omega
  refine Zk<|Za<|Zb<|Zb<|Ze<|mv J<|dt (Yf J J (i:=1) J Yg Pq)<|mv J<|dt (Yf J J (i:=2) J Yg Pq)<|dt (Xv J J J)<|Zc<|Za<|Zr J (fun h227=>?_) (fun h227=>?_)
  ·refine Zb<|Ze<|Zp J<|Zp J<|Zc<|Za<|Zq<|Yn<|Qu (Du 62) ?_
   have hno:=Yej (p:=Zj zs) (q:=Zj ys) (fun e=>by have h7:=congrArg List.length e;simp only [List.length_nil]at h7;omega) (by omega)
   exact Yu (.inl J) hsc (.slice none 0 0,[]) _ (fun a w hs=>Og hs results55 J J) (by rw [hno]) (fun h=>absurd h (of_decide_eq_false hno)) J (Xu 62 J J J Zm)
  ·have hF2:=hF (by omega)
   have hF3:Pi (Zj zs)+((Zj zs).length-(Zj ys).length+1)*(Pi (Zj ys)+1)≤900000:=by rw [hli,hli2];exact hF2
   have hcl:=Nx ys (ys.length-1)
   have hci2:(ys.getD (ys.length-1) I0).1=(cf (Zj ys) ((Zj ys).length-1)):=by rw [hcl,hli2]
   have hsy:=Ot (Zj ys)
   have hlq:=hsy ((Zj ys).length-1)
   have hmy:Pi (Zj ys)≤900000:=by have h7:=Nat.mul_le_mul_right (Pi (Zj ys)+1) (show 1≤(Zj zs).length-(Zj ys).length+1 by omega);omega
   refine Zk<|Za<|Zb<|Ze<|mv J<|dt (Yf J J (i:=1) J Yg Pq)<|mv J<|dt (Yf J J (i:=2) J Yg Pq)<|dt (Qd J J J)<|dt (Ys J J J)<|tt (Ge (i:=60) (n:=(zs.length-ys.length+1)) (by_:=32) (enc:=Hk) I0 J J J J Pq ti48 J pI.cells pI.pos J J J hw) fun v _=>Zp J<|Zc<|Za<|Zb<|Ze<|mv J<|Zp J<|Zc<|Za<|Zb<|Zb<|Ze<|mv J<|dt (Yf J J (i:=60) J (Xa pI) Pq)<|dt (Qd J J J ⟨by simp only [List.length_replicate];omega,by simp only [List.length_replicate];omega⟩)<|Zp J<|Zc<|Za<|Zo<|Yo (Aa 61 (zs.length-ys.length+1))<|Yo (Pu 1 80 J J J) ?_
   refine Oc [(1,_),(6,_)] [(0,_),(1,_),(2,_)] (fun(q:Nat×List (Int×SL)×List (Int×SL)×Value)=>[(7,q.2.2.2),(8,.int .i64 ((zs.length:Int)-(ys.length:Int)-(q.1:Int)))]) (fun(q:Nat×List (Int×SL)×List (Int×SL)×Value)=>[(60,Ld 2 48 Hk v q.2.1),(61,Dx qI q.2.1),(80,pp q.2.2.2 q.2.2.1)]) (fun(q:Nat×List (Int×SL)×List (Int×SL)×Value)=>(q.1≤(Zj zs).length-(Zj ys).length+1)∧(∀k,((Zj zs).length-(Zj ys).length)<k+q.1→k≤((Zj zs).length-(Zj ys).length)→Ln (Zj zs) (Zj ys) k)∧(Zj q.2.1=Zdf (Zj zs) (Zj ys) q.1)∧(Zj q.2.2.1=tzl (Qy (Zj zs) (Zj ys) q.1))) (fun(q:Nat×List (Int×SL)×List (Int×SL)×Value)=>(Zj zs).length-(Zj ys).length+1-q.1) (0,List.replicate (zs.length-ys.length+1) I0,zs,_) ⟨Nat.zero_le _,fun k h1 h2=>by omega,by rw [←Zm7,hli,hli2];simp [Zj],(Zbq htz).symm⟩ ⟨J,by simp only [List.length_replicate];exact congrArg some (Zb6 (by omega)),rfl,rfl,trivial⟩ K6 ?_
   rintro⟨j,os,ws,vr⟩ ⟨hj,hx,hos,hws⟩
   dsimp only at hj hx hos hws
   simp only [CA,NA]
   have hlw:=Yc ws
   have hlo:=Yc os
   have hlo2:=congrArg List.length hos
   rw [Zaa]at hlo2
   have hwl:ws.length≤zs.length:=by rw [←hlw,hws];exact Nat.le_trans (Hc _) (by rw [Fm];omega)
   refine Zb<|Zb<|Ze<|mv J<|dt (Lg J J J)<|Zc<|Za<|Zr J (fun h232=>?_) (fun h232=>?_)
   ·have hj2:j≤(Zj zs).length-(Zj ys).length:=by omega
    have hcw:cf (Zj ws) (((Zj zs).length-(Zj ys).length-j)+(Zj ys).length-1)=(cf (Qy (Zj zs) (Zj ys) j) (((Zj zs).length-(Zj ys).length-j)+(Zj ys).length-1)):=by rw [hws,Km]
    have hb1:=Yff hj2 hx hF3
    have hb2:=hb1 (((Zj zs).length-(Zj ys).length-j)+(Zj ys).length-1)
    refine Zk<|Za<|Zb<|Zo<|Iz [(1,_),(6,_),(7,_),(8,_)] [(0,_),(60,_),(61,_),(80,_),(1,_),(2,_)] (fun(q:Value×Value×Nat×Nat)=>[(9,.pointer (some ⟨q.2.2.1,0,none⟩)),(10,.pointer (some ⟨q.2.2.2,0,none⟩))]) (fun(q:Value×Value×Nat×Nat)=>[(83,Mw q.1 ((cf (Qy (Zj zs) (Zj ys) j) (((Zj zs).length-(Zj ys).length-j)+(Zj ys).length-1))/(cf (Zj ys) ((Zj ys).length-1))).natAbs),(84,Mw q.2.1 ((cf (Qy (Zj zs) (Zj ys) j) (((Zj zs).length-(Zj ys).length-j)+(Zj ys).length-1))%(cf (Zj ys) ((Zj ys).length-1))).natAbs),(97,box q.2.2.1 48 #[.bool (decide (((cf (Qy (Zj zs) (Zj ys) j) (((Zj zs).length-(Zj ys).length-j)+(Zj ys).length-1))/(cf (Zj ys) ((Zj ys).length-1)))<0)),q.1]),(98,box q.2.2.2 48 #[.bool (decide (((cf (Qy (Zj zs) (Zj ys) j) (((Zj zs).length-(Zj ys).length-j)+(Zj ys).length-1))%(cf (Zj ys) ((Zj ys).length-1)))<0)),q.2.1])]) (fun(q:Value×Value×Nat×Nat)=>True) K4 K6 ?_ ?_
    ·refine Nm [2] [20]<|Ya (n:=9) [(0,0),(1,0),(2,0),(3,0),(4,0),(5,0),(7,0),(8,0),(9,0),(10,0),(11,0),(12,0)]<|Zs J J (Xm (Yd J J) K1)<|Zs J J (Xm (Yd J J) K1)<|Zs J J (Xm (Yd J J) K1)<|Zs J J (Xm (Yf J J (i:=2) J Yg Pq) K1)<|Zs J J (Xm (Ys J J J) K1)<|Zs J J (Xm (Qd J J J) K1)<|Zs J J (Xm (Yd J J) K1)<|Zs J J (Xm (Yd J J) K1)<|Zs J J (Xm (Yf J J (i:=2) J Yg Pq) K1)<|Zs J J (Xm (Qd J J J) K1)<|Zs J J (Xm (Xc (ii:=2) (i:=(ys.length-1)) J J J J Yg Pq Yz) K1)<|Zs J J (Xm (Xr (ii:=2) I0 J J J Yg pI) K1)<|Yl<|Dm (n:=8) 6 17 18 ?_ ?_ ?_
     ·refine Yj J (Zh (n:=3) (Zga _ _ _ (((Zj zs).length-(Zj ys).length-j)+(Zj ys).length-1)) J J J K2 call101 (Zd 80 J J J Zg) J hw) fun v_2 _=>Dm (n:=7) 13 17 18 ?_ ?_ ?_
      ·refine Yj J (Zh (n:=83) (Fj _ _ _ _ (by rw [hcw];omega) (by rw [hci2];exact hlead) (by rw [hci2];omega)) J J J K2 Zas (Zd 3 J J J (Nf 2 J J (Xj (zs:=ys) (i:=ys.length-1) (d:=I0)) Zg)) J hw) fun g _=>Ya (n:=4) [(14,0),(15,0),(16,0)]<|Zs J J (Xm (Yd J J) K1)<|Zs J J (Xm (Zz J J J) K1)<|Zs J J (Xm (Zz J J J) K1)<|Yl<|Pb (n:=3) 17 18 ?_ ?_
       ·exact Yj J (Zv (i:=97) J J zeroValue48 J J hw K1) fun b ho=>Ya (n:=0) [(18,1),(19,1),(20,3)]<|Xb J (Zv (i:=98) J J zeroValue48 J J hw K1) fun b_2 ho2=>Xb J (Zl (i:=97) J J J J J J Yz J J ⟨Zf J,Zn (i:=83) J Zi,trivial⟩ J hw ho) fun _ _=>Po J (Zl (i:=98) J J J J J J Yz J J ⟨Zf J,Zn (i:=84) J Zi,trivial⟩ J hw trivial) fun _ _=>Yl<|Yk<|Xo (_,_,_,_) trivial K6 ⟨by rw [←hcw,←hci2];rfl,by rw [←hcw,←hci2];rfl,by rw [←hcw,←hci2];rfl,by rw [←hcw,←hci2];rfl,rfl,rfl,rfl,rfl,rfl,rfl,trivial⟩
       ·exact Yj J (Zv (i:=98) J J zeroValue48 J J hw K1) fun b_3 ho3=>Ya (n:=0) [(17,1),(19,1),(20,3)]<|Xb J (Zv (i:=97) J J zeroValue48 J J hw K1) fun b_4 ho4=>Xb J (Zl (i:=97) J J J J J J Yz J J ⟨Zf J,Zn (i:=83) J Zi,trivial⟩ J hw ho4) fun _ _=>Po J (Zl (i:=98) J J J J J J Yz J J ⟨Zf J,Zn (i:=84) J Zi,trivial⟩ J hw trivial) fun _ _=>Yl<|Yk<|Xo (_,_,_,_) trivial K6 ⟨by rw [←hcw,←hci2];rfl,by rw [←hcw,←hci2];rfl,by rw [←hcw,←hci2];rfl,by rw [←hcw,←hci2];rfl,rfl,rfl,rfl,rfl,rfl,rfl,trivial⟩
      ·refine Yj J (Zv (i:=97) J J zeroValue48 J J hw K1) fun b_5 ho5=>Pb (n:=6) 13 18 ?_ ?_
       ·exact Yj J (Zh (n:=83) (Fj _ _ _ _ (by rw [hcw];omega) (by rw [hci2];exact hlead) (by rw [hci2];omega)) J J J K2 Zas (Zd 3 J J J (Nf 2 J J (Xj (zs:=ys) (i:=ys.length-1) (d:=I0)) Zg)) J hw) fun g_2 _=>Ya (n:=0) [(14,0),(15,0),(16,0),(18,1),(19,1),(20,3)]<|Zs J J (Xm (Yd J J) K1)<|Zs J J (Xm (Zz J J J) K1)<|Zs J J (Xm (Zz J J J) K1)<|Xb J (Zv (i:=98) J J zeroValue48 J J hw K1) fun b_6 ho6=>Xb J (Zl (i:=97) J J J J J J Yz J J ⟨Zf J,Zn (i:=83) J Zi,trivial⟩ J hw ho5) fun _ _=>Po J (Zl (i:=98) J J J J J J Yz J J ⟨Zf J,Zn (i:=84) J Zi,trivial⟩ J hw trivial) fun _ _=>Yl<|Yk<|Xo (_,_,_,_) trivial K6 ⟨by rw [←hcw,←hci2];rfl,by rw [←hcw,←hci2];rfl,by rw [←hcw,←hci2];rfl,by rw [←hcw,←hci2];rfl,rfl,rfl,rfl,rfl,rfl,rfl,trivial⟩
       ·exact Yj J (Zv (i:=98) J J zeroValue48 J J hw K1) fun b_7 ho7=>Ya (n:=0) [(13,1),(14,0),(15,0),(16,0),(19,1),(20,3)]<|Xb J (Zh (n:=83) (Fj _ _ _ _ (by rw [hcw];omega) (by rw [hci2];exact hlead) (by rw [hci2];omega)) J J J K2 Zas (Zd 3 J J J (Nf 2 J J (Xj (zs:=ys) (i:=ys.length-1) (d:=I0)) Zg)) J hw) fun g_3 _=>Zs J J (Xm (Yd J J) K1)<|Zs J J (Xm (Zz J J J) K1)<|Zs J J (Xm (Zz J J J) K1)<|Xb J (Zl (i:=97) J J J J J J Yz J J ⟨Zf J,Zn (i:=83) J Zi,trivial⟩ J hw ho5) fun _ _=>Po J (Zl (i:=98) J J J J J J Yz J J ⟨Zf J,Zn (i:=84) J Zi,trivial⟩ J hw trivial) fun _ _=>Yl<|Yk<|Xo (_,_,_,_) trivial K6 ⟨by rw [←hcw,←hci2];rfl,by rw [←hcw,←hci2];rfl,by rw [←hcw,←hci2];rfl,by rw [←hcw,←hci2];rfl,rfl,rfl,rfl,rfl,rfl,rfl,trivial⟩
      ·refine Yj J (Zv (i:=98) J J zeroValue48 J J hw K1) fun b_8 ho8=>Pb (n:=6) 13 17 ?_ ?_
       ·exact Yj J (Zh (n:=83) (Fj _ _ _ _ (by rw [hcw];omega) (by rw [hci2];exact hlead) (by rw [hci2];omega)) J J J K2 Zas (Zd 3 J J J (Nf 2 J J (Xj (zs:=ys) (i:=ys.length-1) (d:=I0)) Zg)) J hw) fun g_4 _=>Ya (n:=0) [(14,0),(15,0),(16,0),(17,1),(19,1),(20,3)]<|Zs J J (Xm (Yd J J) K1)<|Zs J J (Xm (Zz J J J) K1)<|Zs J J (Xm (Zz J J J) K1)<|Xb J (Zv (i:=97) J J zeroValue48 J J hw K1) fun b_9 ho9=>Xb J (Zl (i:=97) J J J J J J Yz J J ⟨Zf J,Zn (i:=83) J Zi,trivial⟩ J hw ho9) fun _ _=>Po J (Zl (i:=98) J J J J J J Yz J J ⟨Zf J,Zn (i:=84) J Zi,trivial⟩ J hw trivial) fun _ _=>Yl<|Yk<|Xo (_,_,_,_) trivial K6 ⟨by rw [←hcw,←hci2];rfl,by rw [←hcw,←hci2];rfl,by rw [←hcw,←hci2];rfl,by rw [←hcw,←hci2];rfl,rfl,rfl,rfl,rfl,rfl,rfl,trivial⟩
       ·exact Yj J (Zv (i:=97) J J zeroValue48 J J hw K1) fun b_10 ho10=>Ya (n:=0) [(13,1),(14,0),(15,0),(16,0),(19,1),(20,3)]<|Xb J (Zh (n:=83) (Fj _ _ _ _ (by rw [hcw];omega) (by rw [hci2];exact hlead) (by rw [hci2];omega)) J J J K2 Zas (Zd 3 J J J (Nf 2 J J (Xj (zs:=ys) (i:=ys.length-1) (d:=I0)) Zg)) J hw) fun g_5 _=>Zs J J (Xm (Yd J J) K1)<|Zs J J (Xm (Zz J J J) K1)<|Zs J J (Xm (Zz J J J) K1)<|Xb J (Zl (i:=97) J J J J J J Yz J J ⟨Zf J,Zn (i:=83) J Zi,trivial⟩ J hw ho10) fun _ _=>Po J (Zl (i:=98) J J J J J J Yz J J ⟨Zf J,Zn (i:=84) J Zi,trivial⟩ J hw trivial) fun _ _=>Yl<|Yk<|Xo (_,_,_,_) trivial K6 ⟨by rw [←hcw,←hci2];rfl,by rw [←hcw,←hci2];rfl,by rw [←hcw,←hci2];rfl,by rw [←hcw,←hci2];rfl,rfl,rfl,rfl,rfl,rfl,rfl,trivial⟩
     ·refine Yj J (Zv (i:=97) J J zeroValue48 J J hw K1) fun b_11 ho11=>Pb (n:=7) 6 18 ?_ ?_
      ·refine Yj J (Zh (n:=4) (Zga _ _ _ (((Zj zs).length-(Zj ys).length-j)+(Zj ys).length-1)) J J J K2 call101 (Zd 80 J J J Zg) J hw) fun v_3 _=>Pb (n:=6) 13 18 ?_ ?_
       ·exact Yj J (Zh (n:=83) (Fj _ _ _ _ (by rw [hcw];omega) (by rw [hci2];exact hlead) (by rw [hci2];omega)) J J J K2 Zas (Zd 4 J J J (Nf 2 J J (Xj (zs:=ys) (i:=ys.length-1) (d:=I0)) Zg)) J hw) fun g_6 _=>Ya (n:=0) [(14,0),(15,0),(16,0),(18,1),(19,1),(20,3)]<|Zs J J (Xm (Yd J J) K1)<|Zs J J (Xm (Zz J J J) K1)<|Zs J J (Xm (Zz J J J) K1)<|Xb J (Zv (i:=98) J J zeroValue48 J J hw K1) fun b_12 ho12=>Xb J (Zl (i:=97) J J J J J J Yz J J ⟨Zf J,Zn (i:=83) J Zi,trivial⟩ J hw ho11) fun _ _=>Po J (Zl (i:=98) J J J J J J Yz J J ⟨Zf J,Zn (i:=84) J Zi,trivial⟩ J hw trivial) fun _ _=>Yl<|Yk<|Xo (_,_,_,_) trivial K6 ⟨by rw [←hcw,←hci2];rfl,by rw [←hcw,←hci2];rfl,by rw [←hcw,←hci2];rfl,by rw [←hcw,←hci2];rfl,rfl,rfl,rfl,rfl,rfl,rfl,trivial⟩
       ·exact Yj J (Zv (i:=98) J J zeroValue48 J J hw K1) fun b_13 ho13=>Ya (n:=0) [(13,1),(14,0),(15,0),(16,0),(19,1),(20,3)]<|Xb J (Zh (n:=83) (Fj _ _ _ _ (by rw [hcw];omega) (by rw [hci2];exact hlead) (by rw [hci2];omega)) J J J K2 Zas (Zd 4 J J J (Nf 2 J J (Xj (zs:=ys) (i:=ys.length-1) (d:=I0)) Zg)) J hw) fun g_7 _=>Zs J J (Xm (Yd J J) K1)<|Zs J J (Xm (Zz J J J) K1)<|Zs J J (Xm (Zz J J J) K1)<|Xb J (Zl (i:=97) J J J J J J Yz J J ⟨Zf J,Zn (i:=83) J Zi,trivial⟩ J hw ho11) fun _ _=>Po J (Zl (i:=98) J J J J J J Yz J J ⟨Zf J,Zn (i:=84) J Zi,trivial⟩ J hw trivial) fun _ _=>Yl<|Yk<|Xo (_,_,_,_) trivial K6 ⟨by rw [←hcw,←hci2];rfl,by rw [←hcw,←hci2];rfl,by rw [←hcw,←hci2];rfl,by rw [←hcw,←hci2];rfl,rfl,rfl,rfl,rfl,rfl,rfl,trivial⟩
      ·exact Yj J (Zv (i:=98) J J zeroValue48 J J hw K1) fun b_14 ho14=>Ya (n:=0) [(6,1),(13,1),(14,0),(15,0),(16,0),(19,1),(20,3)]<|Xb J (Zh (n:=5) (Zga _ _ _ (((Zj zs).length-(Zj ys).length-j)+(Zj ys).length-1)) J J J K2 call101 (Zd 80 J J J Zg) J hw) fun v_4 _=>Xb J (Zh (n:=83) (Fj _ _ _ _ (by rw [hcw];omega) (by rw [hci2];exact hlead) (by rw [hci2];omega)) J J J K2 Zas (Zd 5 J J J (Nf 2 J J (Xj (zs:=ys) (i:=ys.length-1) (d:=I0)) Zg)) J hw) fun g_8 _=>Zs J J (Xm (Yd J J) K1)<|Zs J J (Xm (Zz J J J) K1)<|Zs J J (Xm (Zz J J J) K1)<|Xb J (Zl (i:=97) J J J J J J Yz J J ⟨Zf J,Zn (i:=83) J Zi,trivial⟩ J hw ho11) fun _ _=>Po J (Zl (i:=98) J J J J J J Yz J J ⟨Zf J,Zn (i:=84) J Zi,trivial⟩ J hw trivial) fun _ _=>Yl<|Yk<|Xo (_,_,_,_) trivial K6 ⟨by rw [←hcw,←hci2];rfl,by rw [←hcw,←hci2];rfl,by rw [←hcw,←hci2];rfl,by rw [←hcw,←hci2];rfl,rfl,rfl,rfl,rfl,rfl,rfl,trivial⟩
     ·refine Yj J (Zv (i:=98) J J zeroValue48 J J hw K1) fun b_15 ho15=>Pb (n:=7) 6 17 ?_ ?_
      ·refine Yj J (Zh (n:=6) (Zga _ _ _ (((Zj zs).length-(Zj ys).length-j)+(Zj ys).length-1)) J J J K2 call101 (Zd 80 J J J Zg) J hw) fun v_5 _=>Pb (n:=6) 13 17 ?_ ?_
       ·exact Yj J (Zh (n:=83) (Fj _ _ _ _ (by rw [hcw];omega) (by rw [hci2];exact hlead) (by rw [hci2];omega)) J J J K2 Zas (Zd 6 J J J (Nf 2 J J (Xj (zs:=ys) (i:=ys.length-1) (d:=I0)) Zg)) J hw) fun g_9 _=>Ya (n:=0) [(14,0),(15,0),(16,0),(17,1),(19,1),(20,3)]<|Zs J J (Xm (Yd J J) K1)<|Zs J J (Xm (Zz J J J) K1)<|Zs J J (Xm (Zz J J J) K1)<|Xb J (Zv (i:=97) J J zeroValue48 J J hw K1) fun b_16 ho16=>Xb J (Zl (i:=97) J J J J J J Yz J J ⟨Zf J,Zn (i:=83) J Zi,trivial⟩ J hw ho16) fun _ _=>Po J (Zl (i:=98) J J J J J J Yz J J ⟨Zf J,Zn (i:=84) J Zi,trivial⟩ J hw trivial) fun _ _=>Yl<|Yk<|Xo (_,_,_,_) trivial K6 ⟨by rw [←hcw,←hci2];rfl,by rw [←hcw,←hci2];rfl,by rw [←hcw,←hci2];rfl,by rw [←hcw,←hci2];rfl,rfl,rfl,rfl,rfl,rfl,rfl,trivial⟩
       ·exact Yj J (Zv (i:=97) J J zeroValue48 J J hw K1) fun b_17 ho17=>Ya (n:=0) [(13,1),(14,0),(15,0),(16,0),(19,1),(20,3)]<|Xb J (Zh (n:=83) (Fj _ _ _ _ (by rw [hcw];omega) (by rw [hci2];exact hlead) (by rw [hci2];omega)) J J J K2 Zas (Zd 6 J J J (Nf 2 J J (Xj (zs:=ys) (i:=ys.length-1) (d:=I0)) Zg)) J hw) fun g_10 _=>Zs J J (Xm (Yd J J) K1)<|Zs J J (Xm (Zz J J J) K1)<|Zs J J (Xm (Zz J J J) K1)<|Xb J (Zl (i:=97) J J J J J J Yz J J ⟨Zf J,Zn (i:=83) J Zi,trivial⟩ J hw ho17) fun _ _=>Po J (Zl (i:=98) J J J J J J Yz J J ⟨Zf J,Zn (i:=84) J Zi,trivial⟩ J hw trivial) fun _ _=>Yl<|Yk<|Xo (_,_,_,_) trivial K6 ⟨by rw [←hcw,←hci2];rfl,by rw [←hcw,←hci2];rfl,by rw [←hcw,←hci2];rfl,by rw [←hcw,←hci2];rfl,rfl,rfl,rfl,rfl,rfl,rfl,trivial⟩
      ·exact Yj J (Zv (i:=97) J J zeroValue48 J J hw K1) fun b_18 ho18=>Ya (n:=0) [(6,1),(13,1),(14,0),(15,0),(16,0),(19,1),(20,3)]<|Xb J (Zh (n:=7) (Zga _ _ _ (((Zj zs).length-(Zj ys).length-j)+(Zj ys).length-1)) J J J K2 call101 (Zd 80 J J J Zg) J hw) fun v_6 _=>Xb J (Zh (n:=83) (Fj _ _ _ _ (by rw [hcw];omega) (by rw [hci2];exact hlead) (by rw [hci2];omega)) J J J K2 Zas (Zd 7 J J J (Nf 2 J J (Xj (zs:=ys) (i:=ys.length-1) (d:=I0)) Zg)) J hw) fun g_11 _=>Zs J J (Xm (Yd J J) K1)<|Zs J J (Xm (Zz J J J) K1)<|Zs J J (Xm (Zz J J J) K1)<|Xb J (Zl (i:=97) J J J J J J Yz J J ⟨Zf J,Zn (i:=83) J Zi,trivial⟩ J hw ho18) fun _ _=>Po J (Zl (i:=98) J J J J J J Yz J J ⟨Zf J,Zn (i:=84) J Zi,trivial⟩ J hw trivial) fun _ _=>Yl<|Yk<|Xo (_,_,_,_) trivial K6 ⟨by rw [←hcw,←hci2];rfl,by rw [←hcw,←hci2];rfl,by rw [←hcw,←hci2];rfl,by rw [←hcw,←hci2];rfl,rfl,rfl,rfl,rfl,rfl,rfl,trivial⟩
    ·rintro⟨qv,rv,b7,b8⟩ -
     simp only [CA,NA]
     refine Zb<|Zb<|Ze<|dt (Yb (i:=98) J J J Oy Yz J J)<|tt (Zh (n:=7) (Dw _ _ (by have:=Zpu (cf (Qy (Zj zs) (Zj ys) j) (((Zj zs).length-(Zj ys).length-j)+(Zj ys).length-1)) (cf (Zj ys) ((Zj ys).length-1)) hlead;omega)) J J J K1 call72 (Zd 84 J J J Zg) J hw) fun _ _=>dt (Xz J J J)<|Zc<|Za<|Zr J (fun h234=>?_) (fun h234=>?_)
     ·have hne:¬Ln (Zj zs) (Zj ys) ((Zj zs).length-(Zj ys).length-j):=fun he=>h234 (by rw [(Zg4 hj2).1 he];rfl)
      refine Zb<|Ze<|Zp J<|Zp J<|Zc<|Za<|Zq<|Yn<|Nq<|Yn<|Yn<|Nq<|Yn<|Qu (Du 62) ?_
      have hno:=pdv_no (p:=Zj zs) (q:=Zj ys) hnz (by omega) hne
      exact Yu (.inl J) hsc (.slice none 0 0,[]) _ (fun a w hs=>Og hs results55 J J) (by rw [hno]) (fun h=>absurd h (of_decide_eq_false hno)) J (Xu 62 J J J Zm)
     ·have hr0:((cf (Qy (Zj zs) (Zj ys) j) (((Zj zs).length-(Zj ys).length-j)+(Zj ys).length-1))%(cf (Zj ys) ((Zj ys).length-1)))=0:=Int.sign_eq_zero_iff_zero.1 (Decidable.byContradiction h234)
      have hde:Ln (Zj zs) (Zj ys) ((Zj zs).length-(Zj ys).length-j):=(Zg4 hj2).2 hr0
      have hcb:=fun t=>Nat.le_trans (div_c hlead hr0 (Nat.le_refl _) t) hb2
      have hcc:=Ea (Int.dvd_of_emod_eq_zero hr0) (Nat.le_trans (Nat.le_add_right _ _) hb2)
      refine Zk<|Za<|Zb<|Zo9 (Nk 83 J Zi) (fun sl hsl=>?_)
      subst hsl
      refine Ze<|mv J<|mv J<|dt (Yb (i:=97) J J J Oy Yz J J)<|dt (Xc (ii:=60) (i:=((Zj zs).length-(Zj ys).length-j)) J J J J (Xa pI) Pq Yz)<|tt (Im (i:=60) (enc:=Hk) (((cf (Qy (Zj zs) (Zj ys) j) (((Zj zs).length-(Zj ys).length-j)+(Zj ys).length-1))/(cf (Zj ys) ((Zj ys).length-1))),sl) J J J J J J pI J hw) fun _ _=>Zc<|Za<|Zb<|Yo (Ow (q:=qI) (z:=(((cf (Qy (Zj zs) (Zj ys) j) (((Zj zs).length-(Zj ys).length-j)+(Zj ys).length-1))/(cf (Zj ys) ((Zj ys).length-1))),sl)) 61 83 62 J J J J J)<|Yo (Zs0 (ys:=os.set ((Zj zs).length-(Zj ys).length-j) (((cf (Qy (Zj zs) (Zj ys) j) (((Zj zs).length-(Zj ys).length-j)+(Zj ys).length-1))/(cf (Zj ys) ((Zj ys).length-1))),sl)) 62 61 J J (fun y hy=>by rcases List.mem_or_eq_of_mem_set hy with h | h;exact List.mem_append_left _ h;rw [h];exact List.mem_append_right _ (List.mem_singleton.2 rfl)))<|Ze<|mv J<|tt (Ge (i:=70) (n:=((Zj zs).length-(Zj ys).length-j)) (by_:=32) (enc:=Hk) I0 J J J J Pq ti48 J pI.cells pI.pos J J J hw) fun v_7 _=>Zp J<|Zc<|Za<|Zb<|Zb<|Ze<|Zp J<|Zc<|Za<|Zo<|Yo (Aa 71 ((Zj zs).length-(Zj ys).length-j)) ?_
      refine Oc [(1,_),(6,_),(7,_),(8,_),(9,_)] [(0,_),(83,_),(84,_),(97,_),(98,_),(60,_),(61,_),(80,_),(1,_),(2,_)] (fun(q:Nat×Value×List (Int×SL))=>[(12,.int .i64 (q.1:Int)),(11,q.2.1)]) (fun(q:Nat×Value×List (Int×SL))=>[(70,Ld 2 48 Hk q.2.1 q.2.2),(71,Dx qI q.2.2)]) (fun(q:Nat×Value×List (Int×SL))=>(q.1≤ys.length)∧(Zj q.2.2=shm (Zj ys) ((cf (Qy (Zj zs) (Zj ys) j) (((Zj zs).length-(Zj ys).length-j)+(Zj ys).length-1))/(cf (Zj ys) ((Zj ys).length-1))) ((Zj zs).length-(Zj ys).length-j) q.1)∧(q.2.2.length=((Zj zs).length-(Zj ys).length-j)+q.1)) (fun(q:Nat×Value×List (Int×SL))=>ys.length-q.1) (0,_,List.replicate ((Zj zs).length-(Zj ys).length-j) I0) ⟨by first | omega | (dsimp only<;>omega),by rw [←Zf4];simp [Zj],by simp⟩ K7 K12 ?_
      rintro⟨i,vo,ms⟩ ⟨hi,hms,hml⟩
      dsimp only at hi hms hml
      simp only [CA,NA]
      have hci:=Nx ys i
      refine Zb<|Zb<|Ze<|mv J<|mv J<|dt (Yf J J (i:=2) J Yg Pq)<|dt (Xv J J J)<|Zc<|Za<|Zr J (fun h239=>?_) (fun h239=>?_)
      ·refine Zk<|Za<|Zb<|Zo<|Nm [2,97] [9]<|Ya (n:=3) [(0,0),(1,0),(2,0),(3,0),(4,0),(5,0),(6,1)]<|Zs J J (Xm (Yd J J) K2)<|Zs J J (Xm (Yb (i:=97) J J J Oy Yz J J) K2)<|Zs J J (Xm (Yd J J) K2)<|Zs J J (Xm (Yd J J) K2)<|Zs J J (Xm (Xc (ii:=2) J J J J Yg Pq Yz J (by first | omega | (simp only [List.length_set];omega))) K2)<|Zs J J (Xm (Xr (ii:=2) I0 J J J Yg pI (by first | omega | (simp only [List.length_set];omega))) K2)<|Xb J (Zh (n:=86) (Kc _ _ _ _ (by omega) (by rw [hci];have:=hsy i;omega)) J J J K2 Gp (Zd 83 J J J (Nf 2 J J (Xj (i:=i)) Zg)) J hw) fun v_8 _=>Yl<|Zdo (Nk 86 J Zi) (fun sl_2 hsl=>?_)
       subst hsl
       exact Ya (n:=0) [(7,1),(8,1),(9,3)]<|Xb J (Pn (i:=87) (ivs:=[(0,_)]) (enc:=Hk) [(((cf (Qy (Zj zs) (Zj ys) j) (((Zj zs).length-(Zj ys).length-j)+(Zj ys).length-1))/(cf (Zj ys) ((Zj ys).length-1)))*(ys.getD i I0).1,sl_2)] J J K2 Pq ti48 J J J J J pI.cells J J hw) fun v_9 _=>Xb J (Ze6 70 J J J K2 (fun hoffr=>(Zbs (xs:=ms) (ys:=[_]) (i:=70) (j:=87) (by_:=32) J J J J J J (by decide) J (Xa pI) Pq ti48 J pI J J J (by simp;omega) (by decide) J hw hoffr))) fun v_10 _=>Po J (Od (Mb J J) J) fun _ _=>Yl<|Yk<|Qn<|Za<|Ze<|mv J<|dt (Ys J J J)<|Zp J<|Zc<|Qu (Ow (q:=qI) (z:=(((cf (Qy (Zj zs) (Zj ys) j) (((Zj zs).length-(Zj ys).length-j)+(Zj ys).length-1))/(cf (Zj ys) ((Zj ys).length-1)))*(ys.getD i I0).1,sl_2)) 71 86 71 J J J J J)<|Xk (i+1,_,ms ++ [(((cf (Qy (Zj zs) (Zj ys) j) (((Zj zs).length-(Zj ys).length-j)+(Zj ys).length-1))/(cf (Zj ys) ((Zj ys).length-1)))*(ys.getD i I0).1,sl_2)]) ⟨by first | omega | (dsimp only<;>omega),by rw [Hz,hms,←Zf5];dsimp only;rw [hci],by simp;omega⟩ (by first | omega | (dsimp only<;>omega)) K7 K12
      ·refine Yx<|Zx<|Zx<|Pd<|Za<|Yo (Pg 70 J J pI)<|Yo (Kb 70 71 72 J J J J)<|Ze<|mv J<|mv J<|tt (Zh (n:=8) (Zby _ _ (by rw [hms];exact Znr fun t=>by have:=hcb t;omega)) J J J K1 call89 (Zd 72 J J J Zg) J hw) fun g_12 hg=>tt (Zh (n:=9) (Zn1 _ _ _ _ (by rw [hws];exact Sz.tzl fun t=>by have:=hb1 t;omega) (by rw [hg,hms];exact Sz.tzl (Znr fun t=>by have:=hcb t;omega)) (by omega) (by have h7:=congrArg List.length hg;have h8:=Hc (Zj ms);have h9:=Yc ms;have h10:=Yc g_12.2;omega)) J J J K2 call88 (Zd 80 J J J (Zd 8 J J J Zg)) J hw) fun g_13 hg_2=>Zp J<|Zc<|Qn<|Za<|Ze<|mv J<|dt (Qd J J J)<|Zp J<|Zc ?_
       obtain rfl:i=(Zj ys).length:=by omega
       exact Qu (Pu 9 80 J J J)<|Xk (j+1,os.set ((Zj zs).length-(Zj ys).length-j) (((cf (Qy (Zj zs) (Zj ys) j) (((Zj zs).length-(Zj ys).length-j)+(Zj ys).length-1))/(cf (Zj ys) ((Zj ys).length-1))),sl),_,_) ⟨by dsimp only;omega,fun k h1 h2=>by dsimp only at h1 h2;rcases Nat.lt_or_ge ((Zj zs).length-(Zj ys).length) (k+j)with h3 | h3;(exact hx k h3 h2);(rw [show k=((Zj zs).length-(Zj ys).length-j) by omega];exact hde),by dsimp only;rw [Ybz,hos];exact Zyq (by omega),by dsimp only;rw [hg_2,hg,hws,hms];exact Ycj (by omega) hj2⟩ (by first | omega | (dsimp only<;>omega)) ⟨J,by dsimp only;rw [show(zs.length:Int)-(ys.length:Int)-((j+1:Nat):Int)=(zs.length:Int)-(ys.length:Int)-(j:Int)-1 by omega];rfl,rfl,rfl,trivial⟩ K6
   ·refine Yx<|Zx<|Zx<|Pd<|Za<|Zb ?_
    have hall:∀k,k≤(Zj zs).length-(Zj ys).length→Ln (Zj zs) (Zj ys) k:=fun k hk=>hx k (by omega) hk
    exact Yo (Pg 60 J J pI)<|Yo (Kb 60 61 72 J J J J)<|Ze<|mv J<|tt (Zh (n:=10) (Zby _ _ (by rw [hos];exact(Yfd hF3 hall _).mono (by omega))) J J J K1 call89 (Zd 72 J J J Zg) J hw) fun g_14 hg_3=>mv J<|dt (Yf J J (i:=80) J Yg Pq)<|dt (Pj J J J)<|Zp J<|Zp J<|Zc<|Za<|Zq<|Yu (.inl J) hsc _ _ (fun a w hs=>Og hs results55 J J) (by rw [←Yek hnz (by omega) hall (show ws.length=_ by rw [←hlw,hws,show j=(Zj zs).length-(Zj ys).length+1 by omega]),show decide ((ws.length:Int)=0)=decide (ws.length=0)from decide_eq_decide.2 (by omega)]<;>rfl) (fun _=>by rw [hg_3,hos,show j=(Zj zs).length-(Zj ys).length+1 by omega,Zde,Zka hnz]) J (Xu 10 J J J Zm)
theorem rp_gcd(v u:Value)(zs ys:List (Int×SL))(F:Nat)(hv:Vp (Zj zs))(hu:Vp (Zj ys))(hok:eok F (Zj zs) (Zj ys)):Cal prog 114 #[v,u] [pp v zs,pp u ys] true (G:=Value×List (Int×SL)) (fun r=>Zj r.2=Kn (Xf (eu F (Zj zs) (Zj ys)))) (fun r=>r.1) (fun r=>[pp r.1 r.2]):=by
 refine Yi func114 J ntmps114 J K2 fun w0 sc hw hsc=>?_
 simp only [Zu,Zt]
 refine Zb<|Ze<|Zp J<|Zc<|Za<|Zb<|Ze<|mv J<|mv J<|Zp J<|Zp J<|Zc<|Za<|Zb<|Zo<|Yo (Pu 1 80 J J J)<|Yo (Pu 2 81 J J J)<|Oc [] [(0,_),(1,_),(2,_)] (fun(q:Value×Value×List (Int×SL)×List (Int×SL)×Nat)=>[(5,q.1),(6,q.2.1)]) (fun(q:Value×Value×List (Int×SL)×List (Int×SL)×Nat)=>[(80,pp q.1 q.2.2.1),(81,pp q.2.1 q.2.2.2.1)]) (fun(q:Value×Value×List (Int×SL)×List (Int×SL)×Nat)=>(Vp (Zj q.2.2.1))∧(Vp (Zj q.2.2.2.1))∧(eok q.2.2.2.2 (Zj q.2.2.1) (Zj q.2.2.2.1))∧(eu q.2.2.2.2 (Zj q.2.2.1) (Zj q.2.2.2.1)=eu F (Zj zs) (Zj ys))) (fun(q:Value×Value×List (Int×SL)×List (Int×SL)×Nat)=>q.2.2.2.2) (_,_,zs,ys,F) ⟨hv,hu,hok,J⟩ K2 K5 ?_
 rintro⟨va,vb,aa,bb,f⟩ ⟨hva,hvb,hok0,heu⟩
 dsimp only at hva hvb hok0 heu
 simp only [CA,NA]
 have hla:=Yc aa
 have hlb:=Yc bb
 have hna:=hva.len
 have hnb:=hvb.len
 refine Zb<|Zb<|Ze<|mv J<|dt (Yf J J (i:=81) J Yg Pq)<|dt (Pw J J J)<|Zc<|Za<|Zr J (fun h250=>?_) (fun h250=>?_)
 ·have hbn:Zj bb≠[]:=fun e=>by have h7:=congrArg List.length e;simp only [List.length_nil]at h7;omega
  obtain⟨f1,rfl,hde,hok1,heu1⟩:=Zry hok0 hbn
  have hdo:=(Zb8 hde).2
  have hvp:=Zau hva hde
  exact Zk<|Za<|Zo<|Ze<|mv J<|mv J<|mv J<|tt (Zh (n:=3) (Yd0 _ _ _ _ (by omega) (by omega) (by omega) hvb.tr (fun h=>by have h7:=hdo (by omega);rw [hla,hlb]at h7;omega)) J J J K2 call160 (Zd 80 J J J (Zd 81 J J J Zg)) J hw) fun g hg=>tt (Zh (n:=4) (Gs _ _ (by rw [hg];exact hvp.sz.mono (by omega)) (fun h=>by rw [hg];exact hvp.ne (fun e=>by have h7:=congrArg List.length hg;rw [e,Yc]at h7;exact h h7)) (by have h7:=congrArg List.length hg;have h8:=hvp.len;have h9:=Yc g.2;omega)) J J J K1 call57 (Zd 3 J J J Zg) J hw) fun g_2 hg_2=>Zp J<|Zp J<|Zc<|Qn<|Qu (Pu 81 80 J J J)<|Qu (Pu 4 81 J J J)<|Xk (_,_,bb,g_2.2,f1) ⟨hvb,by dsimp only;rw [hg_2,hg];exact Ii hvp,by dsimp only;rw [hg_2,hg];exact hok1,by dsimp only;rw [hg_2,hg,←heu1];exact heu⟩ (Nat.lt_succ_self f1) K2 K5
 ·have hbn:Zj bb=[]:=List.eq_nil_of_length_eq_zero (by omega)
  rw [hbn,Dz]at heu
  have hpb:=Fg hva.sz
  have hpl:=Xd (Zj aa)
  refine Yx<|Zx<|Zx<|Pd<|Za<|Zb<|Ze<|mv J<|tt (Zh (n:=5) (Gs _ _ (hva.sz.mono (by omega)) (fun h=>hva.ne (fun e=>by have h7:=congrArg List.length e;simp only [List.length_nil]at h7;omega))) J J J K1 call57 (Zd 80 J J J Zg) J hw) fun g_3 hg_3=>Zp J<|Zc<|Za<|Zb<|Zb ?_
  have hpz:g_3.2.length=aa.length:=by rw [←Yc g_3.2,hg_3,hpl];exact hla
  refine Ze<|mv J<|dt (Yf J J (i:=5) J Yg Pq)<|dt (Pw J J J)<|mv J<|Pf (d:=22) J (fun s254=>?_) (fun s254=>?_)
  ·refine Xh (Yd J J) J J<|Xh (Yd J J) J J<|Xh (Yf J J (i:=5) J Yg Pq) J J<|Xh (Qd J J J) J J<|Xh (Xc (ii:=5) (i:=(g_3.2.length-1)) J J J J Yg Pq Yz) J J<|Xh (Xr (ii:=5) I0 J J J Yg pI) J J<|Lz (Zh (n:=5) (Dw _ _ (by rw [Nx,hg_3];have:=hpb (g_3.2.length-1);omega)) J J J K1 call72 (Nf 5 J J (Xj (zs:=g_3.2) (i:=g_3.2.length-1) (d:=I0)) Zg) J hw) J J J fun _ _=>Xh (Xv J J J) J J<|dt (Yy J J J)<|Zc<|Za<|Zr J (fun h254=>?_) (fun h254=>?_)
   ·have hlc:=Nx g_3.2 (g_3.2.length-1)
    have hneg:(Kn (Xf (Zj aa)))=Xw (Xf (Zj aa)) (-1):=by unfold Kn;rw [if_pos ⟨by omega,by rw [←hg_3,Yc,←hlc];exact(Qz _).1 h254⟩]
    exact Zb<|Ze<|mv J<|tt (Zh (n:=6) (Zn2 _ _ (by rw [hg_3];exact hpb.mono (by omega))) J J J K1 call138 (Zd 5 J J J Zg) J hw) fun g_4 hg_4=>Zp J<|Zc<|Za<|Zq<|Yn<|xG hsc _ results114 J J (by rw [hg_4,hg_3,←heu,hneg]) J (Xu 6 J J J Zm)
   ·refine Zk<|Za<|Zb<|Ze<|mv J<|Zp J<|Zc<|Za<|Zq ?_
    have hneg:(Kn (Xf (Zj aa)))=Xf (Zj aa):=by unfold Kn;rw [if_neg (fun h=>by rw [←hg_3,Yc,←Nx]at h;first | omega | exact absurd ((Qz _).2 h.2) ‹_›)]
    exact Yu (.inl J) hsc (_,g_3.2) _ (fun a w hs=>Ni hs results114 J) J (by rw [hg_3,←heu,hneg]) J (Xu 5 J J J Zm)
  ·refine Xt J J J<|Xt J J J<|Xt J J J<|Xt J J J<|Xt J J J<|Xt J J J<|Xt J J J<|Xt J J J<|dt (Yh J J J)<|Zc<|Za<|Yp J<|Zk<|Za<|Zb<|Ze<|mv J<|Zp J<|Zc<|Za<|Zq ?_
   have hneg:(Kn (Xf (Zj aa)))=Xf (Zj aa):=by unfold Kn;rw [if_neg (fun h=>by rw [←hg_3,Yc,←Nx]at h;first | omega | exact absurd ((Qz _).2 h.2) ‹_›)]
   exact Yu (.inl J) hsc (_,g_3.2) _ (fun a w hs=>Ni hs results114 J) J (by rw [hg_3,←heu,hneg]) J (Xu 5 J J J Zm)
theorem Zs3(v va vb vd:Value)(zs:List (Int×SL))(x y z:Int)(m:Nat)(hl:zs.length≤30)(hx:bl x.natAbs≤m)(hy:bl y.natAbs≤m)(hz:bl z.natAbs≤m)(hF:Pi (Zj zs)+zs.length*(m+1)+1+zs.length+1+m≤900000):Cal prog 179 #[v,.agg #[.bool (decide (x<0)),va],.agg #[.bool (decide (y<0)),vb],.agg #[.bool (decide (z<0)),vd]] [pp v zs,Mw va x.natAbs,Mw vb y.natAbs,Mw vd z.natAbs] true (G:=Value×List (Int×SL)) (fun r=>Zj r.2=Zap (Zj zs) x y z) (fun r=>r.1) (fun r=>[pp r.1 r.2]):=by
 refine Yi func179 J ntmps179 J K4 fun w0 sc hw hsc=>?_
 simp only [Zu,Zt]
 have hli:=Yc zs
 refine Nl (Kk (i:=1) J Yg) (fun hlen=>?_)
 have hsy0:=Ot (Zj zs)
 have hmm:zs.length≤zs.length*(m+1):=Nat.le_mul_of_pos_right _ (by omega)
 refine Zb<|Zo9 (Nk 2 J Zi) (fun sx hsx=>?_)
 subst hsx
 refine Zo9 (Nk 3 J Zi) (fun sy hsy=>?_)
 subst hsy
 refine Ze<|tt (Yw (i:=5) J J J J J hw) fun b _=>tt (Yw (i:=6) J J J J J hw) fun b_2 _=>tt (Yw (i:=7) J J J J J hw) fun b_3 _=>Zp J<|Zc<|Za<|Zb<|Ze<|Zp J<|Zc<|Za<|Zb<|Ze<|tt (Pn (i:=8) (ivs:=[(0,_)]) (enc:=Fz) [_] J J K2 Oo ti3 J J J J J pZ.cells J J hw) fun v _=>Pp (Pg 8 J J pZ)<|tt (Zh (n:=82) (Zu3 _ [1] (fun x hx=>by cases hx with | head=>exact⟨by omega,by omega⟩ | tail _ h=>cases h) (by decide)) J J J K1 call102 (Zd 8 J J J Zg) J hw) fun g hg=>Zp J<|Zc<|Za<|Zb<|Zb<|Ze<|Zp J<|Zc<|Za<|Zo<|Yo (Du 80)<|Yo (Pu 82 81 J J J) ?_
 refine Oc [(0,_),(5,_),(6,_),(7,_)] [(0,_),(1,_),(2,_),(3,_),(4,_),(5,_),(6,_),(7,_),(8,_),(82,_)] (fun(q:Nat×Value×Value×List (Int×SL)×List (Int×SL))=>[(11,.int .i64 (q.1:Int)),(9,q.2.1),(10,q.2.2.1)]) (fun(q:Nat×Value×Value×List (Int×SL)×List (Int×SL))=>[(80,pp q.2.1 q.2.2.2.1),(81,pp q.2.2.1 q.2.2.2.2)]) (fun(q:Nat×Value×Value×List (Int×SL)×List (Int×SL))=>(q.1≤zs.length)∧(Zj q.2.2.2.1=(Znz (Zj zs) x y z q.1))∧(Zj q.2.2.2.2=(Gf x y q.1))) (fun(q:Nat×Value×Value×List (Int×SL)×List (Int×SL))=>zs.length-q.1) (0,_,_,[],_) ⟨by first | omega | (dsimp only<;>omega),rfl,by dsimp only;rw [hg];rfl⟩ K7 K12 ?_
 rintro⟨i,vs,vt,ss,ts⟩ ⟨hi,hss,hts⟩
 dsimp only at hi hss hts
 simp only [CA,NA]
 have hci:=Nx zs i
 have hls:=Yc ss
 have hlt:=Yc ts
 have hls2:ss.length≤i+1:=by rw [←hls,hss];exact Zql i
 have hlt2:ts.length≤i+1:=by rw [←hlt,hts];exact Zhn x y i
 have hsi:=hsy0 i
 have hzp:=Zpv (k:=(Zj zs).length-1-i) hsi hz
 have hcp:=Zpv (x:=1) (A:=1) (k:=(Zj zs).length-1-i) (by decide) hz
 rw [Int.one_mul]at hcp
 have hsss:=Zu1 (p:=Zj zs) hx hy hz i (by omega)
 rw [hli]at hsss
 have hscl:=fun h=>Zmm (p:=Zj zs) hx hy hz (i:=i) h
 rw [hli]at hscl
 have hrts:=Zj4 hx hy i
 have hmi:i*(m+1)≤zs.length*(m+1):=Nat.mul_le_mul_right _ hi
 have hni:((Zj zs).length-1-i)*m≤zs.length*(m+1):=Nat.mul_le_mul (by omega) (by omega)
 rw [hli]at hzp hcp hni
 have hlin:(tzl [x,y]).length≤2:=Hc _
 refine Zb<|Zb<|Ze<|mv J<|mv J<|dt (Yf J J (i:=1) J Yg Pq)<|dt (Xv J J J)<|Zc<|Za<|Zr J (fun h176=>?_) (fun h176=>?_)
 ·refine Zk<|Za<|Zb<|Zo<|Zb<|Qs (fun _=>False) [(0,0),(1,0),(2,0),(3,0),(4,0),(5,0),(6,0),(7,0),(8,0),(9,0),(10,0),(11,0),(12,1),(13,1),(14,1),(15,1),(16,3)] ?_ ?_
  ·kernel_rfl
  refine Zs J J (Yt (Yd J J))<|Zs J J (Yt (Yd J J))<|Zs J J (Yt (Yd J J))<|Zs J J (Yt (Yd J J))<|Zs J J (Yt (Xc (ii:=1) (i:=i) J J J J Yg Pq Yz))<|Zs J J (Yt (Xr (ii:=1) I0 J J J Yg pI))<|Zs J J (Yt (Yb (i:=7) J J J Oy Yz J J))<|Zs J J (Yt (Yd J J))<|Zs J J (Yt (Yf J J (i:=1) J Yg Pq))<|Zs J J (Yt (Qd J J J))<|Zs J J (Yt (Yd J J))<|Zs J J (Yt (Qd J J J))<|Xb J (Zh (n:=9) (Zf9 _ _ _ (zs.length-1-i) (by omega)) J J J K2 call165 (Zd 4 J J J Zg) J hw) fun v_2 _=>Xb J (Zh (n:=10) (Kc _ _ _ _ (by rw [hci];omega)) J J J K2 Gp (Nf 1 J J (Xj (zs:=zs) (i:=i) (d:=I0)) (Zd 9 J J J Zg)) J hw) fun v_3 _=>Xb J (Zh (n:=11) (Zaz _ _ _ _ (by rw [hts];exact hrts.mono (by omega)) (by rw [hci];omega)) J J J K2 call56 (Zd 81 J J J (Zd 10 J J J Zg)) J hw) fun g_2 hg_2=>Xb J (Zh (n:=12) (Zz5 _ _ _ _ (by rw [hss];exact hsss.mono (by omega)) (by omega) (by rw [hg_2,hts,hci];exact fun t=>Nat.le_trans (hscl (by omega) t) (by omega)) (by rw [←Yc,hg_2];exact Nat.le_trans (Hq _ _) (by omega))) J J J K2 call43 (Zd 80 J J J (Zd 11 J J J Zg)) J hw) (fun g_3 hg_3=>?_)
  refine Po J (Od (Mb J J) J) fun _ _=>Ob<|Za<|Ze<|mv J<|dt (Yb (i:=5) J J J Oy Yz J J)<|dt (Yb (i:=6) J J J Oy Yz J J)<|tt (Pn (i:=13) (ivs:=[(0,_),(1,_)]) (enc:=Hk) [(x,sx),(y,sy)] J J K4 Pq ti48 J J J J J pI.cells J J hw) fun v_4 _=>Pp (Kj qI 90)<|Pp (Ow (q:=qI) (z:=(x,sx)) 90 2 91 J J J J J)<|Pp (Ow (q:=qI) (z:=(y,sy)) 91 3 92 J J J J J)<|Pp (Pg 13 J J pI)<|Pp (Kb 13 92 93 J J J J)<|tt (Zh (n:=14) (Zby _ _ (Sz.of_mem fun t ht=>by simp at ht;rcases ht with h | h<;>(rw [h];omega))) J J J K1 call89 (Zd 93 J J J Zg) J hw) fun g_4 hg_4=>tt (Zh (n:=15) (Zz4 _ _ _ _ (by rw [hts];exact hrts.mono (by omega)) (by rw [hg_4];exact Sz.tzl (Sz.of_mem fun t ht=>by simp at ht;rcases ht with h | h<;>(rw [h];omega))) (by rw [←Yc,hg_4];exact Nat.le_trans hlin (by omega))) J J J K2 call42 (Zd 81 J J J (Zd 14 J J J Zg)) J hw) fun g_5 hg_5=>Zp J<|Zc<|Qn<|Za<|Ze<|mv J<|dt (Ys J J J)<|Zp J<|Zc<|Qu (Pu 12 80 J J J)<|Qu (Pu 15 81 J J J) ?_
  exact Xk (i+1,_,_,g_3.2,g_5.2) ⟨by first | omega | (dsimp only<;>omega),by dsimp only;rw [hg_3,hss,hg_2,hts,hci,←hli];rfl,by dsimp only;rw [hg_5,hts,hg_4];rfl⟩ (by first | omega | (dsimp only<;>omega)) K7 K12
 ·exact Yx<|Zx<|Zx<|Pd<|Za<|Zb<|Ze<|mv J<|Zp J<|Zc<|Za<|Zq<|Yu (.inl J) hsc (_,ss) _ (fun a w hs=>Ni hs results179 J) J (by rw [hss,←Ydy,show i=(Zj zs).length by omega]) J (Xu 80 J J J Zm)
end Go.Sky

