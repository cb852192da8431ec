/- Rules, arithmetic and contracts: part 11. No conditions but those that each theorem names. -/
import Derived.Test.YtcmiiammekgooaaGreatSp08
import Derived.Test.YtcmiiammekgooaaGreatSp09
set_option linter.all false
set_option maxHeartbeats 4000000
namespace Go.Sky
open Go.Proofs.Tryz
open Go.Proofs
set_option maxRecDepth 20000
set_option maxHeartbeats 4000000
set_option linter.unusedSimpArgs false
theorem Yej(v:Value)(xs:List Int)(hs:Sz 1000000 xs)(hl:xs.length≤1000):Cal prog 16 #[v] [Pw 2 wv v xs] true (G:=Value×List (Int×SL)) (fun r=>Zk r.2=xs) (fun r=>r.1) (fun r=>[pp r.1 r.2]):=by
 refine Yg func16 J ntmps16 J K1 fun w0 sc hw hsc=>?_
 simp only [Zs,Zq]
 refine Zb<|Zf<|Zo J<|Zd<|Za<|Zb<|Zf<|Zo J<|Zd<|Za<|Zb<|Zb<|Zf<|Zo J<|Zd<|Za<|Zn<|Yl (Nc 70 2 48 Hi)<|Yl (Ke qI 71)<|Px [(0,_)] [(0,_),(1,_)] (fun(q:Nat×Value×List (Int×SL))=>[(4,.int .i64 (q.1:Int)),(3,q.2.1)]) (fun(q:Nat×Value×List (Int×SL))=>[(70,Lf 2 48 Hi q.2.1 q.2.2),(71,Cd qI q.2.2)]) (fun(q:Nat×Value×List (Int×SL))=>(q.1≤xs.length)∧(Zk q.2.2=xs.take q.1)∧(q.2.2.length=q.1)) (fun(q:Nat×Value×List (Int×SL))=>xs.length-q.1) (0,.slice none 0 0,[]) ⟨by first | omega | (dsimp only<;>omega),rfl,rfl⟩ K3 K4 ?_
 rintro⟨i,vo,zs⟩ ⟨hi,hz,hzl⟩
 dsimp only at hi hz hzl
 simp only [CA,NA]
 refine Zb<|Zb<|Zf<|mv J<|mv J<|dt (Yc J J (i:=1) J Zg Xn)<|dt (Pa K3)<|Zd<|Za<|Zr J (fun h41=>?_) (fun h41=>?_)
 ·refine Zl<|Za<|Zb<|Zn<|Zf<|mv J<|mv J<|mv J<|dt (Nj (ii:=1) K4 Zg Xn Yb J (by first | omega | (simp only [List.length_set];omega)))<|dt (Ms (ii:=1) 0 K3 Zg pV (by first | omega | (simp only [List.length_set];omega)))<|tt (Zy (n:=2) (Zkg _ (by have:=hs.getD i;omega)) K4 call30 Ze J hw) fun v _=>Yca (Na 2 J Zg) (fun sl hsl=>?_)
  subst hsl
  exact tt (Kp (i:=3) (ivs:=[(0,_)]) (enc:=Hi) [(xs.getD i 0,sl)] K4 Pm ti48 K5 pI.cells K2 hw) fun v_2 _=>tt (Ho (i:=70) (j:=3) (by_:=32) J J J J J J (by decide) J (Yu pI) Pm ti48 J pI J J J (by simp;omega) (by decide) J hw) fun v_3 _=>Zo J<|Zd<|Qh<|Za<|Zf<|mv J<|dt (Ov K3)<|Zo J<|Zd<|Qn (Ot (q:=qI) (z:=(xs.getD i 0,sl)) 71 2 71 J J J J J)<|Xg (i+1,_,zs ++ [(xs.getD i 0,sl)]) ⟨by first | omega | (dsimp only<;>omega),by rw [Nw 0 _ _ (by omega),←hz];simp [Zk],by simp [hzl]⟩ (by first | omega | (dsimp only<;>omega)) K3 K4
 ·exact Yt<|Zv<|Zv<|Pd<|Za<|Zb<|Yl (Qw 70 J J pI)<|Yl (Lx 70 71 72 J J J J)<|Zf<|mv J<|Zo J<|Zd<|Za<|Zp<|Yr (.inl J) hsc (_,zs) _ (fun a w hs=>Nr hs results16 J) J (by rw [hz,List.take_of_length_le (by omega)]) J (Kg 72 K3 Zm)
theorem rp_to(v:Value)(zs:List (Int×SL))(hs:Sz 1000000 (Zk zs))(hl:zs.length≤1000):Cal prog 18 #[v] [pp v zs] false (G:=Value) (fun r=>True) (fun r=>r) (fun r=>[Pw 2 wv r (Zk zs)]):=by
 refine Yg func18 J ntmps18 J K1 fun w0 sc hw hsc=>?_
 simp only [Zs,Zq]
 have hli:=Zz zs
 refine Zb<|Zf<|Zo J<|Zd<|Za<|Zb<|Zf<|Zo J<|Zd<|Za<|Zb<|Zb<|Zf<|Zo J<|Zd<|Za<|Zn<|Yl (Nc 70 2 31 wv)<|Px [(0,_)] [(0,_),(1,_)] (fun(q:Nat×Value)=>[(4,.int .i64 (q.1:Int)),(3,q.2)]) (fun(q:Nat×Value)=>[(70,Lf 2 31 wv q.2 ((Zk zs).take q.1))]) (fun(q:Nat×Value)=>q.1≤zs.length) (fun(q:Nat×Value)=>zs.length-q.1) (0,.slice none 0 0) (by first | omega | (dsimp only<;>omega)) K3 K3 ?_
 rintro⟨i,vo⟩ hi
 dsimp only at hi
 simp only [CA,NA]
 have htl:((Zk zs).take i).length=i:=by rw [List.length_take];omega
 have hci:=Nt zs i
 refine Zb<|Zb<|Zf<|mv J<|mv J<|dt (Yc J J (i:=1) J Ye Pm)<|dt (Pa K3)<|Zd<|Za<|Zr J (fun h50=>?_) (fun h50=>?_)
 ·exact Zl<|Za<|Zb<|Zn<|Zf<|mv J<|mv J<|mv J<|dt (Nj (ii:=1) K4 Ye Pm Ys J (by first | omega | (simp only [List.length_set];omega)))<|dt (Ms (ii:=1) I0 K3 Ye pI (by first | omega | (simp only [List.length_set];omega)))<|tt (Zy (n:=1) (r_to _ _ (by rw [hci];have:=hs i;omega)) K4 call53 (Nd 1 J J (Xc) Ze) J hw) fun _ _=>tt (Kp (i:=2) (ivs:=[(0,_)]) (enc:=wv) [(zs.getD i I0).1] K4 Xn ti31 K5 pV.cells K2 hw) fun v _=>tt (Ho (i:=70) (j:=2) (by_:=24) J J J J J J (by decide) J (Yu pV) Xn ti31 J pV J J J (by simp;omega) (by decide) J hw) fun v_2 _=>Zo J<|Zd<|Qh<|Za<|Zf<|mv J<|dt (Ov K3)<|Zo J<|Zd<|Xg (i+1,_) (by first | omega | (dsimp only<;>omega)) (by first | omega | (dsimp only<;>omega)) K3 ⟨by rw [Nw 0 _ _ (by omega),show(Zk zs).getD i 0=(zs.getD i I0).1 from hci.symm];rfl,rfl,rfl,trivial⟩
 ·exact Yt<|Zv<|Zv<|Pd<|Za<|Zb<|Zf<|mv J<|Zo J<|Zd<|Za<|Zp<|xG hsc _ results18 J J trivial J (Ng 70 J J pV (List.take_of_length_le (by omega)) Zm)
theorem Zb4(v:Value)(zs:List (Int×SL))(hs:Sz 3000000000 (Zk zs)):Cal prog 89 #[v] [pp v zs] true (G:=Value×List (Int×SL)) (fun r=>Zk r.2=tzl (Zk zs)) (fun r=>r.1) (fun r=>[pp r.1 r.2]):=by
 refine Yg func89 J ntmps89 J K1 fun w0 sc hw hsc=>?_
 simp only [Zs,Zq]
 refine Mi (Zr5 (i:=1) J) fun hself=>Mi (Hk (i:=1) J Ye) (fun hlen=>?_)
 have hli:=Zz zs
 refine Zb<|Zf<|Zo J<|Zd<|Za<|Zb<|Zn<|Px [] [(0,_)] (fun(k:Nat)=>[(0,Ix v k)]) (fun(k:Nat)=>[(1,pp (Ix v k) (zs.take k))]) (fun(k:Nat)=>(k≤zs.length)∧(tzl ((Zk zs).take k)=tzl (Zk zs))) (fun(k:Nat)=>k) zs.length ⟨Nat.le_refl _,by rw [List.take_of_length_le (by omega)]⟩ ⟨by rw [hself];rfl,trivial⟩ ⟨by rw [hself,List.take_length];rfl,rfl,trivial⟩ ?_
 rintro k ⟨hk,ht⟩
 simp only [CA,NA]
 have hl:(zs.take k).length=k:=by rw [List.length_take];omega
 have hce:((zs.take k).getD (k-1) I0).1=((Zk zs).take k).getD (k-1) 0:=by rw [Nt,Zhl];rfl
 refine Zb<|Zb<|Zf<|mv J<|dt (Yc J J (i:=1) J Ye Pm)<|dt (Fd K3)<|mv J<|Pb (d:=6) J (fun s22=>?_) (fun s22=>?_)
 ·refine Zx (Ya K2) K2<|Zx (Ya K2) K2<|Zx (Yc J J (i:=1) J Ye Pm) K2<|Zx (Pq K3) K2<|Zx (Nj (ii:=1) (i:=k-1) K4 Ye Pm Ys) K2<|Zx (Ms (ii:=1) I0 K3 Ye pI) K2<|Pp (Zy (n:=1) (Cc _ _ (by rw [hce];exact(hs.take _).getD _)) K4 call72 (Nd 1 J J (Xc) Ze) J hw) K3 fun _ _=>Zx (Hf K3) K2<|dt (Om K3)<|Zd<|Za<|Zr J (fun h22=>?_) (fun h22=>?_)
  ·rw [hce]at h22
   have hstep:=Zqe (xs:=Zk zs) (k:=k) (by omega) (by omega) (Zj1 (k:=k) (by omega) (Int.sign_eq_zero_iff_zero.1 h22))
   exact Zl<|Za<|Zn<|Zf<|mv J<|mv J<|dt (Yc J J (i:=1) J Ye Pm)<|dt (Pq K3)<|dt (Zwr (ii:=1) (i:=k-1) J J J J Ye Pm Ys)<|Zo J<|Zd<|Qh<|Qn (Zxw 1 1 (k-1) J J (by omega))<|Xg (k-1) ⟨by first | omega | (dsimp only<;>omega),by rw [←ht,←hstep]⟩ (by first | omega | (dsimp only<;>omega)) ⟨by rw [←Em v k (k-1)];rfl,trivial⟩ ⟨by rw [Em,List.take_take,Nat.min_eq_left (by omega)];rfl,rfl,trivial⟩
  ·try rw [hce]at h22
   exact Yt<|Zv<|Zv<|Pd<|Za<|Zb<|Zf<|mv J<|Zo J<|Zd<|Za<|Zp<|Yr (.inl J) hsc (_,zs.take k) _ (fun a w hs=>Nr hs results89 J) J (by rw [Zhl,←ht];exact(Zfv (by omega) (by first | (left;omega) | (right;exact Zfx (k:=k) (by omega) ‹_›))).symm) J (Kg 1 K3 Zm)
 ·exact Yj K3<|Yj K3<|Yj K3<|Yj K3<|Yj K3<|Yj K3<|Yj K3<|Yj K3<|dt (Ql K3)<|Zd<|Za<|Yk J<|Yt<|Zv<|Zv<|Pd<|Za<|Zb<|Zf<|mv J<|Zo J<|Zd<|Za<|Zp<|Yr (.inl J) hsc (_,zs.take k) _ (fun a w hs=>Nr hs results89 J) J (by rw [Zhl,←ht];exact(Zfv (by omega) (by first | (left;omega) | (right;exact Zfx (k:=k) (by omega) ‹_›))).symm) J (Kg 1 K3 Zm)
theorem Zvc(v:Value)(l:List Int)(hl:∀x∈l,inI x)(hlen:l.length≤1000):Cal prog 102 #[v] [Pw 1 Eh v l] true (G:=Value×List (Int×SL)) (fun r=>Zk r.2=tzl l) (fun r=>r.1) (fun r=>[pp r.1 r.2]):=by
 refine Yg func102 J ntmps102 J K1 fun w0 sc hw hsc=>?_
 simp only [Zs,Zq]
 have hsz:=Zfy hl
 refine Zb<|Zf<|Zo J<|Zd<|Za<|Zb<|Zf<|Zo J<|Zd<|Za<|Zb<|Zb<|Zf<|Zo J<|Zd<|Za<|Zn<|Yl (Nc 70 2 48 Hi)<|Yl (Ke qI 71)<|Px [(0,_)] [(0,_),(1,_)] (fun(q:Nat×Value×List (Int×SL))=>[(4,.int .i64 (q.1:Int)),(3,q.2.1)]) (fun(q:Nat×Value×List (Int×SL))=>[(70,Lf 2 48 Hi q.2.1 q.2.2),(71,Cd qI q.2.2)]) (fun(q:Nat×Value×List (Int×SL))=>(q.1≤l.length)∧(Zk q.2.2=mk q.1 (cf l))∧(q.2.2.length=q.1)) (fun(q:Nat×Value×List (Int×SL))=>l.length-q.1) (0,.slice none 0 0,[]) ⟨by first | omega | (dsimp only<;>omega),rfl,rfl⟩ K3 K4 ?_
 rintro⟨i,vo,ws⟩ ⟨hi,hz,hzl⟩
 dsimp only at hi hz hzl
 simp only [CA,NA]
 refine Zb<|Zb<|Zf<|mv J<|mv J<|dt (Yc J J (i:=1) J Zg Ol)<|dt (Pa K3)<|Zd<|Za<|Zr J (fun h59=>?_) (fun h59=>?_)
 ·refine Zl<|Za<|Zb<|Zn<|Zf<|mv J<|mv J<|mv J<|dt (Nj (ii:=1) K4 Zg Ol zT3 J (by first | omega | (simp only [List.length_set];omega)))<|dt (Ms (ii:=1) 0 K3 Zg pZ (by first | omega | (simp only [List.length_set];omega)))<|tt (Zy (n:=2) (Zgh _ (hl _ (Xc))) K4 call34 Ze J hw) fun v _=>Yca (Na 2 J Zg) (fun sl hsl=>?_)
  subst hsl
  exact tt (Kp (i:=3) (ivs:=[(0,_)]) (enc:=Hi) [(l.getD i 0,sl)] K4 Pm ti48 K5 pI.cells K2 hw) fun v_2 _=>tt (Ho (i:=70) (j:=3) (by_:=32) J J J J J J (by decide) J (Yu pI) Pm ti48 J pI J J J (by simp;omega) (by decide) J hw) fun v_3 _=>Zo J<|Zd<|Qh<|Za<|Zf<|mv J<|dt (Ov K3)<|Zo J<|Zd<|Qn (Ot (q:=qI) (z:=(l.getD i 0,sl)) 71 2 71 J J J J J)<|Xg (i+1,_,ws ++ [(l.getD i 0,sl)]) ⟨by first | omega | (dsimp only<;>omega),by rw [Gd,Zcb,hz];dsimp only;rfl,by simp [hzl]⟩ (by first | omega | (dsimp only<;>omega)) K3 K4
 ·exact Yt<|Zv<|Zv<|Pd<|Za<|Zb<|Yl (Qw 70 J J pI)<|Yl (Lx 70 71 72 J J J J)<|Zf<|mv J<|tt (Zy (n:=4) (Zb4 _ _ (by rw [hz];exact Zaf fun t ht=>by have:=hsz t;omega)) K4 call89 (Zi 72 K3 Ze) J hw) fun g hg=>Zo J<|Zd<|Za<|Zp<|xG hsc _ results102 J J (by rw [hg,hz,show i=l.length by omega,Zjf]) J (Kg 4 K3 Zm)
theorem Zgc(v:Value)(zs:List (Int×SL))(j:Int)(i:Nat)(hj:j=(i:Int):=by omega)(hi:i≤1000000:=by omega):Cal prog 101 #[v,.int .i64 j] [pp v zs] true (G:=Value) (fun r=>True) (fun r=> .agg #[.bool (decide (cf (Zk zs) i<0)),r]) (fun r=>[Me r (cf (Zk zs) i).natAbs]):=by
 refine Yg func101 J ntmps101 J K1 fun w0 sc hw hsc=>?_
 simp only [Zs,Zq]
 have hli:=Zz zs
 refine Mi (Hk (i:=1) J Ye) fun hlen=>Yl (Nc 60 1 3 Hx)<|Yl (Qw 60 J J pN)<|Zb<|Zf<|tt (Xi (i:=2) K2 zeroValue48 K2 hw) fun b _=>Zd<|Za<|Zb<|Zb<|Zf<|mv J<|dt (Pa K3)<|mv J<|Pb (d:=7) J (fun s91=>?_) (fun s91=>?_)
 ·exfalso;omega
 ·refine Zx (Ya K2) K2<|Zx (Ya K2) K2<|Zx (Yc J J (i:=1) J Ye Pm) K2<|Zx (Lh J J J) K2<|dt (Ql K3)<|Zd<|Za<|Zr J (fun h91=>?_) (fun h91=>?_)
  ·refine Zb<|Zf<|dt (Oi (ivs:=[]) J trivial (fun a w hs=>Zy6))<|tt (Zt (i:=2) K6 Ys K2 ⟨Zc J,Zc J,trivial⟩ J hw trivial) fun _ _=>Zd<|Za<|Zp<|Yp ?_
   have hz0:cf (Zk zs) i=0:=Xt (by omega)
   exact Yr (.inl J) hsc (.slice none 0 0) _ (fun a w hs=>Nr hs results101 (Yw (i:=2) J J Ou Ys J)) (by rw [hz0]<;>rfl) trivial J (Ii (by rw [hz0];rfl) Zm)
  ·exact Zl<|Za<|Zb<|Zf<|mv J<|mv J<|dt (Nj (ii:=1) (i:=i) K4 Ye Pm Ys hj)<|dt (Ms (ii:=1) I0 K3 Ye pI)<|tt (Zt (i:=2) K6 Ys K2 ⟨Zc J,Zc J,trivial⟩ J hw trivial) fun _ _=>Zd<|Za<|Zp<|Yr (.inl J) hsc _ _ (fun a w hs=>Nr hs results101 (Yw (i:=2) J J Ou Ys J)) (by rw [←Nt]<;>rfl) trivial J (Yfj 1 J J (Xc (i:=i)) (by rw [←Nt]<;>rfl) Zm)
theorem Za7(v w:Value)(zs:List (Int×SL))(y:Int)(hs:Sz 1000000 (Zk zs))(hy:bl y.natAbs≤1000000)(hl:zs.length≤1000:=by omega):Cal prog 56 #[v,.agg #[.bool (decide (y<0)),w]] [pp v zs,Me w y.natAbs] true (G:=Value×List (Int×SL)) (fun r=>Zk r.2=Xm (Zk zs) y) (fun r=>r.1) (fun r=>[pp r.1 r.2]):=by
 refine Yg func56 J ntmps56 J K2 fun w0 sc hw hsc=>?_
 simp only [Zs,Zq]
 have hli:=Zz zs
 refine Zb<|Zf<|tt (Xp (i:=3) K5 hw) fun b _=>Zo J<|Zd<|Za<|Zb<|Zf<|Zo J<|Zd<|Za<|Zb<|Zb<|Zf<|Zo J<|Zd<|Za<|Zn<|Yl (Nc 70 2 48 Hi)<|Yl (Ke qI 71)<|Px [(0,_),(3,_)] [(0,_),(1,_),(2,_),(3,_)] (fun(q:Nat×Value×List (Int×SL))=>[(6,.int .i64 (q.1:Int)),(5,q.2.1)]) (fun(q:Nat×Value×List (Int×SL))=>[(70,Lf 2 48 Hi q.2.1 q.2.2),(71,Cd qI q.2.2)]) (fun(q:Nat×Value×List (Int×SL))=>(q.1≤zs.length)∧(Zk q.2.2=mk q.1 (fun t=>cf (Zk zs) t*y))∧(q.2.2.length=q.1)) (fun(q:Nat×Value×List (Int×SL))=>zs.length-q.1) (0,.slice none 0 0,[]) ⟨by first | omega | (dsimp only<;>omega),rfl,rfl⟩ K4 K6 ?_
 rintro⟨i,vo,ws⟩ ⟨hi,hz,hzl⟩
 dsimp only at hi hz hzl
 simp only [CA,NA]
 have hci:=Nt zs i
 refine Zb<|Zb<|Zf<|mv J<|mv J<|dt (Yc J J (i:=1) J Ye Pm)<|dt (Pa K3)<|Zd<|Za<|Zr J (fun h109=>?_) (fun h109=>?_)
 ·refine Zl<|Za<|Zb<|Zn<|Ni [1,3] [9]<|Zw (n:=3) [(0,0),(1,0),(2,0),(3,0),(4,0),(5,0),(6,1)]<|Zh K2 (Yy (Ya K2) K2)<|Zh K2 (Yy (Ya K2) K2)<|Zh K2 (Yy (Ya K2) K2)<|Zh K2 (Yy (Nj (ii:=1) K4 Ye Pm Ys J (by first | omega | (simp only [List.length_set];omega))) K2)<|Zh K2 (Yy (Ms (ii:=1) I0 K3 Ye pI (by first | omega | (simp only [List.length_set];omega))) K2)<|Zh K2 (Yy (Qm (i:=3) K3 Ou Ys K2) K2)<|Yq J (Yf (n:=4) (Ly _ _ _ _ (by rw [hci];have:=hs i;omega)) K5 Gt (Nd 1 J J (Xc) (Zi 2 K3 Ze)) J hw) fun v _=>Yi<|Zdq (Na 4 J Zg) (fun sl hsl=>?_)
  subst hsl
  exact Zw (n:=0) [(7,1),(8,1),(9,3)]<|Yq J (Kp (i:=73) (ivs:=[(0,_)]) (enc:=Hi) [((zs.getD i I0).1*y,sl)] K4 Pm ti48 K5 pI.cells K2 hw) fun v_2 _=>Yq J (Ze5 70 J J J K2 (fun hoffr=>(Zby (xs:=ws) (ys:=[_]) (i:=70) (j:=73) (by_:=32) J J J J J J (by decide) J (Yu pI) Pm ti48 J pI J J J (by simp;omega) (by decide) J hw hoffr))) fun v_3 _=>Qs J (Pu (Ok J J) J) fun _ _=>Yi<|Yh<|Qh<|Za<|Zf<|mv J<|dt (Ov K3)<|Zo J<|Zd<|Qn (Ot (q:=qI) (z:=((zs.getD i I0).1*y,sl)) 71 4 71 J J J J J)<|Xg (i+1,_,ws ++ [((zs.getD i I0).1*y,sl)]) ⟨by first | omega | (dsimp only<;>omega),by rw [Gd,Zcb,hz];dsimp only;rw [Nt],by simp [hzl]⟩ (by first | omega | (dsimp only<;>omega)) K4 K6
 ·exact Yt<|Zv<|Zv<|Pd<|Za<|Zb<|Yl (Qw 70 J J pI)<|Yl (Lx 70 71 72 J J J J)<|Zf<|mv J<|tt (Zy (n:=5) (Zb4 _ _ (by rw [hz];exact Zaf fun t ht=>by have:=Qb (cf (Zk zs) t) y;have:=hs t;omega)) K4 call89 (Zi 72 K3 Ze) J hw) fun g hg=>Zo J<|Zd<|Za<|Zp<|xG hsc _ results56 J J (by rw [hg,hz,show i=(Zk zs).length by omega,Ztj]) J (Kg 5 K3 Zm)
theorem Zoc(v:Value)(zs:List (Int×SL))(hs:Sz 1000000 (Zk zs))(hl:zs.length≤1000:=by omega):Cal prog 138 #[v] [pp v zs] true (G:=Value×List (Int×SL)) (fun r=>Zk r.2=Xm (Zk zs) (-1)) (fun r=>r.1) (fun r=>[pp r.1 r.2]):=by
 refine Yg func138 J ntmps138 J K1 fun w0 sc hw hsc=>?_
 simp only [Zs,Zq]
 exact Zb<|Zf<|Zo J<|Zd<|Za<|Zb<|Zf<|mv J<|tt (Zy (n:=2) (Zgh (-1)) K4 call34 Ze J hw) fun v _=>tt (Yf (n:=3) (Za7 _ _ _ _ hs (by decide) hl) K5 call56 (Zi 1 K3 (Zi 2 K3 Ze)) J hw) fun g hg=>Zo J<|Zd<|Za<|Zp<|xG hsc _ results138 J J hg J (Kg 3 K3 Zm)
theorem Yah(v u:Value)(zs ys:List (Int×SL))(hs:Sz 1000000 (Zk zs))(hl:zs.length≤1000)(ht:Sz 1000000 (Zk ys))(hk:ys.length≤1000):Cal prog 43 #[v,u] [pp v zs,pp u ys] true (G:=Value×List (Int×SL)) (fun r=>Zk r.2=Zfc (Zk zs) (Zk ys)) (fun r=>r.1) (fun r=>[pp r.1 r.2]):=by
 refine Yg func43 J ntmps43 J K2 fun w0 sc hw hsc=>?_
 simp only [Zs,Zq]
 have hli:=Zz zs
 have hli2:=Zz ys
 refine Mi (Hk (i:=1) J Ye) fun hlen=>Mi (Hk (i:=2) J Ye) fun hlen2=>Zb<|Zf<|Zo J<|Zd<|Za<|Zb<|Zf<|Zo J<|Zd<|Za<|Zb<|Zb<|Zf<|Zo J<|Zd<|Za<|Zn<|Yl (Nc 70 2 48 Hi)<|Yl (Ke qI 71)<|Px [(0,_),(1,_)] [(0,_),(1,_),(2,_)] (fun(q:Nat×Value×List (Int×SL))=>[(6,.int .i64 (q.1:Int)),(5,q.2.1)]) (fun(q:Nat×Value×List (Int×SL))=>[(70,Lf 2 48 Hi q.2.1 q.2.2),(71,Cd qI q.2.2)]) (fun(q:Nat×Value×List (Int×SL))=>(q.1≤(max zs.length ys.length))∧(Zk q.2.2=mk q.1 (fun t=>cf (Zk zs) t+cf (Zk ys) t))∧(q.2.2.length=q.1)) (fun(q:Nat×Value×List (Int×SL))=>(max zs.length ys.length)-q.1) (0,.slice none 0 0,[]) ⟨by first | omega | (dsimp only<;>omega),rfl,rfl⟩ K4 K5 ?_
 rintro⟨i,vo,ws⟩ ⟨hi,hz,hzl⟩
 dsimp only at hi hz hzl
 simp only [CA,NA]
 refine Zb<|Iy [(0,_),(1,_),(5,_),(6,_)] [(0,_),(70,_),(71,_),(1,_),(2,_)] (fun(_:Unit)=>[(16,.bool (decide (i<max zs.length ys.length)))]) (fun(_:Unit)=>[]) (fun(_:Unit)=>True) K4 K5 ?_ ?_
 ·refine Zf<|mv J<|mv J<|dt (Yc J J (i:=1) J Ye Pm)<|dt (Pa K3)<|mv J<|Pb (d:=11) J (fun s100=>?_) (fun s100=>?_)
  ·exact Yj K3<|Yj K3<|Yj K3<|Yj K3<|dt (Om K3)<|Zd<|Xd () trivial ⟨by first | exact congrArg some (vB (decide_eq_decide.2 (by omega))) | exact congrArg some (vB (decide_eq_true (by omega)).symm),rfl,rfl,rfl,rfl,trivial⟩ K5
  ·exact Zx (Ya K2) K2<|Zx (Ya K2) K2<|Zx (Yc J J (i:=2) J Ye Pm) K2<|Zx (Pa K3) K2<|dt (Ql K3)<|Zd<|Xd () trivial ⟨by first | exact congrArg some (vB (decide_eq_decide.2 (by omega))) | exact congrArg some (vB (decide_eq_true (by omega)).symm),rfl,rfl,rfl,rfl,trivial⟩ K5
 ·rintro _ -
  simp only [CA,NA]
  refine Zr J (fun h100=>?_) (fun h100=>?_)
  ·refine Zl<|Za<|Zb<|Zn<|Zf<|mv J<|mv J<|mv J<|tt (Yf (n:=3) (Zgc _ _ _ i J) K5 call101 (Zi 1 K3 Ze) J hw) fun v _=>mv J<|mv J<|tt (Yf (n:=4) (Zgc _ _ _ i J) K5 call101 (Zi 2 K3 Ze) J hw) fun v_2 _=>tt (Yf (n:=5) (Zmz _ _ _ _ (by have:=hs i;omega) (by have:=ht i;omega)) K5 call37 (Zi 3 K3 (Zi 4 K3 Ze)) J hw) fun v_3 _=>Yca (Na 5 J Zg) (fun sl hsl=>?_)
   subst hsl
   exact tt (Kp (i:=6) (ivs:=[(0,_)]) (enc:=Hi) [(cf (Zk zs) i+cf (Zk ys) i,sl)] K4 Pm ti48 K5 pI.cells K2 hw) fun v_4 _=>tt (Ho (i:=70) (j:=6) (by_:=32) J J J J J J (by decide) J (Yu pI) Pm ti48 J pI J J J (by simp;omega) (by decide) J hw) fun v_5 _=>Zo J<|Zd<|Qh<|Za<|Zf<|mv J<|dt (Ov K3)<|Zo J<|Zd<|Qn (Ot (q:=qI) (z:=(cf (Zk zs) i+cf (Zk ys) i,sl)) 71 5 71 J J J J J)<|Xg (i+1,_,ws ++ [(cf (Zk zs) i+cf (Zk ys) i,sl)]) ⟨by first | omega | (dsimp only<;>omega),by rw [Gd,Zcb,hz],by simp [hzl]⟩ (by first | omega | (dsimp only<;>omega)) K4 K5
  ·exact Yt<|Zv<|Zv<|Pd<|Za<|Zb<|Yl (Qw 70 J J pI)<|Yl (Lx 70 71 72 J J J J)<|Zf<|mv J<|tt (Zy (n:=7) (Zb4 _ _ (by rw [hz];exact Zaf fun t h=>by have:=Ia (cf (Zk zs) t) (cf (Zk ys) t);have:=hs t;have:=ht t;omega)) K4 call89 (Zi 72 K3 Ze) J hw) fun g hg=>Zo J<|Zd<|Za<|Zp<|xG hsc _ results43 J J (by rw [hg,hz,show i=max (Zk zs).length (Zk ys).length by omega,Ye2]) J (Kg 7 K3 Zm)
theorem Zob(v u:Value)(zs ys:List (Int×SL))(hs:Sz 1000000 (Zk zs))(ht:Sz 1000000 (Zk ys))(hl:zs.length≤1000:=by omega)(hk:ys.length≤1000:=by omega):Cal prog 88 #[v,u] [pp v zs,pp u ys] true (G:=Value×List (Int×SL)) (fun r=>Zk r.2=Zat (Zk zs) (Zk ys)) (fun r=>r.1) (fun r=>[pp r.1 r.2]):=by
 refine Yg func88 J ntmps88 J K2 fun w0 sc hw hsc=>?_
 simp only [Zs,Zq]
 exact Zb<|Zf<|Zo J<|Zd<|Za<|Zb<|Zf<|mv J<|mv J<|tt (Zy (n:=3) (Zoc _ _ ht hk) K4 call138 (Zi 2 K3 Ze) J hw) fun g hg=>tt (Yf (n:=4) (Yah _ _ _ _ hs hl (by rw [hg];intro t;rw [Qd];have h1:=ht t;rw [Int.mul_neg,Int.mul_one,Zls];exact h1) (by rw [←Zz,hg];have:=Ht (Zk ys) (-1);rw [Zz]at this;omega)) K5 call43 (Zi 1 K3 (Zi 3 K3 Ze)) J hw) fun g_2 hg_2=>Zo J<|Zd<|Za<|Zp<|xG hsc _ results88 J J (by rw [hg_2,hg,Yeu]) J (Kg 4 K3 Zm)
theorem Zht(v:Value)(zs:List (Int×SL))(hs:Sz 1000000 (Zk zs))(hl:zs.length≤1000:=by omega):Cal prog 115 #[v] [pp v zs] true (G:=Value×List (Int×SL)) (fun r=>Zk r.2=Xy (Zk zs)) (fun r=>r.1) (fun r=>[pp r.1 r.2]):=by
 refine Yg func115 J ntmps115 J K1 fun w0 sc hw hsc=>?_
 simp only [Zs,Zq]
 have hli:=Zz zs
 refine Zb<|Zf<|Zo J<|Zd<|Za<|Zb<|Zf<|Zo J<|Zd<|Za<|Zb<|Zb<|Zf<|Zo J<|Zd<|Za<|Zn<|Yl (Nc 70 2 48 Hi)<|Yl (Ke qI 71)<|Px [(0,_)] [(0,_),(1,_)] (fun(q:Nat×Value×List (Int×SL))=>[(4,.int .i64 ((q.1:Int)+1)),(3,q.2.1)]) (fun(q:Nat×Value×List (Int×SL))=>[(70,Lf 2 48 Hi q.2.1 q.2.2),(71,Cd qI q.2.2)]) (fun(q:Nat×Value×List (Int×SL))=>(q.1≤(zs.length-1))∧(Zk q.2.2=mk q.1 (fun t=>cf (Zk zs) (t+1)*((t:Int)+1)))∧(q.2.2.length=q.1)) (fun(q:Nat×Value×List (Int×SL))=>(zs.length-1)-q.1) (0,.slice none 0 0,[]) ⟨by first | omega | (dsimp only<;>omega),rfl,rfl⟩ K3 K4 ?_
 rintro⟨i,vo,ws⟩ ⟨hi,hz,hzl⟩
 dsimp only at hi hz hzl
 simp only [CA,NA]
 have hci:=Nt zs (i+1)
 refine Zb<|Zb<|Zf<|mv J<|mv J<|dt (Yc J J (i:=1) J Ye Pm)<|dt (Pa K3)<|Zd<|Za<|Zr J (fun h140=>?_) (fun h140=>?_)
 ·refine Zl<|Za<|Zb<|Zn<|Ni [1] [10]<|Zw (n:=3) [(0,0),(1,0),(2,0),(3,0),(4,0),(5,0),(6,1),(7,1)]<|Zh K2 (Yy (Ya K2) K1)<|Zh K2 (Yy (Ya K2) K1)<|Zh K2 (Yy (Ya K2) K1)<|Zh K2 (Yy (Nj (ii:=1) (i:=(i+1)) K4 Ye Pm Ys) K1)<|Zh K2 (Yy (Ms (ii:=1) I0 K3 Ye pI) K1)<|Zh K2 (Yy (Ya K2) K1)<|Yq J (Zy (n:=2) (Zgh ((i:Int)+1)) K4 call34 Ze J hw) fun v _=>Yq J (Yf (n:=3) (Ly _ _ _ _ (by rw [hci];have:=hs (i+1);omega) (bl_i1 (by omega))) K5 Gt (Nd 1 J J (Xc (i:=i+1)) (Zi 2 K3 Ze)) J hw) fun v_2 _=>Yi<|Zdq (Na 3 J Zg) (fun sl hsl=>?_)
  subst hsl
  exact Zw (n:=0) [(8,1),(9,1),(10,3)]<|Yq J (Kp (i:=73) (ivs:=[(0,_)]) (enc:=Hi) [((zs.getD (i+1) I0).1*((i:Int)+1),sl)] K4 Pm ti48 K5 pI.cells K2 hw) fun v_3 _=>Yq J (Ze5 70 J J J K1 (fun hoffr=>(Zby (xs:=ws) (ys:=[_]) (i:=70) (j:=73) (by_:=32) J J J J J J (by decide) J (Yu pI) Pm ti48 J pI J J J (by simp;omega) (by decide) J hw hoffr))) fun v_4 _=>Qs J (Pu (Ok J J) J) fun _ _=>Yi<|Yh<|Qh<|Za<|Zf<|mv J<|dt (Ov K3)<|Zo J<|Zd<|Qn (Ot (q:=qI) (z:=((zs.getD (i+1) I0).1*((i:Int)+1),sl)) 71 3 71 J J J J J)<|Xg (i+1,_,ws ++ [((zs.getD (i+1) I0).1*((i:Int)+1),sl)]) ⟨by first | omega | (dsimp only<;>omega),by rw [Gd,Zcb,hz];dsimp only;rw [Nt],by simp [hzl]⟩ (by first | omega | (dsimp only<;>omega)) K3 K4
 ·exact Yt<|Zv<|Zv<|Pd<|Za<|Zb<|Yl (Qw 70 J J pI)<|Yl (Lx 70 71 72 J J J J)<|Zf<|mv J<|Zo J<|Zd<|Za<|Zp<|Yr (.inl J) hsc (_,ws) _ (fun a w hs=>Nr hs results115 J) J (by rw [hz,show i=(Zk zs).length-1 by omega]<;>rfl) J (Kg 72 K3 Zm)
theorem Zgb(v:Value)(x:Int)(j:Int)(n:Nat)(hx:bl x.natAbs≤1000000)(hj:j=(n:Int):=by omega)(hn:n≤100:=by omega):Cal prog 165 #[.agg #[.bool (decide (x<0)),v],.int .i64 j] [Me v x.natAbs] true (G:=Value) (fun r=>True) (fun r=> .agg #[.bool (decide (x^n<0)),r]) (fun r=>[Me r (x^n).natAbs]):=by
 refine Yg func165 J ntmps165 J K1 fun w0 sc hw hsc=>?_
 simp only [Zs,Zq]
 have hpb:=fun k=>Zb0 hx k
 refine Zb<|Zf<|tt (Xp (i:=2) K5 hw) fun b _=>tt (Xi (i:=3) K2 zeroValue48 K2 hw) fun b_2 _=>Zd<|Za<|Zb<|Zf<|tt (Zy (n:=98) (Zgh 1) K4 call34 Ze J hw) fun v _=>tt (Xi (i:=97) K2 zeroValue48 K2 hw) fun b_3 _=>tt (Zt (i:=97) K6 Ys K2 ⟨Zc J,Zj (i:=98) J Zg,trivial⟩ J hw trivial) fun _ _=>Zd<|Za<|Zb<|Zb<|Zf<|Zo J<|Zd<|Za<|Zn<|Px [(1,_),(2,_),(4,_),(5,_)] [(0,_),(1,_),(2,_),(3,_)] (fun(q:Nat×Value)=>[(6,.int .i64 (q.1:Int))]) (fun(q:Nat×Value)=>[(97,box b_3 48 #[.bool (decide (x^q.1<0)),q.2]),(98,Me q.2 (x^q.1).natAbs)]) (fun(q:Nat×Value)=>q.1≤n) (fun(q:Nat×Value)=>n-q.1) (0,_) (by first | omega | (dsimp only<;>omega)) K5 ⟨by rw [Int.pow_zero];rfl,by rw [Int.pow_zero];rfl,rfl,rfl,rfl,rfl,trivial⟩ ?_
 rintro⟨i,vs⟩ hi
 dsimp only at hi
 simp only [CA,NA]
 have hp1:=hpb i
 have hp2:i*1000000≤100*1000000:=Nat.mul_le_mul_right _ (by omega)
 refine Zb<|Zb<|Zf<|mv J<|mv J<|dt (Pa K3)<|Zd<|Za<|Zr J (fun h149=>?_) (fun h149=>?_)
 ·exact Zl<|Za<|Zb<|Zn<|Zf<|dt (Qm (i:=97) K3 Ou Ys K2)<|dt (Qm (i:=2) K3 Ou Ys K2)<|tt (Yf (n:=4) (Ly _ _ _ _) K5 Gt (Zi 98 K3 (Zi 1 K3 Ze)) J hw) fun v_2 _=>tt (Zt (i:=97) K6 Ys K2 ⟨Zc J,Zj (i:=4) J Zg,trivial⟩ J hw trivial) fun _ _=>Zd<|Qh<|Za<|Zf<|mv J<|dt (Ov K3)<|Zo J<|Zd<|Qn (Np 4 98 K3)<|Xg (i+1,v_2) (by first | omega | (dsimp only<;>omega)) (by first | omega | (dsimp only<;>omega)) K5 ⟨by rw [Int.pow_succ];rfl,by rw [Int.pow_succ];rfl,rfl,rfl,rfl,rfl,trivial⟩
 ·refine Yt<|Zv<|Zv<|Pd<|Za<|Zb ?_
  obtain rfl:i=n:=by omega
  exact Zf<|dt (Qm (i:=97) K3 Ou Ys K2)<|tt (Zt (i:=3) K6 Ys K2 ⟨Zc J,Zj (i:=98) J Zg,trivial⟩ J hw trivial) fun _ _=>Zd<|Za<|Zp<|Yr (.inl J) hsc _ _ (fun a w hs=>Nr hs results165 (Yw (i:=3) J J Ou Ys J)) J trivial J (Kg 98 K3 Zm)
theorem Zvd(v w u:Value)(zs:List (Int×SL))(x y:Int)(hs:Sz 1000000 (Zk zs))(hx:bl x.natAbs≤1000000)(hy:bl y.natAbs≤1000000)(hl:zs.length≤30:=by omega):Cal prog 121 #[v,.agg #[.bool (decide (x<0)),w,.bool (decide (y<0)),u]] [pp v zs,Me w x.natAbs,Me u y.natAbs] true (G:=Value) (fun r=>True) (fun r=> .agg #[.bool (decide (pev (Zk zs) x y<0)),r]) (fun r=>[Me r (pev (Zk zs) x y).natAbs]):=by
 refine Yg func121 J ntmps121 J K3 fun w0 sc hw hsc=>?_
 simp only [Zs,Zq]
 have hli:=Zz zs
 have hpx:=fun k=>Zb0 hx k
 have hpy:=fun k=>Zb0 hy k
 have htb:=ev_tb hs hpx hpy (by omega:(Zk zs).length≤30)
 have hsb:=fun i (h:i≤30)=>Zpz (n:=i) (fun t _=>htb t) (by omega)
 refine Zb<|Zf<|tt (Xp (i:=4) K5 hw) fun b _=>tt (Xi (i:=5) K2 zeroValue48 K2 hw) fun b_2 _=>Zd<|Za<|Zb<|Zf<|dt (Oi (ivs:=[]) J trivial (fun a w hs=>Zy6))<|tt (Xi (i:=97) K2 zeroValue48 K2 hw) fun b_3 _=>tt (Zt (i:=97) K6 Ys K2 ⟨Zc J,Zc J,trivial⟩ J hw trivial) fun _ _=>Zd<|Za<|Zb<|Zb<|Zf<|Zo J<|Zd<|Za<|Zn<|Yl (Nc 98 1 3 Hx)<|Yl (Qw 98 J J pN)<|Px [(0,_),(3,_),(4,_),(5,_)] [(0,_),(1,_),(2,_),(3,_),(4,_),(5,_)] (fun(q:Nat×Value)=>[(6,.int .i64 (q.1:Int))]) (fun(q:Nat×Value)=>[(97,box b_3 48 #[.bool (decide (Qi (fun t=>cf (Zk zs) t*(x^t*y^((Zk zs).length-1-t))) q.1<0)),q.2]),(98,Me q.2 (Qi (fun t=>cf (Zk zs) t*(x^t*y^((Zk zs).length-1-t))) q.1).natAbs)]) (fun(q:Nat×Value)=>q.1≤zs.length) (fun(q:Nat×Value)=>zs.length-q.1) (0,.slice none 0 0) (by first | omega | (dsimp only<;>omega)) K5 K8 ?_
 rintro⟨i,vs⟩ hi
 dsimp only at hi
 simp only [CA,NA]
 have hci:=Nt zs i
 have h1:=hpx i
 have h2:=hpy ((Zk zs).length-1-i)
 have h3:i*1000000≤30*1000000:=Nat.mul_le_mul_right _ (by omega)
 have h4:((Zk zs).length-1-i)*1000000≤30*1000000:=Nat.mul_le_mul_right _ (by omega)
 have h5:=Qb (x^i) (y^((Zk zs).length-1-i))
 have h6:=hs i
 have h7:=hsb i (by omega)
 refine Zb<|Zb<|Zf<|mv J<|mv J<|dt (Yc J J (i:=1) J Ye Pm)<|dt (Pa K3)<|Zd<|Za<|Zr J (fun h158=>?_) (fun h158=>?_)
 ·refine Zl<|Za<|Zb<|Zn<|Qj (fun _=>False) [(0,0),(1,0),(2,0),(3,0),(4,0),(5,0),(6,0),(7,0),(9,0),(10,0),(11,0),(12,0),(13,0),(14,0),(15,0),(8,1),(16,1),(17,1),(18,1),(19,1),(20,3)] ?_ ?_
  ·kernel_rfl
  refine Zh K2 (Yo (Qm (i:=97) K3 Ou Ys K2))<|Zh K2 (Yo (Ya K2))<|Zh K2 (Yo (Ya K2))<|Zh K2 (Yo (Nj (ii:=1) K4 Ye Pm Ys J (by first | omega | (simp only [List.length_set];omega))))<|Zh K2 (Yo (Ms (ii:=1) I0 K3 Ye pI (by first | omega | (simp only [List.length_set];omega))))<|Zh K2 (Yo (Qy K2 Zio J Ys K2))<|Zh K2 (Yo (Qm (i:=4) K3 Ou Ys K2))<|Zh K2 (Yo (Ya K2))<|Zh K2 (Yo (Qy K2 Zio J Ys K2))<|Zh K2 (Yo (Qm (i:=4) K3 Ou Ys K2))<|Zh K2 (Yo (Ya K2))<|Zh K2 (Yo (Yc J J (i:=1) J Ye Pm))<|Zh K2 (Yo (Pq K3))<|Zh K2 (Yo (Ya K2))<|Zh K2 (Yo (Pq K3))<|Yq J (Yf (n:=6) (Zgb _ _ _ i hx J) K5 call165 (Zi 2 K3 Ze) J hw) fun v _=>Yq J (Yf (n:=7) (Zgb _ _ _ ((Zk zs).length-1-i) hy) K5 call165 (Zi 3 K3 Ze) J hw) fun v_2 _=>Yq J (Yf (n:=8) (Ly _ _ _ _ (by first | omega | (rw [hci];omega))) K5 Gt (Zi 6 K3 (Zi 7 K3 Ze)) J hw) fun v_3 _=>Yq J (Yf (n:=9) (Ly _ _ _ _ (by first | omega | (rw [hci];omega))) K5 Gt (Nd 1 J J (Xc) (Zi 8 K3 Ze)) J hw) (fun v_4 _=>?_)
  exact Yq J (Yf (n:=10) (Zmz _ _ _ _ (by omega) (by rw [hci];have:=htb i;omega)) K5 call37 (Zi 98 K3 (Zi 9 K3 Ze)) J hw) fun v_5 _=>Qs J (Zt (i:=97) K6 Ys K2 ⟨Zc J,Zj (i:=10) J Zg,trivial⟩ J hw trivial) fun _ _=>Pv<|Qh<|Za<|Zf<|mv J<|dt (Ov K3)<|Zo J<|Zd<|Qn (Np 10 98 K3)<|Xg (i+1,v_5) (by first | omega | (dsimp only<;>omega)) (by first | omega | (dsimp only<;>omega)) K5 ⟨by rw [hci,Qf];rfl,by rw [hci,Qf];rfl,rfl,rfl,rfl,rfl,rfl,rfl,trivial⟩
 ·refine Yt<|Zv<|Zv<|Pd<|Za<|Zb ?_
  obtain rfl:i=zs.length:=by omega
  exact Zf<|dt (Qm (i:=97) K3 Ou Ys K2)<|tt (Zt (i:=5) K6 Ys K2 ⟨Zc J,Zj (i:=98) J Zg,trivial⟩ J hw trivial) fun _ _=>Zd<|Za<|Zp<|Yr (.inl J) hsc _ _ (fun a w hs=>Nr hs results121 (Yw (i:=5) J J Ou Ys J)) (by unfold pev;rw [hli]<;>rfl) trivial J (Lg 98 K3 (by unfold pev;rw [hli]<;>rfl) Zm)
theorem Ztb(v:Value)(zs:List (Int×SL))(hs:Sz 1000000 (Zk zs))(hl:zs.length≤1000):Cal prog 116 #[v] [pp v zs] true (G:=Value) (fun r=>True) (fun r=> .agg #[.bool (decide (Qc (Zk zs)<0)),r]) (fun r=>[Me r (Qc (Zk zs)).natAbs]):=by
 refine Yg func116 J ntmps116 J K1 fun w0 sc hw hsc=>?_
 simp only [Zs,Zq]
 have hli:=Zz zs
 have hcb:∀k,bl (Qc ((Zk zs).take k)).natAbs≤1000000:=fun k=>Zgm _ (hs.take k)
 refine Zb<|Zf<|tt (Xi (i:=2) K2 zeroValue48 K2 hw) fun b _=>Zd<|Za<|Zb<|Zf<|dt (Oi (ivs:=[]) J trivial (fun a w hs=>Zy6))<|tt (Xi (i:=97) K2 zeroValue48 K2 hw) fun b_2 _=>tt (Zt (i:=97) K6 Ys K2 ⟨Zc J,Zc J,trivial⟩ J hw trivial) fun _ _=>Zd<|Za<|Zb<|Zb<|Zf<|Zo J<|Zd<|Za<|Zn<|Yl (Nc 98 1 3 Hx)<|Yl (Qw 98 J J pN)<|Px [(0,_),(2,_),(3,_)] [(0,_),(1,_),(2,_)] (fun(q:Nat×Value)=>[(4,.int .i64 (q.1:Int))]) (fun(q:Nat×Value)=>[(97,box b_2 48 #[.bool (decide (Qc ((Zk zs).take q.1)<0)),q.2]),(98,Me q.2 (Qc ((Zk zs).take q.1)).natAbs)]) (fun(q:Nat×Value)=>q.1≤zs.length) (fun(q:Nat×Value)=>zs.length-q.1) (0,.slice none 0 0) (by first | omega | (dsimp only<;>omega)) K4 K5 ?_
 rintro⟨i,vs⟩ hi
 dsimp only at hi
 simp only [CA,NA]
 have hci:=Nt zs i
 have hgc:=fun h=>Ih (p:=Zk zs) (k:=i) h
 have h1:=hcb i
 have h2:=hs i
 refine Zb<|Zb<|Zf<|mv J<|mv J<|dt (Yc J J (i:=1) J Ye Pm)<|dt (Pa K3)<|Zd<|Za<|Zr J (fun h186=>?_) (fun h186=>?_)
 ·refine Zl<|Za<|Zb<|Zn<|Qj (fun _=>False) [(0,0),(1,0),(2,0),(3,0),(4,0),(5,1),(6,3)] ?_ ?_
  ·kernel_rfl
  exact Zh K2 (Yo (Qm (i:=97) K3 Ou Ys K2))<|Zh K2 (Yo (Ya K2))<|Zh K2 (Yo (Ya K2))<|Zh K2 (Yo (Nj (ii:=1) K4 Ye Pm Ys J (by first | omega | (simp only [List.length_set];omega))))<|Zh K2 (Yo (Ms (ii:=1) I0 K3 Ye pI (by first | omega | (simp only [List.length_set];omega))))<|Yq J (Yf (n:=3) (r_gcd _ _ _ _ (by rw [hci];omega)) K5 call71 (Zi 98 K3 (Nd 1 J J (Xc) Ze)) J hw) fun v _=>Qs J (Zt (i:=97) K6 Ys K2 ⟨Zc J,Zj (i:=3) J Zg,trivial⟩ J hw trivial) fun _ _=>Pv<|Qh<|Za<|Zf<|mv J<|dt (Ov K3)<|Zo J<|Zd<|Qn (Np 3 98 K3)<|Xg (i+1,v) (by first | omega | (dsimp only<;>omega)) (by first | omega | (dsimp only<;>omega)) K4 ⟨by rw [hgc (by omega),show(Zk zs).getD i 0=(zs.getD i I0).1 from hci.symm];rfl,by rw [hgc (by omega),show(Zk zs).getD i 0=(zs.getD i I0).1 from hci.symm];rfl,rfl,rfl,rfl,trivial⟩
 ·refine Yt<|Zv<|Zv<|Pd<|Za<|Zb ?_
  obtain rfl:i=zs.length:=by omega
  rw [List.take_of_length_le (by omega:(Zk zs).length≤zs.length)]
  exact Zf<|dt (Qm (i:=97) K3 Ou Ys K2)<|tt (Zt (i:=2) K6 Ys K2 ⟨Zc J,Zj (i:=98) J Zg,trivial⟩ J hw trivial) fun _ _=>Zd<|Za<|Zp<|Yr (.inl J) hsc _ _ (fun a w hs=>Nr hs results116 (Yw (i:=2) J J Ou Ys J)) J trivial J (Kg 98 K3 Zm)
theorem Gv(v:Value)(zs:List (Int×SL))(hs:Sz 1000000 (Zk zs))(hc:zs.length≠0→Qc (Zk zs)≠0)(hl:zs.length≤1000:=by omega):Cal prog 57 #[v] [pp v zs] true (G:=Value×List (Int×SL)) (fun r=>Zk r.2=Yx (Zk zs)) (fun r=>r.1) (fun r=>[pp r.1 r.2]):=by
 refine Yg func57 J ntmps57 J K1 fun w0 sc hw hsc=>?_
 simp only [Zs,Zq]
 have hli:=Zz zs
 have hcb:bl (Qc (Zk zs)).natAbs≤1000000:=Zgm _ hs
 refine Zb<|Zf<|Zo J<|Zd<|Za<|Zb<|Zf<|mv J<|tt (Zy (n:=2) (Ztb _ _ hs hl) K4 call116 (Zi 1 K3 Ze) J hw) fun v _=>tt (Xi (i:=3) K2 zeroValue48 K2 hw) fun b _=>tt (Zt (i:=3) K6 Ys K2 ⟨Zc J,Zj (i:=2) J Zg,trivial⟩ J hw trivial) fun _ _=>Zd<|Za<|Zb<|Zf<|Zo J<|Zd<|Za<|Zb<|Zb<|Zf<|Zo J<|Zd<|Za<|Zn<|Yl (Nc 70 2 48 Hi)<|Yl (Ke qI 71)<|Px [(0,_),(3,_)] [(0,_),(1,_),(2,_),(3,_)] (fun(q:Nat×Value×List (Int×SL))=>[(5,.int .i64 (q.1:Int)),(4,q.2.1)]) (fun(q:Nat×Value×List (Int×SL))=>[(70,Lf 2 48 Hi q.2.1 q.2.2),(71,Cd qI q.2.2)]) (fun(q:Nat×Value×List (Int×SL))=>(q.1≤zs.length)∧(Zk q.2.2=mk q.1 (fun t=>cf (Zk zs) t/Qc (Zk zs)))∧(q.2.2.length=q.1)) (fun(q:Nat×Value×List (Int×SL))=>zs.length-q.1) (0,.slice none 0 0,[]) ⟨by first | omega | (dsimp only<;>omega),rfl,rfl⟩ K4 K6 ?_
 rintro⟨i,vo,ws⟩ ⟨hi,hz,hzl⟩
 dsimp only at hi hz hzl
 simp only [CA,NA]
 have hci:=Nt zs i
 refine Zb<|Zb<|Zf<|mv J<|mv J<|dt (Yc J J (i:=1) J Ye Pm)<|dt (Pa K3)<|Zd<|Za<|Zr J (fun h196=>?_) (fun h196=>?_)
 ·refine Zl<|Za<|Zb<|Zn<|Iy [(0,_),(3,_),(4,_),(5,_)] [(0,_),(70,_),(71,_),(1,_),(2,_),(3,_)] (fun(q:Value×Nat)=>[(6,.pointer (some ⟨q.2,0,none⟩))]) (fun(q:Value×Nat)=>[(83,Me q.1 ((zs.getD i I0).1/Qc (Zk zs)).natAbs),(97,box q.2 48 #[.bool (decide ((zs.getD i I0).1/Qc (Zk zs)<0)),q.1])]) (fun(q:Value×Nat)=>True) K4 K6 ?_ ?_
  ·refine Ni [1,3] [12]<|Zw (n:=8) [(0,0),(1,0),(2,0),(3,0),(4,0)]<|Zh K2 (Yy (Ya K2) K2)<|Zh K2 (Yy (Ya K2) K2)<|Zh K2 (Yy (Nj (ii:=1) K4 Ye Pm Ys J (by first | omega | (simp only [List.length_set];omega))) K2)<|Zh K2 (Yy (Ms (ii:=1) I0 K3 Ye pI (by first | omega | (simp only [List.length_set];omega))) K2)<|Zh K2 (Yy (Qm (i:=3) K3 Ou Ys K2) K2)<|Yi<|Fu (n:=7) 5 9 10 ?_ ?_ ?_
   ·refine Yd J (Yf (n:=83) (Fn _ _ _ _ (by rw [hci];have:=hs i;omega) (hc (by omega))) K5 Za0 (Nd 1 J J (Xc) (Zi 2 K3 Ze)) J hw) fun g _=>Zw (n:=4) [(6,0),(7,0),(8,0)]<|Zh K2 (Yy (Ya K2) K2)<|Zh K2 (Yy (Xa K3) K2)<|Zh K2 (Yy (Xa K3) K2)<|Yi<|Qg (n:=3) 9 10 ?_ ?_
    ·exact Yd J (Xj (i:=97) K2 zeroValue48 K2 hw K2) fun b_2 ho=>Zw (n:=0) [(10,1),(11,1),(12,3)]<|Yq J (Xj (i:=99) K2 zeroValue48 K2 hw K2) fun b_3 ho2=>Yq J (Zt (i:=97) K6 Ys K2 ⟨Zc J,Zj (i:=83) J Zg,trivial⟩ J hw ho) fun _ _=>Qs J (Zt (i:=99) K6 Ys K2 ⟨Zc J,Zj (i:=84) J Zg,trivial⟩ J hw trivial) fun _ _=>Yi<|Yh<|Xd (_,_) trivial K5 K8
    ·exact Yd J (Xj (i:=99) K2 zeroValue48 K2 hw K2) fun b_4 ho3=>Zw (n:=0) [(9,1),(11,1),(12,3)]<|Yq J (Xj (i:=97) K2 zeroValue48 K2 hw K2) fun b_5 ho4=>Yq J (Zt (i:=97) K6 Ys K2 ⟨Zc J,Zj (i:=83) J Zg,trivial⟩ J hw ho4) fun _ _=>Qs J (Zt (i:=99) K6 Ys K2 ⟨Zc J,Zj (i:=84) J Zg,trivial⟩ J hw trivial) fun _ _=>Yi<|Yh<|Xd (_,_) trivial K5 K8
   ·refine Yd J (Xj (i:=97) K2 zeroValue48 K2 hw K2) fun b_6 ho5=>Qg (n:=6) 5 10 ?_ ?_
    ·exact Yd J (Yf (n:=83) (Fn _ _ _ _ (by rw [hci];have:=hs i;omega) (hc (by omega))) K5 Za0 (Nd 1 J J (Xc) (Zi 2 K3 Ze)) J hw) fun g_2 _=>Zw (n:=0) [(6,0),(7,0),(8,0),(10,1),(11,1),(12,3)]<|Zh K2 (Yy (Ya K2) K2)<|Zh K2 (Yy (Xa K3) K2)<|Zh K2 (Yy (Xa K3) K2)<|Yq J (Xj (i:=99) K2 zeroValue48 K2 hw K2) fun b_7 ho6=>Yq J (Zt (i:=97) K6 Ys K2 ⟨Zc J,Zj (i:=83) J Zg,trivial⟩ J hw ho5) fun _ _=>Qs J (Zt (i:=99) K6 Ys K2 ⟨Zc J,Zj (i:=84) J Zg,trivial⟩ J hw trivial) fun _ _=>Yi<|Yh<|Xd (_,_) trivial K5 K8
    ·exact Yd J (Xj (i:=99) K2 zeroValue48 K2 hw K2) fun b_8 ho7=>Zw (n:=0) [(5,1),(6,0),(7,0),(8,0),(11,1),(12,3)]<|Yq J (Yf (n:=83) (Fn _ _ _ _ (by rw [hci];have:=hs i;omega) (hc (by omega))) K5 Za0 (Nd 1 J J (Xc) (Zi 2 K3 Ze)) J hw) fun g_3 _=>Zh K2 (Yy (Ya K2) K2)<|Zh K2 (Yy (Xa K3) K2)<|Zh K2 (Yy (Xa K3) K2)<|Yq J (Zt (i:=97) K6 Ys K2 ⟨Zc J,Zj (i:=83) J Zg,trivial⟩ J hw ho5) fun _ _=>Qs J (Zt (i:=99) K6 Ys K2 ⟨Zc J,Zj (i:=84) J Zg,trivial⟩ J hw trivial) fun _ _=>Yi<|Yh<|Xd (_,_) trivial K5 K8
   ·refine Yd J (Xj (i:=99) K2 zeroValue48 K2 hw K2) fun b_9 ho8=>Qg (n:=6) 5 9 ?_ ?_
    ·exact Yd J (Yf (n:=83) (Fn _ _ _ _ (by rw [hci];have:=hs i;omega) (hc (by omega))) K5 Za0 (Nd 1 J J (Xc) (Zi 2 K3 Ze)) J hw) fun g_4 _=>Zw (n:=0) [(6,0),(7,0),(8,0),(9,1),(11,1),(12,3)]<|Zh K2 (Yy (Ya K2) K2)<|Zh K2 (Yy (Xa K3) K2)<|Zh K2 (Yy (Xa K3) K2)<|Yq J (Xj (i:=97) K2 zeroValue48 K2 hw K2) fun b_10 ho9=>Yq J (Zt (i:=97) K6 Ys K2 ⟨Zc J,Zj (i:=83) J Zg,trivial⟩ J hw ho9) fun _ _=>Qs J (Zt (i:=99) K6 Ys K2 ⟨Zc J,Zj (i:=84) J Zg,trivial⟩ J hw trivial) fun _ _=>Yi<|Yh<|Xd (_,_) trivial K5 K8
    ·exact Yd J (Xj (i:=97) K2 zeroValue48 K2 hw K2) fun b_11 ho10=>Zw (n:=0) [(5,1),(6,0),(7,0),(8,0),(11,1),(12,3)]<|Yq J (Yf (n:=83) (Fn _ _ _ _ (by rw [hci];have:=hs i;omega) (hc (by omega))) K5 Za0 (Nd 1 J J (Xc) (Zi 2 K3 Ze)) J hw) fun g_5 _=>Zh K2 (Yy (Ya K2) K2)<|Zh K2 (Yy (Xa K3) K2)<|Zh K2 (Yy (Xa K3) K2)<|Yq J (Zt (i:=97) K6 Ys K2 ⟨Zc J,Zj (i:=83) J Zg,trivial⟩ J hw ho10) fun _ _=>Qs J (Zt (i:=99) K6 Ys K2 ⟨Zc J,Zj (i:=84) J Zg,trivial⟩ J hw trivial) fun _ _=>Yi<|Yh<|Xd (_,_) trivial K5 K8
  ·rintro⟨qv,b6⟩ -
   simp only [CA,NA]
   refine Ziw (Na 83 J Zg) (fun sl hsl=>?_)
   subst hsl
   exact Zf<|mv J<|dt (Qm (i:=97) K3 Ou Ys K2)<|tt (Kp (i:=4) (ivs:=[(0,_)]) (enc:=Hi) [((zs.getD i I0).1/Qc (Zk zs),sl)] K4 Pm ti48 K5 pI.cells K2 hw) fun v_2 _=>tt (Ho (i:=70) (j:=4) (by_:=32) J J J J J J (by decide) J (Yu pI) Pm ti48 J pI J J J (by simp;omega) (by decide) J hw) fun v_3 _=>Zo J<|Zd<|Qh<|Za<|Zf<|mv J<|dt (Ov K3)<|Zo J<|Zd<|Qn (Ot (q:=qI) (z:=((zs.getD i I0).1/Qc (Zk zs),sl)) 71 83 71 J J J J J)<|Xg (i+1,_,ws ++ [((zs.getD i I0).1/Qc (Zk zs),sl)]) ⟨by first | omega | (dsimp only<;>omega),by rw [Gd,Zcb,hz];dsimp only;rw [Nt],by simp [hzl]⟩ (by first | omega | (dsimp only<;>omega)) K4 K6
 ·exact Yt<|Zv<|Zv<|Pd<|Za<|Zb<|Yl (Qw 70 J J pI)<|Yl (Lx 70 71 72 J J J J)<|Zf<|mv J<|Zo J<|Zd<|Za<|Zp<|Yr (.inl J) hsc (_,ws) _ (fun a w hs=>Nr hs results57 J) J (by rw [hz,show i=(Zk zs).length by omega,Zo2 (Zk zs) (· / Qc (Zk zs))]<;>rfl) J (Kg 72 K3 Zm)
theorem Yag(v u:Value)(zs ys:List (Int×SL))(hs:Sz 1000000 (Zk zs))(ht:Sz 1000000 (Zk ys))(hk:ys.length≤60)(hl:zs.length≤60:=by omega):Cal prog 42 #[v,u] [pp v zs,pp u ys] true (G:=Value×List (Int×SL)) (fun r=>Zk r.2=Oo (Zk zs) (Zk ys)) (fun r=>r.1) (fun r=>[pp r.1 r.2]):=by
 refine Yg func42 J ntmps42 J K2 fun w0 sc hw hsc=>?_
 simp only [Zs,Zq]
 have hli:=Zz zs
 have hli2:=Zz ys
 have htb:∀i k,bl (cf (Zk zs) k*cf (Zk ys) (i-k)).natAbs≤2000000:=fun i k=>by have:=Qb (cf (Zk zs) k) (cf (Zk ys) (i-k));have:=hs k;have:=ht (i-k);omega
 have hsb:∀i n,n≤1000→bl (Qi (fun k=>cf (Zk zs) k*cf (Zk ys) (i-k)) n).natAbs≤2000010:=fun i n hn=>Zpz (fun t _=>htb i t) (by omega)
 refine Zb<|Zf<|Zo J<|Zd<|Za<|Zb<|Zf<|Zo J<|Zd<|Za<|Zb<|Zb<|Zf<|Zo J<|Zd<|Za<|Zn<|Yl (Nc 70 2 48 Hi)<|Yl (Ke qI 71)<|Px [(0,_),(1,_)] [(0,_),(1,_),(2,_)] (fun(q:Nat×Value×List (Int×SL))=>[(6,.int .i64 (q.1:Int)),(5,q.2.1)]) (fun(q:Nat×Value×List (Int×SL))=>[(70,Lf 2 48 Hi q.2.1 q.2.2),(71,Cd qI q.2.2)]) (fun(q:Nat×Value×List (Int×SL))=>(q.1≤(zs.length+ys.length-1))∧(Zk q.2.2=mk q.1 (fun t=>Qi (fun a9=>cf (Zk zs) a9*cf (Zk ys) (t-a9)) (t+1)))∧(q.2.2.length=q.1)) (fun(q:Nat×Value×List (Int×SL))=>(zs.length+ys.length-1)-q.1) (0,.slice none 0 0,[]) ⟨by first | omega | (dsimp only<;>omega),rfl,rfl⟩ K4 K5 ?_
 rintro⟨i,vo,ws⟩ ⟨hi,hz,hzl⟩
 dsimp only at hi hz hzl
 simp only [CA,NA]
 refine Zb<|Zb<|Zf<|mv J<|mv J<|dt (Yc J J (i:=1) J Ye Pm)<|mv J<|dt (Yc J J (i:=2) J Ye Pm)<|dt (Ov K3)<|dt (Pq K3)<|dt (Pa K3)<|Zd<|Za<|Zr J (fun h124=>?_) (fun h124=>?_)
 ·refine Zl<|Za<|Zb<|Zn<|Zb<|Zf<|dt (Oi (ivs:=[]) J trivial (fun a w hs=>Zy6))<|tt (Xi (i:=97) K2 zeroValue48 K2 hw) fun b _=>tt (Zt (i:=97) K6 Ys K2 ⟨Zc J,Zc J,trivial⟩ J hw trivial) fun _ _=>Zd<|Za<|Zb<|Zb<|Zf<|Zo J<|Zd<|Za<|Zn<|Yl (Nc 98 1 3 Hx)<|Yl (Qw 98 J J pN)<|Px [(0,_),(1,_),(5,_),(6,_),(7,_)] [(0,_),(70,_),(71,_),(1,_),(2,_)] (fun(q:Nat×Value)=>[(8,.int .i64 (q.1:Int))]) (fun(q:Nat×Value)=>[(97,box b 48 #[.bool (decide (Qi (fun a9=>cf (Zk zs) a9*cf (Zk ys) (i-a9)) q.1<0)),q.2]),(98,Me q.2 (Qi (fun a9=>cf (Zk zs) a9*cf (Zk ys) (i-a9)) q.1).natAbs)]) (fun(q:Nat×Value)=>q.1≤i+1) (fun(q:Nat×Value)=>i+1-q.1) (0,.slice none 0 0) (by first | omega | (dsimp only<;>omega)) K6 K7 ?_
  rintro⟨k,vs⟩ hk1
  dsimp only at hk1
  simp only [CA,NA]
  have h1:=hsb i k
  have h2:=htb i k
  have h3:=hs k
  have h4:=ht (i-k)
  refine Zb<|Zb<|Zf<|mv J<|mv J<|dt (Ev J J J)<|Zd<|Za<|Zr J (fun h126=>?_) (fun h126=>?_)
  ·refine Zl<|Za<|Zb<|Zn<|Qj (fun _=>False) [(0,0),(1,0),(2,0),(4,0),(5,0),(6,0),(7,0),(3,1),(8,1),(9,1),(10,1),(11,3)] ?_ ?_
   ·kernel_rfl
   exact Zh K2 (Yo (Qm (i:=97) K3 Ou Ys K2))<|Zh K2 (Yo (Ya K2))<|Zh K2 (Yo (Ya K2))<|Zh K2 (Yo (Ya K2))<|Zh K2 (Yo (Ya K2))<|Zh K2 (Yo (Ya K2))<|Zh K2 (Yo (Pq K3))<|Yq J (Yf (n:=3) (Zgc _ _ _ k J) K5 call101 (Zi 1 K3 Ze) J hw) fun v _=>Yq J (Yf (n:=4) (Zgc _ _ _ (i-k)) K5 call101 (Zi 2 K3 Ze) J hw) fun v_2 _=>Yq J (Yf (n:=5) (Ly _ _ _ _) K5 Gt (Zi 3 K3 (Zi 4 K3 Ze)) J hw) fun v_3 _=>Yq J (Yf (n:=6) (Zmz _ _ _ _) K5 call37 (Zi 98 K3 (Zi 5 K3 Ze)) J hw) fun v_4 _=>Qs J (Zt (i:=97) K6 Ys K2 ⟨Zc J,Zj (i:=6) J Zg,trivial⟩ J hw trivial) fun _ _=>Pv<|Qh<|Za<|Zf<|mv J<|dt (Ov K3)<|Zo J<|Zd<|Qn (Np 6 98 K3)<|Xg (k+1,v_4) (by first | omega | (dsimp only<;>omega)) (by first | omega | (dsimp only<;>omega)) K6 ⟨by rw [Qf];rfl,by rw [Qf];rfl,rfl,rfl,rfl,rfl,rfl,trivial⟩
  ·refine Yt<|Zv<|Zv<|Pd<|Za ?_
   obtain rfl:k=i+1:=by omega
   refine Ziw (Na 98 J Zg) (fun sl hsl=>?_)
   subst hsl
   exact Zf<|mv J<|dt (Qm (i:=97) K3 Ou Ys K2)<|tt (Kp (i:=7) (ivs:=[(0,_)]) (enc:=Hi) [(Qi (fun a9=>cf (Zk zs) a9*cf (Zk ys) (i-a9)) (i+1),sl)] K4 Pm ti48 K5 pI.cells K2 hw) fun v_5 _=>tt (Ho (i:=70) (j:=7) (by_:=32) J J J J J J (by decide) J (Yu pI) Pm ti48 J pI J J J (by simp;omega) (by decide) J hw) fun v_6 _=>Zo J<|Zd<|Qh<|Za<|Zf<|mv J<|dt (Ov K3)<|Zo J<|Zd<|Qn (Ot (q:=qI) (z:=(Qi (fun a9=>cf (Zk zs) a9*cf (Zk ys) (i-a9)) (i+1),sl)) 71 98 71 J J J J J)<|Xg (i+1,_,ws ++ [(Qi (fun a9=>cf (Zk zs) a9*cf (Zk ys) (i-a9)) (i+1),sl)]) ⟨by first | omega | (dsimp only<;>omega),by rw [Gd,Zcb,hz],by simp [hzl]⟩ (by first | omega | (dsimp only<;>omega)) K4 K5
 ·refine Yt<|Zv<|Zv<|Pd<|Za<|Zb<|Zb<|Zf<|mv J<|dt (Yc J J (i:=1) J Ye Pm)<|dt (Hf K3)<|mv J<|Pb (d:=43) J (fun s131=>?_) (fun s131=>?_)
  ·refine Yj K3<|Yj K3<|Yj K3<|dt (Om K3)<|Zd<|Za<|Of J<|Zb<|Zf<|Zo J<|Zd<|Za<|Zp<|Yp<|Qn (Cb 62) ?_
   have hp0:Oo (Zk zs) (Zk ys)=[]:=Zba (by first | (left;omega) | (right;omega))
   exact Yr (.inl J) hsc (.slice none 0 0,[]) _ (fun a w hs=>Nr hs results42 J) J (by rw [hp0]<;>rfl) J (Kg 62 K3 Zm)
  ·refine Zx (Ya K2) K2<|Zx (Yc J J (i:=2) J Ye Pm) K2<|Zx (Hf K3) K2<|dt (Ql K3)<|Zd<|Za<|Zr J (fun h131=>?_) (fun h131=>?_)
   ·refine Zb<|Zf<|Zo J<|Zd<|Za<|Zp<|Yp<|Qn (Cb 62) ?_
    have hp0:Oo (Zk zs) (Zk ys)=[]:=Zba (by first | (left;omega) | (right;omega))
    exact Yr (.inl J) hsc (.slice none 0 0,[]) _ (fun a w hs=>Nr hs results42 J) J (by rw [hp0]<;>rfl) J (Kg 62 K3 Zm)
   ·exact Zl<|Za<|Zb<|Yl (Qw 70 J J pI)<|Yl (Lx 70 71 72 J J J J)<|Zf<|mv J<|tt (Zy (n:=8) (Zb4 _ _ (by rw [hz];exact Zaf fun t h=>by have:=hsb t (t+1) (by omega);omega)) K4 call89 (Zi 72 K3 Ze) J hw) fun g hg=>Zo J<|Zd<|Za<|Zp<|xG hsc _ results42 J J (by rw [hg,hz,show i=(Zk zs).length+(Zk ys).length-1 by omega,Yex]) J (Kg 8 K3 Zm)
theorem r_same(v u:Value)(r t:List (Bool×ByteArray)):Od prog 17 #[v,u] [Pw 2 Zax v r,Pw 2 Zax u t] (.bool (decide (r=t))):=by
 refine Yg func17 J ntmps17 J K2 fun w0 sc hw hsc=>?_
 simp only [Zs,Zq]
 refine Mi (Hk (i:=1) J Zg) fun hlr=>Mi (Hk (i:=2) J Zg) fun hlt=>Zb<|Zf<|Zo J<|Zd<|Za<|Zb<|Zb<|Zf<|mv J<|dt (Yc J J (i:=1) J Zg Xn)<|mv J<|dt (Yc J J (i:=2) J Zg Xn)<|dt (Pk K3)<|Zd<|Za<|Zr J (fun h78=>?_) (fun h78=>?_)
 ·exact Zb<|Zf<|Zo J<|Zd<|Za<|Zp<|Yp<|xU hsc results17 J J (by rw [decide_eq_false (fun e=>by subst e;exact h78 rfl)])
 ·have hle:r.length=t.length:=by omega
  refine Zl<|Za<|Zb<|Zb<|Zf<|Zo J<|Zd<|Za<|Zn<|Px [(0,_),(1,_)] [(0,_),(1,_),(2,_)] (fun(k:Nat)=>[(5,.int .i64 (k:Int))]) (fun(k:Nat)=>[]) (fun(k:Nat)=>(k≤r.length)∧(r.take k=t.take k)) (fun(k:Nat)=>r.length-k) 0 ⟨by first | omega | (dsimp only<;>omega),by simp⟩ K3 K3 ?_
  rintro k ⟨hk,ht⟩
  simp only [CA,NA]
  refine Zb<|Zb<|Zf<|mv J<|mv J<|dt (Yc J J (i:=1) J Zg Xn)<|dt (Pa K3)<|Zd<|Za<|Zr J (fun h81=>?_) (fun h81=>?_)
  ·refine Zl<|Za<|Zb<|Zn<|Zb<|Qj (fun _=>False) [(0,0),(1,0),(2,0),(3,0),(4,0),(5,0),(6,0),(7,0),(8,0)] ?_ ?_
   ·kernel_rfl
   refine Zh K2 (Yo (Ya K2))<|Zh K2 (Yo (Ya K2))<|Zh K2 (Yo (Nj (ii:=1) K4 Zg Xn Yb J (by first | omega | (simp only [List.length_set];omega))))<|Zh K2 (Yo (Ms (ii:=1) (false,⟨#[]⟩) K3 Zg pW (by first | omega | (simp only [List.length_set];omega))))<|Zh K2 (Yo (Ya K2))<|Zh K2 (Yo (Ya K2))<|Zh K2 (Yo (Nj (ii:=2) K4 Zg Xn Yb J (by first | omega | (simp only [List.length_set];omega))))<|Zh K2 (Yo (Ms (ii:=2) (false,⟨#[]⟩) K3 Zg pW (by first | omega | (simp only [List.length_set];omega))))<|Zh K2 (Yo (Znl J J J Yfo (fun w=>Zv1 w _ _ _ _)))<|Pv<|Za<|Mx J (fun h82=>?_) (fun h82=>?_)
   ·exact Zb<|Zf<|Zo J<|Zd<|Za<|Zp<|Md<|Yp<|Yp<|Md<|Yp<|xU hsc results17 J J (by rw [decide_eq_false (fun e=>by rw [e]at h82;simp [Zbj]at h82)])
   ·exact Zl<|Qh<|Za<|Zf<|mv J<|dt (Ov K3)<|Zo J<|Zd<|Xg (k+1) ⟨by first | omega | (dsimp only<;>omega),by rw [Nw (false,⟨#[]⟩) _ _ (by omega),Nw (false,⟨#[]⟩) _ _ (by omega),ht,Ycq (x:=r.getD k (false,⟨#[]⟩)) (y:=t.getD k (false,⟨#[]⟩)) (by simpa using h82)]⟩ (by first | omega | (dsimp only<;>omega)) K3 K3
  ·exact Yt<|Zv<|Zv<|Pd<|Za<|Zb<|Zf<|Zo J<|Zd<|Za<|Zp<|xU hsc results17 J J (by rw [decide_eq_true (by rw [show k=r.length by omega,List.take_length,hle,List.take_length]at ht;exact ht)])
theorem Zhu(v u:Value)(xs ys:List Int):Od prog 17 #[v,u] [Pw 2 wv v xs,Pw 2 wv u ys] (.bool (decide (xs=ys))):=by
 have h:=((r_same v u (xs.map wr) (ys.map wr)).imp (Zs6 v xs) (fun _ h=>h)).imp2 (Zs6 u ys) (fun _ h=>h)
 rw [decide_eq_decide.2 (Ztt xs ys)]at h;exact h
theorem Zqy(v:Value)(r:List (Bool×ByteArray)):Od prog 13 #[v] [Pw 2 Zax v r] (.bool (okP r)):=by
 refine Yg func13 J ntmps13 J K1 fun w0 sc hw hsc=>?_
 simp only [Zs,Zq]
 refine Mi (Hk (i:=1) J Zg) fun hlen=>Zb<|Zf<|Zo J<|Zd<|Za<|Zb<|Zb<|Zf<|Zo J<|Zd<|Za<|Zn<|Px [(0,_)] [(0,_),(1,_)] (fun(k:Nat)=>[(3,.int .i64 (k:Int))]) (fun(k:Nat)=>[]) (fun(k:Nat)=>(k≤r.length)∧((r.take k).all (fun w=>okW w.1 w.2)=true)) (fun(k:Nat)=>r.length-k) 0 ⟨by first | omega | (dsimp only<;>omega),by simp⟩ K2 K2 ?_
 rintro k ⟨hk,ha⟩
 simp only [CA,NA]
 refine Zb<|Zb<|Zf<|mv J<|mv J<|dt (Yc J J (i:=1) J Zg Xn)<|dt (Pa K3)<|Zd<|Za<|Zr J (fun h30=>?_) (fun h30=>?_)
 ·refine Zl<|Za<|Zb<|Zn<|Zb<|Zf<|mv J<|mv J<|dt (Nj (ii:=1) K4 Zg Xn Yb J (by first | omega | (simp only [List.length_set];omega)))<|dt (Ms (ii:=1) (false,⟨#[]⟩) K3 Zg pW (by first | omega | (simp only [List.length_set];omega)))<|tt (Zy (n:=1) (Zoj _ _) K4 call35 Ze J hw) fun _ _=>dt (Xh J J)<|Zd<|Za<|Mx J (fun h31=>?_) (fun h31=>?_)
  ·exact Zb<|Zf<|Zo J<|Zd<|Za<|Zp<|Md<|Yp<|Yp<|Md<|Yp<|xU hsc results13 J J (by rw [Zvv (Xc (i:=k) (d:=(false,⟨#[]⟩))) (by simpa using h31)])
  ·exact Zl<|Qh<|Za<|Zf<|mv J<|dt (Ov K3)<|Zo J<|Zd<|Xg (k+1) ⟨by first | omega | (dsimp only<;>omega),by rw [Nw (false,⟨#[]⟩) _ _ (by omega),List.all_append,ha];simpa using h31⟩ (by first | omega | (dsimp only<;>omega)) K2 K2
 ·refine Yt<|Zv<|Zv<|Pd<|Za<|Zb ?_
  obtain rfl:k=r.length:=by omega
  rw [List.take_length]at ha
  refine Zf<|mv J<|dt (Yc J J (i:=1) J Zg Xn)<|dt (Ev J J J)<|mv J<|Pb (d:=19) J (fun s35=>?_) (fun s35=>?_)
  ·refine Zx (Ya K2) K2<|Zx (Yc J J (i:=1) J Zg Xn) K2<|Zx (Hf K3) K2<|Zx (Ya K2) K2<|Pb (d:=23) J (fun s35_2=>?_) (fun s35_2=>?_)
   ·exact Yj K3<|Yj K3<|Yj K3<|Yj K3<|Yj K3<|Yj K3<|Yj K3<|Yj K3<|Yj K3<|Zx (Om K3) K2<|dt (Om K3)<|Zo J<|Zd<|Za<|Zp<|xU hsc results13 J J (by rw [Zku ha];first | (rw [decide_eq_false (show ¬r.length≤25 by omega)];rfl) | (rw [decide_eq_true (show r.length≤25 by omega),decide_eq_true (show r.length=0 by omega)];rfl) | (rw [decide_eq_true (show r.length≤25 by omega),decide_eq_false (show ¬r.length=0 by omega)];rfl))
   ·exact Zx (Ya K2) K2<|Zx (Ya K2) K2<|Zx (Yc J J (i:=1) J Zg Xn) K2<|Zx (Pq K3) K2<|Zx (Nj (ii:=1) (i:=(r.length-1)) K4 Zg Xn Yb) K2<|Zx (Zwu (ii:=1) J J J Zg Db J zT9 J) K2<|Zx (d_ldf (ii:=1) (false,⟨#[]⟩) J J J Zg iA9 J) K2<|Zx (Dk J J uT9) K2<|Zx (Fd K3) K2<|Zx (Ql K3) K2<|dt (Om K3)<|Zo J<|Zd<|Za<|Zp<|xU hsc results13 J J (by rw [Zku ha];first | (rw [decide_eq_false (show ¬r.length≤25 by omega)];rfl) | (rw [decide_eq_true (show r.length≤25 by omega),decide_eq_true (show r.length=0 by omega)];rfl) | (rw [decide_eq_true (show r.length≤25 by omega),decide_eq_false (show ¬r.length=0 by omega)];rfl))
  ·exact Yj K3<|Yj K3<|Yj K3<|Yj K3<|Zdg J J<|Zdg J J<|Zdg J J<|Zdg J J<|Zdg J J<|Zdg J J<|Zdg J J<|Zdg J J<|Zdg J J<|Yj K3<|dt (Ql K3)<|Zo J<|Zd<|Za<|Zp<|xU hsc results13 J J (by rw [Zku ha];first | (rw [decide_eq_false (show ¬r.length≤25 by omega)];rfl) | (rw [decide_eq_true (show r.length≤25 by omega),decide_eq_true (show r.length=0 by omega)];rfl) | (rw [decide_eq_true (show r.length≤25 by omega),decide_eq_false (show ¬r.length=0 by omega)];rfl))
theorem Yei(v u:Value)(zs ys:List (Int×SL))(hl:zs.length≤30)(hk:ys.length≤30)(hy0:0<ys.length)(ht:Tr (Zk ys))(hF:ys.length≤zs.length→Pf (Zk zs)+(zs.length-ys.length+1)*(Pf (Zk ys)+1)≤900000):Cal prog 160 #[v,u] [pp v zs,pp u ys] true (G:=Value×List (Int×SL)) (fun r=>Zk r.2=Pn (Zk zs) (Zk ys)) (fun r=>r.1) (fun r=>[pp r.1 r.2]):=by
 refine Yg func160 J ntmps160 J K2 fun w0 sc hw hsc=>?_
 simp only [Zs,Zq]
 have hli:=Zz zs
 have hli2:=Zz ys
 have hlead:(cf (Zk ys) ((Zk ys).length-1))≠0:=ht.mem (fun e=>by rw [←hli2,e]at hy0;simp at hy0)
 refine Mi (Hk (i:=1) J Ye) fun hlen=>Mi (Hk (i:=2) J Ye) fun hlen2=>Zb<|Zf<|Zo J<|Zd<|Za<|Zb<|Zb<|Zf<|mv J<|dt (Yc J J (i:=1) J Ye Pm)<|mv J<|dt (Yc J J (i:=2) J Ye Pm)<|dt (Pa K3)<|Zd<|Za<|Zr J (fun h205=>?_) (fun h205=>?_)
 ·exact Zb<|Zf<|mv J<|Zo J<|Zd<|Za<|Zp<|Yp<|Yr (.inl J) hsc (_,zs) _ (fun a w hs=>Nr hs results160 J) J (by unfold Pn;rw [if_pos (by omega)]) J (Kg 1 K3 Zm)
 ·have hF2:=hF (by omega)
  have hF3:Pf (Zk zs)+((Zk zs).length-(Zk ys).length+1)*(Pf (Zk ys)+1)≤900000:=by rw [hli,hli2];exact hF2
  have hN:1≤zs.length-ys.length+1:=by omega
  have hB:=Nat.mul_le_mul_right (Pf (Zk ys)+1) hN
  rw [Nat.one_mul]at hB
  have hcl:=Nt ys (ys.length-1)
  have hci2:(ys.getD (ys.length-1) I0).1=(cf (Zk ys) ((Zk ys).length-1)):=by rw [hcl,hli2]
  have hsy:=On (Zk ys)
  have hlq:=hsy ((Zk ys).length-1)
  have hpw:=Zb0 hlq (zs.length-ys.length+1)
  have hpw2:(zs.length-ys.length+1)*Pf (Zk ys)≤(zs.length-ys.length+1)*(Pf (Zk ys)+1):=Nat.mul_le_mul_left _ (by omega)
  refine Zl<|Za<|Zb<|Zf<|mv J<|mv J<|dt (Yc J J (i:=2) J Ye Pm)<|dt (Pq K3)<|dt (Nj (ii:=2) (i:=(ys.length-1)) K4 Ye Pm Ys)<|dt (Ms (ii:=2) I0 K3 Ye pI)<|tt (Xi (i:=96) K2 zeroValue48 K2 hw) fun b _=>tt (Zt (i:=96) K6 Ys K2 ⟨Zc J,Zc J,trivial⟩ J hw trivial) fun _ _=>Zd<|Za<|Zb<|Zf<|mv J<|dt (Qm (i:=96) K3 Ou Ys K2)<|mv J<|dt (Yc J J (i:=1) J Ye Pm)<|mv J<|dt (Yc J J (i:=2) J Ye Pm)<|dt (Pq K3)<|dt (Ov K3)<|tt (Yf (n:=3) (Zgb _ _ _ (zs.length-ys.length+1) (by rw [hci2];omega)) K5 call165 (Nd 2 J J (Xc (i:=ys.length-1)) Ze) J hw) fun v _=>tt (Yf (n:=80) (Za7 _ _ _ _ ((On _).mono (by omega)) (by rw [hci2];omega)) K5 call56 (Zi 1 K3 (Zi 3 K3 Ze)) J hw) fun g hg=>Zo J<|Zd<|Za<|Zb<|Zn ?_
  refine Px [(1,_),(5,_)] [(0,_),(1,_),(2,_),(96,_),(3,_)] (fun(q:Nat×List (Int×SL)×Value)=>[(6,q.2.2)]) (fun(q:Nat×List (Int×SL)×Value)=>[(80,pp q.2.2 q.2.1)]) (fun(q:Nat×List (Int×SL)×Value)=>(q.1≤zs.length-ys.length+1)∧(Cq (Zk zs) (Zk ys) (Zk q.2.1) q.1)) (fun(q:Nat×List (Int×SL)×Value)=>zs.length-ys.length+1-q.1) (0,_,_) ⟨Nat.zero_le _,by dsimp only;rw [hg,hci2,←hli,←hli2];exact Zof⟩ K3 K6 ?_
  rintro⟨j,ws,vr⟩ ⟨hj,hI⟩
  dsimp only at hj hI
  simp only [CA,NA]
  have hlw:=Zz ws
  have hwl:=Zq0 hI
  refine Zb<|Zb<|Zf<|mv J<|dt (Yc J J (i:=80) J Ye Pm)<|mv J<|dt (Yc J J (i:=2) J Ye Pm)<|dt (Lh J J J)<|Zd<|Za<|Zr J (fun h210=>?_) (fun h210=>?_)
  ·have hR0:(Zk ys).length≤(Zk ws).length:=by omega
   obtain⟨g1,g2,g3,hI2⟩:=Zte (by omega) (by omega) hlead (by omega) hI hR0
   have hst:=Zog hlead hI2 (by omega) hR0 g3
   have hqe:=Zif hlead hI2 (by omega) hR0 g3
   have hsR:=Ztf (by omega) hI
   have hsw:Sz 1000000 (Zk ws):=hsR.mono (by omega)
   have hcw:=Nt ws (ws.length-1)
   have hcqb:bl (cf (Zk ws) ((Zk ws).length-1)/(cf (Zk ys) ((Zk ys).length-1))).natAbs≤900001:=by have:=Zxh hqe (Bx (Zk zs) (Zk ys) _ _) hlq;have h7:=Yeo (p:=Zk zs) (q:=Zk ys) (R:=Zk ws) (by omega) (by omega) g3;omega
   have hcqa:(ws.getD (ws.length-1) I0).1/(ys.getD (ys.length-1) I0).1=(cf (Zk ws) ((Zk ws).length-1)/(cf (Zk ys) ((Zk ys).length-1))):=by rw [hci2,hcw,hlw]
   refine Zl<|Za<|Zn<|Iy [(1,_),(5,_),(6,_)] [(0,_),(80,_),(1,_),(2,_),(96,_),(3,_)] (fun(q:Value×Nat)=>[(7,.pointer (some ⟨q.2,0,none⟩))]) (fun(q:Value×Nat)=>[(83,Me q.1 (cf (Zk ws) ((Zk ws).length-1)/(cf (Zk ys) ((Zk ys).length-1))).natAbs),(97,box q.2 48 #[.bool (decide ((cf (Zk ws) ((Zk ws).length-1)/(cf (Zk ys) ((Zk ys).length-1)))<0)),q.1])]) (fun(q:Value×Nat)=>True) K3 K6 ?_ ?_
   ·refine Ni [80,96] [14]<|Zw (n:=8) [(0,0),(1,0),(2,0),(3,0),(4,0),(5,0),(6,0)]<|Zh K2 (Yy (Ya K2) K2)<|Zh K2 (Yy (Ya K2) K2)<|Zh K2 (Yy (Yc J J (i:=80) J Ye Pm) K2)<|Zh K2 (Yy (Pq K3) K2)<|Zh K2 (Yy (Nj (ii:=80) (i:=(ws.length-1)) K4 Ye Pm Ys) K2)<|Zh K2 (Yy (Ms (ii:=80) I0 K3 Ye pI) K2)<|Zh K2 (Yy (Qm (i:=96) K3 Ou Ys K2) K2)<|Yi<|Fu (n:=7) 7 11 12 ?_ ?_ ?_
    ·refine Yd J (Yf (n:=83) (Fn _ _ _ _ (by rw [hcw];have:=hsw (ws.length-1);omega) (by rw [hci2];exact hlead) (by rw [hci2];omega)) K5 Za0 (Nd 80 J J (Xc (zs:=ws) (i:=ws.length-1) (d:=I0)) (Nd 2 J J (Xc (zs:=ys) (i:=ys.length-1) (d:=I0)) Ze)) J hw) fun g_2 _=>Zw (n:=4) [(8,0),(9,0),(10,0)]<|Zh K2 (Yy (Ya K2) K2)<|Zh K2 (Yy (Xa K3) K2)<|Zh K2 (Yy (Xa K3) K2)<|Yi<|Qg (n:=3) 11 12 ?_ ?_
     ·exact Yd J (Xj (i:=97) K2 zeroValue48 K2 hw K2) fun b_2 ho=>Zw (n:=0) [(12,1),(13,1),(14,3)]<|Yq J (Xj (i:=99) K2 zeroValue48 K2 hw K2) fun b_3 ho2=>Yq J (Zt (i:=97) K6 Ys K2 ⟨Zc J,Zj (i:=83) J Zg,trivial⟩ J hw ho) fun _ _=>Qs J (Zt (i:=99) K6 Ys K2 ⟨Zc J,Zj (i:=84) J Zg,trivial⟩ J hw trivial) fun _ _=>Yi<|Yh<|Xd (_,_) trivial K4 ⟨by rw [←hcqa];rfl,by rw [←hcqa];rfl,rfl,rfl,rfl,rfl,rfl,rfl,trivial⟩
     ·exact Yd J (Xj (i:=99) K2 zeroValue48 K2 hw K2) fun b_4 ho3=>Zw (n:=0) [(11,1),(13,1),(14,3)]<|Yq J (Xj (i:=97) K2 zeroValue48 K2 hw K2) fun b_5 ho4=>Yq J (Zt (i:=97) K6 Ys K2 ⟨Zc J,Zj (i:=83) J Zg,trivial⟩ J hw ho4) fun _ _=>Qs J (Zt (i:=99) K6 Ys K2 ⟨Zc J,Zj (i:=84) J Zg,trivial⟩ J hw trivial) fun _ _=>Yi<|Yh<|Xd (_,_) trivial K4 ⟨by rw [←hcqa];rfl,by rw [←hcqa];rfl,rfl,rfl,rfl,rfl,rfl,rfl,trivial⟩
    ·refine Yd J (Xj (i:=97) K2 zeroValue48 K2 hw K2) fun b_6 ho5=>Qg (n:=6) 7 12 ?_ ?_
     ·exact Yd J (Yf (n:=83) (Fn _ _ _ _ (by rw [hcw];have:=hsw (ws.length-1);omega) (by rw [hci2];exact hlead) (by rw [hci2];omega)) K5 Za0 (Nd 80 J J (Xc (zs:=ws) (i:=ws.length-1) (d:=I0)) (Nd 2 J J (Xc (zs:=ys) (i:=ys.length-1) (d:=I0)) Ze)) J hw) fun g_3 _=>Zw (n:=0) [(8,0),(9,0),(10,0),(12,1),(13,1),(14,3)]<|Zh K2 (Yy (Ya K2) K2)<|Zh K2 (Yy (Xa K3) K2)<|Zh K2 (Yy (Xa K3) K2)<|Yq J (Xj (i:=99) K2 zeroValue48 K2 hw K2) fun b_7 ho6=>Yq J (Zt (i:=97) K6 Ys K2 ⟨Zc J,Zj (i:=83) J Zg,trivial⟩ J hw ho5) fun _ _=>Qs J (Zt (i:=99) K6 Ys K2 ⟨Zc J,Zj (i:=84) J Zg,trivial⟩ J hw trivial) fun _ _=>Yi<|Yh<|Xd (_,_) trivial K4 ⟨by rw [←hcqa];rfl,by rw [←hcqa];rfl,rfl,rfl,rfl,rfl,rfl,rfl,trivial⟩
     ·exact Yd J (Xj (i:=99) K2 zeroValue48 K2 hw K2) fun b_8 ho7=>Zw (n:=0) [(7,1),(8,0),(9,0),(10,0),(13,1),(14,3)]<|Yq J (Yf (n:=83) (Fn _ _ _ _ (by rw [hcw];have:=hsw (ws.length-1);omega) (by rw [hci2];exact hlead) (by rw [hci2];omega)) K5 Za0 (Nd 80 J J (Xc (zs:=ws) (i:=ws.length-1) (d:=I0)) (Nd 2 J J (Xc (zs:=ys) (i:=ys.length-1) (d:=I0)) Ze)) J hw) fun g_4 _=>Zh K2 (Yy (Ya K2) K2)<|Zh K2 (Yy (Xa K3) K2)<|Zh K2 (Yy (Xa K3) K2)<|Yq J (Zt (i:=97) K6 Ys K2 ⟨Zc J,Zj (i:=83) J Zg,trivial⟩ J hw ho5) fun _ _=>Qs J (Zt (i:=99) K6 Ys K2 ⟨Zc J,Zj (i:=84) J Zg,trivial⟩ J hw trivial) fun _ _=>Yi<|Yh<|Xd (_,_) trivial K4 ⟨by rw [←hcqa];rfl,by rw [←hcqa];rfl,rfl,rfl,rfl,rfl,rfl,rfl,trivial⟩
    ·refine Yd J (Xj (i:=99) K2 zeroValue48 K2 hw K2) fun b_9 ho8=>Qg (n:=6) 7 11 ?_ ?_
     ·exact Yd J (Yf (n:=83) (Fn _ _ _ _ (by rw [hcw];have:=hsw (ws.length-1);omega) (by rw [hci2];exact hlead) (by rw [hci2];omega)) K5 Za0 (Nd 80 J J (Xc (zs:=ws) (i:=ws.length-1) (d:=I0)) (Nd 2 J J (Xc (zs:=ys) (i:=ys.length-1) (d:=I0)) Ze)) J hw) fun g_5 _=>Zw (n:=0) [(8,0),(9,0),(10,0),(11,1),(13,1),(14,3)]<|Zh K2 (Yy (Ya K2) K2)<|Zh K2 (Yy (Xa K3) K2)<|Zh K2 (Yy (Xa K3) K2)<|Yq J (Xj (i:=97) K2 zeroValue48 K2 hw K2) fun b_10 ho9=>Yq J (Zt (i:=97) K6 Ys K2 ⟨Zc J,Zj (i:=83) J Zg,trivial⟩ J hw ho9) fun _ _=>Qs J (Zt (i:=99) K6 Ys K2 ⟨Zc J,Zj (i:=84) J Zg,trivial⟩ J hw trivial) fun _ _=>Yi<|Yh<|Xd (_,_) trivial K4 ⟨by rw [←hcqa];rfl,by rw [←hcqa];rfl,rfl,rfl,rfl,rfl,rfl,rfl,trivial⟩
     ·exact Yd J (Xj (i:=97) K2 zeroValue48 K2 hw K2) fun b_11 ho10=>Zw (n:=0) [(7,1),(8,0),(9,0),(10,0),(13,1),(14,3)]<|Yq J (Yf (n:=83) (Fn _ _ _ _ (by rw [hcw];have:=hsw (ws.length-1);omega) (by rw [hci2];exact hlead) (by rw [hci2];omega)) K5 Za0 (Nd 80 J J (Xc (zs:=ws) (i:=ws.length-1) (d:=I0)) (Nd 2 J J (Xc (zs:=ys) (i:=ys.length-1) (d:=I0)) Ze)) J hw) fun g_6 _=>Zh K2 (Yy (Ya K2) K2)<|Zh K2 (Yy (Xa K3) K2)<|Zh K2 (Yy (Xa K3) K2)<|Yq J (Zt (i:=97) K6 Ys K2 ⟨Zc J,Zj (i:=83) J Zg,trivial⟩ J hw ho10) fun _ _=>Qs J (Zt (i:=99) K6 Ys K2 ⟨Zc J,Zj (i:=84) J Zg,trivial⟩ J hw trivial) fun _ _=>Yi<|Yh<|Xd (_,_) trivial K4 ⟨by rw [←hcqa];rfl,by rw [←hcqa];rfl,rfl,rfl,rfl,rfl,rfl,rfl,trivial⟩
   ·rintro⟨qv,b7⟩ -
    simp only [CA,NA]
    refine Zb<|Zf<|mv J<|dt (Yc J J (i:=80) J Ye Pm)<|mv J<|dt (Yc J J (i:=2) J Ye Pm)<|dt (Pq K3)<|tt (Gh (i:=70) (n:=(ws.length-ys.length)) (by_:=32) (enc:=Hi) I0 J J J J Pm ti48 J pI.cells pI.pos J J J hw) fun v_2 _=>Zo J<|Zd<|Za<|Zb<|Zb<|Zf<|Zo J<|Zd<|Za<|Zn<|Yl (Ag 71 (ws.length-ys.length))<|Px [(1,_),(5,_),(6,_),(7,_)] [(0,_),(83,_),(97,_),(80,_),(1,_),(2,_),(96,_),(3,_)] (fun(q:Nat×Value×List (Int×SL))=>[(10,.int .i64 (q.1:Int)),(9,q.2.1)]) (fun(q:Nat×Value×List (Int×SL))=>[(70,Lf 2 48 Hi q.2.1 q.2.2),(71,Cd qI q.2.2)]) (fun(q:Nat×Value×List (Int×SL))=>(q.1≤ys.length)∧(Zk q.2.2=shm (Zk ys) (cf (Zk ws) ((Zk ws).length-1)/(cf (Zk ys) ((Zk ys).length-1))) ((Zk ws).length-(Zk ys).length) q.1)∧(q.2.2.length=((Zk ws).length-(Zk ys).length)+q.1)) (fun(q:Nat×Value×List (Int×SL))=>ys.length-q.1) (0,_,List.replicate (ws.length-ys.length) I0) ⟨by first | omega | (dsimp only<;>omega),by rw [←Zf4,←hlw,←hli2];simp [Zk],by simp<;>omega⟩ K6 K10 ?_
    rintro⟨i,vo,ms⟩ ⟨hi,hms,hml⟩
    dsimp only at hi hms hml
    simp only [CA,NA]
    have hci:=Nt ys i
    refine Zb<|Zb<|Zf<|mv J<|mv J<|dt (Yc J J (i:=2) J Ye Pm)<|dt (Pa K3)<|Zd<|Za<|Zr J (fun h214=>?_) (fun h214=>?_)
    ·refine Zl<|Za<|Zb<|Zn<|Ni [2,97] [9]<|Zw (n:=3) [(0,0),(1,0),(2,0),(3,0),(4,0),(5,0),(6,1)]<|Zh K2 (Yy (Ya K2) K2)<|Zh K2 (Yy (Qm (i:=97) K3 Ou Ys K2) K2)<|Zh K2 (Yy (Ya K2) K2)<|Zh K2 (Yy (Ya K2) K2)<|Zh K2 (Yy (Nj (ii:=2) K4 Ye Pm Ys J (by first | omega | (simp only [List.length_set];omega))) K2)<|Zh K2 (Yy (Ms (ii:=2) I0 K3 Ye pI (by first | omega | (simp only [List.length_set];omega))) K2)<|Yq J (Yf (n:=86) (Ly _ _ _ _ (by omega) (by rw [hci];have:=hsy i;omega)) K5 Gt (Zi 83 K3 (Nd 2 J J (Xc (i:=i)) Ze)) J hw) fun v_3 _=>Yi<|Zdq (Na 86 J Zg) (fun sl hsl=>?_)
     subst hsl
     exact Zw (n:=0) [(7,1),(8,1),(9,3)]<|Yq J (Kp (i:=87) (ivs:=[(0,_)]) (enc:=Hi) [((cf (Zk ws) ((Zk ws).length-1)/(cf (Zk ys) ((Zk ys).length-1)))*(ys.getD i I0).1,sl)] K4 Pm ti48 K5 pI.cells K2 hw) fun v_4 _=>Yq J (Ze5 70 J J J K2 (fun hoffr=>(Zby (xs:=ms) (ys:=[_]) (i:=70) (j:=87) (by_:=32) J J J J J J (by decide) J (Yu pI) Pm ti48 J pI J J J (by simp;omega) (by decide) J hw hoffr))) fun v_5 _=>Qs J (Pu (Ok J J) J) fun _ _=>Yi<|Yh<|Qh<|Za<|Zf<|mv J<|dt (Ov K3)<|Zo J<|Zd<|Qn (Ot (q:=qI) (z:=((cf (Zk ws) ((Zk ws).length-1)/(cf (Zk ys) ((Zk ys).length-1)))*(ys.getD i I0).1,sl)) 71 86 71 J J J J J)<|Xg (i+1,_,ms ++ [((cf (Zk ws) ((Zk ws).length-1)/(cf (Zk ys) ((Zk ys).length-1)))*(ys.getD i I0).1,sl)]) ⟨by first | omega | (dsimp only<;>omega),by rw [Gd,hms,←Zf5];dsimp only;rw [hci],by simp;omega⟩ (by first | omega | (dsimp only<;>omega)) K6 K10
    ·exact Yt<|Zv<|Zv<|Pd<|Za<|Yl (Qw 70 J J pI)<|Yl (Lx 70 71 72 J J J J)<|Zf<|mv J<|mv J<|tt (Yf (n:=4) (Zob _ _ _ _ hsw (by rw [hms];exact Zn1 (fun t=>by have h8:=Qb (cf (Zk ws) ((Zk ws).length-1)/(cf (Zk ys) ((Zk ys).length-1))) (cf (Zk ys) t);have h9:=hsy t;have h10:=Yak (p:=Zk zs) (q:=Zk ys) (R:=Zk ws) hqe (Bx (Zk zs) (Zk ys) _ _) hsy (by omega) (by omega) g3 t;omega))) K5 call88 (Zi 80 K3 (Zi 72 K3 Ze)) J hw) fun g_7 hg_2=>Zo J<|Zd<|Qh<|Qn (Np 4 80 K3)<|Xg ((Zk zs).length-(Zk ws).length+1,_,_) ⟨by dsimp only;omega,by dsimp only;rw [hg_2,hms,show i=(Zk ys).length by omega];exact hst⟩ (by dsimp only;omega) K3 K6
  ·exact Yt<|Zv<|Zv<|Pd<|Za<|Zb<|Zf<|mv J<|Zo J<|Zd<|Za<|Zp<|Yr (.inl J) hsc (_,ws) _ (fun a w hs=>Nr hs results160 J) J (Zq1 (R:=Zk ws) (by omega) (by omega) hlead (by omega) hI (by have:=Zz ws;omega)) J (Kg 80 K3 Zm)
theorem Zd1(v u:Value)(zs ys:List (Int×SL))(htz:Tr (Zk zs))(ht:Tr (Zk ys))(hF:ys.length≤zs.length→Pf (Zk zs)+(zs.length-ys.length+1)*(Pf (Zk ys)+1)≤900000)(hl:zs.length≤30:=by omega)(hk:ys.length≤30:=by omega)(hy0:0<ys.length:=by omega):Cal prog 55 #[v,u] [pp v zs,pp u ys] true (G:=Value×List (Int×SL)) (fun r=>pdv (Zk zs) (Zk ys)→Zk r.2=Kt (Zk zs) (Zk ys)) (fun r=> .tuple #[r.1,.bool (decide (pdv (Zk zs) (Zk ys)))]) (fun r=>[pp r.1 r.2]):=by
 refine Yg func55 J ntmps55 J K2 fun w0 sc hw hsc=>?_
 simp only [Zs,Zq]
 have hli:=Zz zs
 have hli2:=Zz ys
 have hlead:(cf (Zk ys) ((Zk ys).length-1))≠0:=ht.mem (fun e=>by rw [←hli2,e]at hy0;simp at hy0)
 refine Mi (Hk (i:=1) J Ye) fun hlen=>Mi (Hk (i:=2) J Ye) fun hlen2=>Zb<|Zf<|Zo J<|Zo J<|Zd<|Za<|Zb<|Zb<|Zf<|mv J<|dt (Yc J J (i:=1) J Ye Pm)<|dt (Hf K3)<|Zd<|Za<|Zr J (fun h224=>?_) (fun h224=>?_)
 ·refine Zb<|Zf<|Zo J<|Zo J<|Zd<|Za<|Zp<|Yp<|Qn (Cb 62) ?_
  have hzn:Zk zs=[]:=List.eq_nil_of_length_eq_zero (by omega)
  exact Yr (.inl J) hsc (.slice none 0 0,[]) _ (fun a w hs=>Pz hs results55 J J) (by rw [Yey hzn]) (fun _=>by unfold Kt;rw [if_pos hzn];rfl) J (Kg 62 K3 Zm)
 ·have hnz:Zk zs≠[]:=fun e=>by have h7:=congrArg List.length e;simp only [List.length_nil]at h7;omega
  refine Zl<|Za<|Zb<|Zb<|Zf<|mv J<|dt (Yc J J (i:=1) J Ye Pm)<|mv J<|dt (Yc J J (i:=2) J Ye Pm)<|dt (Pa K3)<|Zd<|Za<|Zr J (fun h227=>?_) (fun h227=>?_)
  ·refine Zb<|Zf<|Zo J<|Zo J<|Zd<|Za<|Zp<|Yp<|Qn (Cb 62) ?_
   have hno:=Yez (p:=Zk zs) (q:=Zk ys) (fun e=>by have h7:=congrArg List.length e;simp only [List.length_nil]at h7;omega) (by omega)
   exact Yr (.inl J) hsc (.slice none 0 0,[]) _ (fun a w hs=>Pz hs results55 J J) (by rw [hno]) (fun h=>absurd h (of_decide_eq_false hno)) J (Kg 62 K3 Zm)
  ·have hF2:=hF (by omega)
   have hF3:Pf (Zk zs)+((Zk zs).length-(Zk ys).length+1)*(Pf (Zk ys)+1)≤900000:=by rw [hli,hli2];exact hF2
   have hcl:=Nt ys (ys.length-1)
   have hci2:(ys.getD (ys.length-1) I0).1=(cf (Zk ys) ((Zk ys).length-1)):=by rw [hcl,hli2]
   have hsy:=On (Zk ys)
   have hlq:=hsy ((Zk ys).length-1)
   have hmy:Pf (Zk ys)≤900000:=by have h7:=Nat.mul_le_mul_right (Pf (Zk ys)+1) (show 1≤(Zk zs).length-(Zk ys).length+1 by omega);omega
   refine Zl<|Za<|Zb<|Zf<|mv J<|dt (Yc J J (i:=1) J Ye Pm)<|mv J<|dt (Yc J J (i:=2) J Ye Pm)<|dt (Pq K3)<|dt (Ov K3)<|tt (Gh (i:=60) (n:=(zs.length-ys.length+1)) (by_:=32) (enc:=Hi) I0 J J J J Pm ti48 J pI.cells pI.pos J J J hw) fun v _=>Zo J<|Zd<|Za<|Zb<|Zf<|mv J<|Zo J<|Zd<|Za<|Zb<|Zb<|Zf<|mv J<|dt (Yc J J (i:=60) J (Yu pI) Pm)<|dt (Pq K3 ⟨by simp only [List.length_replicate];omega,by simp only [List.length_replicate];omega⟩)<|Zo J<|Zd<|Za<|Zn<|Yl (Ag 61 (zs.length-ys.length+1))<|Yl (Np 1 80 K3) ?_
   refine Px [(1,_),(6,_)] [(0,_),(1,_),(2,_)] (fun(q:Nat×List (Int×SL)×List (Int×SL)×Value)=>[(7,q.2.2.2),(8,.int .i64 ((zs.length:Int)-(ys.length:Int)-(q.1:Int)))]) (fun(q:Nat×List (Int×SL)×List (Int×SL)×Value)=>[(60,Lf 2 48 Hi v q.2.1),(61,Cd qI q.2.1),(80,pp q.2.2.2 q.2.2.1)]) (fun(q:Nat×List (Int×SL)×List (Int×SL)×Value)=>(q.1≤(Zk zs).length-(Zk ys).length+1)∧(∀k,((Zk zs).length-(Zk ys).length)<k+q.1→k≤((Zk zs).length-(Zk ys).length)→Ll (Zk zs) (Zk ys) k)∧(Zk q.2.1=Zdk (Zk zs) (Zk ys) q.1)∧(Zk q.2.2.1=tzl (Qr (Zk zs) (Zk ys) q.1))) (fun(q:Nat×List (Int×SL)×List (Int×SL)×Value)=>(Zk zs).length-(Zk ys).length+1-q.1) (0,List.replicate (zs.length-ys.length+1) I0,zs,_) ⟨Nat.zero_le _,fun k h1 h2=>by omega,by rw [←Zng,hli,hli2];simp [Zk],(Zbw htz).symm⟩ ⟨J,by simp only [List.length_replicate];exact congrArg some (Zaw (by omega)),rfl,rfl,trivial⟩ K6 ?_
   rintro⟨j,os,ws,vr⟩ ⟨hj,hx,hos,hws⟩
   dsimp only at hj hx hos hws
   simp only [CA,NA]
   have hlw:=Zz ws
   have hlo:=Zz os
   have hlo2:=congrArg List.length hos
   rw [Zah]at hlo2
   have hwl:ws.length≤zs.length:=by rw [←hlw,hws];exact Nat.le_trans (Hc _) (by rw [Fp];omega)
   refine Zb<|Zb<|Zf<|mv J<|dt (Lh J J J)<|Zd<|Za<|Zr J (fun h232=>?_) (fun h232=>?_)
   ·have hj2:j≤(Zk zs).length-(Zk ys).length:=by omega
    have hcw:cf (Zk ws) (((Zk zs).length-(Zk ys).length-j)+(Zk ys).length-1)=(cf (Qr (Zk zs) (Zk ys) j) (((Zk zs).length-(Zk ys).length-j)+(Zk ys).length-1)):=by rw [hws,Ki]
    have hb1:=Yfx hj2 hx hF3
    have hb2:=hb1 (((Zk zs).length-(Zk ys).length-j)+(Zk ys).length-1)
    refine Zl<|Za<|Zb<|Zn<|Iy [(1,_),(6,_),(7,_),(8,_)] [(0,_),(60,_),(61,_),(80,_),(1,_),(2,_)] (fun(q:Value×Value×Nat×Nat)=>[(9,.pointer (some ⟨q.2.2.1,0,none⟩)),(10,.pointer (some ⟨q.2.2.2,0,none⟩))]) (fun(q:Value×Value×Nat×Nat)=>[(83,Me q.1 ((cf (Qr (Zk zs) (Zk ys) j) (((Zk zs).length-(Zk ys).length-j)+(Zk ys).length-1))/(cf (Zk ys) ((Zk ys).length-1))).natAbs),(84,Me q.2.1 ((cf (Qr (Zk zs) (Zk ys) j) (((Zk zs).length-(Zk ys).length-j)+(Zk ys).length-1))%(cf (Zk ys) ((Zk ys).length-1))).natAbs),(97,box q.2.2.1 48 #[.bool (decide (((cf (Qr (Zk zs) (Zk ys) j) (((Zk zs).length-(Zk ys).length-j)+(Zk ys).length-1))/(cf (Zk ys) ((Zk ys).length-1)))<0)),q.1]),(98,box q.2.2.2 48 #[.bool (decide (((cf (Qr (Zk zs) (Zk ys) j) (((Zk zs).length-(Zk ys).length-j)+(Zk ys).length-1))%(cf (Zk ys) ((Zk ys).length-1)))<0)),q.2.1])]) (fun(q:Value×Value×Nat×Nat)=>True) K4 K6 ?_ ?_
    ·refine Ni [2] [20]<|Zw (n:=9) [(0,0),(1,0),(2,0),(3,0),(4,0),(5,0),(7,0),(8,0),(9,0),(10,0),(11,0),(12,0)]<|Zh K2 (Yy (Ya K2) K1)<|Zh K2 (Yy (Ya K2) K1)<|Zh K2 (Yy (Ya K2) K1)<|Zh K2 (Yy (Yc J J (i:=2) J Ye Pm) K1)<|Zh K2 (Yy (Ov K3) K1)<|Zh K2 (Yy (Pq K3) K1)<|Zh K2 (Yy (Ya K2) K1)<|Zh K2 (Yy (Ya K2) K1)<|Zh K2 (Yy (Yc J J (i:=2) J Ye Pm) K1)<|Zh K2 (Yy (Pq K3) K1)<|Zh K2 (Yy (Nj (ii:=2) (i:=(ys.length-1)) K4 Ye Pm Ys) K1)<|Zh K2 (Yy (Ms (ii:=2) I0 K3 Ye pI) K1)<|Yi<|Fu (n:=8) 6 17 18 ?_ ?_ ?_
     ·refine Yd J (Yf (n:=3) (Zgc _ _ _ (((Zk zs).length-(Zk ys).length-j)+(Zk ys).length-1)) K5 call101 (Zi 80 K3 Ze) J hw) fun v_2 _=>Fu (n:=7) 13 17 18 ?_ ?_ ?_
      ·refine Yd J (Yf (n:=83) (Fn _ _ _ _ (by rw [hcw];omega) (by rw [hci2];exact hlead) (by rw [hci2];omega)) K5 Za0 (Zi 3 K3 (Nd 2 J J (Xc (zs:=ys) (i:=ys.length-1) (d:=I0)) Ze)) J hw) fun g _=>Zw (n:=4) [(14,0),(15,0),(16,0)]<|Zh K2 (Yy (Ya K2) K1)<|Zh K2 (Yy (Xa K3) K1)<|Zh K2 (Yy (Xa K3) K1)<|Yi<|Qg (n:=3) 17 18 ?_ ?_
       ·exact Yd J (Xj (i:=97) K2 zeroValue48 K2 hw K1) fun b ho=>Zw (n:=0) [(18,1),(19,1),(20,3)]<|Yq J (Xj (i:=98) K2 zeroValue48 K2 hw K1) fun b_2 ho2=>Yq J (Zt (i:=97) K6 Ys K2 ⟨Zc J,Zj (i:=83) J Zg,trivial⟩ J hw ho) fun _ _=>Qs J (Zt (i:=98) K6 Ys K2 ⟨Zc J,Zj (i:=84) J Zg,trivial⟩ J hw trivial) fun _ _=>Yi<|Yh<|Xd (_,_,_,_) trivial K6 ⟨by rw [←hcw,←hci2];rfl,by rw [←hcw,←hci2];rfl,by rw [←hcw,←hci2];rfl,by rw [←hcw,←hci2];rfl,rfl,rfl,rfl,rfl,rfl,rfl,trivial⟩
       ·exact Yd J (Xj (i:=98) K2 zeroValue48 K2 hw K1) fun b_3 ho3=>Zw (n:=0) [(17,1),(19,1),(20,3)]<|Yq J (Xj (i:=97) K2 zeroValue48 K2 hw K1) fun b_4 ho4=>Yq J (Zt (i:=97) K6 Ys K2 ⟨Zc J,Zj (i:=83) J Zg,trivial⟩ J hw ho4) fun _ _=>Qs J (Zt (i:=98) K6 Ys K2 ⟨Zc J,Zj (i:=84) J Zg,trivial⟩ J hw trivial) fun _ _=>Yi<|Yh<|Xd (_,_,_,_) trivial K6 ⟨by rw [←hcw,←hci2];rfl,by rw [←hcw,←hci2];rfl,by rw [←hcw,←hci2];rfl,by rw [←hcw,←hci2];rfl,rfl,rfl,rfl,rfl,rfl,rfl,trivial⟩
      ·refine Yd J (Xj (i:=97) K2 zeroValue48 K2 hw K1) fun b_5 ho5=>Qg (n:=6) 13 18 ?_ ?_
       ·exact Yd J (Yf (n:=83) (Fn _ _ _ _ (by rw [hcw];omega) (by rw [hci2];exact hlead) (by rw [hci2];omega)) K5 Za0 (Zi 3 K3 (Nd 2 J J (Xc (zs:=ys) (i:=ys.length-1) (d:=I0)) Ze)) J hw) fun g_2 _=>Zw (n:=0) [(14,0),(15,0),(16,0),(18,1),(19,1),(20,3)]<|Zh K2 (Yy (Ya K2) K1)<|Zh K2 (Yy (Xa K3) K1)<|Zh K2 (Yy (Xa K3) K1)<|Yq J (Xj (i:=98) K2 zeroValue48 K2 hw K1) fun b_6 ho6=>Yq J (Zt (i:=97) K6 Ys K2 ⟨Zc J,Zj (i:=83) J Zg,trivial⟩ J hw ho5) fun _ _=>Qs J (Zt (i:=98) K6 Ys K2 ⟨Zc J,Zj (i:=84) J Zg,trivial⟩ J hw trivial) fun _ _=>Yi<|Yh<|Xd (_,_,_,_) trivial K6 ⟨by rw [←hcw,←hci2];rfl,by rw [←hcw,←hci2];rfl,by rw [←hcw,←hci2];rfl,by rw [←hcw,←hci2];rfl,rfl,rfl,rfl,rfl,rfl,rfl,trivial⟩
       ·exact Yd J (Xj (i:=98) K2 zeroValue48 K2 hw K1) fun b_7 ho7=>Zw (n:=0) [(13,1),(14,0),(15,0),(16,0),(19,1),(20,3)]<|Yq J (Yf (n:=83) (Fn _ _ _ _ (by rw [hcw];omega) (by rw [hci2];exact hlead) (by rw [hci2];omega)) K5 Za0 (Zi 3 K3 (Nd 2 J J (Xc (zs:=ys) (i:=ys.length-1) (d:=I0)) Ze)) J hw) fun g_3 _=>Zh K2 (Yy (Ya K2) K1)<|Zh K2 (Yy (Xa K3) K1)<|Zh K2 (Yy (Xa K3) K1)<|Yq J (Zt (i:=97) K6 Ys K2 ⟨Zc J,Zj (i:=83) J Zg,trivial⟩ J hw ho5) fun _ _=>Qs J (Zt (i:=98) K6 Ys K2 ⟨Zc J,Zj (i:=84) J Zg,trivial⟩ J hw trivial) fun _ _=>Yi<|Yh<|Xd (_,_,_,_) trivial K6 ⟨by rw [←hcw,←hci2];rfl,by rw [←hcw,←hci2];rfl,by rw [←hcw,←hci2];rfl,by rw [←hcw,←hci2];rfl,rfl,rfl,rfl,rfl,rfl,rfl,trivial⟩
      ·refine Yd J (Xj (i:=98) K2 zeroValue48 K2 hw K1) fun b_8 ho8=>Qg (n:=6) 13 17 ?_ ?_
       ·exact Yd J (Yf (n:=83) (Fn _ _ _ _ (by rw [hcw];omega) (by rw [hci2];exact hlead) (by rw [hci2];omega)) K5 Za0 (Zi 3 K3 (Nd 2 J J (Xc (zs:=ys) (i:=ys.length-1) (d:=I0)) Ze)) J hw) fun g_4 _=>Zw (n:=0) [(14,0),(15,0),(16,0),(17,1),(19,1),(20,3)]<|Zh K2 (Yy (Ya K2) K1)<|Zh K2 (Yy (Xa K3) K1)<|Zh K2 (Yy (Xa K3) K1)<|Yq J (Xj (i:=97) K2 zeroValue48 K2 hw K1) fun b_9 ho9=>Yq J (Zt (i:=97) K6 Ys K2 ⟨Zc J,Zj (i:=83) J Zg,trivial⟩ J hw ho9) fun _ _=>Qs J (Zt (i:=98) K6 Ys K2 ⟨Zc J,Zj (i:=84) J Zg,trivial⟩ J hw trivial) fun _ _=>Yi<|Yh<|Xd (_,_,_,_) trivial K6 ⟨by rw [←hcw,←hci2];rfl,by rw [←hcw,←hci2];rfl,by rw [←hcw,←hci2];rfl,by rw [←hcw,←hci2];rfl,rfl,rfl,rfl,rfl,rfl,rfl,trivial⟩
       ·exact Yd J (Xj (i:=97) K2 zeroValue48 K2 hw K1) fun b_10 ho10=>Zw (n:=0) [(13,1),(14,0),(15,0),(16,0),(19,1),(20,3)]<|Yq J (Yf (n:=83) (Fn _ _ _ _ (by rw [hcw];omega) (by rw [hci2];exact hlead) (by rw [hci2];omega)) K5 Za0 (Zi 3 K3 (Nd 2 J J (Xc (zs:=ys) (i:=ys.length-1) (d:=I0)) Ze)) J hw) fun g_5 _=>Zh K2 (Yy (Ya K2) K1)<|Zh K2 (Yy (Xa K3) K1)<|Zh K2 (Yy (Xa K3) K1)<|Yq J (Zt (i:=97) K6 Ys K2 ⟨Zc J,Zj (i:=83) J Zg,trivial⟩ J hw ho10) fun _ _=>Qs J (Zt (i:=98) K6 Ys K2 ⟨Zc J,Zj (i:=84) J Zg,trivial⟩ J hw trivial) fun _ _=>Yi<|Yh<|Xd (_,_,_,_) trivial K6 ⟨by rw [←hcw,←hci2];rfl,by rw [←hcw,←hci2];rfl,by rw [←hcw,←hci2];rfl,by rw [←hcw,←hci2];rfl,rfl,rfl,rfl,rfl,rfl,rfl,trivial⟩
     ·refine Yd J (Xj (i:=97) K2 zeroValue48 K2 hw K1) fun b_11 ho11=>Qg (n:=7) 6 18 ?_ ?_
      ·refine Yd J (Yf (n:=4) (Zgc _ _ _ (((Zk zs).length-(Zk ys).length-j)+(Zk ys).length-1)) K5 call101 (Zi 80 K3 Ze) J hw) fun v_3 _=>Qg (n:=6) 13 18 ?_ ?_
       ·exact Yd J (Yf (n:=83) (Fn _ _ _ _ (by rw [hcw];omega) (by rw [hci2];exact hlead) (by rw [hci2];omega)) K5 Za0 (Zi 4 K3 (Nd 2 J J (Xc (zs:=ys) (i:=ys.length-1) (d:=I0)) Ze)) J hw) fun g_6 _=>Zw (n:=0) [(14,0),(15,0),(16,0),(18,1),(19,1),(20,3)]<|Zh K2 (Yy (Ya K2) K1)<|Zh K2 (Yy (Xa K3) K1)<|Zh K2 (Yy (Xa K3) K1)<|Yq J (Xj (i:=98) K2 zeroValue48 K2 hw K1) fun b_12 ho12=>Yq J (Zt (i:=97) K6 Ys K2 ⟨Zc J,Zj (i:=83) J Zg,trivial⟩ J hw ho11) fun _ _=>Qs J (Zt (i:=98) K6 Ys K2 ⟨Zc J,Zj (i:=84) J Zg,trivial⟩ J hw trivial) fun _ _=>Yi<|Yh<|Xd (_,_,_,_) trivial K6 ⟨by rw [←hcw,←hci2];rfl,by rw [←hcw,←hci2];rfl,by rw [←hcw,←hci2];rfl,by rw [←hcw,←hci2];rfl,rfl,rfl,rfl,rfl,rfl,rfl,trivial⟩
       ·exact Yd J (Xj (i:=98) K2 zeroValue48 K2 hw K1) fun b_13 ho13=>Zw (n:=0) [(13,1),(14,0),(15,0),(16,0),(19,1),(20,3)]<|Yq J (Yf (n:=83) (Fn _ _ _ _ (by rw [hcw];omega) (by rw [hci2];exact hlead) (by rw [hci2];omega)) K5 Za0 (Zi 4 K3 (Nd 2 J J (Xc (zs:=ys) (i:=ys.length-1) (d:=I0)) Ze)) J hw) fun g_7 _=>Zh K2 (Yy (Ya K2) K1)<|Zh K2 (Yy (Xa K3) K1)<|Zh K2 (Yy (Xa K3) K1)<|Yq J (Zt (i:=97) K6 Ys K2 ⟨Zc J,Zj (i:=83) J Zg,trivial⟩ J hw ho11) fun _ _=>Qs J (Zt (i:=98) K6 Ys K2 ⟨Zc J,Zj (i:=84) J Zg,trivial⟩ J hw trivial) fun _ _=>Yi<|Yh<|Xd (_,_,_,_) trivial K6 ⟨by rw [←hcw,←hci2];rfl,by rw [←hcw,←hci2];rfl,by rw [←hcw,←hci2];rfl,by rw [←hcw,←hci2];rfl,rfl,rfl,rfl,rfl,rfl,rfl,trivial⟩
      ·exact Yd J (Xj (i:=98) K2 zeroValue48 K2 hw K1) fun b_14 ho14=>Zw (n:=0) [(6,1),(13,1),(14,0),(15,0),(16,0),(19,1),(20,3)]<|Yq J (Yf (n:=5) (Zgc _ _ _ (((Zk zs).length-(Zk ys).length-j)+(Zk ys).length-1)) K5 call101 (Zi 80 K3 Ze) J hw) fun v_4 _=>Yq J (Yf (n:=83) (Fn _ _ _ _ (by rw [hcw];omega) (by rw [hci2];exact hlead) (by rw [hci2];omega)) K5 Za0 (Zi 5 K3 (Nd 2 J J (Xc (zs:=ys) (i:=ys.length-1) (d:=I0)) Ze)) J hw) fun g_8 _=>Zh K2 (Yy (Ya K2) K1)<|Zh K2 (Yy (Xa K3) K1)<|Zh K2 (Yy (Xa K3) K1)<|Yq J (Zt (i:=97) K6 Ys K2 ⟨Zc J,Zj (i:=83) J Zg,trivial⟩ J hw ho11) fun _ _=>Qs J (Zt (i:=98) K6 Ys K2 ⟨Zc J,Zj (i:=84) J Zg,trivial⟩ J hw trivial) fun _ _=>Yi<|Yh<|Xd (_,_,_,_) trivial K6 ⟨by rw [←hcw,←hci2];rfl,by rw [←hcw,←hci2];rfl,by rw [←hcw,←hci2];rfl,by rw [←hcw,←hci2];rfl,rfl,rfl,rfl,rfl,rfl,rfl,trivial⟩
     ·refine Yd J (Xj (i:=98) K2 zeroValue48 K2 hw K1) fun b_15 ho15=>Qg (n:=7) 6 17 ?_ ?_
      ·refine Yd J (Yf (n:=6) (Zgc _ _ _ (((Zk zs).length-(Zk ys).length-j)+(Zk ys).length-1)) K5 call101 (Zi 80 K3 Ze) J hw) fun v_5 _=>Qg (n:=6) 13 17 ?_ ?_
       ·exact Yd J (Yf (n:=83) (Fn _ _ _ _ (by rw [hcw];omega) (by rw [hci2];exact hlead) (by rw [hci2];omega)) K5 Za0 (Zi 6 K3 (Nd 2 J J (Xc (zs:=ys) (i:=ys.length-1) (d:=I0)) Ze)) J hw) fun g_9 _=>Zw (n:=0) [(14,0),(15,0),(16,0),(17,1),(19,1),(20,3)]<|Zh K2 (Yy (Ya K2) K1)<|Zh K2 (Yy (Xa K3) K1)<|Zh K2 (Yy (Xa K3) K1)<|Yq J (Xj (i:=97) K2 zeroValue48 K2 hw K1) fun b_16 ho16=>Yq J (Zt (i:=97) K6 Ys K2 ⟨Zc J,Zj (i:=83) J Zg,trivial⟩ J hw ho16) fun _ _=>Qs J (Zt (i:=98) K6 Ys K2 ⟨Zc J,Zj (i:=84) J Zg,trivial⟩ J hw trivial) fun _ _=>Yi<|Yh<|Xd (_,_,_,_) trivial K6 ⟨by rw [←hcw,←hci2];rfl,by rw [←hcw,←hci2];rfl,by rw [←hcw,←hci2];rfl,by rw [←hcw,←hci2];rfl,rfl,rfl,rfl,rfl,rfl,rfl,trivial⟩
       ·exact Yd J (Xj (i:=97) K2 zeroValue48 K2 hw K1) fun b_17 ho17=>Zw (n:=0) [(13,1),(14,0),(15,0),(16,0),(19,1),(20,3)]<|Yq J (Yf (n:=83) (Fn _ _ _ _ (by rw [hcw];omega) (by rw [hci2];exact hlead) (by rw [hci2];omega)) K5 Za0 (Zi 6 K3 (Nd 2 J J (Xc (zs:=ys) (i:=ys.length-1) (d:=I0)) Ze)) J hw) fun g_10 _=>Zh K2 (Yy (Ya K2) K1)<|Zh K2 (Yy (Xa K3) K1)<|Zh K2 (Yy (Xa K3) K1)<|Yq J (Zt (i:=97) K6 Ys K2 ⟨Zc J,Zj (i:=83) J Zg,trivial⟩ J hw ho17) fun _ _=>Qs J (Zt (i:=98) K6 Ys K2 ⟨Zc J,Zj (i:=84) J Zg,trivial⟩ J hw trivial) fun _ _=>Yi<|Yh<|Xd (_,_,_,_) trivial K6 ⟨by rw [←hcw,←hci2];rfl,by rw [←hcw,←hci2];rfl,by rw [←hcw,←hci2];rfl,by rw [←hcw,←hci2];rfl,rfl,rfl,rfl,rfl,rfl,rfl,trivial⟩
      ·exact Yd J (Xj (i:=97) K2 zeroValue48 K2 hw K1) fun b_18 ho18=>Zw (n:=0) [(6,1),(13,1),(14,0),(15,0),(16,0),(19,1),(20,3)]<|Yq J (Yf (n:=7) (Zgc _ _ _ (((Zk zs).length-(Zk ys).length-j)+(Zk ys).length-1)) K5 call101 (Zi 80 K3 Ze) J hw) fun v_6 _=>Yq J (Yf (n:=83) (Fn _ _ _ _ (by rw [hcw];omega) (by rw [hci2];exact hlead) (by rw [hci2];omega)) K5 Za0 (Zi 7 K3 (Nd 2 J J (Xc (zs:=ys) (i:=ys.length-1) (d:=I0)) Ze)) J hw) fun g_11 _=>Zh K2 (Yy (Ya K2) K1)<|Zh K2 (Yy (Xa K3) K1)<|Zh K2 (Yy (Xa K3) K1)<|Yq J (Zt (i:=97) K6 Ys K2 ⟨Zc J,Zj (i:=83) J Zg,trivial⟩ J hw ho18) fun _ _=>Qs J (Zt (i:=98) K6 Ys K2 ⟨Zc J,Zj (i:=84) J Zg,trivial⟩ J hw trivial) fun _ _=>Yi<|Yh<|Xd (_,_,_,_) trivial K6 ⟨by rw [←hcw,←hci2];rfl,by rw [←hcw,←hci2];rfl,by rw [←hcw,←hci2];rfl,by rw [←hcw,←hci2];rfl,rfl,rfl,rfl,rfl,rfl,rfl,trivial⟩
    ·rintro⟨qv,rv,b7,b8⟩ -
     simp only [CA,NA]
     refine Zb<|Zb<|Zf<|dt (Qm (i:=98) K3 Ou Ys K2)<|tt (Zy (n:=7) (Cc _ _ (by have:=Zp2 (cf (Qr (Zk zs) (Zk ys) j) (((Zk zs).length-(Zk ys).length-j)+(Zk ys).length-1)) (cf (Zk ys) ((Zk ys).length-1)) hlead;omega)) K4 call72 (Zi 84 K3 Ze) J hw) fun _ _=>dt (Pk K3)<|Zd<|Za<|Zr J (fun h234=>?_) (fun h234=>?_)
     ·have hne:¬Ll (Zk zs) (Zk ys) ((Zk zs).length-(Zk ys).length-j):=fun he=>h234 (by rw [(Zg3 hj2).1 he];rfl)
      refine Zb<|Zf<|Zo J<|Zo J<|Zd<|Za<|Zp<|Yp<|Md<|Yp<|Yp<|Md<|Yp<|Qn (Cb 62) ?_
      have hno:=pdv_no (p:=Zk zs) (q:=Zk ys) hnz (by omega) hne
      exact Yr (.inl J) hsc (.slice none 0 0,[]) _ (fun a w hs=>Pz hs results55 J J) (by rw [hno]) (fun h=>absurd h (of_decide_eq_false hno)) J (Kg 62 K3 Zm)
     ·have hr0:((cf (Qr (Zk zs) (Zk ys) j) (((Zk zs).length-(Zk ys).length-j)+(Zk ys).length-1))%(cf (Zk ys) ((Zk ys).length-1)))=0:=Int.sign_eq_zero_iff_zero.1 (Decidable.byContradiction h234)
      have hde:Ll (Zk zs) (Zk ys) ((Zk zs).length-(Zk ys).length-j):=(Zg3 hj2).2 hr0
      have hcb:=fun t=>Nat.le_trans (div_c hlead hr0 (Nat.le_refl _) t) hb2
      have hcc:=Ei (Int.dvd_of_emod_eq_zero hr0) (Nat.le_trans (Nat.le_add_right _ _) hb2)
      refine Zl<|Za<|Zb<|Ziw (Na 83 J Zg) (fun sl hsl=>?_)
      subst hsl
      refine Zf<|mv J<|mv J<|dt (Qm (i:=97) K3 Ou Ys K2)<|dt (Nj (ii:=60) (i:=((Zk zs).length-(Zk ys).length-j)) K4 (Yu pI) Pm Ys)<|tt (Ip (i:=60) (enc:=Hi) (((cf (Qr (Zk zs) (Zk ys) j) (((Zk zs).length-(Zk ys).length-j)+(Zk ys).length-1))/(cf (Zk ys) ((Zk ys).length-1))),sl) J J J J J J pI J hw) fun _ _=>Zd<|Za<|Zb<|Yl (Ot (q:=qI) (z:=(((cf (Qr (Zk zs) (Zk ys) j) (((Zk zs).length-(Zk ys).length-j)+(Zk ys).length-1))/(cf (Zk ys) ((Zk ys).length-1))),sl)) 61 83 62 J J J J J)<|Yl (Zs9 (ys:=os.set ((Zk zs).length-(Zk ys).length-j) (((cf (Qr (Zk zs) (Zk ys) j) (((Zk zs).length-(Zk ys).length-j)+(Zk ys).length-1))/(cf (Zk ys) ((Zk ys).length-1))),sl)) 62 61 J J (fun y hy=>by rcases List.mem_or_eq_of_mem_set hy with h | h;exact List.mem_append_left _ h;rw [h];exact List.mem_append_right _ (List.mem_singleton.2 rfl)))<|Zf<|mv J<|tt (Gh (i:=70) (n:=((Zk zs).length-(Zk ys).length-j)) (by_:=32) (enc:=Hi) I0 J J J J Pm ti48 J pI.cells pI.pos J J J hw) fun v_7 _=>Zo J<|Zd<|Za<|Zb<|Zb<|Zf<|Zo J<|Zd<|Za<|Zn<|Yl (Ag 71 ((Zk zs).length-(Zk ys).length-j)) ?_
      refine Px [(1,_),(6,_),(7,_),(8,_),(9,_)] [(0,_),(83,_),(84,_),(97,_),(98,_),(60,_),(61,_),(80,_),(1,_),(2,_)] (fun(q:Nat×Value×List (Int×SL))=>[(12,.int .i64 (q.1:Int)),(11,q.2.1)]) (fun(q:Nat×Value×List (Int×SL))=>[(70,Lf 2 48 Hi q.2.1 q.2.2),(71,Cd qI q.2.2)]) (fun(q:Nat×Value×List (Int×SL))=>(q.1≤ys.length)∧(Zk q.2.2=shm (Zk ys) ((cf (Qr (Zk zs) (Zk ys) j) (((Zk zs).length-(Zk ys).length-j)+(Zk ys).length-1))/(cf (Zk ys) ((Zk ys).length-1))) ((Zk zs).length-(Zk ys).length-j) q.1)∧(q.2.2.length=((Zk zs).length-(Zk ys).length-j)+q.1)) (fun(q:Nat×Value×List (Int×SL))=>ys.length-q.1) (0,_,List.replicate ((Zk zs).length-(Zk ys).length-j) I0) ⟨by first | omega | (dsimp only<;>omega),by rw [←Zf4];simp [Zk],by simp⟩ K7 K12 ?_
      rintro⟨i,vo,ms⟩ ⟨hi,hms,hml⟩
      dsimp only at hi hms hml
      simp only [CA,NA]
      have hci:=Nt ys i
      refine Zb<|Zb<|Zf<|mv J<|mv J<|dt (Yc J J (i:=2) J Ye Pm)<|dt (Pa K3)<|Zd<|Za<|Zr J (fun h239=>?_) (fun h239=>?_)
      ·refine Zl<|Za<|Zb<|Zn<|Ni [2,97] [9]<|Zw (n:=3) [(0,0),(1,0),(2,0),(3,0),(4,0),(5,0),(6,1)]<|Zh K2 (Yy (Ya K2) K2)<|Zh K2 (Yy (Qm (i:=97) K3 Ou Ys K2) K2)<|Zh K2 (Yy (Ya K2) K2)<|Zh K2 (Yy (Ya K2) K2)<|Zh K2 (Yy (Nj (ii:=2) K4 Ye Pm Ys J (by first | omega | (simp only [List.length_set];omega))) K2)<|Zh K2 (Yy (Ms (ii:=2) I0 K3 Ye pI (by first | omega | (simp only [List.length_set];omega))) K2)<|Yq J (Yf (n:=86) (Ly _ _ _ _ (by omega) (by rw [hci];have:=hsy i;omega)) K5 Gt (Zi 83 K3 (Nd 2 J J (Xc (i:=i)) Ze)) J hw) fun v_8 _=>Yi<|Zdq (Na 86 J Zg) (fun sl_2 hsl=>?_)
       subst hsl
       exact Zw (n:=0) [(7,1),(8,1),(9,3)]<|Yq J (Kp (i:=87) (ivs:=[(0,_)]) (enc:=Hi) [(((cf (Qr (Zk zs) (Zk ys) j) (((Zk zs).length-(Zk ys).length-j)+(Zk ys).length-1))/(cf (Zk ys) ((Zk ys).length-1)))*(ys.getD i I0).1,sl_2)] K4 Pm ti48 K5 pI.cells K2 hw) fun v_9 _=>Yq J (Ze5 70 J J J K2 (fun hoffr=>(Zby (xs:=ms) (ys:=[_]) (i:=70) (j:=87) (by_:=32) J J J J J J (by decide) J (Yu pI) Pm ti48 J pI J J J (by simp;omega) (by decide) J hw hoffr))) fun v_10 _=>Qs J (Pu (Ok J J) J) fun _ _=>Yi<|Yh<|Qh<|Za<|Zf<|mv J<|dt (Ov K3)<|Zo J<|Zd<|Qn (Ot (q:=qI) (z:=(((cf (Qr (Zk zs) (Zk ys) j) (((Zk zs).length-(Zk ys).length-j)+(Zk ys).length-1))/(cf (Zk ys) ((Zk ys).length-1)))*(ys.getD i I0).1,sl_2)) 71 86 71 J J J J J)<|Xg (i+1,_,ms ++ [(((cf (Qr (Zk zs) (Zk ys) j) (((Zk zs).length-(Zk ys).length-j)+(Zk ys).length-1))/(cf (Zk ys) ((Zk ys).length-1)))*(ys.getD i I0).1,sl_2)]) ⟨by first | omega | (dsimp only<;>omega),by rw [Gd,hms,←Zf5];dsimp only;rw [hci],by simp;omega⟩ (by first | omega | (dsimp only<;>omega)) K7 K12
      ·refine Yt<|Zv<|Zv<|Pd<|Za<|Yl (Qw 70 J J pI)<|Yl (Lx 70 71 72 J J J J)<|Zf<|mv J<|mv J<|tt (Zy (n:=8) (Zb4 _ _ (by rw [hms];exact Zn1 fun t=>by have:=hcb t;omega)) K4 call89 (Zi 72 K3 Ze) J hw) fun g_12 hg=>tt (Yf (n:=9) (Zob _ _ _ _ (by rw [hws];exact Sz.tzl fun t=>by have:=hb1 t;omega) (by rw [hg,hms];exact Sz.tzl (Zn1 fun t=>by have:=hcb t;omega)) (by omega) (by have h7:=congrArg List.length hg;have h8:=Hc (Zk ms);have h9:=Zz ms;have h10:=Zz g_12.2;omega)) K5 call88 (Zi 80 K3 (Zi 8 K3 Ze)) J hw) fun g_13 hg_2=>Zo J<|Zd<|Qh<|Za<|Zf<|mv J<|dt (Pq K3)<|Zo J<|Zd ?_
       obtain rfl:i=(Zk ys).length:=by omega
       exact Qn (Np 9 80 K3)<|Xg (j+1,os.set ((Zk zs).length-(Zk ys).length-j) (((cf (Qr (Zk zs) (Zk ys) j) (((Zk zs).length-(Zk ys).length-j)+(Zk ys).length-1))/(cf (Zk ys) ((Zk ys).length-1))),sl),_,_) ⟨by dsimp only;omega,fun k h1 h2=>by dsimp only at h1 h2;rcases Nat.lt_or_ge ((Zk zs).length-(Zk ys).length) (k+j)with h3 | h3;(exact hx k h3 h2);(rw [show k=((Zk zs).length-(Zk ys).length-j) by omega];exact hde),by dsimp only;rw [Ycf,hos];exact Zy2 (by omega),by dsimp only;rw [hg_2,hg,hws,hms];exact Yc0 (by omega) hj2⟩ (by first | omega | (dsimp only<;>omega)) ⟨J,by dsimp only;rw [show(zs.length:Int)-(ys.length:Int)-((j+1:Nat):Int)=(zs.length:Int)-(ys.length:Int)-(j:Int)-1 by omega];rfl,rfl,rfl,trivial⟩ K6
   ·refine Yt<|Zv<|Zv<|Pd<|Za<|Zb ?_
    have hall:∀k,k≤(Zk zs).length-(Zk ys).length→Ll (Zk zs) (Zk ys) k:=fun k hk=>hx k (by omega) hk
    exact Yl (Qw 60 J J pI)<|Yl (Lx 60 61 72 J J J J)<|Zf<|mv J<|tt (Zy (n:=10) (Zb4 _ _ (by rw [hos];exact(Yfv hF3 hall _).mono (by omega))) K4 call89 (Zi 72 K3 Ze) J hw) fun g_14 hg_3=>mv J<|dt (Yc J J (i:=80) J Ye Pm)<|dt (Hf K3)<|Zo J<|Zo J<|Zd<|Za<|Zp<|Yr (.inl J) hsc _ _ (fun a w hs=>Pz hs results55 J J) (by rw [←Ye0 hnz (by omega) hall (show ws.length=_ by rw [←hlw,hws,show j=(Zk zs).length-(Zk ys).length+1 by omega]),show decide ((ws.length:Int)=0)=decide (ws.length=0)from decide_eq_decide.2 (by omega)]<;>rfl) (fun _=>by rw [hg_3,hos,show j=(Zk zs).length-(Zk ys).length+1 by omega,Zdj,Zkk hnz]) J (Kg 10 K3 Zm)
theorem rp_gcd(v u:Value)(zs ys:List (Int×SL))(F:Nat)(hv:Vp (Zk zs))(hu:Vp (Zk ys))(hok:eok F (Zk zs) (Zk ys)):Cal prog 114 #[v,u] [pp v zs,pp u ys] true (G:=Value×List (Int×SL)) (fun r=>Zk r.2=Kk (Yx (eu F (Zk zs) (Zk ys)))) (fun r=>r.1) (fun r=>[pp r.1 r.2]):=by
 refine Yg func114 J ntmps114 J K2 fun w0 sc hw hsc=>?_
 simp only [Zs,Zq]
 refine Zb<|Zf<|Zo J<|Zd<|Za<|Zb<|Zf<|mv J<|mv J<|Zo J<|Zo J<|Zd<|Za<|Zb<|Zn<|Yl (Np 1 80 K3)<|Yl (Np 2 81 K3)<|Px [] [(0,_),(1,_),(2,_)] (fun(q:Value×Value×List (Int×SL)×List (Int×SL)×Nat)=>[(5,q.1),(6,q.2.1)]) (fun(q:Value×Value×List (Int×SL)×List (Int×SL)×Nat)=>[(80,pp q.1 q.2.2.1),(81,pp q.2.1 q.2.2.2.1)]) (fun(q:Value×Value×List (Int×SL)×List (Int×SL)×Nat)=>(Vp (Zk q.2.2.1))∧(Vp (Zk q.2.2.2.1))∧(eok q.2.2.2.2 (Zk q.2.2.1) (Zk q.2.2.2.1))∧(eu q.2.2.2.2 (Zk q.2.2.1) (Zk q.2.2.2.1)=eu F (Zk zs) (Zk ys))) (fun(q:Value×Value×List (Int×SL)×List (Int×SL)×Nat)=>q.2.2.2.2) (_,_,zs,ys,F) ⟨hv,hu,hok,J⟩ K2 K5 ?_
 rintro⟨va,vb,aa,bb,f⟩ ⟨hva,hvb,hok0,heu⟩
 dsimp only at hva hvb hok0 heu
 simp only [CA,NA]
 have hla:=Zz aa
 have hlb:=Zz bb
 have hna:=hva.len
 have hnb:=hvb.len
 refine Zb<|Zb<|Zf<|mv J<|dt (Yc J J (i:=81) J Ye Pm)<|dt (Fd K3)<|Zd<|Za<|Zr J (fun h250=>?_) (fun h250=>?_)
 ·have hbn:Zk bb≠[]:=fun e=>by have h7:=congrArg List.length e;simp only [List.length_nil]at h7;omega
  obtain⟨f1,rfl,hde,hok1,heu1⟩:=Zr7 hok0 hbn
  have hdo:=(Zcg hde).2
  have hvp:=Za2 hva hde
  exact Zl<|Za<|Zn<|Zf<|mv J<|mv J<|mv J<|tt (Yf (n:=3) (Yei _ _ _ _ (by omega) (by omega) (by omega) hvb.tr (fun h=>by have h7:=hdo (by omega);rw [hla,hlb]at h7;omega)) K5 call160 (Zi 80 K3 (Zi 81 K3 Ze)) J hw) fun g hg=>tt (Zy (n:=4) (Gv _ _ (by rw [hg];exact hvp.sz.mono (by omega)) (fun h=>by rw [hg];exact hvp.ne (fun e=>by have h7:=congrArg List.length hg;rw [e,Zz]at h7;exact h h7)) (by have h7:=congrArg List.length hg;have h8:=hvp.len;have h9:=Zz g.2;omega)) K4 call57 (Zi 3 K3 Ze) J hw) fun g_2 hg_2=>Zo J<|Zo J<|Zd<|Qh<|Qn (Np 81 80 K3)<|Qn (Np 4 81 K3)<|Xg (_,_,bb,g_2.2,f1) ⟨hvb,by dsimp only;rw [hg_2,hg];exact Ij hvp,by dsimp only;rw [hg_2,hg];exact hok1,by dsimp only;rw [hg_2,hg,←heu1];exact heu⟩ (Nat.lt_succ_self f1) K2 K5
 ·have hbn:Zk bb=[]:=List.eq_nil_of_length_eq_zero (by omega)
  rw [hbn,Cf]at heu
  have hpb:=Fj hva.sz
  have hpl:=Yv (Zk aa)
  refine Yt<|Zv<|Zv<|Pd<|Za<|Zb<|Zf<|mv J<|tt (Zy (n:=5) (Gv _ _ (hva.sz.mono (by omega)) (fun h=>hva.ne (fun e=>by have h7:=congrArg List.length e;simp only [List.length_nil]at h7;omega))) K4 call57 (Zi 80 K3 Ze) J hw) fun g_3 hg_3=>Zo J<|Zd<|Za<|Zb<|Zb ?_
  have hpz:g_3.2.length=aa.length:=by rw [←Zz g_3.2,hg_3,hpl];exact hla
  refine Zf<|mv J<|dt (Yc J J (i:=5) J Ye Pm)<|dt (Fd K3)<|mv J<|Pb (d:=22) J (fun s254=>?_) (fun s254=>?_)
  ·refine Zx (Ya K2) K2<|Zx (Ya K2) K2<|Zx (Yc J J (i:=5) J Ye Pm) K2<|Zx (Pq K3) K2<|Zx (Nj (ii:=5) (i:=(g_3.2.length-1)) K4 Ye Pm Ys) K2<|Zx (Ms (ii:=5) I0 K3 Ye pI) K2<|Pp (Zy (n:=5) (Cc _ _ (by rw [Nt,hg_3];have:=hpb (g_3.2.length-1);omega)) K4 call72 (Nd 5 J J (Xc (zs:=g_3.2) (i:=g_3.2.length-1) (d:=I0)) Ze) J hw) K3 fun _ _=>Zx (Pa K3) K2<|dt (Om K3)<|Zd<|Za<|Zr J (fun h254=>?_) (fun h254=>?_)
   ·have hlc:=Nt g_3.2 (g_3.2.length-1)
    have hneg:(Kk (Yx (Zk aa)))=Xm (Yx (Zk aa)) (-1):=by unfold Kk;rw [if_pos ⟨by omega,by rw [←hg_3,Zz,←hlc];exact(Qu _).1 h254⟩]
    exact Zb<|Zf<|mv J<|tt (Zy (n:=6) (Zoc _ _ (by rw [hg_3];exact hpb.mono (by omega))) K4 call138 (Zi 5 K3 Ze) J hw) fun g_4 hg_4=>Zo J<|Zd<|Za<|Zp<|Yp<|xG hsc _ results114 J J (by rw [hg_4,hg_3,←heu,hneg]) J (Kg 6 K3 Zm)
   ·refine Zl<|Za<|Zb<|Zf<|mv J<|Zo J<|Zd<|Za<|Zp ?_
    have hneg:(Kk (Yx (Zk aa)))=Yx (Zk aa):=by unfold Kk;rw [if_neg (fun h=>by rw [←hg_3,Zz,←Nt]at h;first | omega | exact absurd ((Qu _).2 h.2) ‹_›)]
    exact Yr (.inl J) hsc (_,g_3.2) _ (fun a w hs=>Nr hs results114 J) J (by rw [hg_3,←heu,hneg]) J (Kg 5 K3 Zm)
  ·refine Yj K3<|Yj K3<|Yj K3<|Yj K3<|Yj K3<|Yj K3<|Yj K3<|Yj K3<|dt (Ql K3)<|Zd<|Za<|Yk J<|Zl<|Za<|Zb<|Zf<|mv J<|Zo J<|Zd<|Za<|Zp ?_
   have hneg:(Kk (Yx (Zk aa)))=Yx (Zk aa):=by unfold Kk;rw [if_neg (fun h=>by rw [←hg_3,Zz,←Nt]at h;first | omega | exact absurd ((Qu _).2 h.2) ‹_›)]
   exact Yr (.inl J) hsc (_,g_3.2) _ (fun a w hs=>Nr hs results114 J) J (by rw [hg_3,←heu,hneg]) J (Kg 5 K3 Zm)
theorem Ztc(v va vb vd:Value)(zs:List (Int×SL))(x y z:Int)(m:Nat)(hl:zs.length≤30)(hx:bl x.natAbs≤m)(hy:bl y.natAbs≤m)(hz:bl z.natAbs≤m)(hF:Pf (Zk zs)+zs.length*(m+1)+1+zs.length+1+m≤900000):Cal prog 179 #[v,.agg #[.bool (decide (x<0)),va],.agg #[.bool (decide (y<0)),vb],.agg #[.bool (decide (z<0)),vd]] [pp v zs,Me va x.natAbs,Me vb y.natAbs,Me vd z.natAbs] true (G:=Value×List (Int×SL)) (fun r=>Zk r.2=Zau (Zk zs) x y z) (fun r=>r.1) (fun r=>[pp r.1 r.2]):=by
 refine Yg func179 J ntmps179 J K4 fun w0 sc hw hsc=>?_
 simp only [Zs,Zq]
 have hli:=Zz zs
 refine Mi (Hk (i:=1) J Ye) (fun hlen=>?_)
 have hsy0:=On (Zk zs)
 have hmm:zs.length≤zs.length*(m+1):=Nat.le_mul_of_pos_right _ (by omega)
 refine Zb<|Ziw (Na 2 J Zg) (fun sx hsx=>?_)
 subst hsx
 refine Ziw (Na 3 J Zg) (fun sy hsy=>?_)
 subst hsy
 refine Zf<|tt (Xp (i:=5) K5 hw) fun b _=>tt (Xp (i:=6) K5 hw) fun b_2 _=>tt (Xp (i:=7) K5 hw) fun b_3 _=>Zo J<|Zd<|Za<|Zb<|Zf<|Zo J<|Zd<|Za<|Zb<|Zf<|tt (Kp (i:=8) (ivs:=[(0,_)]) (enc:=Eh) [_] K4 Ol ti3 K5 pZ.cells K2 hw) fun v _=>Qx (Qw 8 J J pZ)<|tt (Zy (n:=82) (Zvc _ [1] (fun x hx=>by cases hx with | head=>exact⟨by omega,by omega⟩ | tail _ h=>cases h) (by decide)) K4 call102 (Zi 8 K3 Ze) J hw) fun g hg=>Zo J<|Zd<|Za<|Zb<|Zb<|Zf<|Zo J<|Zd<|Za<|Zn<|Yl (Cb 80)<|Yl (Np 82 81 K3) ?_
 refine Px [(0,_),(5,_),(6,_),(7,_)] [(0,_),(1,_),(2,_),(3,_),(4,_),(5,_),(6,_),(7,_),(8,_),(82,_)] (fun(q:Nat×Value×Value×List (Int×SL)×List (Int×SL))=>[(11,.int .i64 (q.1:Int)),(9,q.2.1),(10,q.2.2.1)]) (fun(q:Nat×Value×Value×List (Int×SL)×List (Int×SL))=>[(80,pp q.2.1 q.2.2.2.1),(81,pp q.2.2.1 q.2.2.2.2)]) (fun(q:Nat×Value×Value×List (Int×SL)×List (Int×SL))=>(q.1≤zs.length)∧(Zk q.2.2.2.1=(Zn9 (Zk zs) x y z q.1))∧(Zk q.2.2.2.2=(Gi x y q.1))) (fun(q:Nat×Value×Value×List (Int×SL)×List (Int×SL))=>zs.length-q.1) (0,_,_,[],_) ⟨by first | omega | (dsimp only<;>omega),rfl,by dsimp only;rw [hg];rfl⟩ K7 K12 ?_
 rintro⟨i,vs,vt,ss,ts⟩ ⟨hi,hss,hts⟩
 dsimp only at hi hss hts
 simp only [CA,NA]
 have hci:=Nt zs i
 have hls:=Zz ss
 have hlt:=Zz ts
 have hls2:ss.length≤i+1:=by rw [←hls,hss];exact Zqv i
 have hlt2:ts.length≤i+1:=by rw [←hlt,hts];exact Zhr x y i
 have hsi:=hsy0 i
 have hzp:=Zp3 (k:=(Zk zs).length-1-i) hsi hz
 have hcp:=Zp3 (x:=1) (A:=1) (k:=(Zk zs).length-1-i) (by decide) hz
 rw [Int.one_mul]at hcp
 have hsss:=Zva (p:=Zk zs) hx hy hz i (by omega)
 rw [hli]at hsss
 have hscl:=fun h=>Zmu (p:=Zk zs) hx hy hz (i:=i) h
 rw [hli]at hscl
 have hrts:=Zkb hx hy i
 have hmi:i*(m+1)≤zs.length*(m+1):=Nat.mul_le_mul_right _ hi
 have hni:((Zk zs).length-1-i)*m≤zs.length*(m+1):=Nat.mul_le_mul (by omega) (by omega)
 rw [hli]at hzp hcp hni
 have hlin:(tzl [x,y]).length≤2:=Hc _
 refine Zb<|Zb<|Zf<|mv J<|mv J<|dt (Yc J J (i:=1) J Ye Pm)<|dt (Pa K3)<|Zd<|Za<|Zr J (fun h176=>?_) (fun h176=>?_)
 ·refine Zl<|Za<|Zb<|Zn<|Zb<|Qj (fun _=>False) [(0,0),(1,0),(2,0),(3,0),(4,0),(5,0),(6,0),(7,0),(8,0),(9,0),(10,0),(11,0),(12,1),(13,1),(14,1),(15,1),(16,3)] ?_ ?_
  ·kernel_rfl
  refine Zh K2 (Yo (Ya K2))<|Zh K2 (Yo (Ya K2))<|Zh K2 (Yo (Ya K2))<|Zh K2 (Yo (Ya K2))<|Zh K2 (Yo (Nj (ii:=1) (i:=i) K4 Ye Pm Ys))<|Zh K2 (Yo (Ms (ii:=1) I0 K3 Ye pI))<|Zh K2 (Yo (Qm (i:=7) K3 Ou Ys K2))<|Zh K2 (Yo (Ya K2))<|Zh K2 (Yo (Yc J J (i:=1) J Ye Pm))<|Zh K2 (Yo (Pq K3))<|Zh K2 (Yo (Ya K2))<|Zh K2 (Yo (Pq K3))<|Yq J (Yf (n:=9) (Zgb _ _ _ (zs.length-1-i) (by omega)) K5 call165 (Zi 4 K3 Ze) J hw) fun v_2 _=>Yq J (Yf (n:=10) (Ly _ _ _ _ (by rw [hci];omega)) K5 Gt (Nd 1 J J (Xc (zs:=zs) (i:=i) (d:=I0)) (Zi 9 K3 Ze)) J hw) fun v_3 _=>Yq J (Yf (n:=11) (Za7 _ _ _ _ (by rw [hts];exact hrts.mono (by omega)) (by rw [hci];omega)) K5 call56 (Zi 81 K3 (Zi 10 K3 Ze)) J hw) fun g_2 hg_2=>Yq J (Yf (n:=12) (Yah _ _ _ _ (by rw [hss];exact hsss.mono (by omega)) (by omega) (by rw [hg_2,hts,hci];exact fun t=>Nat.le_trans (hscl (by omega) t) (by omega)) (by rw [←Zz,hg_2];exact Nat.le_trans (Ht _ _) (by omega))) K5 call43 (Zi 80 K3 (Zi 11 K3 Ze)) J hw) (fun g_3 hg_3=>?_)
  refine Qs J (Pu (Ok J J) J) fun _ _=>Pv<|Za<|Zf<|mv J<|dt (Qm (i:=5) K3 Ou Ys K2)<|dt (Qm (i:=6) K3 Ou Ys K2)<|tt (Ic (i:=13) (ivs:=[(0,_),(1,_)]) (enc:=Hi) [(x,sx),(y,sy)] J J K4 Pm ti48 J J J J J pI.cells J J hw) fun v_4 _=>Qx (Ke qI 90)<|Qx (Ot (q:=qI) (z:=(x,sx)) 90 2 91 J J J J J)<|Qx (Ot (q:=qI) (z:=(y,sy)) 91 3 92 J J J J J)<|Qx (Qw 13 J J pI)<|Qx (Lx 13 92 93 J J J J)<|tt (Zy (n:=14) (Zb4 _ _ (Sz.of_mem fun t ht=>by simp at ht;rcases ht with h | h<;>(rw [h];omega))) K4 call89 (Zi 93 K3 Ze) J hw) fun g_4 hg_4=>tt (Yf (n:=15) (Yag _ _ _ _ (by rw [hts];exact hrts.mono (by omega)) (by rw [hg_4];exact Sz.tzl (Sz.of_mem fun t ht=>by simp at ht;rcases ht with h | h<;>(rw [h];omega))) (by rw [←Zz,hg_4];exact Nat.le_trans hlin (by omega))) K5 call42 (Zi 81 K3 (Zi 14 K3 Ze)) J hw) fun g_5 hg_5=>Zo J<|Zd<|Qh<|Za<|Zf<|mv J<|dt (Ov K3)<|Zo J<|Zd<|Qn (Np 12 80 K3)<|Qn (Np 15 81 K3) ?_
  exact Xg (i+1,_,_,g_3.2,g_5.2) ⟨by first | omega | (dsimp only<;>omega),by dsimp only;rw [hg_3,hss,hg_2,hts,hci,←hli];rfl,by dsimp only;rw [hg_5,hts,hg_4];rfl⟩ (by first | omega | (dsimp only<;>omega)) K7 K12
 ·exact Yt<|Zv<|Zv<|Pd<|Za<|Zb<|Zf<|mv J<|Zo J<|Zd<|Za<|Zp<|Yr (.inl J) hsc (_,ss) _ (fun a w hs=>Nr hs results179 J) J (by rw [hss,←Yeh,show i=(Zk zs).length by omega]) J (Kg 80 K3 Zm)
end Go.Sky

