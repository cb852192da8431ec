/- rules, arithmetic and contracts: part 11
   Proved without conditions of its own: each theorem bears its own. -/
import Derived.Test.YtcmiiammekgooaaGreatSf03
import Derived.Test.YtcmiiammekgooaaGreatSf02
import Derived.Test.YtcmiiammekgooaaGreatSf01
import Derived.Test.YtcmiiammekgooaaGreatSf08
import Derived.Test.YtcmiiammekgooaaGreatSf09
set_option linter.all false
namespace Go.Sky
open Go.Proofs.Tryz
open Go.Proofs
set_option maxRecDepth 20000
set_option maxHeartbeats 4000000
set_option linter.unusedSimpArgs false
theorem rp_from(v:Value)(xs:List Int)(hs:Sz 1000000 xs)(hl:xs.length≤1000):Cal prog 16 #[v] [slp 2 wv v xs] true (G:=Value×List (Int×SL)) (fun r=>Zt r.2=xs) (fun r=>r.1) (fun r=>[pp r.1 r.2]):=by
 refine Yc func16 J ntmps16 J K1 ?_
 intro w0 sc hw hsc
 simp only [Zq,Zp]
 refine Zd<|Zg<|as_ J<|Zf<|Za<|Zd<|Zg<|as_ J<|Zf<|Za<|Zd<|Zd<|Zg<|as_ J<|Zf<|Za<|Zo<|Yr (Na 70 2 48 Dw)<|Yr (Mt qI 71)<|Nt [(0,_)] [(0,_),(1,_)] (fun(q:Nat×Value×List (Int×SL))=>[(4,.int .i64 (q.1:Int)),(3,q.2.1)]) (fun(q:Nat×Value×List (Int×SL))=>[(70,osl 2 48 Dw q.2.1 q.2.2),(71,Zcn qI q.2.2)]) (fun(q:Nat×Value×List (Int×SL))=>(q.1≤xs.length)∧(Zt q.2.2=xs.take q.1)∧(q.2.2.length=q.1)) (fun(q:Nat×Value×List (Int×SL))=>xs.length-q.1) (0,.slice none 0 0,[]) ⟨by first | omega | (dsimp only<;>omega),rfl,rfl⟩ K3 K4 ?_
 rintro⟨i,vo,zs⟩ ⟨hi,hz,hzl⟩
 dsimp only at hi hz hzl
 simp only [CA,NA]
 refine Zd<|Zd<|Zg<|mv J<|mv J<|dt (Yd J J (i:=1) J Zi Qx)<|dt (Xr J J J)<|Zf<|Za<|Zs J (fun h41=>?_) (fun h41=>?_)
 ·refine Zj<|Za<|Zd<|Zo<|Zg<|mv J<|mv J<|mv J<|dt (Xb (ii:=1) J J J J Zi Qx Yq J (by first | omega | (simp only [List.length_set];omega)))<|dt (Xv (ii:=1) 0 J J J Zi pV (by first | omega | (simp only [List.length_set];omega)))<|tt (Zh (n:=2) (Zsb _ (by have:=hs.getD i;omega)) J J J K1 call30 Ze J hw) fun v _=>l_ex (Ov 2 J Zi) (fun sl hsl=>?_)
  subst hsl
  exact tt (Po (i:=3) (ivs:=[(0,_)]) (enc:=Dw) [(xs.getD i 0,sl)] J J K2 Nn ti48 J J J J J pI.cells J J hw) fun v_2 _=>tt (Iu (i:=70) (j:=3) (by_:=32) J J J J J J (by decide) J (Yt pI) Nn ti48 J pI J J J (by simp;omega) (by decide) J hw) fun v_3 _=>as_ J<|Zf<|Oe<|Za<|Zg<|mv J<|dt (Yx J J J ⟨by omega,by omega⟩)<|as_ J<|Zf<|Qu (Pz (q:=qI) (z:=(xs.getD i 0,sl)) 71 2 71 J J J J J)<|Xn (i+1,_,zs ++ [(xs.getD i 0,sl)]) ⟨by first | omega | (dsimp only<;>omega),by rw [Oo 0 _ _ (by omega),←hz];simp [Zt],by simp [hzl]⟩ (by first | omega | (dsimp only<;>omega)) K3 K4
 ·exact Yv<|Zv<|Zv<|Ox<|Za<|Zd<|Yr (Pd 70 J J pI)<|Yr (Mq 70 71 72 J J J J)<|Zg<|mv J<|as_ J<|Zf<|Za<|Zu<|Ym (.inl J) hsc (_,zs) _ (fun a w hs=>Ni hs results16 J) J (by rw [hz,List.take_of_length_le (by omega)]) J (Yy 72 J J J Zk)
theorem rp_to(v:Value)(zs:List (Int×SL))(hs:Sz 1000000 (Zt zs))(hl:zs.length≤1000):Cal prog 18 #[v] [pp v zs] false (G:=Value) (fun r=>True) (fun r=>r) (fun r=>[slp 2 wv r (Zt zs)]):=by
 refine Yc func18 J ntmps18 J K1 ?_
 intro w0 sc hw hsc
 simp only [Zq,Zp]
 have hli:=Zw zs
 refine Zd<|Zg<|as_ J<|Zf<|Za<|Zd<|Zg<|as_ J<|Zf<|Za<|Zd<|Zd<|Zg<|as_ J<|Zf<|Za<|Zo<|Yr (Na 70 2 31 wv)<|Nt [(0,_)] [(0,_),(1,_)] (fun(q:Nat×Value)=>[(4,.int .i64 (q.1:Int)),(3,q.2)]) (fun(q:Nat×Value)=>[(70,osl 2 31 wv q.2 ((Zt zs).take q.1))]) (fun(q:Nat×Value)=>q.1≤zs.length) (fun(q:Nat×Value)=>zs.length-q.1) (0,.slice none 0 0) (by first | omega | (dsimp only<;>omega)) K3 K3 ?_
 rintro⟨i,vo⟩ hi
 dsimp only at hi
 simp only [CA,NA]
 have htl:((Zt zs).take i).length=i:=by rw [List.length_take];omega
 have hci:=Nk zs i
 refine Zd<|Zd<|Zg<|mv J<|mv J<|dt (Yd J J (i:=1) J Yb Nn)<|dt (Xr J J J)<|Zf<|Za<|Zs J (fun h50=>?_) (fun h50=>?_)
 ·exact Zj<|Za<|Zd<|Zo<|Zg<|mv J<|mv J<|mv J<|dt (Xb (ii:=1) J J J J Yb Nn Xp J (by first | omega | (simp only [List.length_set];omega)))<|dt (Xv (ii:=1) I0 J J J Yb pI (by first | omega | (simp only [List.length_set];omega)))<|tt (Zh (n:=1) (r_to _ _ (by rw [hci];have:=hs i;omega)) J J J K1 call53 (Ot 1 J J (Yz) Ze) J hw) fun _ _=>tt (Po (i:=2) (ivs:=[(0,_)]) (enc:=wv) [(zs.getD i I0).1] J J K2 Qx ti31 J J J J J pV.cells J J hw) fun v _=>tt (Iu (i:=70) (j:=2) (by_:=24) J J J J J J (by decide) J (Yt pV) Qx ti31 J pV J J J (by simp;omega) (by decide) J hw) fun v_2 _=>as_ J<|Zf<|Oe<|Za<|Zg<|mv J<|dt (Yx J J J ⟨by omega,by omega⟩)<|as_ J<|Zf<|Xn (i+1,_) (by first | omega | (dsimp only<;>omega)) (by first | omega | (dsimp only<;>omega)) K3 ⟨by rw [Oo 0 _ _ (by omega),show(Zt zs).getD i 0=(zs.getD i I0).1 from hci.symm];rfl,rfl,rfl,trivial⟩
 ·exact Yv<|Zv<|Zv<|Ox<|Za<|Zd<|Zg<|mv J<|as_ J<|Zf<|Za<|Zu<|Ym (.inl J) hsc _ _ (fun a w hs=>Ni hs results18 J) J trivial J (Od 70 J J pV (List.take_of_length_le (by omega)) Zk)
theorem Zcf(v:Value)(zs:List (Int×SL))(hs:Sz 3000000000 (Zt zs)):Cal prog 89 #[v] [pp v zs] true (G:=Value×List (Int×SL)) (fun r=>Zt r.2=tzl (Zt zs)) (fun r=>r.1) (fun r=>[pp r.1 r.2]):=by
 refine Yc func89 J ntmps89 J K1 ?_
 intro w0 sc hw hsc
 simp only [Zq,Zp]
 refine Md (Zmp (i:=1) J) fun hself=>Md (Ge (i:=1) J Yb) (fun hlen=>?_)
 have hli:=Zw zs
 refine Zd<|Zg<|as_ J<|Zf<|Za<|Zd<|Zo<|Nt [] [(0,_)] (fun(k:Nat)=>[(0,Ea v k)]) (fun(k:Nat)=>[(1,pp (Ea v k) (zs.take k))]) (fun(k:Nat)=>(k≤zs.length)∧(tzl ((Zt zs).take k)=tzl (Zt zs))) (fun(k:Nat)=>k) zs.length ⟨Nat.le_refl _,by rw [List.take_of_length_le (by omega)]⟩ ⟨by rw [hself];rfl,trivial⟩ ⟨by rw [hself,List.take_length];rfl,rfl,trivial⟩ ?_
 rintro k ⟨hk,ht⟩
 simp only [CA,NA]
 have hl:(zs.take k).length=k:=by rw [List.length_take];omega
 have hce:((zs.take k).getD (k-1) I0).1=((Zt zs).take k).getD (k-1) 0:=by rw [Nk,Zej];rfl
 refine Zd<|Zd<|Zg<|mv J<|dt (Yd J J (i:=1) J Yb Nn)<|dt (Pm J J J)<|mv J<|Qm (d:=6) J (fun s22=>?_) (fun s22=>?_)
 ·refine gdt (Yo J J) J J<|gdt (Yo J J) J J<|gdt (Yd J J (i:=1) J Yb Nn) J J<|gdt (Qd J J J ⟨by omega,by omega⟩) J J<|gdt (Xb (ii:=1) (i:=k-1) J J J J Yb Nn Xp) J J<|gdt (Xv (ii:=1) I0 J J J Yb pI) J J<|gtt (Zh (n:=1) (Ca _ _ (by rw [hce];exact(hs.take _).getD _)) J J J K1 call72 (Ot 1 J J (Yz) Ze) J hw) J J J fun _ _=>gdt (Pg J J J) J J<|dt (Ys J J J)<|Zf<|Za<|Zs J (fun h22=>?_) (fun h22=>?_)
  ·rw [hce]at h22
   have hstep:=Znj (xs:=Zt zs) (k:=k) (by omega) (by omega) (Zgd (k:=k) (by omega) (Int.sign_eq_zero_iff_zero.1 h22))
   exact Zj<|Za<|Zo<|Zg<|mv J<|mv J<|dt (Yd J J (i:=1) J Yb Nn)<|dt (Qd J J J ⟨by omega,by omega⟩)<|dt (Zym (ii:=1) (i:=k-1) J J J J Yb Nn Xp)<|as_ J<|Zf<|Oe<|Qu (Zrx 1 1 (k-1) J J (by omega))<|Xn (k-1) ⟨by first | omega | (dsimp only<;>omega),by rw [←ht,←hstep]⟩ (by first | omega | (dsimp only<;>omega)) ⟨by rw [←Ho v k (k-1)];rfl,trivial⟩ ⟨by rw [Ho,List.take_take,Nat.min_eq_left (by omega)];rfl,rfl,trivial⟩
  ·try rw [hce]at h22
   exact Yv<|Zv<|Zv<|Ox<|Za<|Zd<|Zg<|mv J<|as_ J<|Zf<|Za<|Zu<|Ym (.inl J) hsc (_,zs.take k) _ (fun a w hs=>Ni hs results89 J) J (by rw [Zej,←ht];exact(Zdn (by omega) (by first | (left;omega) | (right;exact Zdo (k:=k) (by omega) ‹_›))).symm) J (Yy 1 J J J Zk)
 ·exact gsk J J J<|gsk J J J<|gsk J J J<|gsk J J J<|gsk J J J<|gsk J J J<|gsk J J J<|gsk J J J<|dt (Zz J J J)<|Zf<|Za<|Ye J<|Yv<|Zv<|Zv<|Ox<|Za<|Zd<|Zg<|mv J<|as_ J<|Zf<|Za<|Zu<|Ym (.inl J) hsc (_,zs.take k) _ (fun a w hs=>Ni hs results89 J) J (by rw [Zej,←ht];exact(Zdn (by omega) (by first | (left;omega) | (right;exact Zdo (k:=k) (by omega) ‹_›))).symm) J (Yy 1 J J J Zk)
theorem rp_nums(v:Value)(l:List Int)(hl:∀x∈l,inI x)(hlen:l.length≤1000):Cal prog 102 #[v] [slp 1 Zah v l] true (G:=Value×List (Int×SL)) (fun r=>Zt r.2=tzl l) (fun r=>r.1) (fun r=>[pp r.1 r.2]):=by
 refine Yc func102 J ntmps102 J K1 ?_
 intro w0 sc hw hsc
 simp only [Zq,Zp]
 have hsz:=Zel hl
 refine Zd<|Zg<|as_ J<|Zf<|Za<|Zd<|Zg<|as_ J<|Zf<|Za<|Zd<|Zd<|Zg<|as_ J<|Zf<|Za<|Zo<|Yr (Na 70 2 48 Dw)<|Yr (Mt qI 71)<|Nt [(0,_)] [(0,_),(1,_)] (fun(q:Nat×Value×List (Int×SL))=>[(4,.int .i64 (q.1:Int)),(3,q.2.1)]) (fun(q:Nat×Value×List (Int×SL))=>[(70,osl 2 48 Dw q.2.1 q.2.2),(71,Zcn qI q.2.2)]) (fun(q:Nat×Value×List (Int×SL))=>(q.1≤l.length)∧(Zt q.2.2=mk q.1 (cf l))∧(q.2.2.length=q.1)) (fun(q:Nat×Value×List (Int×SL))=>l.length-q.1) (0,.slice none 0 0,[]) ⟨by first | omega | (dsimp only<;>omega),rfl,rfl⟩ K3 K4 ?_
 rintro⟨i,vo,ws⟩ ⟨hi,hz,hzl⟩
 dsimp only at hi hz hzl
 simp only [CA,NA]
 refine Zd<|Zd<|Zg<|mv J<|mv J<|dt (Yd J J (i:=1) J Zi Me)<|dt (Xr J J J)<|Zf<|Za<|Zs J (fun h59=>?_) (fun h59=>?_)
 ·refine Zj<|Za<|Zd<|Zo<|Zg<|mv J<|mv J<|mv J<|dt (Xb (ii:=1) J J J J Zi Me zT3 J (by first | omega | (simp only [List.length_set];omega)))<|dt (Xv (ii:=1) 0 J J J Zi pZ (by first | omega | (simp only [List.length_set];omega)))<|tt (Zh (n:=2) (Zf1 _ (hl _ (Yz))) J J J K1 call34 Ze J hw) fun v _=>l_ex (Ov 2 J Zi) (fun sl hsl=>?_)
  subst hsl
  exact tt (Po (i:=3) (ivs:=[(0,_)]) (enc:=Dw) [(l.getD i 0,sl)] J J K2 Nn ti48 J J J J J pI.cells J J hw) fun v_2 _=>tt (Iu (i:=70) (j:=3) (by_:=32) J J J J J J (by decide) J (Yt pI) Nn ti48 J pI J J J (by simp;omega) (by decide) J hw) fun v_3 _=>as_ J<|Zf<|Oe<|Za<|Zg<|mv J<|dt (Yx J J J ⟨by omega,by omega⟩)<|as_ J<|Zf<|Qu (Pz (q:=qI) (z:=(l.getD i 0,sl)) 71 2 71 J J J J J)<|Xn (i+1,_,ws ++ [(l.getD i 0,sl)]) ⟨by first | omega | (dsimp only<;>omega),by rw [Ko,Ay,hz];dsimp only;rfl,by simp [hzl]⟩ (by first | omega | (dsimp only<;>omega)) K3 K4
 ·exact Yv<|Zv<|Zv<|Ox<|Za<|Zd<|Yr (Pd 70 J J pI)<|Yr (Mq 70 71 72 J J J J)<|Zg<|mv J<|tt (Zh (n:=4) (Zcf _ _ (by rw [hz];exact Zbb fun t ht=>by have:=hsz t;omega)) J J J K1 call89 (Zc 72 J J J Ze) J hw) fun g hg=>as_ J<|Zf<|Za<|Zu<|Ym (.inl J) hsc _ _ (fun a w hs=>Ni hs results102 J) J (by rw [hg,hz,show i=l.length by omega,Ziq]) J (Yy 4 J J J Zk)
theorem Zh5(v:Value)(zs:List (Int×SL))(j:Int)(i:Nat)(hj:j=(i:Int):=by omega)(hi:i≤1000000:=by omega):Cal prog 101 #[v,.int .i64 j] [pp v zs] true (G:=Value) (fun r=>True) (fun r=> .agg #[.bool (decide (cf (Zt zs) i<0)),r]) (fun r=>[d9p r (cf (Zt zs) i).natAbs]):=by
 refine Yc func101 J ntmps101 J K1 ?_
 intro w0 sc hw hsc
 simp only [Zq,Zp]
 have hli:=Zw zs
 refine Md (Ge (i:=1) J Yb) fun hlen=>Yr (Na 60 1 3 Cc)<|Yr (Pd 60 J J pN)<|Zd<|Zg<|tt (Zn (i:=2) J J zeroValue48 J J hw) fun b _=>Zf<|Za<|Zd<|Zd<|Zg<|mv J<|dt (Xr J J J)<|mv J<|Qm (d:=7) J (fun s91=>?_) (fun s91=>?_)
 ·exfalso;omega
 ·refine gdt (Yo J J) J J<|gdt (Yo J J) J J<|gdt (Yd J J (i:=1) J Yb Nn) J J<|gdt (Ke J J J) J J<|dt (Zz J J J)<|Zf<|Za<|Zs J (fun h91=>?_) (fun h91=>?_)
  ·refine Zd<|Zg<|dt (Pv (ivs:=[]) J trivial (fun a w hs=>b48_))<|tt (Zm (i:=2) J J J J J (by decide) J Xp J J ⟨Zb J,Zb J,trivial⟩ J hw trivial) fun _ _=>Zf<|Za<|Zu<|Xa ?_
   have hz0:cf (Zt zs) i=0:=Qh (by omega)
   exact Ym (.inl J) hsc (.slice none 0 0) _ (fun a w hs=>Ni hs results101 (Yn (i:=2) J J Nm Xp J)) (by rw [hz0]<;>rfl) trivial J (Lo (by rw [hz0];rfl) Zk)
  ·exact Zj<|Za<|Zd<|Zg<|mv J<|mv J<|dt (Xb (ii:=1) (i:=i) J J J J Yb Nn Xp hj)<|dt (Xv (ii:=1) I0 J J J Yb pI)<|tt (Zm (i:=2) J J J J J (by decide) J Xp J J ⟨Zb J,Zb J,trivial⟩ J hw trivial) fun _ _=>Zf<|Za<|Zu<|Ym (.inl J) hsc _ _ (fun a w hs=>Ni hs results101 (Yn (i:=2) J J Nm Xp J)) (by rw [←Nk]<;>rfl) trivial J (give_dI 1 J J (Yz (i:=i)) (by rw [←Nk]<;>rfl) Zk)
theorem Za0(v w:Value)(zs:List (Int×SL))(y:Int)(hs:Sz 1000000 (Zt zs))(hy:bl y.natAbs≤1000000)(hl:zs.length≤1000:=by omega):Cal prog 56 #[v,.agg #[.bool (decide (y<0)),w]] [pp v zs,d9p w y.natAbs] true (G:=Value×List (Int×SL)) (fun r=>Zt r.2=Xo (Zt zs) y) (fun r=>r.1) (fun r=>[pp r.1 r.2]):=by
 refine Yc func56 J ntmps56 J K2 ?_
 intro w0 sc hw hsc
 simp only [Zq,Zp]
 have hli:=Zw zs
 refine Zd<|Zg<|tt (Yu (i:=3) J J J J J hw) fun b _=>as_ J<|Zf<|Za<|Zd<|Zg<|as_ J<|Zf<|Za<|Zd<|Zd<|Zg<|as_ J<|Zf<|Za<|Zo<|Yr (Na 70 2 48 Dw)<|Yr (Mt qI 71)<|Nt [(0,_),(3,_)] [(0,_),(1,_),(2,_),(3,_)] (fun(q:Nat×Value×List (Int×SL))=>[(6,.int .i64 (q.1:Int)),(5,q.2.1)]) (fun(q:Nat×Value×List (Int×SL))=>[(70,osl 2 48 Dw q.2.1 q.2.2),(71,Zcn qI q.2.2)]) (fun(q:Nat×Value×List (Int×SL))=>(q.1≤zs.length)∧(Zt q.2.2=mk q.1 (fun t=>cf (Zt zs) t*y))∧(q.2.2.length=q.1)) (fun(q:Nat×Value×List (Int×SL))=>zs.length-q.1) (0,.slice none 0 0,[]) ⟨by first | omega | (dsimp only<;>omega),rfl,rfl⟩ K4 K6 ?_
 rintro⟨i,vo,ws⟩ ⟨hi,hz,hzl⟩
 dsimp only at hi hz hzl
 simp only [CA,NA]
 have hci:=Nk zs i
 refine Zd<|Zd<|Zg<|mv J<|mv J<|dt (Yd J J (i:=1) J Yb Nn)<|dt (Xr J J J)<|Zf<|Za<|Zs J (fun h109=>?_) (fun h109=>?_)
 ·refine Zj<|Za<|Zd<|Zo<|Oi [1,3] [9]<|Zx (n:=3) [(0,0),(1,0),(2,0),(3,0),(4,0),(5,0),(6,1)]<|r0' J J (stf (Yo J J) K2)<|r0' J J (stf (Yo J J) K2)<|r0' J J (stf (Yo J J) K2)<|r0' J J (stf (Xb (ii:=1) J J J J Yb Nn Xp J (by first | omega | (simp only [List.length_set];omega))) K2)<|r0' J J (stf (Xv (ii:=1) I0 J J J Yb pI (by first | omega | (simp only [List.length_set];omega))) K2)<|r0' J J (stf (Zy (i:=3) J J J Nm Xp J J) K2)<|r1' J (Zh (n:=4) (Fs _ _ _ _ (by rw [hci];have:=hs i;omega)) J J J K2 Zf9 (Ot 1 J J (Yz) (Zc 2 J J J Ze)) J hw) fun v _=>Yk<|Zle (Ov 4 J Zi) (fun sl hsl=>?_)
  subst hsl
  exact Zx (n:=0) [(7,1),(8,1),(9,3)]<|r1' J (Po (i:=73) (ivs:=[(0,_)]) (enc:=Dw) [((zs.getD i I0).1*y,sl)] J J K2 Nn ti48 J J J J J pI.cells J J hw) fun v_2 _=>r1' J (Zek 70 J J J K2 (fun hoffr=>(Al (xs:=ws) (ys:=[_]) (i:=70) (j:=73) (by_:=32) J J J J J J (by decide) J (Yt pI) Nn ti48 J pI J J J (by simp;omega) (by decide) J hw hoffr))) fun v_3 _=>r3' J (Py (Mf J J) J) fun _ _=>Yk<|Yf<|Oe<|Za<|Zg<|mv J<|dt (Yx J J J ⟨by omega,by omega⟩)<|as_ J<|Zf<|Qu (Pz (q:=qI) (z:=((zs.getD i I0).1*y,sl)) 71 4 71 J J J J J)<|Xn (i+1,_,ws ++ [((zs.getD i I0).1*y,sl)]) ⟨by first | omega | (dsimp only<;>omega),by rw [Ko,Ay,hz];dsimp only;rw [Nk],by simp [hzl]⟩ (by first | omega | (dsimp only<;>omega)) K4 K6
 ·exact Yv<|Zv<|Zv<|Ox<|Za<|Zd<|Yr (Pd 70 J J pI)<|Yr (Mq 70 71 72 J J J J)<|Zg<|mv J<|tt (Zh (n:=5) (Zcf _ _ (by rw [hz];exact Zbb fun t ht=>by have:=Xm (cf (Zt zs) t) y;have:=hs t;omega)) J J J K1 call89 (Zc 72 J J J Ze) J hw) fun g hg=>as_ J<|Zf<|Za<|Zu<|Ym (.inl J) hsc _ _ (fun a w hs=>Ni hs results56 J) J (by rw [hg,hz,show i=(Zt zs).length by omega,Zqb]) J (Yy 5 J J J Zk)
theorem Zn1(v:Value)(zs:List (Int×SL))(hs:Sz 1000000 (Zt zs))(hl:zs.length≤1000:=by omega):Cal prog 138 #[v] [pp v zs] true (G:=Value×List (Int×SL)) (fun r=>Zt r.2=Xo (Zt zs) (-1)) (fun r=>r.1) (fun r=>[pp r.1 r.2]):=by
 refine Yc func138 J ntmps138 J K1 ?_
 intro w0 sc hw hsc
 simp only [Zq,Zp]
 exact Zd<|Zg<|as_ J<|Zf<|Za<|Zd<|Zg<|mv J<|tt (Zh (n:=2) (Zf1 (-1) ⟨by omega,by omega⟩) J J J K1 call34 Ze J hw) fun v _=>tt (Zh (n:=3) (Za0 _ _ _ _ hs (by decide) hl) J J J K2 call56 (Zc 1 J J J (Zc 2 J J J Ze)) J hw) fun g hg=>as_ J<|Zf<|Za<|Zu<|Ym (.inl J) hsc _ _ (fun a w hs=>Ni hs results138 J) J hg J (Yy 3 J J J Zk)
theorem rp_add(v u:Value)(zs ys:List (Int×SL))(hs:Sz 1000000 (Zt zs))(hl:zs.length≤1000)(ht:Sz 1000000 (Zt ys))(hk:ys.length≤1000):Cal prog 43 #[v,u] [pp v zs,pp u ys] true (G:=Value×List (Int×SL)) (fun r=>Zt r.2=Zxk (Zt zs) (Zt ys)) (fun r=>r.1) (fun r=>[pp r.1 r.2]):=by
 refine Yc func43 J ntmps43 J K2 ?_
 intro w0 sc hw hsc
 simp only [Zq,Zp]
 have hli:=Zw zs
 have hli2:=Zw ys
 refine Md (Ge (i:=1) J Yb) fun hlen=>Md (Ge (i:=2) J Yb) fun hlen2=>Zd<|Zg<|as_ J<|Zf<|Za<|Zd<|Zg<|as_ J<|Zf<|Za<|Zd<|Zd<|Zg<|as_ J<|Zf<|Za<|Zo<|Yr (Na 70 2 48 Dw)<|Yr (Mt qI 71)<|Nt [(0,_),(1,_)] [(0,_),(1,_),(2,_)] (fun(q:Nat×Value×List (Int×SL))=>[(6,.int .i64 (q.1:Int)),(5,q.2.1)]) (fun(q:Nat×Value×List (Int×SL))=>[(70,osl 2 48 Dw q.2.1 q.2.2),(71,Zcn qI q.2.2)]) (fun(q:Nat×Value×List (Int×SL))=>(q.1≤(max zs.length ys.length))∧(Zt q.2.2=mk q.1 (fun t=>cf (Zt zs) t+cf (Zt ys) t))∧(q.2.2.length=q.1)) (fun(q:Nat×Value×List (Int×SL))=>(max zs.length ys.length)-q.1) (0,.slice none 0 0,[]) ⟨by first | omega | (dsimp only<;>omega),rfl,rfl⟩ K4 K5 ?_
 rintro⟨i,vo,ws⟩ ⟨hi,hz,hzl⟩
 dsimp only at hi hz hzl
 simp only [CA,NA]
 refine Zd<|Ez [(0,_),(1,_),(5,_),(6,_)] [(0,_),(70,_),(71,_),(1,_),(2,_)] (fun(_:Unit)=>[(16,.bool (decide (i<max zs.length ys.length)))]) (fun(_:Unit)=>[]) (fun(_:Unit)=>True) K4 K5 ?_ ?_
 ·refine Zg<|mv J<|mv J<|dt (Yd J J (i:=1) J Yb Nn)<|dt (Xr J J J)<|mv J<|Qm (d:=11) J (fun s100=>?_) (fun s100=>?_)
  ·exact gsk J J J<|gsk J J J<|gsk J J J<|gsk J J J<|dt (Ys J J J)<|Zf<|Qt () trivial ⟨by first | exact congrArg some (congrArg Value.bool (decide_eq_decide.2 (by omega))) | exact congrArg some (congrArg Value.bool (decide_eq_true (by omega)).symm),rfl,rfl,rfl,rfl,trivial⟩ K5
  ·exact gdt (Yo J J) J J<|gdt (Yo J J) J J<|gdt (Yd J J (i:=2) J Yb Nn) J J<|gdt (Xr J J J) J J<|dt (Zz J J J)<|Zf<|Qt () trivial ⟨by first | exact congrArg some (congrArg Value.bool (decide_eq_decide.2 (by omega))) | exact congrArg some (congrArg Value.bool (decide_eq_true (by omega)).symm),rfl,rfl,rfl,rfl,trivial⟩ K5
 ·rintro _ -
  simp only [CA,NA]
  refine Zs J (fun h100=>?_) (fun h100=>?_)
  ·refine Zj<|Za<|Zd<|Zo<|Zg<|mv J<|mv J<|mv J<|tt (Zh (n:=3) (Zh5 _ _ _ i J) J J J K2 call101 (Zc 1 J J J Ze) J hw) fun v _=>mv J<|mv J<|tt (Zh (n:=4) (Zh5 _ _ _ i J) J J J K2 call101 (Zc 2 J J J Ze) J hw) fun v_2 _=>tt (Zh (n:=5) (Zp9 _ _ _ _ (by have:=hs i;omega) (by have:=ht i;omega)) J J J K2 call37 (Zc 3 J J J (Zc 4 J J J Ze)) J hw) fun v_3 _=>l_ex (Ov 5 J Zi) (fun sl hsl=>?_)
   subst hsl
   exact tt (Po (i:=6) (ivs:=[(0,_)]) (enc:=Dw) [(cf (Zt zs) i+cf (Zt ys) i,sl)] J J K2 Nn ti48 J J J J J pI.cells J J hw) fun v_4 _=>tt (Iu (i:=70) (j:=6) (by_:=32) J J J J J J (by decide) J (Yt pI) Nn ti48 J pI J J J (by simp;omega) (by decide) J hw) fun v_5 _=>as_ J<|Zf<|Oe<|Za<|Zg<|mv J<|dt (Yx J J J ⟨by omega,by omega⟩)<|as_ J<|Zf<|Qu (Pz (q:=qI) (z:=(cf (Zt zs) i+cf (Zt ys) i,sl)) 71 5 71 J J J J J)<|Xn (i+1,_,ws ++ [(cf (Zt zs) i+cf (Zt ys) i,sl)]) ⟨by first | omega | (dsimp only<;>omega),by rw [Ko,Ay,hz],by simp [hzl]⟩ (by first | omega | (dsimp only<;>omega)) K4 K5
  ·exact Yv<|Zv<|Zv<|Ox<|Za<|Zd<|Yr (Pd 70 J J pI)<|Yr (Mq 70 71 72 J J J J)<|Zg<|mv J<|tt (Zh (n:=7) (Zcf _ _ (by rw [hz];exact Zbb fun t h=>by have:=Lu (cf (Zt zs) t) (cf (Zt ys) t);have:=hs t;have:=ht t;omega)) J J J K1 call89 (Zc 72 J J J Ze) J hw) fun g hg=>as_ J<|Zf<|Za<|Zu<|Ym (.inl J) hsc _ _ (fun a w hs=>Ni hs results43 J) J (by rw [hg,hz,show i=max (Zt zs).length (Zt ys).length by omega,padd_mk]) J (Yy 7 J J J Zk)
theorem Zn0(v u:Value)(zs ys:List (Int×SL))(hs:Sz 1000000 (Zt zs))(ht:Sz 1000000 (Zt ys))(hl:zs.length≤1000:=by omega)(hk:ys.length≤1000:=by omega):Cal prog 88 #[v,u] [pp v zs,pp u ys] true (G:=Value×List (Int×SL)) (fun r=>Zt r.2=Zf2 (Zt zs) (Zt ys)) (fun r=>r.1) (fun r=>[pp r.1 r.2]):=by
 refine Yc func88 J ntmps88 J K2 ?_
 intro w0 sc hw hsc
 simp only [Zq,Zp]
 exact Zd<|Zg<|as_ J<|Zf<|Za<|Zd<|Zg<|mv J<|mv J<|tt (Zh (n:=3) (Zn1 _ _ ht hk) J J J K1 call138 (Zc 2 J J J Ze) J hw) fun g hg=>tt (Zh (n:=4) (rp_add _ _ _ _ hs hl (by rw [hg];intro t;rw [Xt];have h1:=ht t;rw [Int.mul_neg,Int.mul_one,Zk8];exact h1) (by rw [←Zw,hg];have:=Ia (Zt ys) (-1);rw [Zw]at this;omega)) J J J K2 call43 (Zc 1 J J J (Zc 3 J J J Ze)) J hw) fun g_2 hg_2=>as_ J<|Zf<|Za<|Zu<|Ym (.inl J) hsc _ _ (fun a w hs=>Ni hs results88 J) J (by rw [hg_2,hg,psub_eq]) J (Yy 4 J J J Zk)
theorem Zey(v:Value)(zs:List (Int×SL))(hs:Sz 1000000 (Zt zs))(hl:zs.length≤1000:=by omega):Cal prog 115 #[v] [pp v zs] true (G:=Value×List (Int×SL)) (fun r=>Zt r.2=Pk (Zt zs)) (fun r=>r.1) (fun r=>[pp r.1 r.2]):=by
 refine Yc func115 J ntmps115 J K1 ?_
 intro w0 sc hw hsc
 simp only [Zq,Zp]
 have hli:=Zw zs
 refine Zd<|Zg<|as_ J<|Zf<|Za<|Zd<|Zg<|as_ J<|Zf<|Za<|Zd<|Zd<|Zg<|as_ J<|Zf<|Za<|Zo<|Yr (Na 70 2 48 Dw)<|Yr (Mt qI 71)<|Nt [(0,_)] [(0,_),(1,_)] (fun(q:Nat×Value×List (Int×SL))=>[(4,.int .i64 ((q.1:Int)+1)),(3,q.2.1)]) (fun(q:Nat×Value×List (Int×SL))=>[(70,osl 2 48 Dw q.2.1 q.2.2),(71,Zcn qI q.2.2)]) (fun(q:Nat×Value×List (Int×SL))=>(q.1≤(zs.length-1))∧(Zt q.2.2=mk q.1 (fun t=>cf (Zt zs) (t+1)*((t:Int)+1)))∧(q.2.2.length=q.1)) (fun(q:Nat×Value×List (Int×SL))=>(zs.length-1)-q.1) (0,.slice none 0 0,[]) ⟨by first | omega | (dsimp only<;>omega),rfl,rfl⟩ K3 K4 ?_
 rintro⟨i,vo,ws⟩ ⟨hi,hz,hzl⟩
 dsimp only at hi hz hzl
 simp only [CA,NA]
 have hci:=Nk zs (i+1)
 refine Zd<|Zd<|Zg<|mv J<|mv J<|dt (Yd J J (i:=1) J Yb Nn)<|dt (Xr J J J)<|Zf<|Za<|Zs J (fun h140=>?_) (fun h140=>?_)
 ·refine Zj<|Za<|Zd<|Zo<|Oi [1] [10]<|Zx (n:=3) [(0,0),(1,0),(2,0),(3,0),(4,0),(5,0),(6,1),(7,1)]<|r0' J J (stf (Yo J J) K1)<|r0' J J (stf (Yo J J) K1)<|r0' J J (stf (Yo J J) K1)<|r0' J J (stf (Xb (ii:=1) (i:=(i+1)) J J J J Yb Nn Xp) K1)<|r0' J J (stf (Xv (ii:=1) I0 J J J Yb pI) K1)<|r0' J J (stf (Yo J J) K1)<|r1' J (Zh (n:=2) (Zf1 ((i:Int)+1) ⟨by omega,by omega⟩) J J J K1 call34 Ze J hw) fun v _=>r1' J (Zh (n:=3) (Fs _ _ _ _ (by rw [hci];have:=hs (i+1);omega) (bl_i1 (by omega))) J J J K2 Zf9 (Ot 1 J J (Yz (i:=i+1)) (Zc 2 J J J Ze)) J hw) fun v_2 _=>Yk<|Zle (Ov 3 J Zi) (fun sl hsl=>?_)
  subst hsl
  exact Zx (n:=0) [(8,1),(9,1),(10,3)]<|r1' J (Po (i:=73) (ivs:=[(0,_)]) (enc:=Dw) [((zs.getD (i+1) I0).1*((i:Int)+1),sl)] J J K2 Nn ti48 J J J J J pI.cells J J hw) fun v_3 _=>r1' J (Zek 70 J J J K1 (fun hoffr=>(Al (xs:=ws) (ys:=[_]) (i:=70) (j:=73) (by_:=32) J J J J J J (by decide) J (Yt pI) Nn ti48 J pI J J J (by simp;omega) (by decide) J hw hoffr))) fun v_4 _=>r3' J (Py (Mf J J) J) fun _ _=>Yk<|Yf<|Oe<|Za<|Zg<|mv J<|dt (Yx J J J ⟨by omega,by omega⟩)<|as_ J<|Zf<|Qu (Pz (q:=qI) (z:=((zs.getD (i+1) I0).1*((i:Int)+1),sl)) 71 3 71 J J J J J)<|Xn (i+1,_,ws ++ [((zs.getD (i+1) I0).1*((i:Int)+1),sl)]) ⟨by first | omega | (dsimp only<;>omega),by rw [Ko,Ay,hz];dsimp only;rw [Nk],by simp [hzl]⟩ (by first | omega | (dsimp only<;>omega)) K3 K4
 ·exact Yv<|Zv<|Zv<|Ox<|Za<|Zd<|Yr (Pd 70 J J pI)<|Yr (Mq 70 71 72 J J J J)<|Zg<|mv J<|as_ J<|Zf<|Za<|Zu<|Ym (.inl J) hsc (_,ws) _ (fun a w hs=>Ni hs results115 J) J (by rw [hz,show i=(Zt zs).length-1 by omega]<;>rfl) J (Yy 72 J J J Zk)
theorem Zh4(v:Value)(x:Int)(j:Int)(n:Nat)(hx:bl x.natAbs≤1000000)(hj:j=(n:Int):=by omega)(hn:n≤100:=by omega):Cal prog 165 #[.agg #[.bool (decide (x<0)),v],.int .i64 j] [d9p v x.natAbs] true (G:=Value) (fun r=>True) (fun r=> .agg #[.bool (decide (x^n<0)),r]) (fun r=>[d9p r (x^n).natAbs]):=by
 refine Yc func165 J ntmps165 J K1 ?_
 intro w0 sc hw hsc
 simp only [Zq,Zp]
 have hpb:=fun k=>Am hx k
 refine Zd<|Zg<|tt (Yu (i:=2) J J J J J hw) fun b _=>tt (Zn (i:=3) J J zeroValue48 J J hw) fun b_2 _=>Zf<|Za<|Zd<|Zg<|tt (Zh (n:=98) (Zf1 1 ⟨by omega,by omega⟩) J J J K1 call34 Ze J hw) fun v _=>tt (Zn (i:=97) J J zeroValue48 J J hw) fun b_3 _=>tt (Zm (i:=97) J J J J J (by decide) J Xp J J ⟨Zb J,Zl (i:=98) J Zi,trivial⟩ J hw trivial) fun _ _=>Zf<|Za<|Zd<|Zd<|Zg<|as_ J<|Zf<|Za<|Zo<|Nt [(1,_),(2,_),(4,_),(5,_)] [(0,_),(1,_),(2,_),(3,_)] (fun(q:Nat×Value)=>[(6,.int .i64 (q.1:Int))]) (fun(q:Nat×Value)=>[(97,box b_3 48 #[.bool (decide (x^q.1<0)),q.2]),(98,d9p q.2 (x^q.1).natAbs)]) (fun(q:Nat×Value)=>q.1≤n) (fun(q:Nat×Value)=>n-q.1) (0,_) (by first | omega | (dsimp only<;>omega)) K5 ⟨by rw [Int.pow_zero];rfl,by rw [Int.pow_zero];rfl,rfl,rfl,rfl,rfl,trivial⟩ ?_
 rintro⟨i,vs⟩ hi
 dsimp only at hi
 simp only [CA,NA]
 have hp1:=hpb i
 have hp2:i*1000000≤100*1000000:=Nat.mul_le_mul_right _ (by omega)
 refine Zd<|Zd<|Zg<|mv J<|mv J<|dt (Xr J J J)<|Zf<|Za<|Zs J (fun h149=>?_) (fun h149=>?_)
 ·exact Zj<|Za<|Zd<|Zo<|Zg<|dt (Zy (i:=97) J J J Nm Xp J J)<|dt (Zy (i:=2) J J J Nm Xp J J)<|tt (Zh (n:=4) (Fs _ _ _ _) J J J K2 Zf9 (Zc 98 J J J (Zc 1 J J J Ze)) J hw) fun v_2 _=>tt (Zm (i:=97) J J J J J (by decide) J Xp J J ⟨Zb J,Zl (i:=4) J Zi,trivial⟩ J hw trivial) fun _ _=>Zf<|Oe<|Za<|Zg<|mv J<|dt (Yx J J J ⟨by omega,by omega⟩)<|as_ J<|Zf<|Qu (Oa 4 98 J J J)<|Xn (i+1,v_2) (by first | omega | (dsimp only<;>omega)) (by first | omega | (dsimp only<;>omega)) K5 ⟨by rw [Int.pow_succ];rfl,by rw [Int.pow_succ];rfl,rfl,rfl,rfl,rfl,trivial⟩
 ·refine Yv<|Zv<|Zv<|Ox<|Za<|Zd ?_
  obtain rfl:i=n:=by omega
  exact Zg<|dt (Zy (i:=97) J J J Nm Xp J J)<|tt (Zm (i:=3) J J J J J (by decide) J Xp J J ⟨Zb J,Zl (i:=98) J Zi,trivial⟩ J hw trivial) fun _ _=>Zf<|Za<|Zu<|Ym (.inl J) hsc _ _ (fun a w hs=>Ni hs results165 (Yn (i:=3) J J Nm Xp J)) J trivial J (Yy 98 J J J Zk)
theorem Zr3(v w u:Value)(zs:List (Int×SL))(x y:Int)(hs:Sz 1000000 (Zt zs))(hx:bl x.natAbs≤1000000)(hy:bl y.natAbs≤1000000)(hl:zs.length≤30:=by omega):Cal prog 121 #[v,.agg #[.bool (decide (x<0)),w,.bool (decide (y<0)),u]] [pp v zs,d9p w x.natAbs,d9p u y.natAbs] true (G:=Value) (fun r=>True) (fun r=> .agg #[.bool (decide (pev (Zt zs) x y<0)),r]) (fun r=>[d9p r (pev (Zt zs) x y).natAbs]):=by
 refine Yc func121 J ntmps121 J K3 ?_
 intro w0 sc hw hsc
 simp only [Zq,Zp]
 have hli:=Zw zs
 have hpx:=fun k=>Am hx k
 have hpy:=fun k=>Am hy k
 have htb:=ev_tb hs hpx hpy (by omega:(Zt zs).length≤30)
 have hsb:=fun i (h:i≤30)=>Zm6 (n:=i) (fun t _=>htb t) (by omega)
 refine Zd<|Zg<|tt (Yu (i:=4) J J J J J hw) fun b _=>tt (Zn (i:=5) J J zeroValue48 J J hw) fun b_2 _=>Zf<|Za<|Zd<|Zg<|dt (Pv (ivs:=[]) J trivial (fun a w hs=>b48_))<|tt (Zn (i:=97) J J zeroValue48 J J hw) fun b_3 _=>tt (Zm (i:=97) J J J J J (by decide) J Xp J J ⟨Zb J,Zb J,trivial⟩ J hw trivial) fun _ _=>Zf<|Za<|Zd<|Zd<|Zg<|as_ J<|Zf<|Za<|Zo<|Yr (Na 98 1 3 Cc)<|Yr (Pd 98 J J pN)<|Nt [(0,_),(3,_),(4,_),(5,_)] [(0,_),(1,_),(2,_),(3,_),(4,_),(5,_)] (fun(q:Nat×Value)=>[(6,.int .i64 (q.1:Int))]) (fun(q:Nat×Value)=>[(97,box b_3 48 #[.bool (decide (Qr (fun t=>cf (Zt zs) t*(x^t*y^((Zt zs).length-1-t))) q.1<0)),q.2]),(98,d9p q.2 (Qr (fun t=>cf (Zt zs) t*(x^t*y^((Zt zs).length-1-t))) q.1).natAbs)]) (fun(q:Nat×Value)=>q.1≤zs.length) (fun(q:Nat×Value)=>zs.length-q.1) (0,.slice none 0 0) (by first | omega | (dsimp only<;>omega)) K5 K8 ?_
 rintro⟨i,vs⟩ hi
 dsimp only at hi
 simp only [CA,NA]
 have hci:=Nk zs i
 have h1:=hpx i
 have h2:=hpy ((Zt zs).length-1-i)
 have h3:i*1000000≤30*1000000:=Nat.mul_le_mul_right _ (by omega)
 have h4:((Zt zs).length-1-i)*1000000≤30*1000000:=Nat.mul_le_mul_right _ (by omega)
 have h5:=Xm (x^i) (y^((Zt zs).length-1-i))
 have h6:=hs i
 have h7:=hsb i (by omega)
 refine Zd<|Zd<|Zg<|mv J<|mv J<|dt (Yd J J (i:=1) J Yb Nn)<|dt (Xr J J J)<|Zf<|Za<|Zs J (fun h158=>?_) (fun h158=>?_)
 ·refine Zj<|Za<|Zd<|Zo<|Qi (fun _=>False) [(0,0),(1,0),(2,0),(3,0),(4,0),(5,0),(6,0),(7,0),(9,0),(10,0),(11,0),(12,0),(13,0),(14,0),(15,0),(8,1),(16,1),(17,1),(18,1),(19,1),(20,3)] ?_ ?_
  ·kernel_rfl
  refine r0' J J (st0 (Zy (i:=97) J J J Nm Xp J J))<|r0' J J (st0 (Yo J J))<|r0' J J (st0 (Yo J J))<|r0' J J (st0 (Xb (ii:=1) J J J J Yb Nn Xp J (by first | omega | (simp only [List.length_set];omega))))<|r0' J J (st0 (Xv (ii:=1) I0 J J J Yb pI (by first | omega | (simp only [List.length_set];omega))))<|r0' J J (st0 (Xs J J Zdm J Xp J J))<|r0' J J (st0 (Zy (i:=4) J J J Nm Xp J J))<|r0' J J (st0 (Yo J J))<|r0' J J (st0 (Xs J J Zdm J Xp J J))<|r0' J J (st0 (Zy (i:=4) J J J Nm Xp J J))<|r0' J J (st0 (Yo J J))<|r0' J J (st0 (Yd J J (i:=1) J Yb Nn))<|r0' J J (st0 (Qd J J J ⟨by omega,by omega⟩))<|r0' J J (st0 (Yo J J))<|r0' J J (st0 (Qd J J J ⟨by omega,by omega⟩))<|r1' J (Zh (n:=6) (Zh4 _ _ _ i hx J) J J J K2 call165 (Zc 2 J J J Ze) J hw) fun v _=>r1' J (Zh (n:=7) (Zh4 _ _ _ ((Zt zs).length-1-i) hy) J J J K2 call165 (Zc 3 J J J Ze) J hw) fun v_2 _=>r1' J (Zh (n:=8) (Fs _ _ _ _ (by first | omega | (rw [hci];omega))) J J J K2 Zf9 (Zc 6 J J J (Zc 7 J J J Ze)) J hw) fun v_3 _=>r1' J (Zh (n:=9) (Fs _ _ _ _ (by first | omega | (rw [hci];omega))) J J J K2 Zf9 (Ot 1 J J (Yz) (Zc 8 J J J Ze)) J hw) (fun v_4 _=>?_)
  exact r1' J (Zh (n:=10) (Zp9 _ _ _ _ (by omega) (by rw [hci];have:=htb i;omega)) J J J K2 call37 (Zc 98 J J J (Zc 9 J J J Ze)) J hw) fun v_5 _=>r3' J (Zm (i:=97) J J J J J (by decide) J Xp J J ⟨Zb J,Zl (i:=10) J Zi,trivial⟩ J hw trivial) fun _ _=>Of<|Oe<|Za<|Zg<|mv J<|dt (Yx J J J ⟨by omega,by omega⟩)<|as_ J<|Zf<|Qu (Oa 10 98 J J J)<|Xn (i+1,v_5) (by first | omega | (dsimp only<;>omega)) (by first | omega | (dsimp only<;>omega)) K5 ⟨by rw [hci,Xx];rfl,by rw [hci,Xx];rfl,rfl,rfl,rfl,rfl,rfl,rfl,trivial⟩
 ·refine Yv<|Zv<|Zv<|Ox<|Za<|Zd ?_
  obtain rfl:i=zs.length:=by omega
  exact Zg<|dt (Zy (i:=97) J J J Nm Xp J J)<|tt (Zm (i:=5) J J J J J (by decide) J Xp J J ⟨Zb J,Zl (i:=98) J Zi,trivial⟩ J hw trivial) fun _ _=>Zf<|Za<|Zu<|Ym (.inl J) hsc _ _ (fun a w hs=>Ni hs results121 (Yn (i:=5) J J Nm Xp J)) (by unfold pev;rw [hli]<;>rfl) trivial J (Yi 98 J J J (by unfold pev;rw [hli]<;>rfl) Zk)
theorem Zp4(v:Value)(zs:List (Int×SL))(hs:Sz 1000000 (Zt zs))(hl:zs.length≤1000):Cal prog 116 #[v] [pp v zs] true (G:=Value) (fun r=>True) (fun r=> .agg #[.bool (decide (Qf (Zt zs)<0)),r]) (fun r=>[d9p r (Qf (Zt zs)).natAbs]):=by
 refine Yc func116 J ntmps116 J K1 ?_
 intro w0 sc hw hsc
 simp only [Zq,Zp]
 have hli:=Zw zs
 have hcb:∀k,bl (Qf ((Zt zs).take k)).natAbs≤1000000:=fun k=>Zdy _ (hs.take k)
 refine Zd<|Zg<|tt (Zn (i:=2) J J zeroValue48 J J hw) fun b _=>Zf<|Za<|Zd<|Zg<|dt (Pv (ivs:=[]) J trivial (fun a w hs=>b48_))<|tt (Zn (i:=97) J J zeroValue48 J J hw) fun b_2 _=>tt (Zm (i:=97) J J J J J (by decide) J Xp J J ⟨Zb J,Zb J,trivial⟩ J hw trivial) fun _ _=>Zf<|Za<|Zd<|Zd<|Zg<|as_ J<|Zf<|Za<|Zo<|Yr (Na 98 1 3 Cc)<|Yr (Pd 98 J J pN)<|Nt [(0,_),(2,_),(3,_)] [(0,_),(1,_),(2,_)] (fun(q:Nat×Value)=>[(4,.int .i64 (q.1:Int))]) (fun(q:Nat×Value)=>[(97,box b_2 48 #[.bool (decide (Qf ((Zt zs).take q.1)<0)),q.2]),(98,d9p q.2 (Qf ((Zt zs).take q.1)).natAbs)]) (fun(q:Nat×Value)=>q.1≤zs.length) (fun(q:Nat×Value)=>zs.length-q.1) (0,.slice none 0 0) (by first | omega | (dsimp only<;>omega)) K4 K5 ?_
 rintro⟨i,vs⟩ hi
 dsimp only at hi
 simp only [CA,NA]
 have hci:=Nk zs i
 have hgc:=fun h=>Mw (p:=Zt zs) (k:=i) h
 have h1:=hcb i
 have h2:=hs i
 refine Zd<|Zd<|Zg<|mv J<|mv J<|dt (Yd J J (i:=1) J Yb Nn)<|dt (Xr J J J)<|Zf<|Za<|Zs J (fun h186=>?_) (fun h186=>?_)
 ·refine Zj<|Za<|Zd<|Zo<|Qi (fun _=>False) [(0,0),(1,0),(2,0),(3,0),(4,0),(5,1),(6,3)] ?_ ?_
  ·kernel_rfl
  exact r0' J J (st0 (Zy (i:=97) J J J Nm Xp J J))<|r0' J J (st0 (Yo J J))<|r0' J J (st0 (Yo J J))<|r0' J J (st0 (Xb (ii:=1) J J J J Yb Nn Xp J (by first | omega | (simp only [List.length_set];omega))))<|r0' J J (st0 (Xv (ii:=1) I0 J J J Yb pI (by first | omega | (simp only [List.length_set];omega))))<|r1' J (Zh (n:=3) (r_gcd _ _ _ _ (by rw [hci];omega)) J J J K2 call71 (Zc 98 J J J (Ot 1 J J (Yz) Ze)) J hw) fun v _=>r3' J (Zm (i:=97) J J J J J (by decide) J Xp J J ⟨Zb J,Zl (i:=3) J Zi,trivial⟩ J hw trivial) fun _ _=>Of<|Oe<|Za<|Zg<|mv J<|dt (Yx J J J ⟨by omega,by omega⟩)<|as_ J<|Zf<|Qu (Oa 3 98 J J J)<|Xn (i+1,v) (by first | omega | (dsimp only<;>omega)) (by first | omega | (dsimp only<;>omega)) K4 ⟨by rw [hgc (by omega),show(Zt zs).getD i 0=(zs.getD i I0).1 from hci.symm];rfl,by rw [hgc (by omega),show(Zt zs).getD i 0=(zs.getD i I0).1 from hci.symm];rfl,rfl,rfl,rfl,trivial⟩
 ·refine Yv<|Zv<|Zv<|Ox<|Za<|Zd ?_
  obtain rfl:i=zs.length:=by omega
  rw [List.take_of_length_le (by omega:(Zt zs).length≤zs.length)]
  exact Zg<|dt (Zy (i:=97) J J J Nm Xp J J)<|tt (Zm (i:=2) J J J J J (by decide) J Xp J J ⟨Zb J,Zl (i:=98) J Zi,trivial⟩ J hw trivial) fun _ _=>Zf<|Za<|Zu<|Ym (.inl J) hsc _ _ (fun a w hs=>Ni hs results116 (Yn (i:=2) J J Nm Xp J)) J trivial J (Yy 98 J J J Zk)
theorem Kz(v:Value)(zs:List (Int×SL))(hs:Sz 1000000 (Zt zs))(hc:zs.length≠0→Qf (Zt zs)≠0)(hl:zs.length≤1000:=by omega):Cal prog 57 #[v] [pp v zs] true (G:=Value×List (Int×SL)) (fun r=>Zt r.2=Xc (Zt zs)) (fun r=>r.1) (fun r=>[pp r.1 r.2]):=by
 refine Yc func57 J ntmps57 J K1 ?_
 intro w0 sc hw hsc
 simp only [Zq,Zp]
 have hli:=Zw zs
 have hcb:bl (Qf (Zt zs)).natAbs≤1000000:=Zdy _ hs
 refine Zd<|Zg<|as_ J<|Zf<|Za<|Zd<|Zg<|mv J<|tt (Zh (n:=2) (Zp4 _ _ hs hl) J J J K1 call116 (Zc 1 J J J Ze) J hw) fun v _=>tt (Zn (i:=3) J J zeroValue48 J J hw) fun b _=>tt (Zm (i:=3) J J J J J (by decide) J Xp J J ⟨Zb J,Zl (i:=2) J Zi,trivial⟩ J hw trivial) fun _ _=>Zf<|Za<|Zd<|Zg<|as_ J<|Zf<|Za<|Zd<|Zd<|Zg<|as_ J<|Zf<|Za<|Zo<|Yr (Na 70 2 48 Dw)<|Yr (Mt qI 71)<|Nt [(0,_),(3,_)] [(0,_),(1,_),(2,_),(3,_)] (fun(q:Nat×Value×List (Int×SL))=>[(5,.int .i64 (q.1:Int)),(4,q.2.1)]) (fun(q:Nat×Value×List (Int×SL))=>[(70,osl 2 48 Dw q.2.1 q.2.2),(71,Zcn qI q.2.2)]) (fun(q:Nat×Value×List (Int×SL))=>(q.1≤zs.length)∧(Zt q.2.2=mk q.1 (fun t=>cf (Zt zs) t/Qf (Zt zs)))∧(q.2.2.length=q.1)) (fun(q:Nat×Value×List (Int×SL))=>zs.length-q.1) (0,.slice none 0 0,[]) ⟨by first | omega | (dsimp only<;>omega),rfl,rfl⟩ K4 K6 ?_
 rintro⟨i,vo,ws⟩ ⟨hi,hz,hzl⟩
 dsimp only at hi hz hzl
 simp only [CA,NA]
 have hci:=Nk zs i
 refine Zd<|Zd<|Zg<|mv J<|mv J<|dt (Yd J J (i:=1) J Yb Nn)<|dt (Xr J J J)<|Zf<|Za<|Zs J (fun h196=>?_) (fun h196=>?_)
 ·refine Zj<|Za<|Zd<|Zo<|Ez [(0,_),(3,_),(4,_),(5,_)] [(0,_),(70,_),(71,_),(1,_),(2,_),(3,_)] (fun(q:Value×Nat)=>[(6,.pointer (some ⟨q.2,0,none⟩))]) (fun(q:Value×Nat)=>[(83,d9p q.1 ((zs.getD i I0).1/Qf (Zt zs)).natAbs),(97,box q.2 48 #[.bool (decide ((zs.getD i I0).1/Qf (Zt zs)<0)),q.1])]) (fun(q:Value×Nat)=>True) K4 K6 ?_ ?_
  ·refine Oi [1,3] [12]<|Zx (n:=8) [(0,0),(1,0),(2,0),(3,0),(4,0)]<|r0' J J (stf (Yo J J) K2)<|r0' J J (stf (Yo J J) K2)<|r0' J J (stf (Xb (ii:=1) J J J J Yb Nn Xp J (by first | omega | (simp only [List.length_set];omega))) K2)<|r0' J J (stf (Xv (ii:=1) I0 J J J Yb pI (by first | omega | (simp only [List.length_set];omega))) K2)<|r0' J J (stf (Zy (i:=3) J J J Nm Xp J J) K2)<|Yk<|Ba (n:=7) 5 9 10 ?_ ?_ ?_
   ·refine Yj J (Zh (n:=83) (Gp _ _ _ _ (by rw [hci];have:=hs i;omega) (hc (by omega))) J J J K2 Zfp (Ot 1 J J (Yz) (Zc 2 J J J Ze)) J hw) fun g _=>Zx (n:=4) [(6,0),(7,0),(8,0)]<|r0' J J (stf (Yo J J) K2)<|r0' J J (stf (Yh J J J) K2)<|r0' J J (stf (Yh J J J) K2)<|Yk<|Pb (n:=3) 9 10 ?_ ?_
    ·exact Yj J (Zr (i:=97) J J zeroValue48 J J hw K2) fun b_2 ho=>Zx (n:=0) [(10,1),(11,1),(12,3)]<|r1' J (Zr (i:=99) J J zeroValue48 J J hw K2) fun b_3 ho2=>r1' J (Zm (i:=97) J J J J J (by decide) J Xp J J ⟨Zb J,Zl (i:=83) J Zi,trivial⟩ J hw ho) fun _ _=>r3' J (Zm (i:=99) J J J J J (by decide) J Xp J J ⟨Zb J,Zl (i:=84) J Zi,trivial⟩ J hw trivial) fun _ _=>Yk<|Yf<|Qt (_,_) trivial K5 K8
    ·exact Yj J (Zr (i:=99) J J zeroValue48 J J hw K2) fun b_4 ho3=>Zx (n:=0) [(9,1),(11,1),(12,3)]<|r1' J (Zr (i:=97) J J zeroValue48 J J hw K2) fun b_5 ho4=>r1' J (Zm (i:=97) J J J J J (by decide) J Xp J J ⟨Zb J,Zl (i:=83) J Zi,trivial⟩ J hw ho4) fun _ _=>r3' J (Zm (i:=99) J J J J J (by decide) J Xp J J ⟨Zb J,Zl (i:=84) J Zi,trivial⟩ J hw trivial) fun _ _=>Yk<|Yf<|Qt (_,_) trivial K5 K8
   ·refine Yj J (Zr (i:=97) J J zeroValue48 J J hw K2) fun b_6 ho5=>Pb (n:=6) 5 10 ?_ ?_
    ·exact Yj J (Zh (n:=83) (Gp _ _ _ _ (by rw [hci];have:=hs i;omega) (hc (by omega))) J J J K2 Zfp (Ot 1 J J (Yz) (Zc 2 J J J Ze)) J hw) fun g_2 _=>Zx (n:=0) [(6,0),(7,0),(8,0),(10,1),(11,1),(12,3)]<|r0' J J (stf (Yo J J) K2)<|r0' J J (stf (Yh J J J) K2)<|r0' J J (stf (Yh J J J) K2)<|r1' J (Zr (i:=99) J J zeroValue48 J J hw K2) fun b_7 ho6=>r1' J (Zm (i:=97) J J J J J (by decide) J Xp J J ⟨Zb J,Zl (i:=83) J Zi,trivial⟩ J hw ho5) fun _ _=>r3' J (Zm (i:=99) J J J J J (by decide) J Xp J J ⟨Zb J,Zl (i:=84) J Zi,trivial⟩ J hw trivial) fun _ _=>Yk<|Yf<|Qt (_,_) trivial K5 K8
    ·exact Yj J (Zr (i:=99) J J zeroValue48 J J hw K2) fun b_8 ho7=>Zx (n:=0) [(5,1),(6,0),(7,0),(8,0),(11,1),(12,3)]<|r1' J (Zh (n:=83) (Gp _ _ _ _ (by rw [hci];have:=hs i;omega) (hc (by omega))) J J J K2 Zfp (Ot 1 J J (Yz) (Zc 2 J J J Ze)) J hw) fun g_3 _=>r0' J J (stf (Yo J J) K2)<|r0' J J (stf (Yh J J J) K2)<|r0' J J (stf (Yh J J J) K2)<|r1' J (Zm (i:=97) J J J J J (by decide) J Xp J J ⟨Zb J,Zl (i:=83) J Zi,trivial⟩ J hw ho5) fun _ _=>r3' J (Zm (i:=99) J J J J J (by decide) J Xp J J ⟨Zb J,Zl (i:=84) J Zi,trivial⟩ J hw trivial) fun _ _=>Yk<|Yf<|Qt (_,_) trivial K5 K8
   ·refine Yj J (Zr (i:=99) J J zeroValue48 J J hw K2) fun b_9 ho8=>Pb (n:=6) 5 9 ?_ ?_
    ·exact Yj J (Zh (n:=83) (Gp _ _ _ _ (by rw [hci];have:=hs i;omega) (hc (by omega))) J J J K2 Zfp (Ot 1 J J (Yz) (Zc 2 J J J Ze)) J hw) fun g_4 _=>Zx (n:=0) [(6,0),(7,0),(8,0),(9,1),(11,1),(12,3)]<|r0' J J (stf (Yo J J) K2)<|r0' J J (stf (Yh J J J) K2)<|r0' J J (stf (Yh J J J) K2)<|r1' J (Zr (i:=97) J J zeroValue48 J J hw K2) fun b_10 ho9=>r1' J (Zm (i:=97) J J J J J (by decide) J Xp J J ⟨Zb J,Zl (i:=83) J Zi,trivial⟩ J hw ho9) fun _ _=>r3' J (Zm (i:=99) J J J J J (by decide) J Xp J J ⟨Zb J,Zl (i:=84) J Zi,trivial⟩ J hw trivial) fun _ _=>Yk<|Yf<|Qt (_,_) trivial K5 K8
    ·exact Yj J (Zr (i:=97) J J zeroValue48 J J hw K2) fun b_11 ho10=>Zx (n:=0) [(5,1),(6,0),(7,0),(8,0),(11,1),(12,3)]<|r1' J (Zh (n:=83) (Gp _ _ _ _ (by rw [hci];have:=hs i;omega) (hc (by omega))) J J J K2 Zfp (Ot 1 J J (Yz) (Zc 2 J J J Ze)) J hw) fun g_5 _=>r0' J J (stf (Yo J J) K2)<|r0' J J (stf (Yh J J J) K2)<|r0' J J (stf (Yh J J J) K2)<|r1' J (Zm (i:=97) J J J J J (by decide) J Xp J J ⟨Zb J,Zl (i:=83) J Zi,trivial⟩ J hw ho10) fun _ _=>r3' J (Zm (i:=99) J J J J J (by decide) J Xp J J ⟨Zb J,Zl (i:=84) J Zi,trivial⟩ J hw trivial) fun _ _=>Yk<|Yf<|Qt (_,_) trivial K5 K8
  ·rintro⟨qv,b6⟩ -
   simp only [CA,NA]
   refine e_ex (Ov 83 J Zi) (fun sl hsl=>?_)
   subst hsl
   exact Zg<|mv J<|dt (Zy (i:=97) J J J Nm Xp J J)<|tt (Po (i:=4) (ivs:=[(0,_)]) (enc:=Dw) [((zs.getD i I0).1/Qf (Zt zs),sl)] J J K2 Nn ti48 J J J J J pI.cells J J hw) fun v_2 _=>tt (Iu (i:=70) (j:=4) (by_:=32) J J J J J J (by decide) J (Yt pI) Nn ti48 J pI J J J (by simp;omega) (by decide) J hw) fun v_3 _=>as_ J<|Zf<|Oe<|Za<|Zg<|mv J<|dt (Yx J J J ⟨by omega,by omega⟩)<|as_ J<|Zf<|Qu (Pz (q:=qI) (z:=((zs.getD i I0).1/Qf (Zt zs),sl)) 71 83 71 J J J J J)<|Xn (i+1,_,ws ++ [((zs.getD i I0).1/Qf (Zt zs),sl)]) ⟨by first | omega | (dsimp only<;>omega),by rw [Ko,Ay,hz];dsimp only;rw [Nk],by simp [hzl]⟩ (by first | omega | (dsimp only<;>omega)) K4 K6
 ·exact Yv<|Zv<|Zv<|Ox<|Za<|Zd<|Yr (Pd 70 J J pI)<|Yr (Mq 70 71 72 J J J J)<|Zg<|mv J<|as_ J<|Zf<|Za<|Zu<|Ym (.inl J) hsc (_,ws) _ (fun a w hs=>Ni hs results57 J) J (by rw [hz,show i=(Zt zs).length by omega,Zom (Zt zs) (· / Qf (Zt zs))]<;>rfl) J (Yy 72 J J J Zk)
theorem rp_mul(v u:Value)(zs ys:List (Int×SL))(hs:Sz 1000000 (Zt zs))(ht:Sz 1000000 (Zt ys))(hk:ys.length≤60)(hl:zs.length≤60:=by omega):Cal prog 42 #[v,u] [pp v zs,pp u ys] true (G:=Value×List (Int×SL)) (fun r=>Zt r.2=Mg (Zt zs) (Zt ys)) (fun r=>r.1) (fun r=>[pp r.1 r.2]):=by
 refine Yc func42 J ntmps42 J K2 ?_
 intro w0 sc hw hsc
 simp only [Zq,Zp]
 have hli:=Zw zs
 have hli2:=Zw ys
 have htb:∀i k,bl (cf (Zt zs) k*cf (Zt ys) (i-k)).natAbs≤2000000:=fun i k=>by have:=Xm (cf (Zt zs) k) (cf (Zt ys) (i-k));have:=hs k;have:=ht (i-k);omega
 have hsb:∀i n,n≤1000→bl (Qr (fun k=>cf (Zt zs) k*cf (Zt ys) (i-k)) n).natAbs≤2000010:=fun i n hn=>Zm6 (fun t _=>htb i t) (by omega)
 refine Zd<|Zg<|as_ J<|Zf<|Za<|Zd<|Zg<|as_ J<|Zf<|Za<|Zd<|Zd<|Zg<|as_ J<|Zf<|Za<|Zo<|Yr (Na 70 2 48 Dw)<|Yr (Mt qI 71)<|Nt [(0,_),(1,_)] [(0,_),(1,_),(2,_)] (fun(q:Nat×Value×List (Int×SL))=>[(6,.int .i64 (q.1:Int)),(5,q.2.1)]) (fun(q:Nat×Value×List (Int×SL))=>[(70,osl 2 48 Dw q.2.1 q.2.2),(71,Zcn qI q.2.2)]) (fun(q:Nat×Value×List (Int×SL))=>(q.1≤(zs.length+ys.length-1))∧(Zt q.2.2=mk q.1 (fun t=>Qr (fun a9=>cf (Zt zs) a9*cf (Zt ys) (t-a9)) (t+1)))∧(q.2.2.length=q.1)) (fun(q:Nat×Value×List (Int×SL))=>(zs.length+ys.length-1)-q.1) (0,.slice none 0 0,[]) ⟨by first | omega | (dsimp only<;>omega),rfl,rfl⟩ K4 K5 ?_
 rintro⟨i,vo,ws⟩ ⟨hi,hz,hzl⟩
 dsimp only at hi hz hzl
 simp only [CA,NA]
 refine Zd<|Zd<|Zg<|mv J<|mv J<|dt (Yd J J (i:=1) J Yb Nn)<|mv J<|dt (Yd J J (i:=2) J Yb Nn)<|dt (Yx J J J ⟨by omega,by omega⟩)<|dt (Qd J J J ⟨by omega,by omega⟩)<|dt (Xr J J J)<|Zf<|Za<|Zs J (fun h124=>?_) (fun h124=>?_)
 ·refine Zj<|Za<|Zd<|Zo<|Zd<|Zg<|dt (Pv (ivs:=[]) J trivial (fun a w hs=>b48_))<|tt (Zn (i:=97) J J zeroValue48 J J hw) fun b _=>tt (Zm (i:=97) J J J J J (by decide) J Xp J J ⟨Zb J,Zb J,trivial⟩ J hw trivial) fun _ _=>Zf<|Za<|Zd<|Zd<|Zg<|as_ J<|Zf<|Za<|Zo<|Yr (Na 98 1 3 Cc)<|Yr (Pd 98 J J pN)<|Nt [(0,_),(1,_),(5,_),(6,_),(7,_)] [(0,_),(70,_),(71,_),(1,_),(2,_)] (fun(q:Nat×Value)=>[(8,.int .i64 (q.1:Int))]) (fun(q:Nat×Value)=>[(97,box b 48 #[.bool (decide (Qr (fun a9=>cf (Zt zs) a9*cf (Zt ys) (i-a9)) q.1<0)),q.2]),(98,d9p q.2 (Qr (fun a9=>cf (Zt zs) a9*cf (Zt ys) (i-a9)) q.1).natAbs)]) (fun(q:Nat×Value)=>q.1≤i+1) (fun(q:Nat×Value)=>i+1-q.1) (0,.slice none 0 0) (by first | omega | (dsimp only<;>omega)) K6 K7 ?_
  rintro⟨k,vs⟩ hk1
  dsimp only at hk1
  simp only [CA,NA]
  have h1:=hsb i k
  have h2:=htb i k
  have h3:=hs k
  have h4:=ht (i-k)
  refine Zd<|Zd<|Zg<|mv J<|mv J<|dt (Cf J J J)<|Zf<|Za<|Zs J (fun h126=>?_) (fun h126=>?_)
  ·refine Zj<|Za<|Zd<|Zo<|Qi (fun _=>False) [(0,0),(1,0),(2,0),(4,0),(5,0),(6,0),(7,0),(3,1),(8,1),(9,1),(10,1),(11,3)] ?_ ?_
   ·kernel_rfl
   exact r0' J J (st0 (Zy (i:=97) J J J Nm Xp J J))<|r0' J J (st0 (Yo J J))<|r0' J J (st0 (Yo J J))<|r0' J J (st0 (Yo J J))<|r0' J J (st0 (Yo J J))<|r0' J J (st0 (Yo J J))<|r0' J J (st0 (Qd J J J ⟨by omega,by omega⟩))<|r1' J (Zh (n:=3) (Zh5 _ _ _ k J) J J J K2 call101 (Zc 1 J J J Ze) J hw) fun v _=>r1' J (Zh (n:=4) (Zh5 _ _ _ (i-k)) J J J K2 call101 (Zc 2 J J J Ze) J hw) fun v_2 _=>r1' J (Zh (n:=5) (Fs _ _ _ _) J J J K2 Zf9 (Zc 3 J J J (Zc 4 J J J Ze)) J hw) fun v_3 _=>r1' J (Zh (n:=6) (Zp9 _ _ _ _) J J J K2 call37 (Zc 98 J J J (Zc 5 J J J Ze)) J hw) fun v_4 _=>r3' J (Zm (i:=97) J J J J J (by decide) J Xp J J ⟨Zb J,Zl (i:=6) J Zi,trivial⟩ J hw trivial) fun _ _=>Of<|Oe<|Za<|Zg<|mv J<|dt (Yx J J J ⟨by omega,by omega⟩)<|as_ J<|Zf<|Qu (Oa 6 98 J J J)<|Xn (k+1,v_4) (by first | omega | (dsimp only<;>omega)) (by first | omega | (dsimp only<;>omega)) K6 ⟨by rw [Xx];rfl,by rw [Xx];rfl,rfl,rfl,rfl,rfl,rfl,trivial⟩
  ·refine Yv<|Zv<|Zv<|Ox<|Za ?_
   obtain rfl:k=i+1:=by omega
   refine e_ex (Ov 98 J Zi) (fun sl hsl=>?_)
   subst hsl
   exact Zg<|mv J<|dt (Zy (i:=97) J J J Nm Xp J J)<|tt (Po (i:=7) (ivs:=[(0,_)]) (enc:=Dw) [(Qr (fun a9=>cf (Zt zs) a9*cf (Zt ys) (i-a9)) (i+1),sl)] J J K2 Nn ti48 J J J J J pI.cells J J hw) fun v_5 _=>tt (Iu (i:=70) (j:=7) (by_:=32) J J J J J J (by decide) J (Yt pI) Nn ti48 J pI J J J (by simp;omega) (by decide) J hw) fun v_6 _=>as_ J<|Zf<|Oe<|Za<|Zg<|mv J<|dt (Yx J J J ⟨by omega,by omega⟩)<|as_ J<|Zf<|Qu (Pz (q:=qI) (z:=(Qr (fun a9=>cf (Zt zs) a9*cf (Zt ys) (i-a9)) (i+1),sl)) 71 98 71 J J J J J)<|Xn (i+1,_,ws ++ [(Qr (fun a9=>cf (Zt zs) a9*cf (Zt ys) (i-a9)) (i+1),sl)]) ⟨by first | omega | (dsimp only<;>omega),by rw [Ko,Ay,hz],by simp [hzl]⟩ (by first | omega | (dsimp only<;>omega)) K4 K5
 ·refine Yv<|Zv<|Zv<|Ox<|Za<|Zd<|Zd<|Zg<|mv J<|dt (Yd J J (i:=1) J Yb Nn)<|dt (Pg J J J)<|mv J<|Qm (d:=43) J (fun s131=>?_) (fun s131=>?_)
  ·refine gsk J J J<|gsk J J J<|gsk J J J<|dt (Ys J J J)<|Zf<|Za<|Pf J<|Zd<|Zg<|as_ J<|Zf<|Za<|Zu<|Xa<|Qu (Ek 62) ?_
   have hp0:Mg (Zt zs) (Zt ys)=[]:=Bl (by first | (left;omega) | (right;omega))
   exact Ym (.inl J) hsc (.slice none 0 0,[]) _ (fun a w hs=>Ni hs results42 J) J (by rw [hp0]<;>rfl) J (Yy 62 J J J Zk)
  ·refine gdt (Yo J J) J J<|gdt (Yd J J (i:=2) J Yb Nn) J J<|gdt (Pg J J J) J J<|dt (Zz J J J)<|Zf<|Za<|Zs J (fun h131=>?_) (fun h131=>?_)
   ·refine Zd<|Zg<|as_ J<|Zf<|Za<|Zu<|Xa<|Qu (Ek 62) ?_
    have hp0:Mg (Zt zs) (Zt ys)=[]:=Bl (by first | (left;omega) | (right;omega))
    exact Ym (.inl J) hsc (.slice none 0 0,[]) _ (fun a w hs=>Ni hs results42 J) J (by rw [hp0]<;>rfl) J (Yy 62 J J J Zk)
   ·exact Zj<|Za<|Zd<|Yr (Pd 70 J J pI)<|Yr (Mq 70 71 72 J J J J)<|Zg<|mv J<|tt (Zh (n:=8) (Zcf _ _ (by rw [hz];exact Zbb fun t h=>by have:=hsb t (t+1) (by omega);omega)) J J J K1 call89 (Zc 72 J J J Ze) J hw) fun g hg=>as_ J<|Zf<|Za<|Zu<|Ym (.inl J) hsc _ _ (fun a w hs=>Ni hs results42 J) J (by rw [hg,hz,show i=(Zt zs).length+(Zt ys).length-1 by omega,pmul_mk]) J (Yy 8 J J J Zk)
theorem r_same(v u:Value)(r t:List (Bool×ByteArray)):Mc prog 17 #[v,u] [slp 2 Zfg v r,slp 2 Zfg u t] (.bool (decide (r=t))):=by
 refine Yc func17 J ntmps17 J K2 ?_
 intro w0 sc hw hsc
 simp only [Zq,Zp]
 refine Md (Ge (i:=1) J Zi) fun hlr=>Md (Ge (i:=2) J Zi) fun hlt=>Zd<|Zg<|as_ J<|Zf<|Za<|Zd<|Zd<|Zg<|mv J<|dt (Yd J J (i:=1) J Zi Qx)<|mv J<|dt (Yd J J (i:=2) J Zi Qx)<|dt (Qc J J J)<|Zf<|Za<|Zs J (fun h78=>?_) (fun h78=>?_)
 ·exact Zd<|Zg<|as_ J<|Zf<|Za<|Zu<|Xa<|xU hsc results17 J J (by rw [decide_eq_false (fun e=>by subst e;exact h78 rfl)])
 ·have hle:r.length=t.length:=by omega
  refine Zj<|Za<|Zd<|Zd<|Zg<|as_ J<|Zf<|Za<|Zo<|Nt [(0,_),(1,_)] [(0,_),(1,_),(2,_)] (fun(k:Nat)=>[(5,.int .i64 (k:Int))]) (fun(k:Nat)=>[]) (fun(k:Nat)=>(k≤r.length)∧(r.take k=t.take k)) (fun(k:Nat)=>r.length-k) 0 ⟨by first | omega | (dsimp only<;>omega),by simp⟩ K3 K3 ?_
  rintro k ⟨hk,ht⟩
  simp only [CA,NA]
  refine Zd<|Zd<|Zg<|mv J<|mv J<|dt (Yd J J (i:=1) J Zi Qx)<|dt (Xr J J J)<|Zf<|Za<|Zs J (fun h81=>?_) (fun h81=>?_)
  ·refine Zj<|Za<|Zd<|Zo<|Zd<|Qi (fun _=>False) [(0,0),(1,0),(2,0),(3,0),(4,0),(5,0),(6,0),(7,0),(8,0)] ?_ ?_
   ·kernel_rfl
   refine r0' J J (st0 (Yo J J))<|r0' J J (st0 (Yo J J))<|r0' J J (st0 (Xb (ii:=1) J J J J Zi Qx Yq J (by first | omega | (simp only [List.length_set];omega))))<|r0' J J (st0 (Xv (ii:=1) (false,⟨#[]⟩) J J J Zi pW (by first | omega | (simp only [List.length_set];omega))))<|r0' J J (st0 (Yo J J))<|r0' J J (st0 (Yo J J))<|r0' J J (st0 (Xb (ii:=2) J J J J Zi Qx Yq J (by first | omega | (simp only [List.length_set];omega))))<|r0' J J (st0 (Xv (ii:=2) (false,⟨#[]⟩) J J J Zi pW (by first | omega | (simp only [List.length_set];omega))))<|r0' J J (st0 (Zbs J J J eg31 (fun w=>Zxt w _ _ _ _)))<|Of<|Za<|Mm J (fun h82=>?_) (fun h82=>?_)
   ·exact Zd<|Zg<|as_ J<|Zf<|Za<|Zu<|Ix<|Xa<|Xa<|Ix<|Xa<|xU hsc results17 J J (by rw [decide_eq_false (fun e=>by rw [e]at h82;simp [Lz]at h82)])
   ·exact Zj<|Oe<|Za<|Zg<|mv J<|dt (Yx J J J ⟨by omega,by omega⟩)<|as_ J<|Zf<|Xn (k+1) ⟨by first | omega | (dsimp only<;>omega),by rw [Oo (false,⟨#[]⟩) _ _ (by omega),Oo (false,⟨#[]⟩) _ _ (by omega),ht,Zyd (x:=r.getD k (false,⟨#[]⟩)) (y:=t.getD k (false,⟨#[]⟩)) (by simpa using h82)]⟩ (by first | omega | (dsimp only<;>omega)) K3 K3
  ·exact Yv<|Zv<|Zv<|Ox<|Za<|Zd<|Zg<|as_ J<|Zf<|Za<|Zu<|xU hsc results17 J J (by rw [decide_eq_true (by rw [show k=r.length by omega,List.take_length,hle,List.take_length]at ht;exact ht)])
theorem Ze1(v u:Value)(xs ys:List Int):Mc prog 17 #[v,u] [slp 2 wv v xs,slp 2 wv u ys] (.bool (decide (xs=ys))):=by
 have h:=((r_same v u (xs.map wr) (ys.map wr)).imp (Zrn v xs) (fun _ h=>h)).imp2 (Zrn u ys) (fun _ h=>h)
 rw [decide_eq_decide.2 (Zqh xs ys)]at h;exact h
theorem Znz(v:Value)(r:List (Bool×ByteArray)):Mc prog 13 #[v] [slp 2 Zfg v r] (.bool (okP r)):=by
 refine Yc func13 J ntmps13 J K1 ?_
 intro w0 sc hw hsc
 simp only [Zq,Zp]
 refine Md (Ge (i:=1) J Zi) fun hlen=>Zd<|Zg<|as_ J<|Zf<|Za<|Zd<|Zd<|Zg<|as_ J<|Zf<|Za<|Zo<|Nt [(0,_)] [(0,_),(1,_)] (fun(k:Nat)=>[(3,.int .i64 (k:Int))]) (fun(k:Nat)=>[]) (fun(k:Nat)=>(k≤r.length)∧((r.take k).all (fun w=>okW w.1 w.2)=true)) (fun(k:Nat)=>r.length-k) 0 ⟨by first | omega | (dsimp only<;>omega),by simp⟩ K2 K2 ?_
 rintro k ⟨hk,ha⟩
 simp only [CA,NA]
 refine Zd<|Zd<|Zg<|mv J<|mv J<|dt (Yd J J (i:=1) J Zi Qx)<|dt (Xr J J J)<|Zf<|Za<|Zs J (fun h30=>?_) (fun h30=>?_)
 ·refine Zj<|Za<|Zd<|Zo<|Zd<|Zg<|mv J<|mv J<|dt (Xb (ii:=1) J J J J Zi Qx Yq J (by first | omega | (simp only [List.length_set];omega)))<|dt (Xv (ii:=1) (false,⟨#[]⟩) J J J Zi pW (by first | omega | (simp only [List.length_set];omega)))<|tt (Zh (n:=1) (Zlx _ _) J J J K1 call35 Ze J hw) fun _ _=>dt (Xg J J)<|Zf<|Za<|Mm J (fun h31=>?_) (fun h31=>?_)
  ·exact Zd<|Zg<|as_ J<|Zf<|Za<|Zu<|Ix<|Xa<|Xa<|Ix<|Xa<|xU hsc results13 J J (by rw [Zsw (Yz (i:=k) (d:=(false,⟨#[]⟩))) (by simpa using h31)])
  ·exact Zj<|Oe<|Za<|Zg<|mv J<|dt (Yx J J J ⟨by omega,by omega⟩)<|as_ J<|Zf<|Xn (k+1) ⟨by first | omega | (dsimp only<;>omega),by rw [Oo (false,⟨#[]⟩) _ _ (by omega),List.all_append,ha];simpa using h31⟩ (by first | omega | (dsimp only<;>omega)) K2 K2
 ·refine Yv<|Zv<|Zv<|Ox<|Za<|Zd ?_
  obtain rfl:k=r.length:=by omega
  rw [List.take_length]at ha
  refine Zg<|mv J<|dt (Yd J J (i:=1) J Zi Qx)<|dt (Cf J J J)<|mv J<|Qm (d:=19) J (fun s35=>?_) (fun s35=>?_)
  ·refine gdt (Yo J J) J J<|gdt (Yd J J (i:=1) J Zi Qx) J J<|gdt (Pg J J J) J J<|gdt (Yo J J) J J<|Qm (d:=23) J (fun s35_2=>?_) (fun s35_2=>?_)
   ·exact gsk J J J<|gsk J J J<|gsk J J J<|gsk J J J<|gsk J J J<|gsk J J J<|gsk J J J<|gsk J J J<|gsk J J J<|gdt (Ys J J J) J J<|dt (Ys J J J)<|as_ J<|Zf<|Za<|Zu<|xU hsc results13 J J (by rw [Zij ha];first | (rw [decide_eq_false (show ¬r.length≤25 by omega)];rfl) | (rw [decide_eq_true (show r.length≤25 by omega),decide_eq_true (show r.length=0 by omega)];rfl) | (rw [decide_eq_true (show r.length≤25 by omega),decide_eq_false (show ¬r.length=0 by omega)];rfl))
   ·exact gdt (Yo J J) J J<|gdt (Yo J J) J J<|gdt (Yd J J (i:=1) J Zi Qx) J J<|gdt (Qd J J J ⟨by omega,by omega⟩) J J<|gdt (Xb (ii:=1) (i:=(r.length-1)) J J J J Zi Qx Yq) J J<|gdt (d_fae (ii:=1) J J J Zi (by omega) Zam J zT9 J) J J<|gdt (d_ldf (ii:=1) (false,⟨#[]⟩) J J J Zi (by omega) iA9 J) J J<|gdt (Fi J J uT9) J J<|gdt (Pm J J J) J J<|gdt (Zz J J J) J J<|dt (Ys J J J)<|as_ J<|Zf<|Za<|Zu<|xU hsc results13 J J (by rw [Zij ha];first | (rw [decide_eq_false (show ¬r.length≤25 by omega)];rfl) | (rw [decide_eq_true (show r.length≤25 by omega),decide_eq_true (show r.length=0 by omega)];rfl) | (rw [decide_eq_true (show r.length≤25 by omega),decide_eq_false (show ¬r.length=0 by omega)];rfl))
  ·exact gsk J J J<|gsk J J J<|gsk J J J<|gsk J J J<|Zf4 J J<|Zf4 J J<|Zf4 J J<|Zf4 J J<|Zf4 J J<|Zf4 J J<|Zf4 J J<|Zf4 J J<|Zf4 J J<|gsk J J J<|dt (Zz J J J)<|as_ J<|Zf<|Za<|Zu<|xU hsc results13 J J (by rw [Zij ha];first | (rw [decide_eq_false (show ¬r.length≤25 by omega)];rfl) | (rw [decide_eq_true (show r.length≤25 by omega),decide_eq_true (show r.length=0 by omega)];rfl) | (rw [decide_eq_true (show r.length≤25 by omega),decide_eq_false (show ¬r.length=0 by omega)];rfl))
set_option maxHeartbeats 4000000 in
theorem rp_rest(v u:Value)(zs ys:List (Int×SL))(hl:zs.length≤30)(hk:ys.length≤30)(hy0:0<ys.length)(ht:Tr (Zt ys))(hF:ys.length≤zs.length→msz (Zt zs)+(zs.length-ys.length+1)*(msz (Zt ys)+1)≤900000):Cal prog 160 #[v,u] [pp v zs,pp u ys] true (G:=Value×List (Int×SL)) (fun r=>Zt r.2=Ps (Zt zs) (Zt ys)) (fun r=>r.1) (fun r=>[pp r.1 r.2]):=by
 refine Yc func160 J ntmps160 J K2 ?_
 intro w0 sc hw hsc
 simp only [Zq,Zp]
 have hli:=Zw zs
 have hli2:=Zw ys
 have hlead:(cf (Zt ys) ((Zt ys).length-1))≠0:=ht.mem (fun e=>by rw [←hli2,e]at hy0;simp at hy0)
 refine Md (Ge (i:=1) J Yb) fun hlen=>Md (Ge (i:=2) J Yb) fun hlen2=>Zd<|Zg<|as_ J<|Zf<|Za<|Zd<|Zd<|Zg<|mv J<|dt (Yd J J (i:=1) J Yb Nn)<|mv J<|dt (Yd J J (i:=2) J Yb Nn)<|dt (Xr J J J)<|Zf<|Za<|Zs J (fun h205=>?_) (fun h205=>?_)
 ·exact Zd<|Zg<|mv J<|as_ J<|Zf<|Za<|Zu<|Xa<|Ym (.inl J) hsc (_,zs) _ (fun a w hs=>Ni hs results160 J) J (by unfold Ps;rw [if_pos (by omega)]) J (Yy 1 J J J Zk)
 ·have hF2:=hF (by omega)
  have hF3:msz (Zt zs)+((Zt zs).length-(Zt ys).length+1)*(msz (Zt ys)+1)≤900000:=by rw [hli,hli2];exact hF2
  have hN:1≤zs.length-ys.length+1:=by omega
  have hB:=Nat.mul_le_mul_right (msz (Zt ys)+1) hN
  rw [Nat.one_mul]at hB
  have hcl:=Nk ys (ys.length-1)
  have hci2:(ys.getD (ys.length-1) I0).1=(cf (Zt ys) ((Zt ys).length-1)):=by rw [hcl,hli2]
  have hsy:=Oh (Zt ys)
  have hlq:=hsy ((Zt ys).length-1)
  have hpw:=Am hlq (zs.length-ys.length+1)
  have hpw2:(zs.length-ys.length+1)*msz (Zt ys)≤(zs.length-ys.length+1)*(msz (Zt ys)+1):=Nat.mul_le_mul_left _ (by omega)
  refine Zj<|Za<|Zd<|Zg<|mv J<|mv J<|dt (Yd J J (i:=2) J Yb Nn)<|dt (Qd J J J ⟨by omega,by omega⟩)<|dt (Xb (ii:=2) (i:=(ys.length-1)) J J J J Yb Nn Xp)<|dt (Xv (ii:=2) I0 J J J Yb pI)<|tt (Zn (i:=96) J J zeroValue48 J J hw) fun b _=>tt (Zm (i:=96) J J J J J (by decide) J Xp J J ⟨Zb J,Zb J,trivial⟩ J hw trivial) fun _ _=>Zf<|Za<|Zd<|Zg<|mv J<|dt (Zy (i:=96) J J J Nm Xp J J)<|mv J<|dt (Yd J J (i:=1) J Yb Nn)<|mv J<|dt (Yd J J (i:=2) J Yb Nn)<|dt (Qd J J J ⟨by omega,by omega⟩)<|dt (Yx J J J ⟨by omega,by omega⟩)<|tt (Zh (n:=3) (Zh4 _ _ _ (zs.length-ys.length+1) (by rw [hci2];omega)) J J J K2 call165 (Ot 2 J J (Yz (i:=ys.length-1)) Ze) J hw) fun v _=>tt (Zh (n:=80) (Za0 _ _ _ _ ((Oh _).mono (by omega)) (by rw [hci2];omega)) J J J K2 call56 (Zc 1 J J J (Zc 3 J J J Ze)) J hw) fun g hg=>as_ J<|Zf<|Za<|Zd<|Zo ?_
  refine Nt [(1,_),(5,_)] [(0,_),(1,_),(2,_),(96,_),(3,_)] (fun(q:Nat×List (Int×SL)×Value)=>[(6,q.2.2)]) (fun(q:Nat×List (Int×SL)×Value)=>[(80,pp q.2.2 q.2.1)]) (fun(q:Nat×List (Int×SL)×Value)=>(q.1≤zs.length-ys.length+1)∧(Fz (Zt zs) (Zt ys) (Zt q.2.1) q.1)) (fun(q:Nat×List (Int×SL)×Value)=>zs.length-ys.length+1-q.1) (0,_,_) ⟨Nat.zero_le _,by dsimp only;rw [hg,hci2,←hli,←hli2];exact Zj2⟩ K3 K6 ?_
  rintro⟨j,ws,vr⟩ ⟨hj,hI⟩
  dsimp only at hj hI
  simp only [CA,NA]
  have hlw:=Zw ws
  have hwl:=Zlu hI
  refine Zd<|Zd<|Zg<|mv J<|dt (Yd J J (i:=80) J Yb Nn)<|mv J<|dt (Yd J J (i:=2) J Yb Nn)<|dt (Ke J J J)<|Zf<|Za<|Zs J (fun h210=>?_) (fun h210=>?_)
  ·have hR0:(Zt ys).length≤(Zt ws).length:=by omega
   obtain⟨g1,g2,g3,hI2⟩:=Zp6 (by omega) (by omega) hlead (by omega) hI hR0
   have hst:=Zj3 hlead hI2 (by omega) hR0 g3
   have hqe:=Zez hlead hI2 (by omega) hR0 g3
   have hsR:=Zp7 (by omega) hI
   have hsw:Sz 1000000 (Zt ws):=hsR.mono (by omega)
   have hcw:=Nk ws (ws.length-1)
   have hcqb:bl (cf (Zt ws) ((Zt ws).length-1)/(cf (Zt ys) ((Zt ys).length-1))).natAbs≤900001:=by have:=Zvh hqe (Eg (Zt zs) (Zt ys) _ _) hlq;have h7:=restq_b (p:=Zt zs) (q:=Zt ys) (R:=Zt ws) (by omega) (by omega) g3;omega
   have hcqa:(ws.getD (ws.length-1) I0).1/(ys.getD (ys.length-1) I0).1=(cf (Zt ws) ((Zt ws).length-1)/(cf (Zt ys) ((Zt ys).length-1))):=by rw [hci2,hcw,hlw]
   refine Zj<|Za<|Zo<|Ez [(1,_),(5,_),(6,_)] [(0,_),(80,_),(1,_),(2,_),(96,_),(3,_)] (fun(q:Value×Nat)=>[(7,.pointer (some ⟨q.2,0,none⟩))]) (fun(q:Value×Nat)=>[(83,d9p q.1 (cf (Zt ws) ((Zt ws).length-1)/(cf (Zt ys) ((Zt ys).length-1))).natAbs),(97,box q.2 48 #[.bool (decide ((cf (Zt ws) ((Zt ws).length-1)/(cf (Zt ys) ((Zt ys).length-1)))<0)),q.1])]) (fun(q:Value×Nat)=>True) K3 K6 ?_ ?_
   ·refine Oi [80,96] [14]<|Zx (n:=8) [(0,0),(1,0),(2,0),(3,0),(4,0),(5,0),(6,0)]<|r0' J J (stf (Yo J J) K2)<|r0' J J (stf (Yo J J) K2)<|r0' J J (stf (Yd J J (i:=80) J Yb Nn) K2)<|r0' J J (stf (Qd J J J ⟨by omega,by omega⟩) K2)<|r0' J J (stf (Xb (ii:=80) (i:=(ws.length-1)) J J J J Yb Nn Xp) K2)<|r0' J J (stf (Xv (ii:=80) I0 J J J Yb pI) K2)<|r0' J J (stf (Zy (i:=96) J J J Nm Xp J J) K2)<|Yk<|Ba (n:=7) 7 11 12 ?_ ?_ ?_
    ·refine Yj J (Zh (n:=83) (Gp _ _ _ _ (by rw [hcw];have:=hsw (ws.length-1);omega) (by rw [hci2];exact hlead) (by rw [hci2];omega)) J J J K2 Zfp (Ot 80 J J (Yz (zs:=ws) (i:=ws.length-1) (d:=I0)) (Ot 2 J J (Yz (zs:=ys) (i:=ys.length-1) (d:=I0)) Ze)) J hw) fun g_2 _=>Zx (n:=4) [(8,0),(9,0),(10,0)]<|r0' J J (stf (Yo J J) K2)<|r0' J J (stf (Yh J J J) K2)<|r0' J J (stf (Yh J J J) K2)<|Yk<|Pb (n:=3) 11 12 ?_ ?_
     ·exact Yj J (Zr (i:=97) J J zeroValue48 J J hw K2) fun b_2 ho=>Zx (n:=0) [(12,1),(13,1),(14,3)]<|r1' J (Zr (i:=99) J J zeroValue48 J J hw K2) fun b_3 ho2=>r1' J (Zm (i:=97) J J J J J (by decide) J Xp J J ⟨Zb J,Zl (i:=83) J Zi,trivial⟩ J hw ho) fun _ _=>r3' J (Zm (i:=99) J J J J J (by decide) J Xp J J ⟨Zb J,Zl (i:=84) J Zi,trivial⟩ J hw trivial) fun _ _=>Yk<|Yf<|Qt (_,_) trivial K4 ⟨by rw [←hcqa];rfl,by rw [←hcqa];rfl,rfl,rfl,rfl,rfl,rfl,rfl,trivial⟩
     ·exact Yj J (Zr (i:=99) J J zeroValue48 J J hw K2) fun b_4 ho3=>Zx (n:=0) [(11,1),(13,1),(14,3)]<|r1' J (Zr (i:=97) J J zeroValue48 J J hw K2) fun b_5 ho4=>r1' J (Zm (i:=97) J J J J J (by decide) J Xp J J ⟨Zb J,Zl (i:=83) J Zi,trivial⟩ J hw ho4) fun _ _=>r3' J (Zm (i:=99) J J J J J (by decide) J Xp J J ⟨Zb J,Zl (i:=84) J Zi,trivial⟩ J hw trivial) fun _ _=>Yk<|Yf<|Qt (_,_) trivial K4 ⟨by rw [←hcqa];rfl,by rw [←hcqa];rfl,rfl,rfl,rfl,rfl,rfl,rfl,trivial⟩
    ·refine Yj J (Zr (i:=97) J J zeroValue48 J J hw K2) fun b_6 ho5=>Pb (n:=6) 7 12 ?_ ?_
     ·exact Yj J (Zh (n:=83) (Gp _ _ _ _ (by rw [hcw];have:=hsw (ws.length-1);omega) (by rw [hci2];exact hlead) (by rw [hci2];omega)) J J J K2 Zfp (Ot 80 J J (Yz (zs:=ws) (i:=ws.length-1) (d:=I0)) (Ot 2 J J (Yz (zs:=ys) (i:=ys.length-1) (d:=I0)) Ze)) J hw) fun g_3 _=>Zx (n:=0) [(8,0),(9,0),(10,0),(12,1),(13,1),(14,3)]<|r0' J J (stf (Yo J J) K2)<|r0' J J (stf (Yh J J J) K2)<|r0' J J (stf (Yh J J J) K2)<|r1' J (Zr (i:=99) J J zeroValue48 J J hw K2) fun b_7 ho6=>r1' J (Zm (i:=97) J J J J J (by decide) J Xp J J ⟨Zb J,Zl (i:=83) J Zi,trivial⟩ J hw ho5) fun _ _=>r3' J (Zm (i:=99) J J J J J (by decide) J Xp J J ⟨Zb J,Zl (i:=84) J Zi,trivial⟩ J hw trivial) fun _ _=>Yk<|Yf<|Qt (_,_) trivial K4 ⟨by rw [←hcqa];rfl,by rw [←hcqa];rfl,rfl,rfl,rfl,rfl,rfl,rfl,trivial⟩
     ·exact Yj J (Zr (i:=99) J J zeroValue48 J J hw K2) fun b_8 ho7=>Zx (n:=0) [(7,1),(8,0),(9,0),(10,0),(13,1),(14,3)]<|r1' J (Zh (n:=83) (Gp _ _ _ _ (by rw [hcw];have:=hsw (ws.length-1);omega) (by rw [hci2];exact hlead) (by rw [hci2];omega)) J J J K2 Zfp (Ot 80 J J (Yz (zs:=ws) (i:=ws.length-1) (d:=I0)) (Ot 2 J J (Yz (zs:=ys) (i:=ys.length-1) (d:=I0)) Ze)) J hw) fun g_4 _=>r0' J J (stf (Yo J J) K2)<|r0' J J (stf (Yh J J J) K2)<|r0' J J (stf (Yh J J J) K2)<|r1' J (Zm (i:=97) J J J J J (by decide) J Xp J J ⟨Zb J,Zl (i:=83) J Zi,trivial⟩ J hw ho5) fun _ _=>r3' J (Zm (i:=99) J J J J J (by decide) J Xp J J ⟨Zb J,Zl (i:=84) J Zi,trivial⟩ J hw trivial) fun _ _=>Yk<|Yf<|Qt (_,_) trivial K4 ⟨by rw [←hcqa];rfl,by rw [←hcqa];rfl,rfl,rfl,rfl,rfl,rfl,rfl,trivial⟩
    ·refine Yj J (Zr (i:=99) J J zeroValue48 J J hw K2) fun b_9 ho8=>Pb (n:=6) 7 11 ?_ ?_
     ·exact Yj J (Zh (n:=83) (Gp _ _ _ _ (by rw [hcw];have:=hsw (ws.length-1);omega) (by rw [hci2];exact hlead) (by rw [hci2];omega)) J J J K2 Zfp (Ot 80 J J (Yz (zs:=ws) (i:=ws.length-1) (d:=I0)) (Ot 2 J J (Yz (zs:=ys) (i:=ys.length-1) (d:=I0)) Ze)) J hw) fun g_5 _=>Zx (n:=0) [(8,0),(9,0),(10,0),(11,1),(13,1),(14,3)]<|r0' J J (stf (Yo J J) K2)<|r0' J J (stf (Yh J J J) K2)<|r0' J J (stf (Yh J J J) K2)<|r1' J (Zr (i:=97) J J zeroValue48 J J hw K2) fun b_10 ho9=>r1' J (Zm (i:=97) J J J J J (by decide) J Xp J J ⟨Zb J,Zl (i:=83) J Zi,trivial⟩ J hw ho9) fun _ _=>r3' J (Zm (i:=99) J J J J J (by decide) J Xp J J ⟨Zb J,Zl (i:=84) J Zi,trivial⟩ J hw trivial) fun _ _=>Yk<|Yf<|Qt (_,_) trivial K4 ⟨by rw [←hcqa];rfl,by rw [←hcqa];rfl,rfl,rfl,rfl,rfl,rfl,rfl,trivial⟩
     ·exact Yj J (Zr (i:=97) J J zeroValue48 J J hw K2) fun b_11 ho10=>Zx (n:=0) [(7,1),(8,0),(9,0),(10,0),(13,1),(14,3)]<|r1' J (Zh (n:=83) (Gp _ _ _ _ (by rw [hcw];have:=hsw (ws.length-1);omega) (by rw [hci2];exact hlead) (by rw [hci2];omega)) J J J K2 Zfp (Ot 80 J J (Yz (zs:=ws) (i:=ws.length-1) (d:=I0)) (Ot 2 J J (Yz (zs:=ys) (i:=ys.length-1) (d:=I0)) Ze)) J hw) fun g_6 _=>r0' J J (stf (Yo J J) K2)<|r0' J J (stf (Yh J J J) K2)<|r0' J J (stf (Yh J J J) K2)<|r1' J (Zm (i:=97) J J J J J (by decide) J Xp J J ⟨Zb J,Zl (i:=83) J Zi,trivial⟩ J hw ho10) fun _ _=>r3' J (Zm (i:=99) J J J J J (by decide) J Xp J J ⟨Zb J,Zl (i:=84) J Zi,trivial⟩ J hw trivial) fun _ _=>Yk<|Yf<|Qt (_,_) trivial K4 ⟨by rw [←hcqa];rfl,by rw [←hcqa];rfl,rfl,rfl,rfl,rfl,rfl,rfl,trivial⟩
   ·rintro⟨qv,b7⟩ -
    simp only [CA,NA]
    refine Zd<|Zg<|mv J<|dt (Yd J J (i:=80) J Yb Nn)<|mv J<|dt (Yd J J (i:=2) J Yb Nn)<|dt (Qd J J J ⟨by omega,by omega⟩)<|tt (Gb (i:=70) (n:=(ws.length-ys.length)) (by_:=32) (enc:=Dw) I0 J J J J Nn ti48 J pI.cells pI.pos J J J hw) fun v_2 _=>as_ J<|Zf<|Za<|Zd<|Zd<|Zg<|as_ J<|Zf<|Za<|Zo<|Yr (Ej 71 (ws.length-ys.length))<|Nt [(1,_),(5,_),(6,_),(7,_)] [(0,_),(83,_),(97,_),(80,_),(1,_),(2,_),(96,_),(3,_)] (fun(q:Nat×Value×List (Int×SL))=>[(10,.int .i64 (q.1:Int)),(9,q.2.1)]) (fun(q:Nat×Value×List (Int×SL))=>[(70,osl 2 48 Dw q.2.1 q.2.2),(71,Zcn qI q.2.2)]) (fun(q:Nat×Value×List (Int×SL))=>(q.1≤ys.length)∧(Zt q.2.2=shm (Zt ys) (cf (Zt ws) ((Zt ws).length-1)/(cf (Zt ys) ((Zt ys).length-1))) ((Zt ws).length-(Zt ys).length) q.1)∧(q.2.2.length=((Zt ws).length-(Zt ys).length)+q.1)) (fun(q:Nat×Value×List (Int×SL))=>ys.length-q.1) (0,_,List.replicate (ws.length-ys.length) I0) ⟨by first | omega | (dsimp only<;>omega),by rw [←Zdq,←hlw,←hli2];simp [Zt],by simp<;>omega⟩ K6 K10 ?_
    rintro⟨i,vo,ms⟩ ⟨hi,hms,hml⟩
    dsimp only at hi hms hml
    simp only [CA,NA]
    have hci:=Nk ys i
    refine Zd<|Zd<|Zg<|mv J<|mv J<|dt (Yd J J (i:=2) J Yb Nn)<|dt (Xr J J J)<|Zf<|Za<|Zs J (fun h214=>?_) (fun h214=>?_)
    ·refine Zj<|Za<|Zd<|Zo<|Oi [2,97] [9]<|Zx (n:=3) [(0,0),(1,0),(2,0),(3,0),(4,0),(5,0),(6,1)]<|r0' J J (stf (Yo J J) K2)<|r0' J J (stf (Zy (i:=97) J J J Nm Xp J J) K2)<|r0' J J (stf (Yo J J) K2)<|r0' J J (stf (Yo J J) K2)<|r0' J J (stf (Xb (ii:=2) J J J J Yb Nn Xp J (by first | omega | (simp only [List.length_set];omega))) K2)<|r0' J J (stf (Xv (ii:=2) I0 J J J Yb pI (by first | omega | (simp only [List.length_set];omega))) K2)<|r1' J (Zh (n:=86) (Fs _ _ _ _ (by omega) (by rw [hci];have:=hsy i;omega)) J J J K2 Zf9 (Zc 83 J J J (Ot 2 J J (Yz (i:=i)) Ze)) J hw) fun v_3 _=>Yk<|Zle (Ov 86 J Zi) (fun sl hsl=>?_)
     subst hsl
     exact Zx (n:=0) [(7,1),(8,1),(9,3)]<|r1' J (Po (i:=87) (ivs:=[(0,_)]) (enc:=Dw) [((cf (Zt ws) ((Zt ws).length-1)/(cf (Zt ys) ((Zt ys).length-1)))*(ys.getD i I0).1,sl)] J J K2 Nn ti48 J J J J J pI.cells J J hw) fun v_4 _=>r1' J (Zek 70 J J J K2 (fun hoffr=>(Al (xs:=ms) (ys:=[_]) (i:=70) (j:=87) (by_:=32) J J J J J J (by decide) J (Yt pI) Nn ti48 J pI J J J (by simp;omega) (by decide) J hw hoffr))) fun v_5 _=>r3' J (Py (Mf J J) J) fun _ _=>Yk<|Yf<|Oe<|Za<|Zg<|mv J<|dt (Yx J J J ⟨by omega,by omega⟩)<|as_ J<|Zf<|Qu (Pz (q:=qI) (z:=((cf (Zt ws) ((Zt ws).length-1)/(cf (Zt ys) ((Zt ys).length-1)))*(ys.getD i I0).1,sl)) 71 86 71 J J J J J)<|Xn (i+1,_,ms ++ [((cf (Zt ws) ((Zt ws).length-1)/(cf (Zt ys) ((Zt ys).length-1)))*(ys.getD i I0).1,sl)]) ⟨by first | omega | (dsimp only<;>omega),by rw [Ko,hms,←Zdr];dsimp only;rw [hci],by simp;omega⟩ (by first | omega | (dsimp only<;>omega)) K6 K10
    ·exact Yv<|Zv<|Zv<|Ox<|Za<|Yr (Pd 70 J J pI)<|Yr (Mq 70 71 72 J J J J)<|Zg<|mv J<|mv J<|tt (Zh (n:=4) (Zn0 _ _ _ _ hsw (by rw [hms];exact Znr (fun t=>by have h8:=Xm (cf (Zt ws) ((Zt ws).length-1)/(cf (Zt ys) ((Zt ys).length-1))) (cf (Zt ys) t);have h9:=hsy t;have h10:=Zwy (p:=Zt zs) (q:=Zt ys) (R:=Zt ws) hqe (Eg (Zt zs) (Zt ys) _ _) hsy (by omega) (by omega) g3 t;omega))) J J J K2 call88 (Zc 80 J J J (Zc 72 J J J Ze)) J hw) fun g_7 hg_2=>as_ J<|Zf<|Oe<|Qu (Oa 4 80 J J J)<|Xn ((Zt zs).length-(Zt ws).length+1,_,_) ⟨by dsimp only;omega,by dsimp only;rw [hg_2,hms,show i=(Zt ys).length by omega];exact hst⟩ (by dsimp only;omega) K3 K6
  ·exact Yv<|Zv<|Zv<|Ox<|Za<|Zd<|Zg<|mv J<|as_ J<|Zf<|Za<|Zu<|Ym (.inl J) hsc (_,ws) _ (fun a w hs=>Ni hs results160 J) J (Zlv (R:=Zt ws) (by omega) (by omega) hlead (by omega) hI (by have:=Zw ws;omega)) J (Yy 80 J J J Zk)
set_option maxHeartbeats 4000000 in
theorem Za1(v u:Value)(zs ys:List (Int×SL))(htz:Tr (Zt zs))(ht:Tr (Zt ys))(hF:ys.length≤zs.length→msz (Zt zs)+(zs.length-ys.length+1)*(msz (Zt ys)+1)≤900000)(hl:zs.length≤30:=by omega)(hk:ys.length≤30:=by omega)(hy0:0<ys.length:=by omega):Cal prog 55 #[v,u] [pp v zs,pp u ys] true (G:=Value×List (Int×SL)) (fun r=>pdv (Zt zs) (Zt ys)→Zt r.2=Ku (Zt zs) (Zt ys)) (fun r=> .tuple #[r.1,.bool (decide (pdv (Zt zs) (Zt ys)))]) (fun r=>[pp r.1 r.2]):=by
 refine Yc func55 J ntmps55 J K2 ?_
 intro w0 sc hw hsc
 simp only [Zq,Zp]
 have hli:=Zw zs
 have hli2:=Zw ys
 have hlead:(cf (Zt ys) ((Zt ys).length-1))≠0:=ht.mem (fun e=>by rw [←hli2,e]at hy0;simp at hy0)
 refine Md (Ge (i:=1) J Yb) fun hlen=>Md (Ge (i:=2) J Yb) fun hlen2=>Zd<|Zg<|as_ J<|as_ J<|Zf<|Za<|Zd<|Zd<|Zg<|mv J<|dt (Yd J J (i:=1) J Yb Nn)<|dt (Pg J J J)<|Zf<|Za<|Zs J (fun h224=>?_) (fun h224=>?_)
 ·refine Zd<|Zg<|as_ J<|as_ J<|Zf<|Za<|Zu<|Xa<|Qu (Ek 62) ?_
  have hzn:Zt zs=[]:=List.eq_nil_of_length_eq_zero (by omega)
  exact Ym (.inl J) hsc (.slice none 0 0,[]) _ (fun a w hs=>Nl hs results55 J J) (by rw [pdv_nil hzn]) (fun _=>by unfold Ku;rw [if_pos hzn];rfl) J (Yy 62 J J J Zk)
 ·have hnz:Zt zs≠[]:=fun e=>by have h7:=congrArg List.length e;simp only [List.length_nil]at h7;omega
  refine Zj<|Za<|Zd<|Zd<|Zg<|mv J<|dt (Yd J J (i:=1) J Yb Nn)<|mv J<|dt (Yd J J (i:=2) J Yb Nn)<|dt (Xr J J J)<|Zf<|Za<|Zs J (fun h227=>?_) (fun h227=>?_)
  ·refine Zd<|Zg<|as_ J<|as_ J<|Zf<|Za<|Zu<|Xa<|Qu (Ek 62) ?_
   have hno:=pdv_low (p:=Zt zs) (q:=Zt ys) (fun e=>by have h7:=congrArg List.length e;simp only [List.length_nil]at h7;omega) (by omega)
   exact Ym (.inl J) hsc (.slice none 0 0,[]) _ (fun a w hs=>Nl hs results55 J J) (by rw [hno]) (fun h=>absurd h (of_decide_eq_false hno)) J (Yy 62 J J J Zk)
  ·have hF2:=hF (by omega)
   have hF3:msz (Zt zs)+((Zt zs).length-(Zt ys).length+1)*(msz (Zt ys)+1)≤900000:=by rw [hli,hli2];exact hF2
   have hcl:=Nk ys (ys.length-1)
   have hci2:(ys.getD (ys.length-1) I0).1=(cf (Zt ys) ((Zt ys).length-1)):=by rw [hcl,hli2]
   have hsy:=Oh (Zt ys)
   have hlq:=hsy ((Zt ys).length-1)
   have hmy:msz (Zt ys)≤900000:=by have h7:=Nat.mul_le_mul_right (msz (Zt ys)+1) (show 1≤(Zt zs).length-(Zt ys).length+1 by omega);omega
   refine Zj<|Za<|Zd<|Zg<|mv J<|dt (Yd J J (i:=1) J Yb Nn)<|mv J<|dt (Yd J J (i:=2) J Yb Nn)<|dt (Qd J J J ⟨by omega,by omega⟩)<|dt (Yx J J J ⟨by omega,by omega⟩)<|tt (Gb (i:=60) (n:=(zs.length-ys.length+1)) (by_:=32) (enc:=Dw) I0 J J J J Nn ti48 J pI.cells pI.pos J J J hw) fun v _=>as_ J<|Zf<|Za<|Zd<|Zg<|mv J<|as_ J<|Zf<|Za<|Zd<|Zd<|Zg<|mv J<|dt (Yd J J (i:=60) J (Yt pI) Nn)<|dt (Qd J J J ⟨by simp only [List.length_replicate];omega,by simp only [List.length_replicate];omega⟩)<|as_ J<|Zf<|Za<|Zo<|Yr (Ej 61 (zs.length-ys.length+1))<|Yr (Oa 1 80 J J J) ?_
   refine Nt [(1,_),(6,_)] [(0,_),(1,_),(2,_)] (fun(q:Nat×List (Int×SL)×List (Int×SL)×Value)=>[(7,q.2.2.2),(8,.int .i64 ((zs.length:Int)-(ys.length:Int)-(q.1:Int)))]) (fun(q:Nat×List (Int×SL)×List (Int×SL)×Value)=>[(60,osl 2 48 Dw v q.2.1),(61,Zcn qI q.2.1),(80,pp q.2.2.2 q.2.2.1)]) (fun(q:Nat×List (Int×SL)×List (Int×SL)×Value)=>(q.1≤(Zt zs).length-(Zt ys).length+1)∧(∀k,((Zt zs).length-(Zt ys).length)<k+q.1→k≤((Zt zs).length-(Zt ys).length)→Lb (Zt zs) (Zt ys) k)∧(Zt q.2.1=Zkw (Zt zs) (Zt ys) q.1)∧(Zt q.2.2.1=tzl (Ql (Zt zs) (Zt ys) q.1))) (fun(q:Nat×List (Int×SL)×List (Int×SL)×Value)=>(Zt zs).length-(Zt ys).length+1-q.1) (0,List.replicate (zs.length-ys.length+1) I0,zs,_) ⟨Nat.zero_le _,fun k h1 h2=>by omega,by rw [←Zkv,hli,hli2];simp [Zt],(Zao htz).symm⟩ ⟨J,by simp only [List.length_replicate];exact congrArg some (Ag (by omega)),rfl,rfl,trivial⟩ K6 ?_
   rintro⟨j,os,ws,vr⟩ ⟨hj,hx,hos,hws⟩
   dsimp only at hj hx hos hws
   simp only [CA,NA]
   have hlw:=Zw ws
   have hlo:=Zw os
   have hlo2:=congrArg List.length hos
   rw [Dr]at hlo2
   have hwl:ws.length≤zs.length:=by rw [←hlw,hws];exact Nat.le_trans (Gm _) (by rw [Im];omega)
   refine Zd<|Zd<|Zg<|mv J<|dt (Ke J J J)<|Zf<|Za<|Zs J (fun h232=>?_) (fun h232=>?_)
   ·have hj2:j≤(Zt zs).length-(Zt ys).length:=by omega
    have hcw:cf (Zt ws) (((Zt zs).length-(Zt ys).length-j)+(Zt ys).length-1)=(cf (Ql (Zt zs) (Zt ys) j) (((Zt zs).length-(Zt ys).length-j)+(Zt ys).length-1)):=by rw [hws,Ka]
    have hb1:=div_sz2 hj2 hx hF3
    have hb2:=hb1 (((Zt zs).length-(Zt ys).length-j)+(Zt ys).length-1)
    refine Zj<|Za<|Zd<|Zo<|Ez [(1,_),(6,_),(7,_),(8,_)] [(0,_),(60,_),(61,_),(80,_),(1,_),(2,_)] (fun(q:Value×Value×Nat×Nat)=>[(9,.pointer (some ⟨q.2.2.1,0,none⟩)),(10,.pointer (some ⟨q.2.2.2,0,none⟩))]) (fun(q:Value×Value×Nat×Nat)=>[(83,d9p q.1 ((cf (Ql (Zt zs) (Zt ys) j) (((Zt zs).length-(Zt ys).length-j)+(Zt ys).length-1))/(cf (Zt ys) ((Zt ys).length-1))).natAbs),(84,d9p q.2.1 ((cf (Ql (Zt zs) (Zt ys) j) (((Zt zs).length-(Zt ys).length-j)+(Zt ys).length-1))%(cf (Zt ys) ((Zt ys).length-1))).natAbs),(97,box q.2.2.1 48 #[.bool (decide (((cf (Ql (Zt zs) (Zt ys) j) (((Zt zs).length-(Zt ys).length-j)+(Zt ys).length-1))/(cf (Zt ys) ((Zt ys).length-1)))<0)),q.1]),(98,box q.2.2.2 48 #[.bool (decide (((cf (Ql (Zt zs) (Zt ys) j) (((Zt zs).length-(Zt ys).length-j)+(Zt ys).length-1))%(cf (Zt ys) ((Zt ys).length-1)))<0)),q.2.1])]) (fun(q:Value×Value×Nat×Nat)=>True) K4 K6 ?_ ?_
    ·refine Oi [2] [20]<|Zx (n:=9) [(0,0),(1,0),(2,0),(3,0),(4,0),(5,0),(7,0),(8,0),(9,0),(10,0),(11,0),(12,0)]<|r0' J J (stf (Yo J J) K1)<|r0' J J (stf (Yo J J) K1)<|r0' J J (stf (Yo J J) K1)<|r0' J J (stf (Yd J J (i:=2) J Yb Nn) K1)<|r0' J J (stf (Yx J J J ⟨by omega,by omega⟩) K1)<|r0' J J (stf (Qd J J J ⟨by omega,by omega⟩) K1)<|r0' J J (stf (Yo J J) K1)<|r0' J J (stf (Yo J J) K1)<|r0' J J (stf (Yd J J (i:=2) J Yb Nn) K1)<|r0' J J (stf (Qd J J J ⟨by omega,by omega⟩) K1)<|r0' J J (stf (Xb (ii:=2) (i:=(ys.length-1)) J J J J Yb Nn Xp) K1)<|r0' J J (stf (Xv (ii:=2) I0 J J J Yb pI) K1)<|Yk<|Ba (n:=8) 6 17 18 ?_ ?_ ?_
     ·refine Yj J (Zh (n:=3) (Zh5 _ _ _ (((Zt zs).length-(Zt ys).length-j)+(Zt ys).length-1)) J J J K2 call101 (Zc 80 J J J Ze) J hw) fun v_2 _=>Ba (n:=7) 13 17 18 ?_ ?_ ?_
      ·refine Yj J (Zh (n:=83) (Gp _ _ _ _ (by rw [hcw];omega) (by rw [hci2];exact hlead) (by rw [hci2];omega)) J J J K2 Zfp (Zc 3 J J J (Ot 2 J J (Yz (zs:=ys) (i:=ys.length-1) (d:=I0)) Ze)) J hw) fun g _=>Zx (n:=4) [(14,0),(15,0),(16,0)]<|r0' J J (stf (Yo J J) K1)<|r0' J J (stf (Yh J J J) K1)<|r0' J J (stf (Yh J J J) K1)<|Yk<|Pb (n:=3) 17 18 ?_ ?_
       ·exact Yj J (Zr (i:=97) J J zeroValue48 J J hw K1) fun b ho=>Zx (n:=0) [(18,1),(19,1),(20,3)]<|r1' J (Zr (i:=98) J J zeroValue48 J J hw K1) fun b_2 ho2=>r1' J (Zm (i:=97) J J J J J (by decide) J Xp J J ⟨Zb J,Zl (i:=83) J Zi,trivial⟩ J hw ho) fun _ _=>r3' J (Zm (i:=98) J J J J J (by decide) J Xp J J ⟨Zb J,Zl (i:=84) J Zi,trivial⟩ J hw trivial) fun _ _=>Yk<|Yf<|Qt (_,_,_,_) trivial K6 ⟨by rw [←hcw,←hci2];rfl,by rw [←hcw,←hci2];rfl,by rw [←hcw,←hci2];rfl,by rw [←hcw,←hci2];rfl,rfl,rfl,rfl,rfl,rfl,rfl,trivial⟩
       ·exact Yj J (Zr (i:=98) J J zeroValue48 J J hw K1) fun b_3 ho3=>Zx (n:=0) [(17,1),(19,1),(20,3)]<|r1' J (Zr (i:=97) J J zeroValue48 J J hw K1) fun b_4 ho4=>r1' J (Zm (i:=97) J J J J J (by decide) J Xp J J ⟨Zb J,Zl (i:=83) J Zi,trivial⟩ J hw ho4) fun _ _=>r3' J (Zm (i:=98) J J J J J (by decide) J Xp J J ⟨Zb J,Zl (i:=84) J Zi,trivial⟩ J hw trivial) fun _ _=>Yk<|Yf<|Qt (_,_,_,_) trivial K6 ⟨by rw [←hcw,←hci2];rfl,by rw [←hcw,←hci2];rfl,by rw [←hcw,←hci2];rfl,by rw [←hcw,←hci2];rfl,rfl,rfl,rfl,rfl,rfl,rfl,trivial⟩
      ·refine Yj J (Zr (i:=97) J J zeroValue48 J J hw K1) fun b_5 ho5=>Pb (n:=6) 13 18 ?_ ?_
       ·exact Yj J (Zh (n:=83) (Gp _ _ _ _ (by rw [hcw];omega) (by rw [hci2];exact hlead) (by rw [hci2];omega)) J J J K2 Zfp (Zc 3 J J J (Ot 2 J J (Yz (zs:=ys) (i:=ys.length-1) (d:=I0)) Ze)) J hw) fun g_2 _=>Zx (n:=0) [(14,0),(15,0),(16,0),(18,1),(19,1),(20,3)]<|r0' J J (stf (Yo J J) K1)<|r0' J J (stf (Yh J J J) K1)<|r0' J J (stf (Yh J J J) K1)<|r1' J (Zr (i:=98) J J zeroValue48 J J hw K1) fun b_6 ho6=>r1' J (Zm (i:=97) J J J J J (by decide) J Xp J J ⟨Zb J,Zl (i:=83) J Zi,trivial⟩ J hw ho5) fun _ _=>r3' J (Zm (i:=98) J J J J J (by decide) J Xp J J ⟨Zb J,Zl (i:=84) J Zi,trivial⟩ J hw trivial) fun _ _=>Yk<|Yf<|Qt (_,_,_,_) trivial K6 ⟨by rw [←hcw,←hci2];rfl,by rw [←hcw,←hci2];rfl,by rw [←hcw,←hci2];rfl,by rw [←hcw,←hci2];rfl,rfl,rfl,rfl,rfl,rfl,rfl,trivial⟩
       ·exact Yj J (Zr (i:=98) J J zeroValue48 J J hw K1) fun b_7 ho7=>Zx (n:=0) [(13,1),(14,0),(15,0),(16,0),(19,1),(20,3)]<|r1' J (Zh (n:=83) (Gp _ _ _ _ (by rw [hcw];omega) (by rw [hci2];exact hlead) (by rw [hci2];omega)) J J J K2 Zfp (Zc 3 J J J (Ot 2 J J (Yz (zs:=ys) (i:=ys.length-1) (d:=I0)) Ze)) J hw) fun g_3 _=>r0' J J (stf (Yo J J) K1)<|r0' J J (stf (Yh J J J) K1)<|r0' J J (stf (Yh J J J) K1)<|r1' J (Zm (i:=97) J J J J J (by decide) J Xp J J ⟨Zb J,Zl (i:=83) J Zi,trivial⟩ J hw ho5) fun _ _=>r3' J (Zm (i:=98) J J J J J (by decide) J Xp J J ⟨Zb J,Zl (i:=84) J Zi,trivial⟩ J hw trivial) fun _ _=>Yk<|Yf<|Qt (_,_,_,_) trivial K6 ⟨by rw [←hcw,←hci2];rfl,by rw [←hcw,←hci2];rfl,by rw [←hcw,←hci2];rfl,by rw [←hcw,←hci2];rfl,rfl,rfl,rfl,rfl,rfl,rfl,trivial⟩
      ·refine Yj J (Zr (i:=98) J J zeroValue48 J J hw K1) fun b_8 ho8=>Pb (n:=6) 13 17 ?_ ?_
       ·exact Yj J (Zh (n:=83) (Gp _ _ _ _ (by rw [hcw];omega) (by rw [hci2];exact hlead) (by rw [hci2];omega)) J J J K2 Zfp (Zc 3 J J J (Ot 2 J J (Yz (zs:=ys) (i:=ys.length-1) (d:=I0)) Ze)) J hw) fun g_4 _=>Zx (n:=0) [(14,0),(15,0),(16,0),(17,1),(19,1),(20,3)]<|r0' J J (stf (Yo J J) K1)<|r0' J J (stf (Yh J J J) K1)<|r0' J J (stf (Yh J J J) K1)<|r1' J (Zr (i:=97) J J zeroValue48 J J hw K1) fun b_9 ho9=>r1' J (Zm (i:=97) J J J J J (by decide) J Xp J J ⟨Zb J,Zl (i:=83) J Zi,trivial⟩ J hw ho9) fun _ _=>r3' J (Zm (i:=98) J J J J J (by decide) J Xp J J ⟨Zb J,Zl (i:=84) J Zi,trivial⟩ J hw trivial) fun _ _=>Yk<|Yf<|Qt (_,_,_,_) trivial K6 ⟨by rw [←hcw,←hci2];rfl,by rw [←hcw,←hci2];rfl,by rw [←hcw,←hci2];rfl,by rw [←hcw,←hci2];rfl,rfl,rfl,rfl,rfl,rfl,rfl,trivial⟩
       ·exact Yj J (Zr (i:=97) J J zeroValue48 J J hw K1) fun b_10 ho10=>Zx (n:=0) [(13,1),(14,0),(15,0),(16,0),(19,1),(20,3)]<|r1' J (Zh (n:=83) (Gp _ _ _ _ (by rw [hcw];omega) (by rw [hci2];exact hlead) (by rw [hci2];omega)) J J J K2 Zfp (Zc 3 J J J (Ot 2 J J (Yz (zs:=ys) (i:=ys.length-1) (d:=I0)) Ze)) J hw) fun g_5 _=>r0' J J (stf (Yo J J) K1)<|r0' J J (stf (Yh J J J) K1)<|r0' J J (stf (Yh J J J) K1)<|r1' J (Zm (i:=97) J J J J J (by decide) J Xp J J ⟨Zb J,Zl (i:=83) J Zi,trivial⟩ J hw ho10) fun _ _=>r3' J (Zm (i:=98) J J J J J (by decide) J Xp J J ⟨Zb J,Zl (i:=84) J Zi,trivial⟩ J hw trivial) fun _ _=>Yk<|Yf<|Qt (_,_,_,_) trivial K6 ⟨by rw [←hcw,←hci2];rfl,by rw [←hcw,←hci2];rfl,by rw [←hcw,←hci2];rfl,by rw [←hcw,←hci2];rfl,rfl,rfl,rfl,rfl,rfl,rfl,trivial⟩
     ·refine Yj J (Zr (i:=97) J J zeroValue48 J J hw K1) fun b_11 ho11=>Pb (n:=7) 6 18 ?_ ?_
      ·refine Yj J (Zh (n:=4) (Zh5 _ _ _ (((Zt zs).length-(Zt ys).length-j)+(Zt ys).length-1)) J J J K2 call101 (Zc 80 J J J Ze) J hw) fun v_3 _=>Pb (n:=6) 13 18 ?_ ?_
       ·exact Yj J (Zh (n:=83) (Gp _ _ _ _ (by rw [hcw];omega) (by rw [hci2];exact hlead) (by rw [hci2];omega)) J J J K2 Zfp (Zc 4 J J J (Ot 2 J J (Yz (zs:=ys) (i:=ys.length-1) (d:=I0)) Ze)) J hw) fun g_6 _=>Zx (n:=0) [(14,0),(15,0),(16,0),(18,1),(19,1),(20,3)]<|r0' J J (stf (Yo J J) K1)<|r0' J J (stf (Yh J J J) K1)<|r0' J J (stf (Yh J J J) K1)<|r1' J (Zr (i:=98) J J zeroValue48 J J hw K1) fun b_12 ho12=>r1' J (Zm (i:=97) J J J J J (by decide) J Xp J J ⟨Zb J,Zl (i:=83) J Zi,trivial⟩ J hw ho11) fun _ _=>r3' J (Zm (i:=98) J J J J J (by decide) J Xp J J ⟨Zb J,Zl (i:=84) J Zi,trivial⟩ J hw trivial) fun _ _=>Yk<|Yf<|Qt (_,_,_,_) trivial K6 ⟨by rw [←hcw,←hci2];rfl,by rw [←hcw,←hci2];rfl,by rw [←hcw,←hci2];rfl,by rw [←hcw,←hci2];rfl,rfl,rfl,rfl,rfl,rfl,rfl,trivial⟩
       ·exact Yj J (Zr (i:=98) J J zeroValue48 J J hw K1) fun b_13 ho13=>Zx (n:=0) [(13,1),(14,0),(15,0),(16,0),(19,1),(20,3)]<|r1' J (Zh (n:=83) (Gp _ _ _ _ (by rw [hcw];omega) (by rw [hci2];exact hlead) (by rw [hci2];omega)) J J J K2 Zfp (Zc 4 J J J (Ot 2 J J (Yz (zs:=ys) (i:=ys.length-1) (d:=I0)) Ze)) J hw) fun g_7 _=>r0' J J (stf (Yo J J) K1)<|r0' J J (stf (Yh J J J) K1)<|r0' J J (stf (Yh J J J) K1)<|r1' J (Zm (i:=97) J J J J J (by decide) J Xp J J ⟨Zb J,Zl (i:=83) J Zi,trivial⟩ J hw ho11) fun _ _=>r3' J (Zm (i:=98) J J J J J (by decide) J Xp J J ⟨Zb J,Zl (i:=84) J Zi,trivial⟩ J hw trivial) fun _ _=>Yk<|Yf<|Qt (_,_,_,_) trivial K6 ⟨by rw [←hcw,←hci2];rfl,by rw [←hcw,←hci2];rfl,by rw [←hcw,←hci2];rfl,by rw [←hcw,←hci2];rfl,rfl,rfl,rfl,rfl,rfl,rfl,trivial⟩
      ·exact Yj J (Zr (i:=98) J J zeroValue48 J J hw K1) fun b_14 ho14=>Zx (n:=0) [(6,1),(13,1),(14,0),(15,0),(16,0),(19,1),(20,3)]<|r1' J (Zh (n:=5) (Zh5 _ _ _ (((Zt zs).length-(Zt ys).length-j)+(Zt ys).length-1)) J J J K2 call101 (Zc 80 J J J Ze) J hw) fun v_4 _=>r1' J (Zh (n:=83) (Gp _ _ _ _ (by rw [hcw];omega) (by rw [hci2];exact hlead) (by rw [hci2];omega)) J J J K2 Zfp (Zc 5 J J J (Ot 2 J J (Yz (zs:=ys) (i:=ys.length-1) (d:=I0)) Ze)) J hw) fun g_8 _=>r0' J J (stf (Yo J J) K1)<|r0' J J (stf (Yh J J J) K1)<|r0' J J (stf (Yh J J J) K1)<|r1' J (Zm (i:=97) J J J J J (by decide) J Xp J J ⟨Zb J,Zl (i:=83) J Zi,trivial⟩ J hw ho11) fun _ _=>r3' J (Zm (i:=98) J J J J J (by decide) J Xp J J ⟨Zb J,Zl (i:=84) J Zi,trivial⟩ J hw trivial) fun _ _=>Yk<|Yf<|Qt (_,_,_,_) trivial K6 ⟨by rw [←hcw,←hci2];rfl,by rw [←hcw,←hci2];rfl,by rw [←hcw,←hci2];rfl,by rw [←hcw,←hci2];rfl,rfl,rfl,rfl,rfl,rfl,rfl,trivial⟩
     ·refine Yj J (Zr (i:=98) J J zeroValue48 J J hw K1) fun b_15 ho15=>Pb (n:=7) 6 17 ?_ ?_
      ·refine Yj J (Zh (n:=6) (Zh5 _ _ _ (((Zt zs).length-(Zt ys).length-j)+(Zt ys).length-1)) J J J K2 call101 (Zc 80 J J J Ze) J hw) fun v_5 _=>Pb (n:=6) 13 17 ?_ ?_
       ·exact Yj J (Zh (n:=83) (Gp _ _ _ _ (by rw [hcw];omega) (by rw [hci2];exact hlead) (by rw [hci2];omega)) J J J K2 Zfp (Zc 6 J J J (Ot 2 J J (Yz (zs:=ys) (i:=ys.length-1) (d:=I0)) Ze)) J hw) fun g_9 _=>Zx (n:=0) [(14,0),(15,0),(16,0),(17,1),(19,1),(20,3)]<|r0' J J (stf (Yo J J) K1)<|r0' J J (stf (Yh J J J) K1)<|r0' J J (stf (Yh J J J) K1)<|r1' J (Zr (i:=97) J J zeroValue48 J J hw K1) fun b_16 ho16=>r1' J (Zm (i:=97) J J J J J (by decide) J Xp J J ⟨Zb J,Zl (i:=83) J Zi,trivial⟩ J hw ho16) fun _ _=>r3' J (Zm (i:=98) J J J J J (by decide) J Xp J J ⟨Zb J,Zl (i:=84) J Zi,trivial⟩ J hw trivial) fun _ _=>Yk<|Yf<|Qt (_,_,_,_) trivial K6 ⟨by rw [←hcw,←hci2];rfl,by rw [←hcw,←hci2];rfl,by rw [←hcw,←hci2];rfl,by rw [←hcw,←hci2];rfl,rfl,rfl,rfl,rfl,rfl,rfl,trivial⟩
       ·exact Yj J (Zr (i:=97) J J zeroValue48 J J hw K1) fun b_17 ho17=>Zx (n:=0) [(13,1),(14,0),(15,0),(16,0),(19,1),(20,3)]<|r1' J (Zh (n:=83) (Gp _ _ _ _ (by rw [hcw];omega) (by rw [hci2];exact hlead) (by rw [hci2];omega)) J J J K2 Zfp (Zc 6 J J J (Ot 2 J J (Yz (zs:=ys) (i:=ys.length-1) (d:=I0)) Ze)) J hw) fun g_10 _=>r0' J J (stf (Yo J J) K1)<|r0' J J (stf (Yh J J J) K1)<|r0' J J (stf (Yh J J J) K1)<|r1' J (Zm (i:=97) J J J J J (by decide) J Xp J J ⟨Zb J,Zl (i:=83) J Zi,trivial⟩ J hw ho17) fun _ _=>r3' J (Zm (i:=98) J J J J J (by decide) J Xp J J ⟨Zb J,Zl (i:=84) J Zi,trivial⟩ J hw trivial) fun _ _=>Yk<|Yf<|Qt (_,_,_,_) trivial K6 ⟨by rw [←hcw,←hci2];rfl,by rw [←hcw,←hci2];rfl,by rw [←hcw,←hci2];rfl,by rw [←hcw,←hci2];rfl,rfl,rfl,rfl,rfl,rfl,rfl,trivial⟩
      ·exact Yj J (Zr (i:=97) J J zeroValue48 J J hw K1) fun b_18 ho18=>Zx (n:=0) [(6,1),(13,1),(14,0),(15,0),(16,0),(19,1),(20,3)]<|r1' J (Zh (n:=7) (Zh5 _ _ _ (((Zt zs).length-(Zt ys).length-j)+(Zt ys).length-1)) J J J K2 call101 (Zc 80 J J J Ze) J hw) fun v_6 _=>r1' J (Zh (n:=83) (Gp _ _ _ _ (by rw [hcw];omega) (by rw [hci2];exact hlead) (by rw [hci2];omega)) J J J K2 Zfp (Zc 7 J J J (Ot 2 J J (Yz (zs:=ys) (i:=ys.length-1) (d:=I0)) Ze)) J hw) fun g_11 _=>r0' J J (stf (Yo J J) K1)<|r0' J J (stf (Yh J J J) K1)<|r0' J J (stf (Yh J J J) K1)<|r1' J (Zm (i:=97) J J J J J (by decide) J Xp J J ⟨Zb J,Zl (i:=83) J Zi,trivial⟩ J hw ho18) fun _ _=>r3' J (Zm (i:=98) J J J J J (by decide) J Xp J J ⟨Zb J,Zl (i:=84) J Zi,trivial⟩ J hw trivial) fun _ _=>Yk<|Yf<|Qt (_,_,_,_) trivial K6 ⟨by rw [←hcw,←hci2];rfl,by rw [←hcw,←hci2];rfl,by rw [←hcw,←hci2];rfl,by rw [←hcw,←hci2];rfl,rfl,rfl,rfl,rfl,rfl,rfl,trivial⟩
    ·rintro⟨qv,rv,b7,b8⟩ -
     simp only [CA,NA]
     refine Zd<|Zd<|Zg<|dt (Zy (i:=98) J J J Nm Xp J J)<|tt (Zh (n:=7) (Ca _ _ (by have:=Zm8 (cf (Ql (Zt zs) (Zt ys) j) (((Zt zs).length-(Zt ys).length-j)+(Zt ys).length-1)) (cf (Zt ys) ((Zt ys).length-1)) hlead;omega)) J J J K1 call72 (Zc 84 J J J Ze) J hw) fun _ _=>dt (Qc J J J)<|Zf<|Za<|Zs J (fun h234=>?_) (fun h234=>?_)
     ·have hne:¬Lb (Zt zs) (Zt ys) ((Zt zs).length-(Zt ys).length-j):=fun he=>h234 (by rw [(Zd3 hj2).1 he];rfl)
      refine Zd<|Zg<|as_ J<|as_ J<|Zf<|Za<|Zu<|Xa<|Ix<|Xa<|Xa<|Ix<|Xa<|Qu (Ek 62) ?_
      have hno:=pdv_no (p:=Zt zs) (q:=Zt ys) hnz (by omega) hne
      exact Ym (.inl J) hsc (.slice none 0 0,[]) _ (fun a w hs=>Nl hs results55 J J) (by rw [hno]) (fun h=>absurd h (of_decide_eq_false hno)) J (Yy 62 J J J Zk)
     ·have hr0:((cf (Ql (Zt zs) (Zt ys) j) (((Zt zs).length-(Zt ys).length-j)+(Zt ys).length-1))%(cf (Zt ys) ((Zt ys).length-1)))=0:=Int.sign_eq_zero_iff_zero.1 (Decidable.byContradiction h234)
      have hde:Lb (Zt zs) (Zt ys) ((Zt zs).length-(Zt ys).length-j):=(Zd3 hj2).2 hr0
      have hcb:=fun t=>Nat.le_trans (div_c hlead hr0 (Nat.le_refl _) t) hb2
      have hcc:=Hh (Int.dvd_of_emod_eq_zero hr0) (Nat.le_trans (Nat.le_add_right _ _) hb2)
      refine Zj<|Za<|Zd<|e_ex (Ov 83 J Zi) (fun sl hsl=>?_)
      subst hsl
      refine Zg<|mv J<|mv J<|dt (Zy (i:=97) J J J Nm Xp J J)<|dt (Xb (ii:=60) (i:=((Zt zs).length-(Zt ys).length-j)) J J J J (Yt pI) Nn Xp)<|tt (Ii (i:=60) (enc:=Dw) (((cf (Ql (Zt zs) (Zt ys) j) (((Zt zs).length-(Zt ys).length-j)+(Zt ys).length-1))/(cf (Zt ys) ((Zt ys).length-1))),sl) J J J J J J pI J hw) fun _ _=>Zf<|Za<|Zd<|Yr (Pz (q:=qI) (z:=(((cf (Ql (Zt zs) (Zt ys) j) (((Zt zs).length-(Zt ys).length-j)+(Zt ys).length-1))/(cf (Zt ys) ((Zt ys).length-1))),sl)) 61 83 62 J J J J J)<|Yr (Zp2 (ys:=os.set ((Zt zs).length-(Zt ys).length-j) (((cf (Ql (Zt zs) (Zt ys) j) (((Zt zs).length-(Zt ys).length-j)+(Zt ys).length-1))/(cf (Zt ys) ((Zt ys).length-1))),sl)) 62 61 J J (fun y hy=>by rcases List.mem_or_eq_of_mem_set hy with h | h;exact List.mem_append_left _ h;rw [h];exact List.mem_append_right _ (List.mem_singleton.2 rfl)))<|Zg<|mv J<|tt (Gb (i:=70) (n:=((Zt zs).length-(Zt ys).length-j)) (by_:=32) (enc:=Dw) I0 J J J J Nn ti48 J pI.cells pI.pos J J J hw) fun v_7 _=>as_ J<|Zf<|Za<|Zd<|Zd<|Zg<|as_ J<|Zf<|Za<|Zo<|Yr (Ej 71 ((Zt zs).length-(Zt ys).length-j)) ?_
      refine Nt [(1,_),(6,_),(7,_),(8,_),(9,_)] [(0,_),(83,_),(84,_),(97,_),(98,_),(60,_),(61,_),(80,_),(1,_),(2,_)] (fun(q:Nat×Value×List (Int×SL))=>[(12,.int .i64 (q.1:Int)),(11,q.2.1)]) (fun(q:Nat×Value×List (Int×SL))=>[(70,osl 2 48 Dw q.2.1 q.2.2),(71,Zcn qI q.2.2)]) (fun(q:Nat×Value×List (Int×SL))=>(q.1≤ys.length)∧(Zt q.2.2=shm (Zt ys) ((cf (Ql (Zt zs) (Zt ys) j) (((Zt zs).length-(Zt ys).length-j)+(Zt ys).length-1))/(cf (Zt ys) ((Zt ys).length-1))) ((Zt zs).length-(Zt ys).length-j) q.1)∧(q.2.2.length=((Zt zs).length-(Zt ys).length-j)+q.1)) (fun(q:Nat×Value×List (Int×SL))=>ys.length-q.1) (0,_,List.replicate ((Zt zs).length-(Zt ys).length-j) I0) ⟨by first | omega | (dsimp only<;>omega),by rw [←Zdq];simp [Zt],by simp⟩ K7 K12 ?_
      rintro⟨i,vo,ms⟩ ⟨hi,hms,hml⟩
      dsimp only at hi hms hml
      simp only [CA,NA]
      have hci:=Nk ys i
      refine Zd<|Zd<|Zg<|mv J<|mv J<|dt (Yd J J (i:=2) J Yb Nn)<|dt (Xr J J J)<|Zf<|Za<|Zs J (fun h239=>?_) (fun h239=>?_)
      ·refine Zj<|Za<|Zd<|Zo<|Oi [2,97] [9]<|Zx (n:=3) [(0,0),(1,0),(2,0),(3,0),(4,0),(5,0),(6,1)]<|r0' J J (stf (Yo J J) K2)<|r0' J J (stf (Zy (i:=97) J J J Nm Xp J J) K2)<|r0' J J (stf (Yo J J) K2)<|r0' J J (stf (Yo J J) K2)<|r0' J J (stf (Xb (ii:=2) J J J J Yb Nn Xp J (by first | omega | (simp only [List.length_set];omega))) K2)<|r0' J J (stf (Xv (ii:=2) I0 J J J Yb pI (by first | omega | (simp only [List.length_set];omega))) K2)<|r1' J (Zh (n:=86) (Fs _ _ _ _ (by omega) (by rw [hci];have:=hsy i;omega)) J J J K2 Zf9 (Zc 83 J J J (Ot 2 J J (Yz (i:=i)) Ze)) J hw) fun v_8 _=>Yk<|Zle (Ov 86 J Zi) (fun sl_2 hsl=>?_)
       subst hsl
       exact Zx (n:=0) [(7,1),(8,1),(9,3)]<|r1' J (Po (i:=87) (ivs:=[(0,_)]) (enc:=Dw) [(((cf (Ql (Zt zs) (Zt ys) j) (((Zt zs).length-(Zt ys).length-j)+(Zt ys).length-1))/(cf (Zt ys) ((Zt ys).length-1)))*(ys.getD i I0).1,sl_2)] J J K2 Nn ti48 J J J J J pI.cells J J hw) fun v_9 _=>r1' J (Zek 70 J J J K2 (fun hoffr=>(Al (xs:=ms) (ys:=[_]) (i:=70) (j:=87) (by_:=32) J J J J J J (by decide) J (Yt pI) Nn ti48 J pI J J J (by simp;omega) (by decide) J hw hoffr))) fun v_10 _=>r3' J (Py (Mf J J) J) fun _ _=>Yk<|Yf<|Oe<|Za<|Zg<|mv J<|dt (Yx J J J ⟨by omega,by omega⟩)<|as_ J<|Zf<|Qu (Pz (q:=qI) (z:=(((cf (Ql (Zt zs) (Zt ys) j) (((Zt zs).length-(Zt ys).length-j)+(Zt ys).length-1))/(cf (Zt ys) ((Zt ys).length-1)))*(ys.getD i I0).1,sl_2)) 71 86 71 J J J J J)<|Xn (i+1,_,ms ++ [(((cf (Ql (Zt zs) (Zt ys) j) (((Zt zs).length-(Zt ys).length-j)+(Zt ys).length-1))/(cf (Zt ys) ((Zt ys).length-1)))*(ys.getD i I0).1,sl_2)]) ⟨by first | omega | (dsimp only<;>omega),by rw [Ko,hms,←Zdr];dsimp only;rw [hci],by simp;omega⟩ (by first | omega | (dsimp only<;>omega)) K7 K12
      ·refine Yv<|Zv<|Zv<|Ox<|Za<|Yr (Pd 70 J J pI)<|Yr (Mq 70 71 72 J J J J)<|Zg<|mv J<|mv J<|tt (Zh (n:=8) (Zcf _ _ (by rw [hms];exact Znr fun t=>by have:=hcb t;omega)) J J J K1 call89 (Zc 72 J J J Ze) J hw) fun g_12 hg=>tt (Zh (n:=9) (Zn0 _ _ _ _ (by rw [hws];exact Sz.tzl fun t=>by have:=hb1 t;omega) (by rw [hg,hms];exact Sz.tzl (Znr fun t=>by have:=hcb t;omega)) (by omega) (by have h7:=congrArg List.length hg;have h8:=Gm (Zt ms);have h9:=Zw ms;have h10:=Zw g_12.2;omega)) J J J K2 call88 (Zc 80 J J J (Zc 8 J J J Ze)) J hw) fun g_13 hg_2=>as_ J<|Zf<|Oe<|Za<|Zg<|mv J<|dt (Qd J J J ⟨by omega,by omega⟩)<|as_ J<|Zf ?_
       obtain rfl:i=(Zt ys).length:=by omega
       exact Qu (Oa 9 80 J J J)<|Xn (j+1,os.set ((Zt zs).length-(Zt ys).length-j) (((cf (Ql (Zt zs) (Zt ys) j) (((Zt zs).length-(Zt ys).length-j)+(Zt ys).length-1))/(cf (Zt ys) ((Zt ys).length-1))),sl),_,_) ⟨by dsimp only;omega,fun k h1 h2=>by dsimp only at h1 h2;rcases Nat.lt_or_ge ((Zt zs).length-(Zt ys).length) (k+j)with h3 | h3;(exact hx k h3 h2);(rw [show k=((Zt zs).length-(Zt ys).length-j) by omega];exact hde),by dsimp only;rw [Zx8,hos];exact Zul (by omega),by dsimp only;rw [hg_2,hg,hws,hms];exact Zyj (by omega) hj2⟩ (by first | omega | (dsimp only<;>omega)) ⟨J,by dsimp only;rw [show(zs.length:Int)-(ys.length:Int)-((j+1:Nat):Int)=(zs.length:Int)-(ys.length:Int)-(j:Int)-1 by omega];rfl,rfl,rfl,trivial⟩ K6
   ·refine Yv<|Zv<|Zv<|Ox<|Za<|Zd ?_
    have hall:∀k,k≤(Zt zs).length-(Zt ys).length→Lb (Zt zs) (Zt ys) k:=fun k hk=>hx k (by omega) hk
    exact Yr (Pd 60 J J pI)<|Yr (Mq 60 61 72 J J J J)<|Zg<|mv J<|tt (Zh (n:=10) (Zcf _ _ (by rw [hos];exact(dout_sz hF3 hall _).mono (by omega))) J J J K1 call89 (Zc 72 J J J Ze) J hw) fun g_14 hg_3=>mv J<|dt (Yd J J (i:=80) J Yb Nn)<|dt (Pg J J J)<|as_ J<|as_ J<|Zf<|Za<|Zu<|Ym (.inl J) hsc _ _ (fun a w hs=>Nl hs results55 J J) (by rw [←pdv_end hnz (by omega) hall (show ws.length=_ by rw [←hlw,hws,show j=(Zt zs).length-(Zt ys).length+1 by omega]),show decide ((ws.length:Int)=0)=decide (ws.length=0)from decide_eq_decide.2 (by omega)]<;>rfl) (fun _=>by rw [hg_3,hos,show j=(Zt zs).length-(Zt ys).length+1 by omega,Zbo,Zie hnz]) J (Yy 10 J J J Zk)
set_option maxHeartbeats 4000000 in
theorem rp_gcd(v u:Value)(zs ys:List (Int×SL))(F:Nat)(hv:Vp (Zt zs))(hu:Vp (Zt ys))(hok:eok F (Zt zs) (Zt ys)):Cal prog 114 #[v,u] [pp v zs,pp u ys] true (G:=Value×List (Int×SL)) (fun r=>Zt r.2=Kp (Xc (eu F (Zt zs) (Zt ys)))) (fun r=>r.1) (fun r=>[pp r.1 r.2]):=by
 refine Yc func114 J ntmps114 J K2 ?_
 intro w0 sc hw hsc
 simp only [Zq,Zp]
 refine Zd<|Zg<|as_ J<|Zf<|Za<|Zd<|Zg<|mv J<|mv J<|as_ J<|as_ J<|Zf<|Za<|Zd<|Zo<|Yr (Oa 1 80 J J J)<|Yr (Oa 2 81 J J J)<|Nt [] [(0,_),(1,_),(2,_)] (fun(q:Value×Value×List (Int×SL)×List (Int×SL)×Nat)=>[(5,q.1),(6,q.2.1)]) (fun(q:Value×Value×List (Int×SL)×List (Int×SL)×Nat)=>[(80,pp q.1 q.2.2.1),(81,pp q.2.1 q.2.2.2.1)]) (fun(q:Value×Value×List (Int×SL)×List (Int×SL)×Nat)=>(Vp (Zt q.2.2.1))∧(Vp (Zt q.2.2.2.1))∧(eok q.2.2.2.2 (Zt q.2.2.1) (Zt q.2.2.2.1))∧(eu q.2.2.2.2 (Zt q.2.2.1) (Zt q.2.2.2.1)=eu F (Zt zs) (Zt ys))) (fun(q:Value×Value×List (Int×SL)×List (Int×SL)×Nat)=>q.2.2.2.2) (_,_,zs,ys,F) ⟨hv,hu,hok,J⟩ K2 K5 ?_
 rintro⟨va,vb,aa,bb,f⟩ ⟨hva,hvb,hok0,heu⟩
 dsimp only at hva hvb hok0 heu
 simp only [CA,NA]
 have hla:=Zw aa
 have hlb:=Zw bb
 have hna:=hva.len
 have hnb:=hvb.len
 refine Zd<|Zd<|Zg<|mv J<|dt (Yd J J (i:=81) J Yb Nn)<|dt (Pm J J J)<|Zf<|Za<|Zs J (fun h250=>?_) (fun h250=>?_)
 ·have hbn:Zt bb≠[]:=fun e=>by have h7:=congrArg List.length e;simp only [List.length_nil]at h7;omega
  obtain⟨f1,rfl,hde,hok1,heu1⟩:=Zo1 hok0 hbn
  have hdo:=(Zac hde).2
  have hvp:=Bd hva hde
  exact Zj<|Za<|Zo<|Zg<|mv J<|mv J<|mv J<|tt (Zh (n:=3) (rp_rest _ _ _ _ (by omega) (by omega) (by omega) hvb.tr (fun h=>by have h7:=hdo (by omega);rw [hla,hlb]at h7;omega)) J J J K2 call160 (Zc 80 J J J (Zc 81 J J J Ze)) J hw) fun g hg=>tt (Zh (n:=4) (Kz _ _ (by rw [hg];exact hvp.sz.mono (by omega)) (fun h=>by rw [hg];exact hvp.ne (fun e=>by have h7:=congrArg List.length hg;rw [e,Zw]at h7;exact h h7)) (by have h7:=congrArg List.length hg;have h8:=hvp.len;have h9:=Zw g.2;omega)) J J J K1 call57 (Zc 3 J J J Ze) J hw) fun g_2 hg_2=>as_ J<|as_ J<|Zf<|Oe<|Qu (Oa 81 80 J J J)<|Qu (Oa 4 81 J J J)<|Xn (_,_,bb,g_2.2,f1) ⟨hvb,by dsimp only;rw [hg_2,hg];exact Lx hvp,by dsimp only;rw [hg_2,hg];exact hok1,by dsimp only;rw [hg_2,hg,←heu1];exact heu⟩ (Nat.lt_succ_self f1) K2 K5
 ·have hbn:Zt bb=[]:=List.eq_nil_of_length_eq_zero (by omega)
  rw [hbn,Ey]at heu
  have hpb:=Hk hva.sz
  have hpl:=Yl (Zt aa)
  refine Yv<|Zv<|Zv<|Ox<|Za<|Zd<|Zg<|mv J<|tt (Zh (n:=5) (Kz _ _ (hva.sz.mono (by omega)) (fun h=>hva.ne (fun e=>by have h7:=congrArg List.length e;simp only [List.length_nil]at h7;omega))) J J J K1 call57 (Zc 80 J J J Ze) J hw) fun g_3 hg_3=>as_ J<|Zf<|Za<|Zd<|Zd ?_
  have hpz:g_3.2.length=aa.length:=by rw [←Zw g_3.2,hg_3,hpl];exact hla
  refine Zg<|mv J<|dt (Yd J J (i:=5) J Yb Nn)<|dt (Pm J J J)<|mv J<|Qm (d:=22) J (fun s254=>?_) (fun s254=>?_)
  ·refine gdt (Yo J J) J J<|gdt (Yo J J) J J<|gdt (Yd J J (i:=5) J Yb Nn) J J<|gdt (Qd J J J ⟨by omega,by omega⟩) J J<|gdt (Xb (ii:=5) (i:=(g_3.2.length-1)) J J J J Yb Nn Xp) J J<|gdt (Xv (ii:=5) I0 J J J Yb pI) J J<|gtt (Zh (n:=5) (Ca _ _ (by rw [Nk,hg_3];have:=hpb (g_3.2.length-1);omega)) J J J K1 call72 (Ot 5 J J (Yz (zs:=g_3.2) (i:=g_3.2.length-1) (d:=I0)) Ze) J hw) J J J fun _ _=>gdt (Xr J J J) J J<|dt (Ys J J J)<|Zf<|Za<|Zs J (fun h254=>?_) (fun h254=>?_)
   ·have hlc:=Nk g_3.2 (g_3.2.length-1)
    have hneg:(Kp (Xc (Zt aa)))=Xo (Xc (Zt aa)) (-1):=by unfold Kp;rw [if_pos ⟨by omega,by rw [←hg_3,Zw,←hlc];exact(Qe _).1 h254⟩]
    exact Zd<|Zg<|mv J<|tt (Zh (n:=6) (Zn1 _ _ (by rw [hg_3];exact hpb.mono (by omega))) J J J K1 call138 (Zc 5 J J J Ze) J hw) fun g_4 hg_4=>as_ J<|Zf<|Za<|Zu<|Xa<|Ym (.inl J) hsc _ _ (fun a w hs=>Ni hs results114 J) J (by rw [hg_4,hg_3,←heu,hneg]) J (Yy 6 J J J Zk)
   ·refine Zj<|Za<|Zd<|Zg<|mv J<|as_ J<|Zf<|Za<|Zu ?_
    have hneg:(Kp (Xc (Zt aa)))=Xc (Zt aa):=by unfold Kp;rw [if_neg (fun h=>by rw [←hg_3,Zw,←Nk]at h;first | omega | exact absurd ((Qe _).2 h.2) ‹_›)]
    exact Ym (.inl J) hsc (_,g_3.2) _ (fun a w hs=>Ni hs results114 J) J (by rw [hg_3,←heu,hneg]) J (Yy 5 J J J Zk)
  ·refine gsk J J J<|gsk J J J<|gsk J J J<|gsk J J J<|gsk J J J<|gsk J J J<|gsk J J J<|gsk J J J<|dt (Zz J J J)<|Zf<|Za<|Ye J<|Zj<|Za<|Zd<|Zg<|mv J<|as_ J<|Zf<|Za<|Zu ?_
   have hneg:(Kp (Xc (Zt aa)))=Xc (Zt aa):=by unfold Kp;rw [if_neg (fun h=>by rw [←hg_3,Zw,←Nk]at h;first | omega | exact absurd ((Qe _).2 h.2) ‹_›)]
   exact Ym (.inl J) hsc (_,g_3.2) _ (fun a w hs=>Ni hs results114 J) J (by rw [hg_3,←heu,hneg]) J (Yy 5 J J J Zk)
end Go.Sky

