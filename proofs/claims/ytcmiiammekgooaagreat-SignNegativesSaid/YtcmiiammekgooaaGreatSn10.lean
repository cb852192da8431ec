/- rules, arithmetic and contracts: part 11
   Proved without conditions of its own: each theorem bears its own. -/
import Derived.Test.YtcmiiammekgooaaGreatSn03
import Derived.Test.YtcmiiammekgooaaGreatSn02
import Derived.Test.YtcmiiammekgooaaGreatSn01
import Derived.Test.YtcmiiammekgooaaGreatSn08
import Derived.Test.YtcmiiammekgooaaGreatSn09
set_option linter.all false
namespace Go.Sky
open Go.Proofs.Tryz
open Go.Proofs
set_option maxRecDepth 20000
set_option maxHeartbeats 4000000
set_option linter.unusedSimpArgs false
theorem rp_from(v:Value)(xs:List Int)(hs:Sz 1000000 xs)(hl:xs.length≤1000):Cal prog 16 #[v] [slp 2 wv v xs] true (G:=Value×List (Int×SL)) (fun r=>Zt r.2=xs) (fun r=>r.1) (fun r=>[pp r.1 r.2]):=by
 refine Yd func16 J ntmps16 J K1 ?_
 intro w0 sc hw hsc
 simp only [Zq,Zp]
 refine Ze<|Zg<|as_ J<|Zf<|Za<|Ze<|Zg<|as_ J<|Zf<|Za<|Ze<|Ze<|Zg<|as_ J<|Zf<|Za<|Zo<|Yq (Nh 70 2 48 Ca)<|Yq (Mu qI 71)<|Nw [(0,_)] [(0,_),(1,_)] (fun(q:Nat×Value×List (Int×SL))=>[(4,.int .i64 (q.1:Int)),(3,q.2.1)]) (fun(q:Nat×Value×List (Int×SL))=>[(70,osl 2 48 Ca q.2.1 q.2.2),(71,Zci qI q.2.2)]) (fun(q:Nat×Value×List (Int×SL))=>(q.1≤xs.length)∧(Zt q.2.2=xs.take q.1)∧(q.2.2.length=q.1)) (fun(q:Nat×Value×List (Int×SL))=>xs.length-q.1) (0,.slice none 0 0,[]) ⟨by first | omega | (dsimp only<;>omega),rfl,rfl⟩ K3 K4 ?_
 rintro⟨i,vo,zs⟩ ⟨hi,hz,hzl⟩
 dsimp only at hi hz hzl
 simp only [CA,NA]
 refine Ze<|Ze<|Zg<|mv J<|mv J<|dt (Yh J J (i:=1) J Zi Qx)<|dt (Xv J J J)<|Zf<|Za<|Zs J (fun h41=>?_) (fun h41=>?_)
 ·refine Zl<|Za<|Ze<|Zo<|Zg<|mv J<|mv J<|mv J<|dt (Xc (ii:=1) J J J J Zi Qx Yo J (by first | omega | (simp only [List.length_set];omega)))<|dt (Xs (ii:=1) 0 J J J Zi pV (by first | omega | (simp only [List.length_set];omega)))<|tt (Zh (n:=2) (Zc0 _ (by have:=hs.getD i;omega)) J J J K1 call30 Zd J hw) fun v _=>l_ex (Ow 2 J Zi) (fun sl hsl=>?_)
  subst hsl
  exact tt (Pm (i:=3) (ivs:=[(0,_)]) (enc:=Ca) [(xs.getD i 0,sl)] J J K2 Nn ti48 J J J J J pI.cells J J hw) fun v_2 _=>tt (Iv (i:=70) (j:=3) (by_:=32) J J J J J J (by decide) J (Yt pI) Nn ti48 J pI J J J (by simp;omega) (by decide) J hw) fun v_3 _=>as_ J<|Zf<|Oe<|Za<|Zg<|mv J<|dt (Yy J J J ⟨by omega,by omega⟩)<|as_ J<|Zf<|Qy (Py (q:=qI) (z:=(xs.getD i 0,sl)) 71 2 71 J J J J J)<|Xp (i+1,_,zs ++ [(xs.getD i 0,sl)]) ⟨by first | omega | (dsimp only<;>omega),by rw [Oq 0 _ _ (by omega),←hz];simp [Zt],by simp [hzl]⟩ (by first | omega | (dsimp only<;>omega)) K3 K4
 ·exact Yw<|Zx<|Zx<|Na<|Za<|Ze<|Yq (Pe 70 J J pI)<|Yq (Mq 70 71 72 J J J J)<|Zg<|mv J<|as_ J<|Zf<|Za<|Zw<|Zy (.inl J) hsc (_,zs) _ (fun a w hs=>Xy hs results16 J) J (by rw [hz,List.take_of_length_le (by omega)]) J (Xb 72 J J J Zj)
theorem rp_to(v:Value)(zs:List (Int×SL))(hs:Sz 1000000 (Zt zs))(hl:zs.length≤1000):Cal prog 18 #[v] [pp v zs] false (G:=Value) (fun r=>True) (fun r=>r) (fun r=>[slp 2 wv r (Zt zs)]):=by
 refine Yd func18 J ntmps18 J K1 ?_
 intro w0 sc hw hsc
 simp only [Zq,Zp]
 have hli:=Zv zs
 refine Ze<|Zg<|as_ J<|Zf<|Za<|Ze<|Zg<|as_ J<|Zf<|Za<|Ze<|Ze<|Zg<|as_ J<|Zf<|Za<|Zo<|Yq (Nh 70 2 31 wv)<|Nw [(0,_)] [(0,_),(1,_)] (fun(q:Nat×Value)=>[(4,.int .i64 (q.1:Int)),(3,q.2)]) (fun(q:Nat×Value)=>[(70,osl 2 31 wv q.2 ((Zt zs).take q.1))]) (fun(q:Nat×Value)=>q.1≤zs.length) (fun(q:Nat×Value)=>zs.length-q.1) (0,.slice none 0 0) (by first | omega | (dsimp only<;>omega)) K3 K3 ?_
 rintro⟨i,vo⟩ hi
 dsimp only at hi
 simp only [CA,NA]
 have htl:((Zt zs).take i).length=i:=by rw [List.length_take];omega
 have hci:=Nm zs i
 refine Ze<|Ze<|Zg<|mv J<|mv J<|dt (Yh J J (i:=1) J Zz Nn)<|dt (Xv J J J)<|Zf<|Za<|Zs J (fun h50=>?_) (fun h50=>?_)
 ·exact Zl<|Za<|Ze<|Zo<|Zg<|mv J<|mv J<|mv J<|dt (Xc (ii:=1) J J J J Zz Nn Qd J (by first | omega | (simp only [List.length_set];omega)))<|dt (Xs (ii:=1) I0 J J J Zz pI (by first | omega | (simp only [List.length_set];omega)))<|tt (Zh (n:=1) (r_to _ _ (by rw [hci];have:=hs i;omega)) J J J K1 call53 (Ou 1 J J (Yx) Zd) J hw) fun _ _=>tt (Pm (i:=2) (ivs:=[(0,_)]) (enc:=wv) [(zs.getD i I0).1] J J K2 Qx ti31 J J J J J pV.cells J J hw) fun v _=>tt (Iv (i:=70) (j:=2) (by_:=24) J J J J J J (by decide) J (Yt pV) Qx ti31 J pV J J J (by simp;omega) (by decide) J hw) fun v_2 _=>as_ J<|Zf<|Oe<|Za<|Zg<|mv J<|dt (Yy J J J ⟨by omega,by omega⟩)<|as_ J<|Zf<|Xp (i+1,_) (by first | omega | (dsimp only<;>omega)) (by first | omega | (dsimp only<;>omega)) K3 ⟨by rw [Oq 0 _ _ (by omega),show(Zt zs).getD i 0=(zs.getD i I0).1 from hci.symm];rfl,rfl,rfl,trivial⟩
 ·exact Yw<|Zx<|Zx<|Na<|Za<|Ze<|Zg<|mv J<|as_ J<|Zf<|Za<|Zw<|Zy (.inl J) hsc _ _ (fun a w hs=>Xy hs results18 J) J trivial J (Ob 70 J J pV (List.take_of_length_le (by omega)) Zj)
theorem Zca(v:Value)(zs:List (Int×SL))(hs:Sz 3000000000 (Zt zs)):Cal prog 89 #[v] [pp v zs] true (G:=Value×List (Int×SL)) (fun r=>Zt r.2=tzl (Zt zs)) (fun r=>r.1) (fun r=>[pp r.1 r.2]):=by
 refine Yd func89 J ntmps89 J K1 ?_
 intro w0 sc hw hsc
 simp only [Zq,Zp]
 refine Md (Zmo (i:=1) J) fun hself=>Md (Gg (i:=1) J Zz) (fun hlen=>?_)
 have hli:=Zv zs
 refine Ze<|Zg<|as_ J<|Zf<|Za<|Ze<|Zo<|Nw [] [(0,_)] (fun(k:Nat)=>[(0,Eb v k)]) (fun(k:Nat)=>[(1,pp (Eb v k) (zs.take k))]) (fun(k:Nat)=>(k≤zs.length)∧(tzl ((Zt zs).take k)=tzl (Zt zs))) (fun(k:Nat)=>k) zs.length ⟨Nat.le_refl _,by rw [List.take_of_length_le (by omega)]⟩ ⟨by rw [hself];rfl,trivial⟩ ⟨by rw [hself,List.take_length];rfl,rfl,trivial⟩ ?_
 rintro k ⟨hk,ht⟩
 simp only [CA,NA]
 have hl:(zs.take k).length=k:=by rw [List.length_take];omega
 have hce:((zs.take k).getD (k-1) I0).1=((Zt zs).take k).getD (k-1) 0:=by rw [Nm,Zec];rfl
 refine Ze<|Ze<|Zg<|mv J<|dt (Yh J J (i:=1) J Zz Nn)<|dt (Of J J J)<|mv J<|Pa (d:=6) J (fun s22=>?_) (fun s22=>?_)
 ·refine gdt (Yr J J) J J<|gdt (Yr J J) J J<|gdt (Yh J J (i:=1) J Zz Nn) J J<|gdt (Qf J J J ⟨by omega,by omega⟩) J J<|gdt (Xc (ii:=1) (i:=k-1) J J J J Zz Nn Qd) J J<|gdt (Xs (ii:=1) I0 J J J Zz pI) J J<|gtt (Zh (n:=1) (Ce _ _ (by rw [hce];exact(hs.take _).getD _)) J J J K1 call72 (Ou 1 J J (Yx) Zd) J hw) J J J fun _ _=>gdt (Pv J J J) J J<|dt (Yu J J J)<|Zf<|Za<|Zs J (fun h22=>?_) (fun h22=>?_)
  ·rw [hce]at h22
   have hstep:=Znh (xs:=Zt zs) (k:=k) (by omega) (by omega) (Zga (k:=k) (by omega) (Int.sign_eq_zero_iff_zero.1 h22))
   exact Zl<|Za<|Zo<|Zg<|mv J<|mv J<|dt (Yh J J (i:=1) J Zz Nn)<|dt (Qf J J J ⟨by omega,by omega⟩)<|dt (Zyg (ii:=1) (i:=k-1) J J J J Zz Nn Qd)<|as_ J<|Zf<|Oe<|Qy (Zru 1 1 (k-1) J J (by omega))<|Xp (k-1) ⟨by first | omega | (dsimp only<;>omega),by rw [←ht,←hstep]⟩ (by first | omega | (dsimp only<;>omega)) ⟨by rw [←Hr v k (k-1)];rfl,trivial⟩ ⟨by rw [Hr,List.take_take,Nat.min_eq_left (by omega)];rfl,rfl,trivial⟩
  ·try rw [hce]at h22
   exact Yw<|Zx<|Zx<|Na<|Za<|Ze<|Zg<|mv J<|as_ J<|Zf<|Za<|Zw<|Zy (.inl J) hsc (_,zs.take k) _ (fun a w hs=>Xy hs results89 J) J (by rw [Zec,←ht];exact(Zdf (by omega) (by first | (left;omega) | (right;exact Zdg (k:=k) (by omega) ‹_›))).symm) J (Xb 1 J J J Zj)
 ·exact gsk J J J<|gsk J J J<|gsk J J J<|gsk J J J<|gsk J J J<|gsk J J J<|gsk J J J<|gsk J J J<|dt (Yg J J J)<|Zf<|Za<|Yi J<|Yw<|Zx<|Zx<|Na<|Za<|Ze<|Zg<|mv J<|as_ J<|Zf<|Za<|Zw<|Zy (.inl J) hsc (_,zs.take k) _ (fun a w hs=>Xy hs results89 J) J (by rw [Zec,←ht];exact(Zdf (by omega) (by first | (left;omega) | (right;exact Zdg (k:=k) (by omega) ‹_›))).symm) J (Xb 1 J J J Zj)
theorem rp_nums(v:Value)(l:List Int)(hl:∀x∈l,inI x)(hlen:l.length≤1000):Cal prog 102 #[v] [slp 1 Zaf v l] true (G:=Value×List (Int×SL)) (fun r=>Zt r.2=tzl l) (fun r=>r.1) (fun r=>[pp r.1 r.2]):=by
 refine Yd func102 J ntmps102 J K1 ?_
 intro w0 sc hw hsc
 simp only [Zq,Zp]
 have hsz:=Zef hl
 refine Ze<|Zg<|as_ J<|Zf<|Za<|Ze<|Zg<|as_ J<|Zf<|Za<|Ze<|Ze<|Zg<|as_ J<|Zf<|Za<|Zo<|Yq (Nh 70 2 48 Ca)<|Yq (Mu qI 71)<|Nw [(0,_)] [(0,_),(1,_)] (fun(q:Nat×Value×List (Int×SL))=>[(4,.int .i64 (q.1:Int)),(3,q.2.1)]) (fun(q:Nat×Value×List (Int×SL))=>[(70,osl 2 48 Ca q.2.1 q.2.2),(71,Zci qI q.2.2)]) (fun(q:Nat×Value×List (Int×SL))=>(q.1≤l.length)∧(Zt q.2.2=mk q.1 (cf l))∧(q.2.2.length=q.1)) (fun(q:Nat×Value×List (Int×SL))=>l.length-q.1) (0,.slice none 0 0,[]) ⟨by first | omega | (dsimp only<;>omega),rfl,rfl⟩ K3 K4 ?_
 rintro⟨i,vo,ws⟩ ⟨hi,hz,hzl⟩
 dsimp only at hi hz hzl
 simp only [CA,NA]
 refine Ze<|Ze<|Zg<|mv J<|mv J<|dt (Yh J J (i:=1) J Zi Me)<|dt (Xv J J J)<|Zf<|Za<|Zs J (fun h59=>?_) (fun h59=>?_)
 ·refine Zl<|Za<|Ze<|Zo<|Zg<|mv J<|mv J<|mv J<|dt (Xc (ii:=1) J J J J Zi Me zT3 J (by first | omega | (simp only [List.length_set];omega)))<|dt (Xs (ii:=1) 0 J J J Zi pZ (by first | omega | (simp only [List.length_set];omega)))<|tt (Zh (n:=2) (Zjz _ (hl _ (Yx))) J J J K1 call34 Zd J hw) fun v _=>l_ex (Ow 2 J Zi) (fun sl hsl=>?_)
  subst hsl
  exact tt (Pm (i:=3) (ivs:=[(0,_)]) (enc:=Ca) [(l.getD i 0,sl)] J J K2 Nn ti48 J J J J J pI.cells J J hw) fun v_2 _=>tt (Iv (i:=70) (j:=3) (by_:=32) J J J J J J (by decide) J (Yt pI) Nn ti48 J pI J J J (by simp;omega) (by decide) J hw) fun v_3 _=>as_ J<|Zf<|Oe<|Za<|Zg<|mv J<|dt (Yy J J J ⟨by omega,by omega⟩)<|as_ J<|Zf<|Qy (Py (q:=qI) (z:=(l.getD i 0,sl)) 71 2 71 J J J J J)<|Xp (i+1,_,ws ++ [(l.getD i 0,sl)]) ⟨by first | omega | (dsimp only<;>omega),by rw [Ko,Aw,hz];dsimp only;rfl,by simp [hzl]⟩ (by first | omega | (dsimp only<;>omega)) K3 K4
 ·exact Yw<|Zx<|Zx<|Na<|Za<|Ze<|Yq (Pe 70 J J pI)<|Yq (Mq 70 71 72 J J J J)<|Zg<|mv J<|tt (Zh (n:=4) (Zca _ _ (by rw [hz];exact Za7 fun t ht=>by have:=hsz t;omega)) J J J K1 call89 (Zc 72 J J J Zd) J hw) fun g hg=>as_ J<|Zf<|Za<|Zw<|Zy (.inl J) hsc _ _ (fun a w hs=>Xy hs results102 J) J (by rw [hg,hz,show i=l.length by omega,Zin]) J (Xb 4 J J J Zj)
theorem Zh2(v:Value)(zs:List (Int×SL))(j:Int)(i:Nat)(hj:j=(i:Int):=by omega)(hi:i≤1000000:=by omega):Cal prog 101 #[v,.int .i64 j] [pp v zs] true (G:=Value) (fun r=>True) (fun r=> .agg #[.bool (decide (cf (Zt zs) i<0)),r]) (fun r=>[d9p r (cf (Zt zs) i).natAbs]):=by
 refine Yd func101 J ntmps101 J K1 ?_
 intro w0 sc hw hsc
 simp only [Zq,Zp]
 have hli:=Zv zs
 refine Md (Gg (i:=1) J Zz) fun hlen=>Yq (Nh 60 1 3 Cg)<|Yq (Pe 60 J J pN)<|Ze<|Zg<|tt (Zr (i:=2) J J zeroValue48 J J hw) fun b _=>Zf<|Za<|Ze<|Ze<|Zg<|mv J<|dt (Xv J J J)<|mv J<|Pa (d:=7) J (fun s91=>?_) (fun s91=>?_)
 ·exfalso;omega
 ·refine gdt (Yr J J) J J<|gdt (Yr J J) J J<|gdt (Yh J J (i:=1) J Zz Nn) J J<|gdt (Ke J J J) J J<|dt (Yg J J J)<|Zf<|Za<|Zs J (fun h91=>?_) (fun h91=>?_)
  ·refine Ze<|Zg<|dt (Oc (ivs:=[]) J trivial (fun a w hs=>b48_))<|tt (Zm (i:=2) J J J J J (by decide) J Qd J J ⟨Zb J,Zb J,trivial⟩ J hw trivial) fun _ _=>Zf<|Za<|Zw<|Xa ?_
   have hz0:cf (Zt zs) i=0:=Qk (by omega)
   exact Zy (.inl J) hsc (.slice none 0 0) _ (fun a w hs=>Xy hs results101 (Ys (i:=2) J J Mg Qd J)) (by rw [hz0]<;>rfl) trivial J (Ln (by rw [hz0];rfl) Zj)
  ·exact Zl<|Za<|Ze<|Zg<|mv J<|mv J<|dt (Xc (ii:=1) (i:=i) J J J J Zz Nn Qd hj)<|dt (Xs (ii:=1) I0 J J J Zz pI)<|tt (Zm (i:=2) J J J J J (by decide) J Qd J J ⟨Zb J,Zb J,trivial⟩ J hw trivial) fun _ _=>Zf<|Za<|Zw<|Zy (.inl J) hsc _ _ (fun a w hs=>Xy hs results101 (Ys (i:=2) J J Mg Qd J)) (by rw [←Nm]<;>rfl) trivial J (give_dI 1 J J (Yx (i:=i)) (by rw [←Nm]<;>rfl) Zj)
theorem Zaw(v w:Value)(zs:List (Int×SL))(y:Int)(hs:Sz 1000000 (Zt zs))(hy:bl y.natAbs≤1000000)(hl:zs.length≤1000:=by omega):Cal prog 56 #[v,.agg #[.bool (decide (y<0)),w]] [pp v zs,d9p w y.natAbs] true (G:=Value×List (Int×SL)) (fun r=>Zt r.2=Xn (Zt zs) y) (fun r=>r.1) (fun r=>[pp r.1 r.2]):=by
 refine Yd func56 J ntmps56 J K2 ?_
 intro w0 sc hw hsc
 simp only [Zq,Zp]
 have hli:=Zv zs
 refine Ze<|Zg<|tt (Yz (i:=3) J J J J J hw) fun b _=>as_ J<|Zf<|Za<|Ze<|Zg<|as_ J<|Zf<|Za<|Ze<|Ze<|Zg<|as_ J<|Zf<|Za<|Zo<|Yq (Nh 70 2 48 Ca)<|Yq (Mu qI 71)<|Nw [(0,_),(3,_)] [(0,_),(1,_),(2,_),(3,_)] (fun(q:Nat×Value×List (Int×SL))=>[(6,.int .i64 (q.1:Int)),(5,q.2.1)]) (fun(q:Nat×Value×List (Int×SL))=>[(70,osl 2 48 Ca q.2.1 q.2.2),(71,Zci qI q.2.2)]) (fun(q:Nat×Value×List (Int×SL))=>(q.1≤zs.length)∧(Zt q.2.2=mk q.1 (fun t=>cf (Zt zs) t*y))∧(q.2.2.length=q.1)) (fun(q:Nat×Value×List (Int×SL))=>zs.length-q.1) (0,.slice none 0 0,[]) ⟨by first | omega | (dsimp only<;>omega),rfl,rfl⟩ K4 K6 ?_
 rintro⟨i,vo,ws⟩ ⟨hi,hz,hzl⟩
 dsimp only at hi hz hzl
 simp only [CA,NA]
 have hci:=Nm zs i
 refine Ze<|Ze<|Zg<|mv J<|mv J<|dt (Yh J J (i:=1) J Zz Nn)<|dt (Xv J J J)<|Zf<|Za<|Zs J (fun h109=>?_) (fun h109=>?_)
 ·refine Zl<|Za<|Ze<|Zo<|Oj [1,3] [9]<|Zu (n:=3) [(0,0),(1,0),(2,0),(3,0),(4,0),(5,0),(6,1)]<|r0' J J (stf (Yr J J) K2)<|r0' J J (stf (Yr J J) K2)<|r0' J J (stf (Yr J J) K2)<|r0' J J (stf (Xc (ii:=1) J J J J Zz Nn Qd J (by first | omega | (simp only [List.length_set];omega))) K2)<|r0' J J (stf (Xs (ii:=1) I0 J J J Zz pI (by first | omega | (simp only [List.length_set];omega))) K2)<|r0' J J (stf (Ya (i:=3) J J J Mg Qd J J) K2)<|r1' J (Zh (n:=4) (Bx _ _ _ _ (by rw [hci];have:=hs i;omega)) J J J K2 Zld (Ou 1 J J (Yx) (Zc 2 J J J Zd)) J hw) fun v _=>Yk<|Zlc (Ow 4 J Zi) (fun sl hsl=>?_)
  subst hsl
  exact Zu (n:=0) [(7,1),(8,1),(9,3)]<|r1' J (Pm (i:=73) (ivs:=[(0,_)]) (enc:=Ca) [((zs.getD i I0).1*y,sl)] J J K2 Nn ti48 J J J J J pI.cells J J hw) fun v_2 _=>r1' J (Zed 70 J J J K2 (fun hoffr=>(Ak (xs:=ws) (ys:=[_]) (i:=70) (j:=73) (by_:=32) J J J J J J (by decide) J (Yt pI) Nn ti48 J pI J J J (by simp;omega) (by decide) J hw hoffr))) fun v_3 _=>r3' J (Pt (Oy J J) J) fun _ _=>Yk<|Yb<|Oe<|Za<|Zg<|mv J<|dt (Yy J J J ⟨by omega,by omega⟩)<|as_ J<|Zf<|Qy (Py (q:=qI) (z:=((zs.getD i I0).1*y,sl)) 71 4 71 J J J J J)<|Xp (i+1,_,ws ++ [((zs.getD i I0).1*y,sl)]) ⟨by first | omega | (dsimp only<;>omega),by rw [Ko,Aw,hz];dsimp only;rw [Nm],by simp [hzl]⟩ (by first | omega | (dsimp only<;>omega)) K4 K6
 ·exact Yw<|Zx<|Zx<|Na<|Za<|Ze<|Yq (Pe 70 J J pI)<|Yq (Mq 70 71 72 J J J J)<|Zg<|mv J<|tt (Zh (n:=5) (Zca _ _ (by rw [hz];exact Za7 fun t ht=>by have:=Xw (cf (Zt zs) t) y;have:=hs t;omega)) J J J K1 call89 (Zc 72 J J J Zd) J hw) fun g hg=>as_ J<|Zf<|Za<|Zw<|Zy (.inl J) hsc _ _ (fun a w hs=>Xy hs results56 J) J (by rw [hg,hz,show i=(Zt zs).length by omega,Zp7]) J (Xb 5 J J J Zj)
theorem Znz(v:Value)(zs:List (Int×SL))(hs:Sz 1000000 (Zt zs))(hl:zs.length≤1000:=by omega):Cal prog 138 #[v] [pp v zs] true (G:=Value×List (Int×SL)) (fun r=>Zt r.2=Xn (Zt zs) (-1)) (fun r=>r.1) (fun r=>[pp r.1 r.2]):=by
 refine Yd func138 J ntmps138 J K1 ?_
 intro w0 sc hw hsc
 simp only [Zq,Zp]
 exact Ze<|Zg<|as_ J<|Zf<|Za<|Ze<|Zg<|mv J<|tt (Zh (n:=2) (Zjz (-1) ⟨by omega,by omega⟩) J J J K1 call34 Zd J hw) fun v _=>tt (Zh (n:=3) (Zaw _ _ _ _ hs (by decide) hl) J J J K2 call56 (Zc 1 J J J (Zc 2 J J J Zd)) J hw) fun g hg=>as_ J<|Zf<|Za<|Zw<|Zy (.inl J) hsc _ _ (fun a w hs=>Xy hs results138 J) J hg J (Xb 3 J J J Zj)
theorem rp_add(v u:Value)(zs ys:List (Int×SL))(hs:Sz 1000000 (Zt zs))(hl:zs.length≤1000)(ht:Sz 1000000 (Zt ys))(hk:ys.length≤1000):Cal prog 43 #[v,u] [pp v zs,pp u ys] true (G:=Value×List (Int×SL)) (fun r=>Zt r.2=Zxe (Zt zs) (Zt ys)) (fun r=>r.1) (fun r=>[pp r.1 r.2]):=by
 refine Yd func43 J ntmps43 J K2 ?_
 intro w0 sc hw hsc
 simp only [Zq,Zp]
 have hli:=Zv zs
 have hli2:=Zv ys
 refine Md (Gg (i:=1) J Zz) fun hlen=>Md (Gg (i:=2) J Zz) fun hlen2=>Ze<|Zg<|as_ J<|Zf<|Za<|Ze<|Zg<|as_ J<|Zf<|Za<|Ze<|Ze<|Zg<|as_ J<|Zf<|Za<|Zo<|Yq (Nh 70 2 48 Ca)<|Yq (Mu qI 71)<|Nw [(0,_),(1,_)] [(0,_),(1,_),(2,_)] (fun(q:Nat×Value×List (Int×SL))=>[(6,.int .i64 (q.1:Int)),(5,q.2.1)]) (fun(q:Nat×Value×List (Int×SL))=>[(70,osl 2 48 Ca q.2.1 q.2.2),(71,Zci qI q.2.2)]) (fun(q:Nat×Value×List (Int×SL))=>(q.1≤(max zs.length ys.length))∧(Zt q.2.2=mk q.1 (fun t=>cf (Zt zs) t+cf (Zt ys) t))∧(q.2.2.length=q.1)) (fun(q:Nat×Value×List (Int×SL))=>(max zs.length ys.length)-q.1) (0,.slice none 0 0,[]) ⟨by first | omega | (dsimp only<;>omega),rfl,rfl⟩ K4 K5 ?_
 rintro⟨i,vo,ws⟩ ⟨hi,hz,hzl⟩
 dsimp only at hi hz hzl
 simp only [CA,NA]
 refine Ze<|Da [(0,_),(1,_),(5,_),(6,_)] [(0,_),(70,_),(71,_),(1,_),(2,_)] (fun(_:Unit)=>[(16,.bool (decide (i<max zs.length ys.length)))]) (fun(_:Unit)=>[]) (fun(_:Unit)=>True) K4 K5 ?_ ?_
 ·refine Zg<|mv J<|mv J<|dt (Yh J J (i:=1) J Zz Nn)<|dt (Xv J J J)<|mv J<|Pa (d:=11) J (fun s100=>?_) (fun s100=>?_)
  ·exact gsk J J J<|gsk J J J<|gsk J J J<|gsk J J J<|dt (Yu J J J)<|Zf<|Ql () trivial ⟨by first | exact congrArg some (congrArg Value.bool (decide_eq_decide.2 (by omega))) | exact congrArg some (congrArg Value.bool (decide_eq_true (by omega)).symm),rfl,rfl,rfl,rfl,trivial⟩ K5
  ·exact gdt (Yr J J) J J<|gdt (Yr J J) J J<|gdt (Yh J J (i:=2) J Zz Nn) J J<|gdt (Xv J J J) J J<|dt (Yg J J J)<|Zf<|Ql () trivial ⟨by first | exact congrArg some (congrArg Value.bool (decide_eq_decide.2 (by omega))) | exact congrArg some (congrArg Value.bool (decide_eq_true (by omega)).symm),rfl,rfl,rfl,rfl,trivial⟩ K5
 ·rintro _ -
  simp only [CA,NA]
  refine Zs J (fun h100=>?_) (fun h100=>?_)
  ·refine Zl<|Za<|Ze<|Zo<|Zg<|mv J<|mv J<|mv J<|tt (Zh (n:=3) (Zh2 _ _ _ i J) J J J K2 call101 (Zc 1 J J J Zd) J hw) fun v _=>mv J<|mv J<|tt (Zh (n:=4) (Zh2 _ _ _ i J) J J J K2 call101 (Zc 2 J J J Zd) J hw) fun v_2 _=>tt (Zh (n:=5) (Zr9 _ _ _ _ (by have:=hs i;omega) (by have:=ht i;omega)) J J J K2 call37 (Zc 3 J J J (Zc 4 J J J Zd)) J hw) fun v_3 _=>l_ex (Ow 5 J Zi) (fun sl hsl=>?_)
   subst hsl
   exact tt (Pm (i:=6) (ivs:=[(0,_)]) (enc:=Ca) [(cf (Zt zs) i+cf (Zt ys) i,sl)] J J K2 Nn ti48 J J J J J pI.cells J J hw) fun v_4 _=>tt (Iv (i:=70) (j:=6) (by_:=32) J J J J J J (by decide) J (Yt pI) Nn ti48 J pI J J J (by simp;omega) (by decide) J hw) fun v_5 _=>as_ J<|Zf<|Oe<|Za<|Zg<|mv J<|dt (Yy J J J ⟨by omega,by omega⟩)<|as_ J<|Zf<|Qy (Py (q:=qI) (z:=(cf (Zt zs) i+cf (Zt ys) i,sl)) 71 5 71 J J J J J)<|Xp (i+1,_,ws ++ [(cf (Zt zs) i+cf (Zt ys) i,sl)]) ⟨by first | omega | (dsimp only<;>omega),by rw [Ko,Aw,hz],by simp [hzl]⟩ (by first | omega | (dsimp only<;>omega)) K4 K5
  ·exact Yw<|Zx<|Zx<|Na<|Za<|Ze<|Yq (Pe 70 J J pI)<|Yq (Mq 70 71 72 J J J J)<|Zg<|mv J<|tt (Zh (n:=7) (Zca _ _ (by rw [hz];exact Za7 fun t h=>by have:=Km (cf (Zt zs) t) (cf (Zt ys) t);have:=hs t;have:=ht t;omega)) J J J K1 call89 (Zc 72 J J J Zd) J hw) fun g hg=>as_ J<|Zf<|Za<|Zw<|Zy (.inl J) hsc _ _ (fun a w hs=>Xy hs results43 J) J (by rw [hg,hz,show i=max (Zt zs).length (Zt ys).length by omega,padd_mk]) J (Xb 7 J J J Zj)
theorem Zny(v u:Value)(zs ys:List (Int×SL))(hs:Sz 1000000 (Zt zs))(ht:Sz 1000000 (Zt ys))(hl:zs.length≤1000:=by omega)(hk:ys.length≤1000:=by omega):Cal prog 88 #[v,u] [pp v zs,pp u ys] true (G:=Value×List (Int×SL)) (fun r=>Zt r.2=Zf0 (Zt zs) (Zt ys)) (fun r=>r.1) (fun r=>[pp r.1 r.2]):=by
 refine Yd func88 J ntmps88 J K2 ?_
 intro w0 sc hw hsc
 simp only [Zq,Zp]
 exact Ze<|Zg<|as_ J<|Zf<|Za<|Ze<|Zg<|mv J<|mv J<|tt (Zh (n:=3) (Znz _ _ ht hk) J J J K1 call138 (Zc 2 J J J Zd) J hw) fun g hg=>tt (Zh (n:=4) (rp_add _ _ _ _ hs hl (by rw [hg];intro t;rw [Xq];have h1:=ht t;rw [Int.mul_neg,Int.mul_one,Zk6];exact h1) (by rw [←Zv,hg];have:=Ib (Zt ys) (-1);rw [Zv]at this;omega)) J J J K2 call43 (Zc 1 J J J (Zc 3 J J J Zd)) J hw) fun g_2 hg_2=>as_ J<|Zf<|Za<|Zw<|Zy (.inl J) hsc _ _ (fun a w hs=>Xy hs results88 J) J (by rw [hg_2,hg,psub_eq]) J (Xb 4 J J J Zj)
theorem Zev(v:Value)(zs:List (Int×SL))(hs:Sz 1000000 (Zt zs))(hl:zs.length≤1000:=by omega):Cal prog 115 #[v] [pp v zs] true (G:=Value×List (Int×SL)) (fun r=>Zt r.2=Pj (Zt zs)) (fun r=>r.1) (fun r=>[pp r.1 r.2]):=by
 refine Yd func115 J ntmps115 J K1 ?_
 intro w0 sc hw hsc
 simp only [Zq,Zp]
 have hli:=Zv zs
 refine Ze<|Zg<|as_ J<|Zf<|Za<|Ze<|Zg<|as_ J<|Zf<|Za<|Ze<|Ze<|Zg<|as_ J<|Zf<|Za<|Zo<|Yq (Nh 70 2 48 Ca)<|Yq (Mu qI 71)<|Nw [(0,_)] [(0,_),(1,_)] (fun(q:Nat×Value×List (Int×SL))=>[(4,.int .i64 ((q.1:Int)+1)),(3,q.2.1)]) (fun(q:Nat×Value×List (Int×SL))=>[(70,osl 2 48 Ca q.2.1 q.2.2),(71,Zci qI q.2.2)]) (fun(q:Nat×Value×List (Int×SL))=>(q.1≤(zs.length-1))∧(Zt q.2.2=mk q.1 (fun t=>cf (Zt zs) (t+1)*((t:Int)+1)))∧(q.2.2.length=q.1)) (fun(q:Nat×Value×List (Int×SL))=>(zs.length-1)-q.1) (0,.slice none 0 0,[]) ⟨by first | omega | (dsimp only<;>omega),rfl,rfl⟩ K3 K4 ?_
 rintro⟨i,vo,ws⟩ ⟨hi,hz,hzl⟩
 dsimp only at hi hz hzl
 simp only [CA,NA]
 have hci:=Nm zs (i+1)
 refine Ze<|Ze<|Zg<|mv J<|mv J<|dt (Yh J J (i:=1) J Zz Nn)<|dt (Xv J J J)<|Zf<|Za<|Zs J (fun h140=>?_) (fun h140=>?_)
 ·refine Zl<|Za<|Ze<|Zo<|Oj [1] [10]<|Zu (n:=3) [(0,0),(1,0),(2,0),(3,0),(4,0),(5,0),(6,1),(7,1)]<|r0' J J (stf (Yr J J) K1)<|r0' J J (stf (Yr J J) K1)<|r0' J J (stf (Yr J J) K1)<|r0' J J (stf (Xc (ii:=1) (i:=(i+1)) J J J J Zz Nn Qd) K1)<|r0' J J (stf (Xs (ii:=1) I0 J J J Zz pI) K1)<|r0' J J (stf (Yr J J) K1)<|r1' J (Zh (n:=2) (Zjz ((i:Int)+1) ⟨by omega,by omega⟩) J J J K1 call34 Zd J hw) fun v _=>r1' J (Zh (n:=3) (Bx _ _ _ _ (by rw [hci];have:=hs (i+1);omega) (bl_i1 (by omega))) J J J K2 Zld (Ou 1 J J (Yx (i:=i+1)) (Zc 2 J J J Zd)) J hw) fun v_2 _=>Yk<|Zlc (Ow 3 J Zi) (fun sl hsl=>?_)
  subst hsl
  exact Zu (n:=0) [(8,1),(9,1),(10,3)]<|r1' J (Pm (i:=73) (ivs:=[(0,_)]) (enc:=Ca) [((zs.getD (i+1) I0).1*((i:Int)+1),sl)] J J K2 Nn ti48 J J J J J pI.cells J J hw) fun v_3 _=>r1' J (Zed 70 J J J K1 (fun hoffr=>(Ak (xs:=ws) (ys:=[_]) (i:=70) (j:=73) (by_:=32) J J J J J J (by decide) J (Yt pI) Nn ti48 J pI J J J (by simp;omega) (by decide) J hw hoffr))) fun v_4 _=>r3' J (Pt (Oy J J) J) fun _ _=>Yk<|Yb<|Oe<|Za<|Zg<|mv J<|dt (Yy J J J ⟨by omega,by omega⟩)<|as_ J<|Zf<|Qy (Py (q:=qI) (z:=((zs.getD (i+1) I0).1*((i:Int)+1),sl)) 71 3 71 J J J J J)<|Xp (i+1,_,ws ++ [((zs.getD (i+1) I0).1*((i:Int)+1),sl)]) ⟨by first | omega | (dsimp only<;>omega),by rw [Ko,Aw,hz];dsimp only;rw [Nm],by simp [hzl]⟩ (by first | omega | (dsimp only<;>omega)) K3 K4
 ·exact Yw<|Zx<|Zx<|Na<|Za<|Ze<|Yq (Pe 70 J J pI)<|Yq (Mq 70 71 72 J J J J)<|Zg<|mv J<|as_ J<|Zf<|Za<|Zw<|Zy (.inl J) hsc (_,ws) _ (fun a w hs=>Xy hs results115 J) J (by rw [hz,show i=(Zt zs).length-1 by omega]<;>rfl) J (Xb 72 J J J Zj)
theorem Zh1(v:Value)(x:Int)(j:Int)(n:Nat)(hx:bl x.natAbs≤1000000)(hj:j=(n:Int):=by omega)(hn:n≤100:=by omega):Cal prog 165 #[.agg #[.bool (decide (x<0)),v],.int .i64 j] [d9p v x.natAbs] true (G:=Value) (fun r=>True) (fun r=> .agg #[.bool (decide (x^n<0)),r]) (fun r=>[d9p r (x^n).natAbs]):=by
 refine Yd func165 J ntmps165 J K1 ?_
 intro w0 sc hw hsc
 simp only [Zq,Zp]
 have hpb:=fun k=>Al hx k
 refine Ze<|Zg<|tt (Yz (i:=2) J J J J J hw) fun b _=>tt (Zr (i:=3) J J zeroValue48 J J hw) fun b_2 _=>Zf<|Za<|Ze<|Zg<|tt (Zh (n:=98) (Zjz 1 ⟨by omega,by omega⟩) J J J K1 call34 Zd J hw) fun v _=>tt (Zr (i:=97) J J zeroValue48 J J hw) fun b_3 _=>tt (Zm (i:=97) J J J J J (by decide) J Qd J J ⟨Zb J,Zk (i:=98) J Zi,trivial⟩ J hw trivial) fun _ _=>Zf<|Za<|Ze<|Ze<|Zg<|as_ J<|Zf<|Za<|Zo<|Nw [(1,_),(2,_),(4,_),(5,_)] [(0,_),(1,_),(2,_),(3,_)] (fun(q:Nat×Value)=>[(6,.int .i64 (q.1:Int))]) (fun(q:Nat×Value)=>[(97,box b_3 48 #[.bool (decide (x^q.1<0)),q.2]),(98,d9p q.2 (x^q.1).natAbs)]) (fun(q:Nat×Value)=>q.1≤n) (fun(q:Nat×Value)=>n-q.1) (0,_) (by first | omega | (dsimp only<;>omega)) K5 ⟨by rw [Int.pow_zero];rfl,by rw [Int.pow_zero];rfl,rfl,rfl,rfl,rfl,trivial⟩ ?_
 rintro⟨i,vs⟩ hi
 dsimp only at hi
 simp only [CA,NA]
 have hp1:=hpb i
 have hp2:i*1000000≤100*1000000:=Nat.mul_le_mul_right _ (by omega)
 refine Ze<|Ze<|Zg<|mv J<|mv J<|dt (Xv J J J)<|Zf<|Za<|Zs J (fun h149=>?_) (fun h149=>?_)
 ·exact Zl<|Za<|Ze<|Zo<|Zg<|dt (Ya (i:=97) J J J Mg Qd J J)<|dt (Ya (i:=2) J J J Mg Qd J J)<|tt (Zh (n:=4) (Bx _ _ _ _) J J J K2 Zld (Zc 98 J J J (Zc 1 J J J Zd)) J hw) fun v_2 _=>tt (Zm (i:=97) J J J J J (by decide) J Qd J J ⟨Zb J,Zk (i:=4) J Zi,trivial⟩ J hw trivial) fun _ _=>Zf<|Oe<|Za<|Zg<|mv J<|dt (Yy J J J ⟨by omega,by omega⟩)<|as_ J<|Zf<|Qy (Od 4 98 J J J)<|Xp (i+1,v_2) (by first | omega | (dsimp only<;>omega)) (by first | omega | (dsimp only<;>omega)) K5 ⟨by rw [Int.pow_succ];rfl,by rw [Int.pow_succ];rfl,rfl,rfl,rfl,rfl,trivial⟩
 ·refine Yw<|Zx<|Zx<|Na<|Za<|Ze ?_
  obtain rfl:i=n:=by omega
  exact Zg<|dt (Ya (i:=97) J J J Mg Qd J J)<|tt (Zm (i:=3) J J J J J (by decide) J Qd J J ⟨Zb J,Zk (i:=98) J Zi,trivial⟩ J hw trivial) fun _ _=>Zf<|Za<|Zw<|Zy (.inl J) hsc _ _ (fun a w hs=>Xy hs results165 (Ys (i:=3) J J Mg Qd J)) J trivial J (Xb 98 J J J Zj)
theorem Zr0(v w u:Value)(zs:List (Int×SL))(x y:Int)(hs:Sz 1000000 (Zt zs))(hx:bl x.natAbs≤1000000)(hy:bl y.natAbs≤1000000)(hl:zs.length≤30:=by omega):Cal prog 121 #[v,.agg #[.bool (decide (x<0)),w,.bool (decide (y<0)),u]] [pp v zs,d9p w x.natAbs,d9p u y.natAbs] true (G:=Value) (fun r=>True) (fun r=> .agg #[.bool (decide (pev (Zt zs) x y<0)),r]) (fun r=>[d9p r (pev (Zt zs) x y).natAbs]):=by
 refine Yd func121 J ntmps121 J K3 ?_
 intro w0 sc hw hsc
 simp only [Zq,Zp]
 have hli:=Zv zs
 have hpx:=fun k=>Al hx k
 have hpy:=fun k=>Al hy k
 have htb:=ev_tb hs hpx hpy (by omega:(Zt zs).length≤30)
 have hsb:=fun i (h:i≤30)=>Zm4 (n:=i) (fun t _=>htb t) (by omega)
 refine Ze<|Zg<|tt (Yz (i:=4) J J J J J hw) fun b _=>tt (Zr (i:=5) J J zeroValue48 J J hw) fun b_2 _=>Zf<|Za<|Ze<|Zg<|dt (Oc (ivs:=[]) J trivial (fun a w hs=>b48_))<|tt (Zr (i:=97) J J zeroValue48 J J hw) fun b_3 _=>tt (Zm (i:=97) J J J J J (by decide) J Qd J J ⟨Zb J,Zb J,trivial⟩ J hw trivial) fun _ _=>Zf<|Za<|Ze<|Ze<|Zg<|as_ J<|Zf<|Za<|Zo<|Yq (Nh 98 1 3 Cg)<|Yq (Pe 98 J J pN)<|Nw [(0,_),(3,_),(4,_),(5,_)] [(0,_),(1,_),(2,_),(3,_),(4,_),(5,_)] (fun(q:Nat×Value)=>[(6,.int .i64 (q.1:Int))]) (fun(q:Nat×Value)=>[(97,box b_3 48 #[.bool (decide (Qt (fun t=>cf (Zt zs) t*(x^t*y^((Zt zs).length-1-t))) q.1<0)),q.2]),(98,d9p q.2 (Qt (fun t=>cf (Zt zs) t*(x^t*y^((Zt zs).length-1-t))) q.1).natAbs)]) (fun(q:Nat×Value)=>q.1≤zs.length) (fun(q:Nat×Value)=>zs.length-q.1) (0,.slice none 0 0) (by first | omega | (dsimp only<;>omega)) K5 K8 ?_
 rintro⟨i,vs⟩ hi
 dsimp only at hi
 simp only [CA,NA]
 have hci:=Nm zs i
 have h1:=hpx i
 have h2:=hpy ((Zt zs).length-1-i)
 have h3:i*1000000≤30*1000000:=Nat.mul_le_mul_right _ (by omega)
 have h4:((Zt zs).length-1-i)*1000000≤30*1000000:=Nat.mul_le_mul_right _ (by omega)
 have h5:=Xw (x^i) (y^((Zt zs).length-1-i))
 have h6:=hs i
 have h7:=hsb i (by omega)
 refine Ze<|Ze<|Zg<|mv J<|mv J<|dt (Yh J J (i:=1) J Zz Nn)<|dt (Xv J J J)<|Zf<|Za<|Zs J (fun h158=>?_) (fun h158=>?_)
 ·refine Zl<|Za<|Ze<|Zo<|Qo (fun _=>False) [(0,0),(1,0),(2,0),(3,0),(4,0),(5,0),(6,0),(7,0),(9,0),(10,0),(11,0),(12,0),(13,0),(14,0),(15,0),(8,1),(16,1),(17,1),(18,1),(19,1),(20,3)] ?_ ?_
  ·kernel_rfl
  refine r0' J J (st0 (Ya (i:=97) J J J Mg Qd J J))<|r0' J J (st0 (Yr J J))<|r0' J J (st0 (Yr J J))<|r0' J J (st0 (Xc (ii:=1) J J J J Zz Nn Qd J (by first | omega | (simp only [List.length_set];omega))))<|r0' J J (st0 (Xs (ii:=1) I0 J J J Zz pI (by first | omega | (simp only [List.length_set];omega))))<|r0' J J (st0 (Xu J J Zvn J Qd J J))<|r0' J J (st0 (Ya (i:=4) J J J Mg Qd J J))<|r0' J J (st0 (Yr J J))<|r0' J J (st0 (Xu J J Zvn J Qd J J))<|r0' J J (st0 (Ya (i:=4) J J J Mg Qd J J))<|r0' J J (st0 (Yr J J))<|r0' J J (st0 (Yh J J (i:=1) J Zz Nn))<|r0' J J (st0 (Qf J J J ⟨by omega,by omega⟩))<|r0' J J (st0 (Yr J J))<|r0' J J (st0 (Qf J J J ⟨by omega,by omega⟩))<|r1' J (Zh (n:=6) (Zh1 _ _ _ i hx J) J J J K2 call165 (Zc 2 J J J Zd) J hw) fun v _=>r1' J (Zh (n:=7) (Zh1 _ _ _ ((Zt zs).length-1-i) hy) J J J K2 call165 (Zc 3 J J J Zd) J hw) fun v_2 _=>r1' J (Zh (n:=8) (Bx _ _ _ _ (by first | omega | (rw [hci];omega))) J J J K2 Zld (Zc 6 J J J (Zc 7 J J J Zd)) J hw) fun v_3 _=>r1' J (Zh (n:=9) (Bx _ _ _ _ (by first | omega | (rw [hci];omega))) J J J K2 Zld (Ou 1 J J (Yx) (Zc 8 J J J Zd)) J hw) (fun v_4 _=>?_)
  exact r1' J (Zh (n:=10) (Zr9 _ _ _ _ (by omega) (by rw [hci];have:=htb i;omega)) J J J K2 call37 (Zc 98 J J J (Zc 9 J J J Zd)) J hw) fun v_5 _=>r3' J (Zm (i:=97) J J J J J (by decide) J Qd J J ⟨Zb J,Zk (i:=10) J Zi,trivial⟩ J hw trivial) fun _ _=>Oh<|Oe<|Za<|Zg<|mv J<|dt (Yy J J J ⟨by omega,by omega⟩)<|as_ J<|Zf<|Qy (Od 10 98 J J J)<|Xp (i+1,v_5) (by first | omega | (dsimp only<;>omega)) (by first | omega | (dsimp only<;>omega)) K5 ⟨by rw [hci,Xx];rfl,by rw [hci,Xx];rfl,rfl,rfl,rfl,rfl,rfl,rfl,trivial⟩
 ·refine Yw<|Zx<|Zx<|Na<|Za<|Ze ?_
  obtain rfl:i=zs.length:=by omega
  exact Zg<|dt (Ya (i:=97) J J J Mg Qd J J)<|tt (Zm (i:=5) J J J J J (by decide) J Qd J J ⟨Zb J,Zk (i:=98) J Zi,trivial⟩ J hw trivial) fun _ _=>Zf<|Za<|Zw<|Zy (.inl J) hsc _ _ (fun a w hs=>Xy hs results121 (Ys (i:=5) J J Mg Qd J)) (by unfold pev;rw [hli]<;>rfl) trivial J (Yp 98 J J J (by unfold pev;rw [hli]<;>rfl) Zj)
theorem Zp1(v:Value)(zs:List (Int×SL))(hs:Sz 1000000 (Zt zs))(hl:zs.length≤1000):Cal prog 116 #[v] [pp v zs] true (G:=Value) (fun r=>True) (fun r=> .agg #[.bool (decide (Qh (Zt zs)<0)),r]) (fun r=>[d9p r (Qh (Zt zs)).natAbs]):=by
 refine Yd func116 J ntmps116 J K1 ?_
 intro w0 sc hw hsc
 simp only [Zq,Zp]
 have hli:=Zv zs
 have hcb:∀k,bl (Qh ((Zt zs).take k)).natAbs≤1000000:=fun k=>Zdr _ (hs.take k)
 refine Ze<|Zg<|tt (Zr (i:=2) J J zeroValue48 J J hw) fun b _=>Zf<|Za<|Ze<|Zg<|dt (Oc (ivs:=[]) J trivial (fun a w hs=>b48_))<|tt (Zr (i:=97) J J zeroValue48 J J hw) fun b_2 _=>tt (Zm (i:=97) J J J J J (by decide) J Qd J J ⟨Zb J,Zb J,trivial⟩ J hw trivial) fun _ _=>Zf<|Za<|Ze<|Ze<|Zg<|as_ J<|Zf<|Za<|Zo<|Yq (Nh 98 1 3 Cg)<|Yq (Pe 98 J J pN)<|Nw [(0,_),(2,_),(3,_)] [(0,_),(1,_),(2,_)] (fun(q:Nat×Value)=>[(4,.int .i64 (q.1:Int))]) (fun(q:Nat×Value)=>[(97,box b_2 48 #[.bool (decide (Qh ((Zt zs).take q.1)<0)),q.2]),(98,d9p q.2 (Qh ((Zt zs).take q.1)).natAbs)]) (fun(q:Nat×Value)=>q.1≤zs.length) (fun(q:Nat×Value)=>zs.length-q.1) (0,.slice none 0 0) (by first | omega | (dsimp only<;>omega)) K4 K5 ?_
 rintro⟨i,vs⟩ hi
 dsimp only at hi
 simp only [CA,NA]
 have hci:=Nm zs i
 have hgc:=fun h=>Mx (p:=Zt zs) (k:=i) h
 have h1:=hcb i
 have h2:=hs i
 refine Ze<|Ze<|Zg<|mv J<|mv J<|dt (Yh J J (i:=1) J Zz Nn)<|dt (Xv J J J)<|Zf<|Za<|Zs J (fun h186=>?_) (fun h186=>?_)
 ·refine Zl<|Za<|Ze<|Zo<|Qo (fun _=>False) [(0,0),(1,0),(2,0),(3,0),(4,0),(5,1),(6,3)] ?_ ?_
  ·kernel_rfl
  exact r0' J J (st0 (Ya (i:=97) J J J Mg Qd J J))<|r0' J J (st0 (Yr J J))<|r0' J J (st0 (Yr J J))<|r0' J J (st0 (Xc (ii:=1) J J J J Zz Nn Qd J (by first | omega | (simp only [List.length_set];omega))))<|r0' J J (st0 (Xs (ii:=1) I0 J J J Zz pI (by first | omega | (simp only [List.length_set];omega))))<|r1' J (Zh (n:=3) (r_gcd _ _ _ _ (by rw [hci];omega)) J J J K2 call71 (Zc 98 J J J (Ou 1 J J (Yx) Zd)) J hw) fun v _=>r3' J (Zm (i:=97) J J J J J (by decide) J Qd J J ⟨Zb J,Zk (i:=3) J Zi,trivial⟩ J hw trivial) fun _ _=>Oh<|Oe<|Za<|Zg<|mv J<|dt (Yy J J J ⟨by omega,by omega⟩)<|as_ J<|Zf<|Qy (Od 3 98 J J J)<|Xp (i+1,v) (by first | omega | (dsimp only<;>omega)) (by first | omega | (dsimp only<;>omega)) K4 ⟨by rw [hgc (by omega),show(Zt zs).getD i 0=(zs.getD i I0).1 from hci.symm];rfl,by rw [hgc (by omega),show(Zt zs).getD i 0=(zs.getD i I0).1 from hci.symm];rfl,rfl,rfl,rfl,trivial⟩
 ·refine Yw<|Zx<|Zx<|Na<|Za<|Ze ?_
  obtain rfl:i=zs.length:=by omega
  rw [List.take_of_length_le (by omega:(Zt zs).length≤zs.length)]
  exact Zg<|dt (Ya (i:=97) J J J Mg Qd J J)<|tt (Zm (i:=2) J J J J J (by decide) J Qd J J ⟨Zb J,Zk (i:=98) J Zi,trivial⟩ J hw trivial) fun _ _=>Zf<|Za<|Zw<|Zy (.inl J) hsc _ _ (fun a w hs=>Xy hs results116 (Ys (i:=2) J J Mg Qd J)) J trivial J (Xb 98 J J J Zj)
theorem Ia(v:Value)(zs:List (Int×SL))(hs:Sz 1000000 (Zt zs))(hc:zs.length≠0→Qh (Zt zs)≠0)(hl:zs.length≤1000:=by omega):Cal prog 57 #[v] [pp v zs] true (G:=Value×List (Int×SL)) (fun r=>Zt r.2=Xe (Zt zs)) (fun r=>r.1) (fun r=>[pp r.1 r.2]):=by
 refine Yd func57 J ntmps57 J K1 ?_
 intro w0 sc hw hsc
 simp only [Zq,Zp]
 have hli:=Zv zs
 have hcb:bl (Qh (Zt zs)).natAbs≤1000000:=Zdr _ hs
 refine Ze<|Zg<|as_ J<|Zf<|Za<|Ze<|Zg<|mv J<|tt (Zh (n:=2) (Zp1 _ _ hs hl) J J J K1 call116 (Zc 1 J J J Zd) J hw) fun v _=>tt (Zr (i:=3) J J zeroValue48 J J hw) fun b _=>tt (Zm (i:=3) J J J J J (by decide) J Qd J J ⟨Zb J,Zk (i:=2) J Zi,trivial⟩ J hw trivial) fun _ _=>Zf<|Za<|Ze<|Zg<|as_ J<|Zf<|Za<|Ze<|Ze<|Zg<|as_ J<|Zf<|Za<|Zo<|Yq (Nh 70 2 48 Ca)<|Yq (Mu qI 71)<|Nw [(0,_),(3,_)] [(0,_),(1,_),(2,_),(3,_)] (fun(q:Nat×Value×List (Int×SL))=>[(5,.int .i64 (q.1:Int)),(4,q.2.1)]) (fun(q:Nat×Value×List (Int×SL))=>[(70,osl 2 48 Ca q.2.1 q.2.2),(71,Zci qI q.2.2)]) (fun(q:Nat×Value×List (Int×SL))=>(q.1≤zs.length)∧(Zt q.2.2=mk q.1 (fun t=>cf (Zt zs) t/Qh (Zt zs)))∧(q.2.2.length=q.1)) (fun(q:Nat×Value×List (Int×SL))=>zs.length-q.1) (0,.slice none 0 0,[]) ⟨by first | omega | (dsimp only<;>omega),rfl,rfl⟩ K4 K6 ?_
 rintro⟨i,vo,ws⟩ ⟨hi,hz,hzl⟩
 dsimp only at hi hz hzl
 simp only [CA,NA]
 have hci:=Nm zs i
 refine Ze<|Ze<|Zg<|mv J<|mv J<|dt (Yh J J (i:=1) J Zz Nn)<|dt (Xv J J J)<|Zf<|Za<|Zs J (fun h196=>?_) (fun h196=>?_)
 ·refine Zl<|Za<|Ze<|Zo<|Da [(0,_),(3,_),(4,_),(5,_)] [(0,_),(70,_),(71,_),(1,_),(2,_),(3,_)] (fun(q:Value×Nat)=>[(6,.pointer (some ⟨q.2,0,none⟩))]) (fun(q:Value×Nat)=>[(83,d9p q.1 ((zs.getD i I0).1/Qh (Zt zs)).natAbs),(97,box q.2 48 #[.bool (decide ((zs.getD i I0).1/Qh (Zt zs)<0)),q.1])]) (fun(q:Value×Nat)=>True) K4 K6 ?_ ?_
  ·refine Oj [1,3] [12]<|Zu (n:=8) [(0,0),(1,0),(2,0),(3,0),(4,0)]<|r0' J J (stf (Yr J J) K2)<|r0' J J (stf (Yr J J) K2)<|r0' J J (stf (Xc (ii:=1) J J J J Zz Nn Qd J (by first | omega | (simp only [List.length_set];omega))) K2)<|r0' J J (stf (Xs (ii:=1) I0 J J J Zz pI (by first | omega | (simp only [List.length_set];omega))) K2)<|r0' J J (stf (Ya (i:=3) J J J Mg Qd J J) K2)<|Yk<|Dg (n:=7) 5 9 10 ?_ ?_ ?_
   ·refine Yf J (Zh (n:=83) (Gr _ _ _ _ (by rw [hci];have:=hs i;omega) (hc (by omega))) J J J K2 Zfn (Ou 1 J J (Yx) (Zc 2 J J J Zd)) J hw) fun g _=>Zu (n:=4) [(6,0),(7,0),(8,0)]<|r0' J J (stf (Yr J J) K2)<|r0' J J (stf (Yl J J J) K2)<|r0' J J (stf (Yl J J J) K2)<|Yk<|Qp (n:=3) 9 10 ?_ ?_
    ·exact Yf J (Zn (i:=97) J J zeroValue48 J J hw K2) fun b_2 ho=>Zu (n:=0) [(10,1),(11,1),(12,3)]<|r1' J (Zn (i:=99) J J zeroValue48 J J hw K2) fun b_3 ho2=>r1' J (Zm (i:=97) J J J J J (by decide) J Qd J J ⟨Zb J,Zk (i:=83) J Zi,trivial⟩ J hw ho) fun _ _=>r3' J (Zm (i:=99) J J J J J (by decide) J Qd J J ⟨Zb J,Zk (i:=84) J Zi,trivial⟩ J hw trivial) fun _ _=>Yk<|Yb<|Ql (_,_) trivial K5 K8
    ·exact Yf J (Zn (i:=99) J J zeroValue48 J J hw K2) fun b_4 ho3=>Zu (n:=0) [(9,1),(11,1),(12,3)]<|r1' J (Zn (i:=97) J J zeroValue48 J J hw K2) fun b_5 ho4=>r1' J (Zm (i:=97) J J J J J (by decide) J Qd J J ⟨Zb J,Zk (i:=83) J Zi,trivial⟩ J hw ho4) fun _ _=>r3' J (Zm (i:=99) J J J J J (by decide) J Qd J J ⟨Zb J,Zk (i:=84) J Zi,trivial⟩ J hw trivial) fun _ _=>Yk<|Yb<|Ql (_,_) trivial K5 K8
   ·refine Yf J (Zn (i:=97) J J zeroValue48 J J hw K2) fun b_6 ho5=>Qp (n:=6) 5 10 ?_ ?_
    ·exact Yf J (Zh (n:=83) (Gr _ _ _ _ (by rw [hci];have:=hs i;omega) (hc (by omega))) J J J K2 Zfn (Ou 1 J J (Yx) (Zc 2 J J J Zd)) J hw) fun g_2 _=>Zu (n:=0) [(6,0),(7,0),(8,0),(10,1),(11,1),(12,3)]<|r0' J J (stf (Yr J J) K2)<|r0' J J (stf (Yl J J J) K2)<|r0' J J (stf (Yl J J J) K2)<|r1' J (Zn (i:=99) J J zeroValue48 J J hw K2) fun b_7 ho6=>r1' J (Zm (i:=97) J J J J J (by decide) J Qd J J ⟨Zb J,Zk (i:=83) J Zi,trivial⟩ J hw ho5) fun _ _=>r3' J (Zm (i:=99) J J J J J (by decide) J Qd J J ⟨Zb J,Zk (i:=84) J Zi,trivial⟩ J hw trivial) fun _ _=>Yk<|Yb<|Ql (_,_) trivial K5 K8
    ·exact Yf J (Zn (i:=99) J J zeroValue48 J J hw K2) fun b_8 ho7=>Zu (n:=0) [(5,1),(6,0),(7,0),(8,0),(11,1),(12,3)]<|r1' J (Zh (n:=83) (Gr _ _ _ _ (by rw [hci];have:=hs i;omega) (hc (by omega))) J J J K2 Zfn (Ou 1 J J (Yx) (Zc 2 J J J Zd)) J hw) fun g_3 _=>r0' J J (stf (Yr J J) K2)<|r0' J J (stf (Yl J J J) K2)<|r0' J J (stf (Yl J J J) K2)<|r1' J (Zm (i:=97) J J J J J (by decide) J Qd J J ⟨Zb J,Zk (i:=83) J Zi,trivial⟩ J hw ho5) fun _ _=>r3' J (Zm (i:=99) J J J J J (by decide) J Qd J J ⟨Zb J,Zk (i:=84) J Zi,trivial⟩ J hw trivial) fun _ _=>Yk<|Yb<|Ql (_,_) trivial K5 K8
   ·refine Yf J (Zn (i:=99) J J zeroValue48 J J hw K2) fun b_9 ho8=>Qp (n:=6) 5 9 ?_ ?_
    ·exact Yf J (Zh (n:=83) (Gr _ _ _ _ (by rw [hci];have:=hs i;omega) (hc (by omega))) J J J K2 Zfn (Ou 1 J J (Yx) (Zc 2 J J J Zd)) J hw) fun g_4 _=>Zu (n:=0) [(6,0),(7,0),(8,0),(9,1),(11,1),(12,3)]<|r0' J J (stf (Yr J J) K2)<|r0' J J (stf (Yl J J J) K2)<|r0' J J (stf (Yl J J J) K2)<|r1' J (Zn (i:=97) J J zeroValue48 J J hw K2) fun b_10 ho9=>r1' J (Zm (i:=97) J J J J J (by decide) J Qd J J ⟨Zb J,Zk (i:=83) J Zi,trivial⟩ J hw ho9) fun _ _=>r3' J (Zm (i:=99) J J J J J (by decide) J Qd J J ⟨Zb J,Zk (i:=84) J Zi,trivial⟩ J hw trivial) fun _ _=>Yk<|Yb<|Ql (_,_) trivial K5 K8
    ·exact Yf J (Zn (i:=97) J J zeroValue48 J J hw K2) fun b_11 ho10=>Zu (n:=0) [(5,1),(6,0),(7,0),(8,0),(11,1),(12,3)]<|r1' J (Zh (n:=83) (Gr _ _ _ _ (by rw [hci];have:=hs i;omega) (hc (by omega))) J J J K2 Zfn (Ou 1 J J (Yx) (Zc 2 J J J Zd)) J hw) fun g_5 _=>r0' J J (stf (Yr J J) K2)<|r0' J J (stf (Yl J J J) K2)<|r0' J J (stf (Yl J J J) K2)<|r1' J (Zm (i:=97) J J J J J (by decide) J Qd J J ⟨Zb J,Zk (i:=83) J Zi,trivial⟩ J hw ho10) fun _ _=>r3' J (Zm (i:=99) J J J J J (by decide) J Qd J J ⟨Zb J,Zk (i:=84) J Zi,trivial⟩ J hw trivial) fun _ _=>Yk<|Yb<|Ql (_,_) trivial K5 K8
  ·rintro⟨qv,b6⟩ -
   simp only [CA,NA]
   refine e_ex (Ow 83 J Zi) (fun sl hsl=>?_)
   subst hsl
   exact Zg<|mv J<|dt (Ya (i:=97) J J J Mg Qd J J)<|tt (Pm (i:=4) (ivs:=[(0,_)]) (enc:=Ca) [((zs.getD i I0).1/Qh (Zt zs),sl)] J J K2 Nn ti48 J J J J J pI.cells J J hw) fun v_2 _=>tt (Iv (i:=70) (j:=4) (by_:=32) J J J J J J (by decide) J (Yt pI) Nn ti48 J pI J J J (by simp;omega) (by decide) J hw) fun v_3 _=>as_ J<|Zf<|Oe<|Za<|Zg<|mv J<|dt (Yy J J J ⟨by omega,by omega⟩)<|as_ J<|Zf<|Qy (Py (q:=qI) (z:=((zs.getD i I0).1/Qh (Zt zs),sl)) 71 83 71 J J J J J)<|Xp (i+1,_,ws ++ [((zs.getD i I0).1/Qh (Zt zs),sl)]) ⟨by first | omega | (dsimp only<;>omega),by rw [Ko,Aw,hz];dsimp only;rw [Nm],by simp [hzl]⟩ (by first | omega | (dsimp only<;>omega)) K4 K6
 ·exact Yw<|Zx<|Zx<|Na<|Za<|Ze<|Yq (Pe 70 J J pI)<|Yq (Mq 70 71 72 J J J J)<|Zg<|mv J<|as_ J<|Zf<|Za<|Zw<|Zy (.inl J) hsc (_,ws) _ (fun a w hs=>Xy hs results57 J) J (by rw [hz,show i=(Zt zs).length by omega,Zoj (Zt zs) (· / Qh (Zt zs))]<;>rfl) J (Xb 72 J J J Zj)
theorem rp_mul(v u:Value)(zs ys:List (Int×SL))(hs:Sz 1000000 (Zt zs))(ht:Sz 1000000 (Zt ys))(hk:ys.length≤60)(hl:zs.length≤60:=by omega):Cal prog 42 #[v,u] [pp v zs,pp u ys] true (G:=Value×List (Int×SL)) (fun r=>Zt r.2=Mf (Zt zs) (Zt ys)) (fun r=>r.1) (fun r=>[pp r.1 r.2]):=by
 refine Yd func42 J ntmps42 J K2 ?_
 intro w0 sc hw hsc
 simp only [Zq,Zp]
 have hli:=Zv zs
 have hli2:=Zv ys
 have htb:∀i k,bl (cf (Zt zs) k*cf (Zt ys) (i-k)).natAbs≤2000000:=fun i k=>by have:=Xw (cf (Zt zs) k) (cf (Zt ys) (i-k));have:=hs k;have:=ht (i-k);omega
 have hsb:∀i n,n≤1000→bl (Qt (fun k=>cf (Zt zs) k*cf (Zt ys) (i-k)) n).natAbs≤2000010:=fun i n hn=>Zm4 (fun t _=>htb i t) (by omega)
 refine Ze<|Zg<|as_ J<|Zf<|Za<|Ze<|Zg<|as_ J<|Zf<|Za<|Ze<|Ze<|Zg<|as_ J<|Zf<|Za<|Zo<|Yq (Nh 70 2 48 Ca)<|Yq (Mu qI 71)<|Nw [(0,_),(1,_)] [(0,_),(1,_),(2,_)] (fun(q:Nat×Value×List (Int×SL))=>[(6,.int .i64 (q.1:Int)),(5,q.2.1)]) (fun(q:Nat×Value×List (Int×SL))=>[(70,osl 2 48 Ca q.2.1 q.2.2),(71,Zci qI q.2.2)]) (fun(q:Nat×Value×List (Int×SL))=>(q.1≤(zs.length+ys.length-1))∧(Zt q.2.2=mk q.1 (fun t=>Qt (fun a9=>cf (Zt zs) a9*cf (Zt ys) (t-a9)) (t+1)))∧(q.2.2.length=q.1)) (fun(q:Nat×Value×List (Int×SL))=>(zs.length+ys.length-1)-q.1) (0,.slice none 0 0,[]) ⟨by first | omega | (dsimp only<;>omega),rfl,rfl⟩ K4 K5 ?_
 rintro⟨i,vo,ws⟩ ⟨hi,hz,hzl⟩
 dsimp only at hi hz hzl
 simp only [CA,NA]
 refine Ze<|Ze<|Zg<|mv J<|mv J<|dt (Yh J J (i:=1) J Zz Nn)<|mv J<|dt (Yh J J (i:=2) J Zz Nn)<|dt (Yy J J J ⟨by omega,by omega⟩)<|dt (Qf J J J ⟨by omega,by omega⟩)<|dt (Xv J J J)<|Zf<|Za<|Zs J (fun h124=>?_) (fun h124=>?_)
 ·refine Zl<|Za<|Ze<|Zo<|Ze<|Zg<|dt (Oc (ivs:=[]) J trivial (fun a w hs=>b48_))<|tt (Zr (i:=97) J J zeroValue48 J J hw) fun b _=>tt (Zm (i:=97) J J J J J (by decide) J Qd J J ⟨Zb J,Zb J,trivial⟩ J hw trivial) fun _ _=>Zf<|Za<|Ze<|Ze<|Zg<|as_ J<|Zf<|Za<|Zo<|Yq (Nh 98 1 3 Cg)<|Yq (Pe 98 J J pN)<|Nw [(0,_),(1,_),(5,_),(6,_),(7,_)] [(0,_),(70,_),(71,_),(1,_),(2,_)] (fun(q:Nat×Value)=>[(8,.int .i64 (q.1:Int))]) (fun(q:Nat×Value)=>[(97,box b 48 #[.bool (decide (Qt (fun a9=>cf (Zt zs) a9*cf (Zt ys) (i-a9)) q.1<0)),q.2]),(98,d9p q.2 (Qt (fun a9=>cf (Zt zs) a9*cf (Zt ys) (i-a9)) q.1).natAbs)]) (fun(q:Nat×Value)=>q.1≤i+1) (fun(q:Nat×Value)=>i+1-q.1) (0,.slice none 0 0) (by first | omega | (dsimp only<;>omega)) K6 K7 ?_
  rintro⟨k,vs⟩ hk1
  dsimp only at hk1
  simp only [CA,NA]
  have h1:=hsb i k
  have h2:=htb i k
  have h3:=hs k
  have h4:=ht (i-k)
  refine Ze<|Ze<|Zg<|mv J<|mv J<|dt (Ab J J J)<|Zf<|Za<|Zs J (fun h126=>?_) (fun h126=>?_)
  ·refine Zl<|Za<|Ze<|Zo<|Qo (fun _=>False) [(0,0),(1,0),(2,0),(4,0),(5,0),(6,0),(7,0),(3,1),(8,1),(9,1),(10,1),(11,3)] ?_ ?_
   ·kernel_rfl
   exact r0' J J (st0 (Ya (i:=97) J J J Mg Qd J J))<|r0' J J (st0 (Yr J J))<|r0' J J (st0 (Yr J J))<|r0' J J (st0 (Yr J J))<|r0' J J (st0 (Yr J J))<|r0' J J (st0 (Yr J J))<|r0' J J (st0 (Qf J J J ⟨by omega,by omega⟩))<|r1' J (Zh (n:=3) (Zh2 _ _ _ k J) J J J K2 call101 (Zc 1 J J J Zd) J hw) fun v _=>r1' J (Zh (n:=4) (Zh2 _ _ _ (i-k)) J J J K2 call101 (Zc 2 J J J Zd) J hw) fun v_2 _=>r1' J (Zh (n:=5) (Bx _ _ _ _) J J J K2 Zld (Zc 3 J J J (Zc 4 J J J Zd)) J hw) fun v_3 _=>r1' J (Zh (n:=6) (Zr9 _ _ _ _) J J J K2 call37 (Zc 98 J J J (Zc 5 J J J Zd)) J hw) fun v_4 _=>r3' J (Zm (i:=97) J J J J J (by decide) J Qd J J ⟨Zb J,Zk (i:=6) J Zi,trivial⟩ J hw trivial) fun _ _=>Oh<|Oe<|Za<|Zg<|mv J<|dt (Yy J J J ⟨by omega,by omega⟩)<|as_ J<|Zf<|Qy (Od 6 98 J J J)<|Xp (k+1,v_4) (by first | omega | (dsimp only<;>omega)) (by first | omega | (dsimp only<;>omega)) K6 ⟨by rw [Xx];rfl,by rw [Xx];rfl,rfl,rfl,rfl,rfl,rfl,trivial⟩
  ·refine Yw<|Zx<|Zx<|Na<|Za ?_
   obtain rfl:k=i+1:=by omega
   refine e_ex (Ow 98 J Zi) (fun sl hsl=>?_)
   subst hsl
   exact Zg<|mv J<|dt (Ya (i:=97) J J J Mg Qd J J)<|tt (Pm (i:=7) (ivs:=[(0,_)]) (enc:=Ca) [(Qt (fun a9=>cf (Zt zs) a9*cf (Zt ys) (i-a9)) (i+1),sl)] J J K2 Nn ti48 J J J J J pI.cells J J hw) fun v_5 _=>tt (Iv (i:=70) (j:=7) (by_:=32) J J J J J J (by decide) J (Yt pI) Nn ti48 J pI J J J (by simp;omega) (by decide) J hw) fun v_6 _=>as_ J<|Zf<|Oe<|Za<|Zg<|mv J<|dt (Yy J J J ⟨by omega,by omega⟩)<|as_ J<|Zf<|Qy (Py (q:=qI) (z:=(Qt (fun a9=>cf (Zt zs) a9*cf (Zt ys) (i-a9)) (i+1),sl)) 71 98 71 J J J J J)<|Xp (i+1,_,ws ++ [(Qt (fun a9=>cf (Zt zs) a9*cf (Zt ys) (i-a9)) (i+1),sl)]) ⟨by first | omega | (dsimp only<;>omega),by rw [Ko,Aw,hz],by simp [hzl]⟩ (by first | omega | (dsimp only<;>omega)) K4 K5
 ·refine Yw<|Zx<|Zx<|Na<|Za<|Ze<|Ze<|Zg<|mv J<|dt (Yh J J (i:=1) J Zz Nn)<|dt (Pv J J J)<|mv J<|Pa (d:=43) J (fun s131=>?_) (fun s131=>?_)
  ·refine gsk J J J<|gsk J J J<|gsk J J J<|dt (Yu J J J)<|Zf<|Za<|Pu J<|Ze<|Zg<|as_ J<|Zf<|Za<|Zw<|Xa<|Qy (Ek 62) ?_
   have hp0:Mf (Zt zs) (Zt ys)=[]:=Bk (by first | (left;omega) | (right;omega))
   exact Zy (.inl J) hsc (.slice none 0 0,[]) _ (fun a w hs=>Xy hs results42 J) J (by rw [hp0]<;>rfl) J (Xb 62 J J J Zj)
  ·refine gdt (Yr J J) J J<|gdt (Yh J J (i:=2) J Zz Nn) J J<|gdt (Pv J J J) J J<|dt (Yg J J J)<|Zf<|Za<|Zs J (fun h131=>?_) (fun h131=>?_)
   ·refine Ze<|Zg<|as_ J<|Zf<|Za<|Zw<|Xa<|Qy (Ek 62) ?_
    have hp0:Mf (Zt zs) (Zt ys)=[]:=Bk (by first | (left;omega) | (right;omega))
    exact Zy (.inl J) hsc (.slice none 0 0,[]) _ (fun a w hs=>Xy hs results42 J) J (by rw [hp0]<;>rfl) J (Xb 62 J J J Zj)
   ·exact Zl<|Za<|Ze<|Yq (Pe 70 J J pI)<|Yq (Mq 70 71 72 J J J J)<|Zg<|mv J<|tt (Zh (n:=8) (Zca _ _ (by rw [hz];exact Za7 fun t h=>by have:=hsb t (t+1) (by omega);omega)) J J J K1 call89 (Zc 72 J J J Zd) J hw) fun g hg=>as_ J<|Zf<|Za<|Zw<|Zy (.inl J) hsc _ _ (fun a w hs=>Xy hs results42 J) J (by rw [hg,hz,show i=(Zt zs).length+(Zt ys).length-1 by omega,pmul_mk]) J (Xb 8 J J J Zj)
theorem r_same(v u:Value)(r t:List (Bool×ByteArray)):Mb prog 17 #[v,u] [slp 2 Zft v r,slp 2 Zft u t] (.bool (decide (r=t))):=by
 refine Yd func17 J ntmps17 J K2 ?_
 intro w0 sc hw hsc
 simp only [Zq,Zp]
 refine Md (Gg (i:=1) J Zi) fun hlr=>Md (Gg (i:=2) J Zi) fun hlt=>Ze<|Zg<|as_ J<|Zf<|Za<|Ze<|Ze<|Zg<|mv J<|dt (Yh J J (i:=1) J Zi Qx)<|mv J<|dt (Yh J J (i:=2) J Zi Qx)<|dt (Qc J J J)<|Zf<|Za<|Zs J (fun h78=>?_) (fun h78=>?_)
 ·exact Ze<|Zg<|as_ J<|Zf<|Za<|Zw<|Xa<|Zy (.inl J) hsc () _ (fun a w hs=>Xy hs results17 J) (by rw [decide_eq_false (fun e=>by subst e;exact h78 rfl)]) trivial J Zj
 ·have hle:r.length=t.length:=by omega
  refine Zl<|Za<|Ze<|Ze<|Zg<|as_ J<|Zf<|Za<|Zo<|Nw [(0,_),(1,_)] [(0,_),(1,_),(2,_)] (fun(k:Nat)=>[(5,.int .i64 (k:Int))]) (fun(k:Nat)=>[]) (fun(k:Nat)=>(k≤r.length)∧(r.take k=t.take k)) (fun(k:Nat)=>r.length-k) 0 ⟨by first | omega | (dsimp only<;>omega),by simp⟩ K3 K3 ?_
  rintro k ⟨hk,ht⟩
  simp only [CA,NA]
  refine Ze<|Ze<|Zg<|mv J<|mv J<|dt (Yh J J (i:=1) J Zi Qx)<|dt (Xv J J J)<|Zf<|Za<|Zs J (fun h81=>?_) (fun h81=>?_)
  ·refine Zl<|Za<|Ze<|Zo<|Ze<|Qo (fun _=>False) [(0,0),(1,0),(2,0),(3,0),(4,0),(5,0),(6,0),(7,0),(8,0)] ?_ ?_
   ·kernel_rfl
   refine r0' J J (st0 (Yr J J))<|r0' J J (st0 (Yr J J))<|r0' J J (st0 (Xc (ii:=1) J J J J Zi Qx Yo J (by first | omega | (simp only [List.length_set];omega))))<|r0' J J (st0 (Xs (ii:=1) (false,⟨#[]⟩) J J J Zi pW (by first | omega | (simp only [List.length_set];omega))))<|r0' J J (st0 (Yr J J))<|r0' J J (st0 (Yr J J))<|r0' J J (st0 (Xc (ii:=2) J J J J Zi Qx Yo J (by first | omega | (simp only [List.length_set];omega))))<|r0' J J (st0 (Xs (ii:=2) (false,⟨#[]⟩) J J J Zi pW (by first | omega | (simp only [List.length_set];omega))))<|r0' J J (st0 (Zbm J J J eg31 (fun w=>Zxn w _ _ _ _)))<|Oh<|Za<|La J (fun h82=>?_) (fun h82=>?_)
   ·exact Ze<|Zg<|as_ J<|Zf<|Za<|Zw<|Iw<|Xa<|Xa<|Iw<|Xa<|Zy (.inl J) hsc () _ (fun a w hs=>Xy hs results17 J) (by rw [decide_eq_false (fun e=>by rw [e]at h82;simp [Lz]at h82)]) trivial J Zj
   ·exact Zl<|Oe<|Za<|Zg<|mv J<|dt (Yy J J J ⟨by omega,by omega⟩)<|as_ J<|Zf<|Xp (k+1) ⟨by first | omega | (dsimp only<;>omega),by rw [Oq (false,⟨#[]⟩) _ _ (by omega),Oq (false,⟨#[]⟩) _ _ (by omega),ht,Zx7 (x:=r.getD k (false,⟨#[]⟩)) (y:=t.getD k (false,⟨#[]⟩)) (by simpa using h82)]⟩ (by first | omega | (dsimp only<;>omega)) K3 K3
  ·exact Yw<|Zx<|Zx<|Na<|Za<|Ze<|Zg<|as_ J<|Zf<|Za<|Zw<|Zy (.inl J) hsc () _ (fun a w hs=>Xy hs results17 J) (by rw [decide_eq_true (by rw [show k=r.length by omega,List.take_length,hle,List.take_length]at ht;exact ht)]) trivial J Zj
theorem Zey(v u:Value)(xs ys:List Int):Mb prog 17 #[v,u] [slp 2 wv v xs,slp 2 wv u ys] (.bool (decide (xs=ys))):=by
 have h:=((r_same v u (xs.map wr) (ys.map wr)).imp (Zrk v xs) (fun _ h=>h)).imp2 (Zrk u ys) (fun _ h=>h)
 rw [decide_eq_decide.2 (Zqd xs ys)]at h;exact h
theorem Znx(v:Value)(r:List (Bool×ByteArray)):Mb prog 13 #[v] [slp 2 Zft v r] (.bool (okP r)):=by
 refine Yd func13 J ntmps13 J K1 ?_
 intro w0 sc hw hsc
 simp only [Zq,Zp]
 refine Md (Gg (i:=1) J Zi) fun hlen=>Ze<|Zg<|as_ J<|Zf<|Za<|Ze<|Ze<|Zg<|as_ J<|Zf<|Za<|Zo<|Nw [(0,_)] [(0,_),(1,_)] (fun(k:Nat)=>[(3,.int .i64 (k:Int))]) (fun(k:Nat)=>[]) (fun(k:Nat)=>(k≤r.length)∧((r.take k).all (fun w=>okW w.1 w.2)=true)) (fun(k:Nat)=>r.length-k) 0 ⟨by first | omega | (dsimp only<;>omega),by simp⟩ K2 K2 ?_
 rintro k ⟨hk,ha⟩
 simp only [CA,NA]
 refine Ze<|Ze<|Zg<|mv J<|mv J<|dt (Yh J J (i:=1) J Zi Qx)<|dt (Xv J J J)<|Zf<|Za<|Zs J (fun h30=>?_) (fun h30=>?_)
 ·refine Zl<|Za<|Ze<|Zo<|Ze<|Zg<|mv J<|mv J<|dt (Xc (ii:=1) J J J J Zi Qx Yo J (by first | omega | (simp only [List.length_set];omega)))<|dt (Xs (ii:=1) (false,⟨#[]⟩) J J J Zi pW (by first | omega | (simp only [List.length_set];omega)))<|tt (Zh (n:=1) (Zlw _ _) J J J K1 call35 Zd J hw) fun _ _=>dt (Xh J J)<|Zf<|Za<|La J (fun h31=>?_) (fun h31=>?_)
  ·exact Ze<|Zg<|as_ J<|Zf<|Za<|Zw<|Iw<|Xa<|Xa<|Iw<|Xa<|Zy (.inl J) hsc () _ (fun a w hs=>Xy hs results13 J) (by rw [Zsr (Yx (i:=k) (d:=(false,⟨#[]⟩))) (by simpa using h31)]) trivial J Zj
  ·exact Zl<|Oe<|Za<|Zg<|mv J<|dt (Yy J J J ⟨by omega,by omega⟩)<|as_ J<|Zf<|Xp (k+1) ⟨by first | omega | (dsimp only<;>omega),by rw [Oq (false,⟨#[]⟩) _ _ (by omega),List.all_append,ha];simpa using h31⟩ (by first | omega | (dsimp only<;>omega)) K2 K2
 ·refine Yw<|Zx<|Zx<|Na<|Za<|Ze ?_
  obtain rfl:k=r.length:=by omega
  rw [List.take_length]at ha
  refine Zg<|mv J<|dt (Yh J J (i:=1) J Zi Qx)<|dt (Ab J J J)<|mv J<|Pa (d:=19) J (fun s35=>?_) (fun s35=>?_)
  ·refine gdt (Yr J J) J J<|gdt (Yh J J (i:=1) J Zi Qx) J J<|gdt (Pv J J J) J J<|gdt (Yr J J) J J<|Pa (d:=23) J (fun s35_2=>?_) (fun s35_2=>?_)
   ·exact gsk J J J<|gsk J J J<|gsk J J J<|gsk J J J<|gsk J J J<|gsk J J J<|gsk J J J<|gsk J J J<|gsk J J J<|gdt (Yu J J J) J J<|dt (Yu J J J)<|as_ J<|Zf<|Za<|Zw<|Zy (.inl J) hsc () _ (fun a w hs=>Xy hs results13 J) (by rw [Zig ha];first | (rw [decide_eq_false (show ¬r.length≤25 by omega)];rfl) | (rw [decide_eq_true (show r.length≤25 by omega),decide_eq_true (show r.length=0 by omega)];rfl) | (rw [decide_eq_true (show r.length≤25 by omega),decide_eq_false (show ¬r.length=0 by omega)];rfl)) trivial J Zj
   ·exact gdt (Yr J J) J J<|gdt (Yr J J) J J<|gdt (Yh J J (i:=1) J Zi Qx) J J<|gdt (Qf J J J ⟨by omega,by omega⟩) J J<|gdt (Xc (ii:=1) (i:=(r.length-1)) J J J J Zi Qx Yo) J J<|gdt (d_fae (ii:=1) J J J Zi (by omega) Zak J zT9 J) J J<|gdt (d_ldf (ii:=1) (false,⟨#[]⟩) J J J Zi (by omega) iA9 J) J J<|gdt (Fl J J uT9) J J<|gdt (Of J J J) J J<|gdt (Yg J J J) J J<|dt (Yu J J J)<|as_ J<|Zf<|Za<|Zw<|Zy (.inl J) hsc () _ (fun a w hs=>Xy hs results13 J) (by rw [Zig ha];first | (rw [decide_eq_false (show ¬r.length≤25 by omega)];rfl) | (rw [decide_eq_true (show r.length≤25 by omega),decide_eq_true (show r.length=0 by omega)];rfl) | (rw [decide_eq_true (show r.length≤25 by omega),decide_eq_false (show ¬r.length=0 by omega)];rfl)) trivial J Zj
  ·exact gsk J J J<|gsk J J J<|gsk J J J<|gsk J J J<|Zkj J J<|Zkj J J<|Zkj J J<|Zkj J J<|Zkj J J<|Zkj J J<|Zkj J J<|Zkj J J<|Zkj J J<|gsk J J J<|dt (Yg J J J)<|as_ J<|Zf<|Za<|Zw<|Zy (.inl J) hsc () _ (fun a w hs=>Xy hs results13 J) (by rw [Zig ha];first | (rw [decide_eq_false (show ¬r.length≤25 by omega)];rfl) | (rw [decide_eq_true (show r.length≤25 by omega),decide_eq_true (show r.length=0 by omega)];rfl) | (rw [decide_eq_true (show r.length≤25 by omega),decide_eq_false (show ¬r.length=0 by omega)];rfl)) trivial J Zj
set_option maxHeartbeats 4000000 in
theorem rp_rest(v u:Value)(zs ys:List (Int×SL))(hl:zs.length≤30)(hk:ys.length≤30)(hy0:0<ys.length)(ht:Tr (Zt ys))(hF:ys.length≤zs.length→msz (Zt zs)+(zs.length-ys.length+1)*(msz (Zt ys)+1)≤900000):Cal prog 160 #[v,u] [pp v zs,pp u ys] true (G:=Value×List (Int×SL)) (fun r=>Zt r.2=Pp (Zt zs) (Zt ys)) (fun r=>r.1) (fun r=>[pp r.1 r.2]):=by
 refine Yd func160 J ntmps160 J K2 ?_
 intro w0 sc hw hsc
 simp only [Zq,Zp]
 have hli:=Zv zs
 have hli2:=Zv ys
 have hlead:(cf (Zt ys) ((Zt ys).length-1))≠0:=ht.mem (fun e=>by rw [←hli2,e]at hy0;simp at hy0)
 refine Md (Gg (i:=1) J Zz) fun hlen=>Md (Gg (i:=2) J Zz) fun hlen2=>Ze<|Zg<|as_ J<|Zf<|Za<|Ze<|Ze<|Zg<|mv J<|dt (Yh J J (i:=1) J Zz Nn)<|mv J<|dt (Yh J J (i:=2) J Zz Nn)<|dt (Xv J J J)<|Zf<|Za<|Zs J (fun h205=>?_) (fun h205=>?_)
 ·exact Ze<|Zg<|mv J<|as_ J<|Zf<|Za<|Zw<|Xa<|Zy (.inl J) hsc (_,zs) _ (fun a w hs=>Xy hs results160 J) J (by unfold Pp;rw [if_pos (by omega)]) J (Xb 1 J J J Zj)
 ·have hF2:=hF (by omega)
  have hF3:msz (Zt zs)+((Zt zs).length-(Zt ys).length+1)*(msz (Zt ys)+1)≤900000:=by rw [hli,hli2];exact hF2
  have hN:1≤zs.length-ys.length+1:=by omega
  have hB:=Nat.mul_le_mul_right (msz (Zt ys)+1) hN
  rw [Nat.one_mul]at hB
  have hcl:=Nm ys (ys.length-1)
  have hci2:(ys.getD (ys.length-1) I0).1=(cf (Zt ys) ((Zt ys).length-1)):=by rw [hcl,hli2]
  have hsy:=Oi (Zt ys)
  have hlq:=hsy ((Zt ys).length-1)
  have hpw:=Al hlq (zs.length-ys.length+1)
  have hpw2:(zs.length-ys.length+1)*msz (Zt ys)≤(zs.length-ys.length+1)*(msz (Zt ys)+1):=Nat.mul_le_mul_left _ (by omega)
  refine Zl<|Za<|Ze<|Zg<|mv J<|mv J<|dt (Yh J J (i:=2) J Zz Nn)<|dt (Qf J J J ⟨by omega,by omega⟩)<|dt (Xc (ii:=2) (i:=(ys.length-1)) J J J J Zz Nn Qd)<|dt (Xs (ii:=2) I0 J J J Zz pI)<|tt (Zr (i:=96) J J zeroValue48 J J hw) fun b _=>tt (Zm (i:=96) J J J J J (by decide) J Qd J J ⟨Zb J,Zb J,trivial⟩ J hw trivial) fun _ _=>Zf<|Za<|Ze<|Zg<|mv J<|dt (Ya (i:=96) J J J Mg Qd J J)<|mv J<|dt (Yh J J (i:=1) J Zz Nn)<|mv J<|dt (Yh J J (i:=2) J Zz Nn)<|dt (Qf J J J ⟨by omega,by omega⟩)<|dt (Yy J J J ⟨by omega,by omega⟩)<|tt (Zh (n:=3) (Zh1 _ _ _ (zs.length-ys.length+1) (by rw [hci2];omega)) J J J K2 call165 (Ou 2 J J (Yx (i:=ys.length-1)) Zd) J hw) fun v _=>tt (Zh (n:=80) (Zaw _ _ _ _ ((Oi _).mono (by omega)) (by rw [hci2];omega)) J J J K2 call56 (Zc 1 J J J (Zc 3 J J J Zd)) J hw) fun g hg=>as_ J<|Zf<|Za<|Ze<|Zo ?_
  refine Nw [(1,_),(5,_)] [(0,_),(1,_),(2,_),(96,_),(3,_)] (fun(q:Nat×List (Int×SL)×Value)=>[(6,q.2.2)]) (fun(q:Nat×List (Int×SL)×Value)=>[(80,pp q.2.2 q.2.1)]) (fun(q:Nat×List (Int×SL)×Value)=>(q.1≤zs.length-ys.length+1)∧(Ea (Zt zs) (Zt ys) (Zt q.2.1) q.1)) (fun(q:Nat×List (Int×SL)×Value)=>zs.length-ys.length+1-q.1) (0,_,_) ⟨Nat.zero_le _,by dsimp only;rw [hg,hci2,←hli,←hli2];exact Zjw⟩ K3 K6 ?_
  rintro⟨j,ws,vr⟩ ⟨hj,hI⟩
  dsimp only at hj hI
  simp only [CA,NA]
  have hlw:=Zv ws
  have hwl:=Zlt hI
  refine Ze<|Ze<|Zg<|mv J<|dt (Yh J J (i:=80) J Zz Nn)<|mv J<|dt (Yh J J (i:=2) J Zz Nn)<|dt (Ke J J J)<|Zf<|Za<|Zs J (fun h210=>?_) (fun h210=>?_)
  ·have hR0:(Zt ys).length≤(Zt ws).length:=by omega
   obtain⟨g1,g2,g3,hI2⟩:=Zp3 (by omega) (by omega) hlead (by omega) hI hR0
   have hst:=Zjx hlead hI2 (by omega) hR0 g3
   have hqe:=Zew hlead hI2 (by omega) hR0 g3
   have hsR:=Zp4 (by omega) hI
   have hsw:Sz 1000000 (Zt ws):=hsR.mono (by omega)
   have hcw:=Nm ws (ws.length-1)
   have hcqb:bl (cf (Zt ws) ((Zt ws).length-1)/(cf (Zt ys) ((Zt ys).length-1))).natAbs≤900001:=by have:=Zvd hqe (Eg (Zt zs) (Zt ys) _ _) hlq;have h7:=restq_b (p:=Zt zs) (q:=Zt ys) (R:=Zt ws) (by omega) (by omega) g3;omega
   have hcqa:(ws.getD (ws.length-1) I0).1/(ys.getD (ys.length-1) I0).1=(cf (Zt ws) ((Zt ws).length-1)/(cf (Zt ys) ((Zt ys).length-1))):=by rw [hci2,hcw,hlw]
   refine Zl<|Za<|Zo<|Da [(1,_),(5,_),(6,_)] [(0,_),(80,_),(1,_),(2,_),(96,_),(3,_)] (fun(q:Value×Nat)=>[(7,.pointer (some ⟨q.2,0,none⟩))]) (fun(q:Value×Nat)=>[(83,d9p q.1 (cf (Zt ws) ((Zt ws).length-1)/(cf (Zt ys) ((Zt ys).length-1))).natAbs),(97,box q.2 48 #[.bool (decide ((cf (Zt ws) ((Zt ws).length-1)/(cf (Zt ys) ((Zt ys).length-1)))<0)),q.1])]) (fun(q:Value×Nat)=>True) K3 K6 ?_ ?_
   ·refine Oj [80,96] [14]<|Zu (n:=8) [(0,0),(1,0),(2,0),(3,0),(4,0),(5,0),(6,0)]<|r0' J J (stf (Yr J J) K2)<|r0' J J (stf (Yr J J) K2)<|r0' J J (stf (Yh J J (i:=80) J Zz Nn) K2)<|r0' J J (stf (Qf J J J ⟨by omega,by omega⟩) K2)<|r0' J J (stf (Xc (ii:=80) (i:=(ws.length-1)) J J J J Zz Nn Qd) K2)<|r0' J J (stf (Xs (ii:=80) I0 J J J Zz pI) K2)<|r0' J J (stf (Ya (i:=96) J J J Mg Qd J J) K2)<|Yk<|Dg (n:=7) 7 11 12 ?_ ?_ ?_
    ·refine Yf J (Zh (n:=83) (Gr _ _ _ _ (by rw [hcw];have:=hsw (ws.length-1);omega) (by rw [hci2];exact hlead) (by rw [hci2];omega)) J J J K2 Zfn (Ou 80 J J (Yx (zs:=ws) (i:=ws.length-1) (d:=I0)) (Ou 2 J J (Yx (zs:=ys) (i:=ys.length-1) (d:=I0)) Zd)) J hw) fun g_2 _=>Zu (n:=4) [(8,0),(9,0),(10,0)]<|r0' J J (stf (Yr J J) K2)<|r0' J J (stf (Yl J J J) K2)<|r0' J J (stf (Yl J J J) K2)<|Yk<|Qp (n:=3) 11 12 ?_ ?_
     ·exact Yf J (Zn (i:=97) J J zeroValue48 J J hw K2) fun b_2 ho=>Zu (n:=0) [(12,1),(13,1),(14,3)]<|r1' J (Zn (i:=99) J J zeroValue48 J J hw K2) fun b_3 ho2=>r1' J (Zm (i:=97) J J J J J (by decide) J Qd J J ⟨Zb J,Zk (i:=83) J Zi,trivial⟩ J hw ho) fun _ _=>r3' J (Zm (i:=99) J J J J J (by decide) J Qd J J ⟨Zb J,Zk (i:=84) J Zi,trivial⟩ J hw trivial) fun _ _=>Yk<|Yb<|Ql (_,_) trivial K4 ⟨by rw [←hcqa];rfl,by rw [←hcqa];rfl,rfl,rfl,rfl,rfl,rfl,rfl,trivial⟩
     ·exact Yf J (Zn (i:=99) J J zeroValue48 J J hw K2) fun b_4 ho3=>Zu (n:=0) [(11,1),(13,1),(14,3)]<|r1' J (Zn (i:=97) J J zeroValue48 J J hw K2) fun b_5 ho4=>r1' J (Zm (i:=97) J J J J J (by decide) J Qd J J ⟨Zb J,Zk (i:=83) J Zi,trivial⟩ J hw ho4) fun _ _=>r3' J (Zm (i:=99) J J J J J (by decide) J Qd J J ⟨Zb J,Zk (i:=84) J Zi,trivial⟩ J hw trivial) fun _ _=>Yk<|Yb<|Ql (_,_) trivial K4 ⟨by rw [←hcqa];rfl,by rw [←hcqa];rfl,rfl,rfl,rfl,rfl,rfl,rfl,trivial⟩
    ·refine Yf J (Zn (i:=97) J J zeroValue48 J J hw K2) fun b_6 ho5=>Qp (n:=6) 7 12 ?_ ?_
     ·exact Yf J (Zh (n:=83) (Gr _ _ _ _ (by rw [hcw];have:=hsw (ws.length-1);omega) (by rw [hci2];exact hlead) (by rw [hci2];omega)) J J J K2 Zfn (Ou 80 J J (Yx (zs:=ws) (i:=ws.length-1) (d:=I0)) (Ou 2 J J (Yx (zs:=ys) (i:=ys.length-1) (d:=I0)) Zd)) J hw) fun g_3 _=>Zu (n:=0) [(8,0),(9,0),(10,0),(12,1),(13,1),(14,3)]<|r0' J J (stf (Yr J J) K2)<|r0' J J (stf (Yl J J J) K2)<|r0' J J (stf (Yl J J J) K2)<|r1' J (Zn (i:=99) J J zeroValue48 J J hw K2) fun b_7 ho6=>r1' J (Zm (i:=97) J J J J J (by decide) J Qd J J ⟨Zb J,Zk (i:=83) J Zi,trivial⟩ J hw ho5) fun _ _=>r3' J (Zm (i:=99) J J J J J (by decide) J Qd J J ⟨Zb J,Zk (i:=84) J Zi,trivial⟩ J hw trivial) fun _ _=>Yk<|Yb<|Ql (_,_) trivial K4 ⟨by rw [←hcqa];rfl,by rw [←hcqa];rfl,rfl,rfl,rfl,rfl,rfl,rfl,trivial⟩
     ·exact Yf J (Zn (i:=99) J J zeroValue48 J J hw K2) fun b_8 ho7=>Zu (n:=0) [(7,1),(8,0),(9,0),(10,0),(13,1),(14,3)]<|r1' J (Zh (n:=83) (Gr _ _ _ _ (by rw [hcw];have:=hsw (ws.length-1);omega) (by rw [hci2];exact hlead) (by rw [hci2];omega)) J J J K2 Zfn (Ou 80 J J (Yx (zs:=ws) (i:=ws.length-1) (d:=I0)) (Ou 2 J J (Yx (zs:=ys) (i:=ys.length-1) (d:=I0)) Zd)) J hw) fun g_4 _=>r0' J J (stf (Yr J J) K2)<|r0' J J (stf (Yl J J J) K2)<|r0' J J (stf (Yl J J J) K2)<|r1' J (Zm (i:=97) J J J J J (by decide) J Qd J J ⟨Zb J,Zk (i:=83) J Zi,trivial⟩ J hw ho5) fun _ _=>r3' J (Zm (i:=99) J J J J J (by decide) J Qd J J ⟨Zb J,Zk (i:=84) J Zi,trivial⟩ J hw trivial) fun _ _=>Yk<|Yb<|Ql (_,_) trivial K4 ⟨by rw [←hcqa];rfl,by rw [←hcqa];rfl,rfl,rfl,rfl,rfl,rfl,rfl,trivial⟩
    ·refine Yf J (Zn (i:=99) J J zeroValue48 J J hw K2) fun b_9 ho8=>Qp (n:=6) 7 11 ?_ ?_
     ·exact Yf J (Zh (n:=83) (Gr _ _ _ _ (by rw [hcw];have:=hsw (ws.length-1);omega) (by rw [hci2];exact hlead) (by rw [hci2];omega)) J J J K2 Zfn (Ou 80 J J (Yx (zs:=ws) (i:=ws.length-1) (d:=I0)) (Ou 2 J J (Yx (zs:=ys) (i:=ys.length-1) (d:=I0)) Zd)) J hw) fun g_5 _=>Zu (n:=0) [(8,0),(9,0),(10,0),(11,1),(13,1),(14,3)]<|r0' J J (stf (Yr J J) K2)<|r0' J J (stf (Yl J J J) K2)<|r0' J J (stf (Yl J J J) K2)<|r1' J (Zn (i:=97) J J zeroValue48 J J hw K2) fun b_10 ho9=>r1' J (Zm (i:=97) J J J J J (by decide) J Qd J J ⟨Zb J,Zk (i:=83) J Zi,trivial⟩ J hw ho9) fun _ _=>r3' J (Zm (i:=99) J J J J J (by decide) J Qd J J ⟨Zb J,Zk (i:=84) J Zi,trivial⟩ J hw trivial) fun _ _=>Yk<|Yb<|Ql (_,_) trivial K4 ⟨by rw [←hcqa];rfl,by rw [←hcqa];rfl,rfl,rfl,rfl,rfl,rfl,rfl,trivial⟩
     ·exact Yf J (Zn (i:=97) J J zeroValue48 J J hw K2) fun b_11 ho10=>Zu (n:=0) [(7,1),(8,0),(9,0),(10,0),(13,1),(14,3)]<|r1' J (Zh (n:=83) (Gr _ _ _ _ (by rw [hcw];have:=hsw (ws.length-1);omega) (by rw [hci2];exact hlead) (by rw [hci2];omega)) J J J K2 Zfn (Ou 80 J J (Yx (zs:=ws) (i:=ws.length-1) (d:=I0)) (Ou 2 J J (Yx (zs:=ys) (i:=ys.length-1) (d:=I0)) Zd)) J hw) fun g_6 _=>r0' J J (stf (Yr J J) K2)<|r0' J J (stf (Yl J J J) K2)<|r0' J J (stf (Yl J J J) K2)<|r1' J (Zm (i:=97) J J J J J (by decide) J Qd J J ⟨Zb J,Zk (i:=83) J Zi,trivial⟩ J hw ho10) fun _ _=>r3' J (Zm (i:=99) J J J J J (by decide) J Qd J J ⟨Zb J,Zk (i:=84) J Zi,trivial⟩ J hw trivial) fun _ _=>Yk<|Yb<|Ql (_,_) trivial K4 ⟨by rw [←hcqa];rfl,by rw [←hcqa];rfl,rfl,rfl,rfl,rfl,rfl,rfl,trivial⟩
   ·rintro⟨qv,b7⟩ -
    simp only [CA,NA]
    refine Ze<|Zg<|mv J<|dt (Yh J J (i:=80) J Zz Nn)<|mv J<|dt (Yh J J (i:=2) J Zz Nn)<|dt (Qf J J J ⟨by omega,by omega⟩)<|tt (Gd (i:=70) (n:=(ws.length-ys.length)) (by_:=32) (enc:=Ca) I0 J J J J Nn ti48 J pI.cells pI.pos J J J hw) fun v_2 _=>as_ J<|Zf<|Za<|Ze<|Ze<|Zg<|as_ J<|Zf<|Za<|Zo<|Yq (Ej 71 (ws.length-ys.length))<|Nw [(1,_),(5,_),(6,_),(7,_)] [(0,_),(83,_),(97,_),(80,_),(1,_),(2,_),(96,_),(3,_)] (fun(q:Nat×Value×List (Int×SL))=>[(10,.int .i64 (q.1:Int)),(9,q.2.1)]) (fun(q:Nat×Value×List (Int×SL))=>[(70,osl 2 48 Ca q.2.1 q.2.2),(71,Zci qI q.2.2)]) (fun(q:Nat×Value×List (Int×SL))=>(q.1≤ys.length)∧(Zt q.2.2=shm (Zt ys) (cf (Zt ws) ((Zt ws).length-1)/(cf (Zt ys) ((Zt ys).length-1))) ((Zt ws).length-(Zt ys).length) q.1)∧(q.2.2.length=((Zt ws).length-(Zt ys).length)+q.1)) (fun(q:Nat×Value×List (Int×SL))=>ys.length-q.1) (0,_,List.replicate (ws.length-ys.length) I0) ⟨by first | omega | (dsimp only<;>omega),by rw [←Zdi,←hlw,←hli2];simp [Zt],by simp<;>omega⟩ K6 K10 ?_
    rintro⟨i,vo,ms⟩ ⟨hi,hms,hml⟩
    dsimp only at hi hms hml
    simp only [CA,NA]
    have hci:=Nm ys i
    refine Ze<|Ze<|Zg<|mv J<|mv J<|dt (Yh J J (i:=2) J Zz Nn)<|dt (Xv J J J)<|Zf<|Za<|Zs J (fun h214=>?_) (fun h214=>?_)
    ·refine Zl<|Za<|Ze<|Zo<|Oj [2,97] [9]<|Zu (n:=3) [(0,0),(1,0),(2,0),(3,0),(4,0),(5,0),(6,1)]<|r0' J J (stf (Yr J J) K2)<|r0' J J (stf (Ya (i:=97) J J J Mg Qd J J) K2)<|r0' J J (stf (Yr J J) K2)<|r0' J J (stf (Yr J J) K2)<|r0' J J (stf (Xc (ii:=2) J J J J Zz Nn Qd J (by first | omega | (simp only [List.length_set];omega))) K2)<|r0' J J (stf (Xs (ii:=2) I0 J J J Zz pI (by first | omega | (simp only [List.length_set];omega))) K2)<|r1' J (Zh (n:=86) (Bx _ _ _ _ (by omega) (by rw [hci];have:=hsy i;omega)) J J J K2 Zld (Zc 83 J J J (Ou 2 J J (Yx (i:=i)) Zd)) J hw) fun v_3 _=>Yk<|Zlc (Ow 86 J Zi) (fun sl hsl=>?_)
     subst hsl
     exact Zu (n:=0) [(7,1),(8,1),(9,3)]<|r1' J (Pm (i:=87) (ivs:=[(0,_)]) (enc:=Ca) [((cf (Zt ws) ((Zt ws).length-1)/(cf (Zt ys) ((Zt ys).length-1)))*(ys.getD i I0).1,sl)] J J K2 Nn ti48 J J J J J pI.cells J J hw) fun v_4 _=>r1' J (Zed 70 J J J K2 (fun hoffr=>(Ak (xs:=ms) (ys:=[_]) (i:=70) (j:=87) (by_:=32) J J J J J J (by decide) J (Yt pI) Nn ti48 J pI J J J (by simp;omega) (by decide) J hw hoffr))) fun v_5 _=>r3' J (Pt (Oy J J) J) fun _ _=>Yk<|Yb<|Oe<|Za<|Zg<|mv J<|dt (Yy J J J ⟨by omega,by omega⟩)<|as_ J<|Zf<|Qy (Py (q:=qI) (z:=((cf (Zt ws) ((Zt ws).length-1)/(cf (Zt ys) ((Zt ys).length-1)))*(ys.getD i I0).1,sl)) 71 86 71 J J J J J)<|Xp (i+1,_,ms ++ [((cf (Zt ws) ((Zt ws).length-1)/(cf (Zt ys) ((Zt ys).length-1)))*(ys.getD i I0).1,sl)]) ⟨by first | omega | (dsimp only<;>omega),by rw [Ko,hms,←Zdj];dsimp only;rw [hci],by simp;omega⟩ (by first | omega | (dsimp only<;>omega)) K6 K10
    ·exact Yw<|Zx<|Zx<|Na<|Za<|Yq (Pe 70 J J pI)<|Yq (Mq 70 71 72 J J J J)<|Zg<|mv J<|mv J<|tt (Zh (n:=4) (Zny _ _ _ _ hsw (by rw [hms];exact Znp (fun t=>by have h8:=Xw (cf (Zt ws) ((Zt ws).length-1)/(cf (Zt ys) ((Zt ys).length-1))) (cf (Zt ys) t);have h9:=hsy t;have h10:=Zwr (p:=Zt zs) (q:=Zt ys) (R:=Zt ws) hqe (Eg (Zt zs) (Zt ys) _ _) hsy (by omega) (by omega) g3 t;omega))) J J J K2 call88 (Zc 80 J J J (Zc 72 J J J Zd)) J hw) fun g_7 hg_2=>as_ J<|Zf<|Oe<|Qy (Od 4 80 J J J)<|Xp ((Zt zs).length-(Zt ws).length+1,_,_) ⟨by dsimp only;omega,by dsimp only;rw [hg_2,hms,show i=(Zt ys).length by omega];exact hst⟩ (by dsimp only;omega) K3 K6
  ·exact Yw<|Zx<|Zx<|Na<|Za<|Ze<|Zg<|mv J<|as_ J<|Zf<|Za<|Zw<|Zy (.inl J) hsc (_,ws) _ (fun a w hs=>Xy hs results160 J) J (Zlu (R:=Zt ws) (by omega) (by omega) hlead (by omega) hI (by have:=Zv ws;omega)) J (Xb 80 J J J Zj)
set_option maxHeartbeats 4000000 in
theorem Zax(v u:Value)(zs ys:List (Int×SL))(htz:Tr (Zt zs))(ht:Tr (Zt ys))(hF:ys.length≤zs.length→msz (Zt zs)+(zs.length-ys.length+1)*(msz (Zt ys)+1)≤900000)(hl:zs.length≤30:=by omega)(hk:ys.length≤30:=by omega)(hy0:0<ys.length:=by omega):Cal prog 55 #[v,u] [pp v zs,pp u ys] true (G:=Value×List (Int×SL)) (fun r=>pdv (Zt zs) (Zt ys)→Zt r.2=Kv (Zt zs) (Zt ys)) (fun r=> .tuple #[r.1,.bool (decide (pdv (Zt zs) (Zt ys)))]) (fun r=>[pp r.1 r.2]):=by
 refine Yd func55 J ntmps55 J K2 ?_
 intro w0 sc hw hsc
 simp only [Zq,Zp]
 have hli:=Zv zs
 have hli2:=Zv ys
 have hlead:(cf (Zt ys) ((Zt ys).length-1))≠0:=ht.mem (fun e=>by rw [←hli2,e]at hy0;simp at hy0)
 refine Md (Gg (i:=1) J Zz) fun hlen=>Md (Gg (i:=2) J Zz) fun hlen2=>Ze<|Zg<|as_ J<|as_ J<|Zf<|Za<|Ze<|Ze<|Zg<|mv J<|dt (Yh J J (i:=1) J Zz Nn)<|dt (Pv J J J)<|Zf<|Za<|Zs J (fun h224=>?_) (fun h224=>?_)
 ·refine Ze<|Zg<|as_ J<|as_ J<|Zf<|Za<|Zw<|Xa<|Qy (Ek 62) ?_
  have hzn:Zt zs=[]:=List.eq_nil_of_length_eq_zero (by omega)
  exact Zy (.inl J) hsc (.slice none 0 0,[]) _ (fun a w hs=>Nr hs results55 J J) (by rw [pdv_nil hzn]) (fun _=>by unfold Kv;rw [if_pos hzn];rfl) J (Xb 62 J J J Zj)
 ·have hnz:Zt zs≠[]:=fun e=>by have h7:=congrArg List.length e;simp only [List.length_nil]at h7;omega
  refine Zl<|Za<|Ze<|Ze<|Zg<|mv J<|dt (Yh J J (i:=1) J Zz Nn)<|mv J<|dt (Yh J J (i:=2) J Zz Nn)<|dt (Xv J J J)<|Zf<|Za<|Zs J (fun h227=>?_) (fun h227=>?_)
  ·refine Ze<|Zg<|as_ J<|as_ J<|Zf<|Za<|Zw<|Xa<|Qy (Ek 62) ?_
   have hno:=pdv_low (p:=Zt zs) (q:=Zt ys) (fun e=>by have h7:=congrArg List.length e;simp only [List.length_nil]at h7;omega) (by omega)
   exact Zy (.inl J) hsc (.slice none 0 0,[]) _ (fun a w hs=>Nr hs results55 J J) (by rw [hno]) (fun h=>absurd h (of_decide_eq_false hno)) J (Xb 62 J J J Zj)
  ·have hF2:=hF (by omega)
   have hF3:msz (Zt zs)+((Zt zs).length-(Zt ys).length+1)*(msz (Zt ys)+1)≤900000:=by rw [hli,hli2];exact hF2
   have hcl:=Nm ys (ys.length-1)
   have hci2:(ys.getD (ys.length-1) I0).1=(cf (Zt ys) ((Zt ys).length-1)):=by rw [hcl,hli2]
   have hsy:=Oi (Zt ys)
   have hlq:=hsy ((Zt ys).length-1)
   have hmy:msz (Zt ys)≤900000:=by have h7:=Nat.mul_le_mul_right (msz (Zt ys)+1) (show 1≤(Zt zs).length-(Zt ys).length+1 by omega);omega
   refine Zl<|Za<|Ze<|Zg<|mv J<|dt (Yh J J (i:=1) J Zz Nn)<|mv J<|dt (Yh J J (i:=2) J Zz Nn)<|dt (Qf J J J ⟨by omega,by omega⟩)<|dt (Yy J J J ⟨by omega,by omega⟩)<|tt (Gd (i:=60) (n:=(zs.length-ys.length+1)) (by_:=32) (enc:=Ca) I0 J J J J Nn ti48 J pI.cells pI.pos J J J hw) fun v _=>as_ J<|Zf<|Za<|Ze<|Zg<|mv J<|as_ J<|Zf<|Za<|Ze<|Ze<|Zg<|mv J<|dt (Yh J J (i:=60) J (Yt pI) Nn)<|dt (Qf J J J ⟨by simp only [List.length_replicate];omega,by simp only [List.length_replicate];omega⟩)<|as_ J<|Zf<|Za<|Zo<|Yq (Ej 61 (zs.length-ys.length+1))<|Yq (Od 1 80 J J J) ?_
   refine Nw [(1,_),(6,_)] [(0,_),(1,_),(2,_)] (fun(q:Nat×List (Int×SL)×List (Int×SL)×Value)=>[(7,q.2.2.2),(8,.int .i64 ((zs.length:Int)-(ys.length:Int)-(q.1:Int)))]) (fun(q:Nat×List (Int×SL)×List (Int×SL)×Value)=>[(60,osl 2 48 Ca v q.2.1),(61,Zci qI q.2.1),(80,pp q.2.2.2 q.2.2.1)]) (fun(q:Nat×List (Int×SL)×List (Int×SL)×Value)=>(q.1≤(Zt zs).length-(Zt ys).length+1)∧(∀k,((Zt zs).length-(Zt ys).length)<k+q.1→k≤((Zt zs).length-(Zt ys).length)→Lb (Zt zs) (Zt ys) k)∧(Zt q.2.1=Zkt (Zt zs) (Zt ys) q.1)∧(Zt q.2.2.1=tzl (Qq (Zt zs) (Zt ys) q.1))) (fun(q:Nat×List (Int×SL)×List (Int×SL)×Value)=>(Zt zs).length-(Zt ys).length+1-q.1) (0,List.replicate (zs.length-ys.length+1) I0,zs,_) ⟨Nat.zero_le _,fun k h1 h2=>by omega,by rw [←Zks,hli,hli2];simp [Zt],(Zam htz).symm⟩ ⟨J,by simp only [List.length_replicate];exact congrArg some (Ag (by omega)),rfl,rfl,trivial⟩ K6 ?_
   rintro⟨j,os,ws,vr⟩ ⟨hj,hx,hos,hws⟩
   dsimp only at hj hx hos hws
   simp only [CA,NA]
   have hlw:=Zv ws
   have hlo:=Zv os
   have hlo2:=congrArg List.length hos
   rw [Du]at hlo2
   have hwl:ws.length≤zs.length:=by rw [←hlw,hws];exact Nat.le_trans (Gp _) (by rw [Ip];omega)
   refine Ze<|Ze<|Zg<|mv J<|dt (Ke J J J)<|Zf<|Za<|Zs J (fun h232=>?_) (fun h232=>?_)
   ·have hj2:j≤(Zt zs).length-(Zt ys).length:=by omega
    have hcw:cf (Zt ws) (((Zt zs).length-(Zt ys).length-j)+(Zt ys).length-1)=(cf (Qq (Zt zs) (Zt ys) j) (((Zt zs).length-(Zt ys).length-j)+(Zt ys).length-1)):=by rw [hws,Ka]
    have hb1:=div_sz2 hj2 hx hF3
    have hb2:=hb1 (((Zt zs).length-(Zt ys).length-j)+(Zt ys).length-1)
    refine Zl<|Za<|Ze<|Zo<|Da [(1,_),(6,_),(7,_),(8,_)] [(0,_),(60,_),(61,_),(80,_),(1,_),(2,_)] (fun(q:Value×Value×Nat×Nat)=>[(9,.pointer (some ⟨q.2.2.1,0,none⟩)),(10,.pointer (some ⟨q.2.2.2,0,none⟩))]) (fun(q:Value×Value×Nat×Nat)=>[(83,d9p q.1 ((cf (Qq (Zt zs) (Zt ys) j) (((Zt zs).length-(Zt ys).length-j)+(Zt ys).length-1))/(cf (Zt ys) ((Zt ys).length-1))).natAbs),(84,d9p q.2.1 ((cf (Qq (Zt zs) (Zt ys) j) (((Zt zs).length-(Zt ys).length-j)+(Zt ys).length-1))%(cf (Zt ys) ((Zt ys).length-1))).natAbs),(97,box q.2.2.1 48 #[.bool (decide (((cf (Qq (Zt zs) (Zt ys) j) (((Zt zs).length-(Zt ys).length-j)+(Zt ys).length-1))/(cf (Zt ys) ((Zt ys).length-1)))<0)),q.1]),(98,box q.2.2.2 48 #[.bool (decide (((cf (Qq (Zt zs) (Zt ys) j) (((Zt zs).length-(Zt ys).length-j)+(Zt ys).length-1))%(cf (Zt ys) ((Zt ys).length-1)))<0)),q.2.1])]) (fun(q:Value×Value×Nat×Nat)=>True) K4 K6 ?_ ?_
    ·refine Oj [2] [20]<|Zu (n:=9) [(0,0),(1,0),(2,0),(3,0),(4,0),(5,0),(7,0),(8,0),(9,0),(10,0),(11,0),(12,0)]<|r0' J J (stf (Yr J J) K1)<|r0' J J (stf (Yr J J) K1)<|r0' J J (stf (Yr J J) K1)<|r0' J J (stf (Yh J J (i:=2) J Zz Nn) K1)<|r0' J J (stf (Yy J J J ⟨by omega,by omega⟩) K1)<|r0' J J (stf (Qf J J J ⟨by omega,by omega⟩) K1)<|r0' J J (stf (Yr J J) K1)<|r0' J J (stf (Yr J J) K1)<|r0' J J (stf (Yh J J (i:=2) J Zz Nn) K1)<|r0' J J (stf (Qf J J J ⟨by omega,by omega⟩) K1)<|r0' J J (stf (Xc (ii:=2) (i:=(ys.length-1)) J J J J Zz Nn Qd) K1)<|r0' J J (stf (Xs (ii:=2) I0 J J J Zz pI) K1)<|Yk<|Dg (n:=8) 6 17 18 ?_ ?_ ?_
     ·refine Yf J (Zh (n:=3) (Zh2 _ _ _ (((Zt zs).length-(Zt ys).length-j)+(Zt ys).length-1)) J J J K2 call101 (Zc 80 J J J Zd) J hw) fun v_2 _=>Dg (n:=7) 13 17 18 ?_ ?_ ?_
      ·refine Yf J (Zh (n:=83) (Gr _ _ _ _ (by rw [hcw];omega) (by rw [hci2];exact hlead) (by rw [hci2];omega)) J J J K2 Zfn (Zc 3 J J J (Ou 2 J J (Yx (zs:=ys) (i:=ys.length-1) (d:=I0)) Zd)) J hw) fun g _=>Zu (n:=4) [(14,0),(15,0),(16,0)]<|r0' J J (stf (Yr J J) K1)<|r0' J J (stf (Yl J J J) K1)<|r0' J J (stf (Yl J J J) K1)<|Yk<|Qp (n:=3) 17 18 ?_ ?_
       ·exact Yf J (Zn (i:=97) J J zeroValue48 J J hw K1) fun b ho=>Zu (n:=0) [(18,1),(19,1),(20,3)]<|r1' J (Zn (i:=98) J J zeroValue48 J J hw K1) fun b_2 ho2=>r1' J (Zm (i:=97) J J J J J (by decide) J Qd J J ⟨Zb J,Zk (i:=83) J Zi,trivial⟩ J hw ho) fun _ _=>r3' J (Zm (i:=98) J J J J J (by decide) J Qd J J ⟨Zb J,Zk (i:=84) J Zi,trivial⟩ J hw trivial) fun _ _=>Yk<|Yb<|Ql (_,_,_,_) trivial K6 ⟨by rw [←hcw,←hci2];rfl,by rw [←hcw,←hci2];rfl,by rw [←hcw,←hci2];rfl,by rw [←hcw,←hci2];rfl,rfl,rfl,rfl,rfl,rfl,rfl,trivial⟩
       ·exact Yf J (Zn (i:=98) J J zeroValue48 J J hw K1) fun b_3 ho3=>Zu (n:=0) [(17,1),(19,1),(20,3)]<|r1' J (Zn (i:=97) J J zeroValue48 J J hw K1) fun b_4 ho4=>r1' J (Zm (i:=97) J J J J J (by decide) J Qd J J ⟨Zb J,Zk (i:=83) J Zi,trivial⟩ J hw ho4) fun _ _=>r3' J (Zm (i:=98) J J J J J (by decide) J Qd J J ⟨Zb J,Zk (i:=84) J Zi,trivial⟩ J hw trivial) fun _ _=>Yk<|Yb<|Ql (_,_,_,_) trivial K6 ⟨by rw [←hcw,←hci2];rfl,by rw [←hcw,←hci2];rfl,by rw [←hcw,←hci2];rfl,by rw [←hcw,←hci2];rfl,rfl,rfl,rfl,rfl,rfl,rfl,trivial⟩
      ·refine Yf J (Zn (i:=97) J J zeroValue48 J J hw K1) fun b_5 ho5=>Qp (n:=6) 13 18 ?_ ?_
       ·exact Yf J (Zh (n:=83) (Gr _ _ _ _ (by rw [hcw];omega) (by rw [hci2];exact hlead) (by rw [hci2];omega)) J J J K2 Zfn (Zc 3 J J J (Ou 2 J J (Yx (zs:=ys) (i:=ys.length-1) (d:=I0)) Zd)) J hw) fun g_2 _=>Zu (n:=0) [(14,0),(15,0),(16,0),(18,1),(19,1),(20,3)]<|r0' J J (stf (Yr J J) K1)<|r0' J J (stf (Yl J J J) K1)<|r0' J J (stf (Yl J J J) K1)<|r1' J (Zn (i:=98) J J zeroValue48 J J hw K1) fun b_6 ho6=>r1' J (Zm (i:=97) J J J J J (by decide) J Qd J J ⟨Zb J,Zk (i:=83) J Zi,trivial⟩ J hw ho5) fun _ _=>r3' J (Zm (i:=98) J J J J J (by decide) J Qd J J ⟨Zb J,Zk (i:=84) J Zi,trivial⟩ J hw trivial) fun _ _=>Yk<|Yb<|Ql (_,_,_,_) trivial K6 ⟨by rw [←hcw,←hci2];rfl,by rw [←hcw,←hci2];rfl,by rw [←hcw,←hci2];rfl,by rw [←hcw,←hci2];rfl,rfl,rfl,rfl,rfl,rfl,rfl,trivial⟩
       ·exact Yf J (Zn (i:=98) J J zeroValue48 J J hw K1) fun b_7 ho7=>Zu (n:=0) [(13,1),(14,0),(15,0),(16,0),(19,1),(20,3)]<|r1' J (Zh (n:=83) (Gr _ _ _ _ (by rw [hcw];omega) (by rw [hci2];exact hlead) (by rw [hci2];omega)) J J J K2 Zfn (Zc 3 J J J (Ou 2 J J (Yx (zs:=ys) (i:=ys.length-1) (d:=I0)) Zd)) J hw) fun g_3 _=>r0' J J (stf (Yr J J) K1)<|r0' J J (stf (Yl J J J) K1)<|r0' J J (stf (Yl J J J) K1)<|r1' J (Zm (i:=97) J J J J J (by decide) J Qd J J ⟨Zb J,Zk (i:=83) J Zi,trivial⟩ J hw ho5) fun _ _=>r3' J (Zm (i:=98) J J J J J (by decide) J Qd J J ⟨Zb J,Zk (i:=84) J Zi,trivial⟩ J hw trivial) fun _ _=>Yk<|Yb<|Ql (_,_,_,_) trivial K6 ⟨by rw [←hcw,←hci2];rfl,by rw [←hcw,←hci2];rfl,by rw [←hcw,←hci2];rfl,by rw [←hcw,←hci2];rfl,rfl,rfl,rfl,rfl,rfl,rfl,trivial⟩
      ·refine Yf J (Zn (i:=98) J J zeroValue48 J J hw K1) fun b_8 ho8=>Qp (n:=6) 13 17 ?_ ?_
       ·exact Yf J (Zh (n:=83) (Gr _ _ _ _ (by rw [hcw];omega) (by rw [hci2];exact hlead) (by rw [hci2];omega)) J J J K2 Zfn (Zc 3 J J J (Ou 2 J J (Yx (zs:=ys) (i:=ys.length-1) (d:=I0)) Zd)) J hw) fun g_4 _=>Zu (n:=0) [(14,0),(15,0),(16,0),(17,1),(19,1),(20,3)]<|r0' J J (stf (Yr J J) K1)<|r0' J J (stf (Yl J J J) K1)<|r0' J J (stf (Yl J J J) K1)<|r1' J (Zn (i:=97) J J zeroValue48 J J hw K1) fun b_9 ho9=>r1' J (Zm (i:=97) J J J J J (by decide) J Qd J J ⟨Zb J,Zk (i:=83) J Zi,trivial⟩ J hw ho9) fun _ _=>r3' J (Zm (i:=98) J J J J J (by decide) J Qd J J ⟨Zb J,Zk (i:=84) J Zi,trivial⟩ J hw trivial) fun _ _=>Yk<|Yb<|Ql (_,_,_,_) trivial K6 ⟨by rw [←hcw,←hci2];rfl,by rw [←hcw,←hci2];rfl,by rw [←hcw,←hci2];rfl,by rw [←hcw,←hci2];rfl,rfl,rfl,rfl,rfl,rfl,rfl,trivial⟩
       ·exact Yf J (Zn (i:=97) J J zeroValue48 J J hw K1) fun b_10 ho10=>Zu (n:=0) [(13,1),(14,0),(15,0),(16,0),(19,1),(20,3)]<|r1' J (Zh (n:=83) (Gr _ _ _ _ (by rw [hcw];omega) (by rw [hci2];exact hlead) (by rw [hci2];omega)) J J J K2 Zfn (Zc 3 J J J (Ou 2 J J (Yx (zs:=ys) (i:=ys.length-1) (d:=I0)) Zd)) J hw) fun g_5 _=>r0' J J (stf (Yr J J) K1)<|r0' J J (stf (Yl J J J) K1)<|r0' J J (stf (Yl J J J) K1)<|r1' J (Zm (i:=97) J J J J J (by decide) J Qd J J ⟨Zb J,Zk (i:=83) J Zi,trivial⟩ J hw ho10) fun _ _=>r3' J (Zm (i:=98) J J J J J (by decide) J Qd J J ⟨Zb J,Zk (i:=84) J Zi,trivial⟩ J hw trivial) fun _ _=>Yk<|Yb<|Ql (_,_,_,_) trivial K6 ⟨by rw [←hcw,←hci2];rfl,by rw [←hcw,←hci2];rfl,by rw [←hcw,←hci2];rfl,by rw [←hcw,←hci2];rfl,rfl,rfl,rfl,rfl,rfl,rfl,trivial⟩
     ·refine Yf J (Zn (i:=97) J J zeroValue48 J J hw K1) fun b_11 ho11=>Qp (n:=7) 6 18 ?_ ?_
      ·refine Yf J (Zh (n:=4) (Zh2 _ _ _ (((Zt zs).length-(Zt ys).length-j)+(Zt ys).length-1)) J J J K2 call101 (Zc 80 J J J Zd) J hw) fun v_3 _=>Qp (n:=6) 13 18 ?_ ?_
       ·exact Yf J (Zh (n:=83) (Gr _ _ _ _ (by rw [hcw];omega) (by rw [hci2];exact hlead) (by rw [hci2];omega)) J J J K2 Zfn (Zc 4 J J J (Ou 2 J J (Yx (zs:=ys) (i:=ys.length-1) (d:=I0)) Zd)) J hw) fun g_6 _=>Zu (n:=0) [(14,0),(15,0),(16,0),(18,1),(19,1),(20,3)]<|r0' J J (stf (Yr J J) K1)<|r0' J J (stf (Yl J J J) K1)<|r0' J J (stf (Yl J J J) K1)<|r1' J (Zn (i:=98) J J zeroValue48 J J hw K1) fun b_12 ho12=>r1' J (Zm (i:=97) J J J J J (by decide) J Qd J J ⟨Zb J,Zk (i:=83) J Zi,trivial⟩ J hw ho11) fun _ _=>r3' J (Zm (i:=98) J J J J J (by decide) J Qd J J ⟨Zb J,Zk (i:=84) J Zi,trivial⟩ J hw trivial) fun _ _=>Yk<|Yb<|Ql (_,_,_,_) trivial K6 ⟨by rw [←hcw,←hci2];rfl,by rw [←hcw,←hci2];rfl,by rw [←hcw,←hci2];rfl,by rw [←hcw,←hci2];rfl,rfl,rfl,rfl,rfl,rfl,rfl,trivial⟩
       ·exact Yf J (Zn (i:=98) J J zeroValue48 J J hw K1) fun b_13 ho13=>Zu (n:=0) [(13,1),(14,0),(15,0),(16,0),(19,1),(20,3)]<|r1' J (Zh (n:=83) (Gr _ _ _ _ (by rw [hcw];omega) (by rw [hci2];exact hlead) (by rw [hci2];omega)) J J J K2 Zfn (Zc 4 J J J (Ou 2 J J (Yx (zs:=ys) (i:=ys.length-1) (d:=I0)) Zd)) J hw) fun g_7 _=>r0' J J (stf (Yr J J) K1)<|r0' J J (stf (Yl J J J) K1)<|r0' J J (stf (Yl J J J) K1)<|r1' J (Zm (i:=97) J J J J J (by decide) J Qd J J ⟨Zb J,Zk (i:=83) J Zi,trivial⟩ J hw ho11) fun _ _=>r3' J (Zm (i:=98) J J J J J (by decide) J Qd J J ⟨Zb J,Zk (i:=84) J Zi,trivial⟩ J hw trivial) fun _ _=>Yk<|Yb<|Ql (_,_,_,_) trivial K6 ⟨by rw [←hcw,←hci2];rfl,by rw [←hcw,←hci2];rfl,by rw [←hcw,←hci2];rfl,by rw [←hcw,←hci2];rfl,rfl,rfl,rfl,rfl,rfl,rfl,trivial⟩
      ·exact Yf J (Zn (i:=98) J J zeroValue48 J J hw K1) fun b_14 ho14=>Zu (n:=0) [(6,1),(13,1),(14,0),(15,0),(16,0),(19,1),(20,3)]<|r1' J (Zh (n:=5) (Zh2 _ _ _ (((Zt zs).length-(Zt ys).length-j)+(Zt ys).length-1)) J J J K2 call101 (Zc 80 J J J Zd) J hw) fun v_4 _=>r1' J (Zh (n:=83) (Gr _ _ _ _ (by rw [hcw];omega) (by rw [hci2];exact hlead) (by rw [hci2];omega)) J J J K2 Zfn (Zc 5 J J J (Ou 2 J J (Yx (zs:=ys) (i:=ys.length-1) (d:=I0)) Zd)) J hw) fun g_8 _=>r0' J J (stf (Yr J J) K1)<|r0' J J (stf (Yl J J J) K1)<|r0' J J (stf (Yl J J J) K1)<|r1' J (Zm (i:=97) J J J J J (by decide) J Qd J J ⟨Zb J,Zk (i:=83) J Zi,trivial⟩ J hw ho11) fun _ _=>r3' J (Zm (i:=98) J J J J J (by decide) J Qd J J ⟨Zb J,Zk (i:=84) J Zi,trivial⟩ J hw trivial) fun _ _=>Yk<|Yb<|Ql (_,_,_,_) trivial K6 ⟨by rw [←hcw,←hci2];rfl,by rw [←hcw,←hci2];rfl,by rw [←hcw,←hci2];rfl,by rw [←hcw,←hci2];rfl,rfl,rfl,rfl,rfl,rfl,rfl,trivial⟩
     ·refine Yf J (Zn (i:=98) J J zeroValue48 J J hw K1) fun b_15 ho15=>Qp (n:=7) 6 17 ?_ ?_
      ·refine Yf J (Zh (n:=6) (Zh2 _ _ _ (((Zt zs).length-(Zt ys).length-j)+(Zt ys).length-1)) J J J K2 call101 (Zc 80 J J J Zd) J hw) fun v_5 _=>Qp (n:=6) 13 17 ?_ ?_
       ·exact Yf J (Zh (n:=83) (Gr _ _ _ _ (by rw [hcw];omega) (by rw [hci2];exact hlead) (by rw [hci2];omega)) J J J K2 Zfn (Zc 6 J J J (Ou 2 J J (Yx (zs:=ys) (i:=ys.length-1) (d:=I0)) Zd)) J hw) fun g_9 _=>Zu (n:=0) [(14,0),(15,0),(16,0),(17,1),(19,1),(20,3)]<|r0' J J (stf (Yr J J) K1)<|r0' J J (stf (Yl J J J) K1)<|r0' J J (stf (Yl J J J) K1)<|r1' J (Zn (i:=97) J J zeroValue48 J J hw K1) fun b_16 ho16=>r1' J (Zm (i:=97) J J J J J (by decide) J Qd J J ⟨Zb J,Zk (i:=83) J Zi,trivial⟩ J hw ho16) fun _ _=>r3' J (Zm (i:=98) J J J J J (by decide) J Qd J J ⟨Zb J,Zk (i:=84) J Zi,trivial⟩ J hw trivial) fun _ _=>Yk<|Yb<|Ql (_,_,_,_) trivial K6 ⟨by rw [←hcw,←hci2];rfl,by rw [←hcw,←hci2];rfl,by rw [←hcw,←hci2];rfl,by rw [←hcw,←hci2];rfl,rfl,rfl,rfl,rfl,rfl,rfl,trivial⟩
       ·exact Yf J (Zn (i:=97) J J zeroValue48 J J hw K1) fun b_17 ho17=>Zu (n:=0) [(13,1),(14,0),(15,0),(16,0),(19,1),(20,3)]<|r1' J (Zh (n:=83) (Gr _ _ _ _ (by rw [hcw];omega) (by rw [hci2];exact hlead) (by rw [hci2];omega)) J J J K2 Zfn (Zc 6 J J J (Ou 2 J J (Yx (zs:=ys) (i:=ys.length-1) (d:=I0)) Zd)) J hw) fun g_10 _=>r0' J J (stf (Yr J J) K1)<|r0' J J (stf (Yl J J J) K1)<|r0' J J (stf (Yl J J J) K1)<|r1' J (Zm (i:=97) J J J J J (by decide) J Qd J J ⟨Zb J,Zk (i:=83) J Zi,trivial⟩ J hw ho17) fun _ _=>r3' J (Zm (i:=98) J J J J J (by decide) J Qd J J ⟨Zb J,Zk (i:=84) J Zi,trivial⟩ J hw trivial) fun _ _=>Yk<|Yb<|Ql (_,_,_,_) trivial K6 ⟨by rw [←hcw,←hci2];rfl,by rw [←hcw,←hci2];rfl,by rw [←hcw,←hci2];rfl,by rw [←hcw,←hci2];rfl,rfl,rfl,rfl,rfl,rfl,rfl,trivial⟩
      ·exact Yf J (Zn (i:=97) J J zeroValue48 J J hw K1) fun b_18 ho18=>Zu (n:=0) [(6,1),(13,1),(14,0),(15,0),(16,0),(19,1),(20,3)]<|r1' J (Zh (n:=7) (Zh2 _ _ _ (((Zt zs).length-(Zt ys).length-j)+(Zt ys).length-1)) J J J K2 call101 (Zc 80 J J J Zd) J hw) fun v_6 _=>r1' J (Zh (n:=83) (Gr _ _ _ _ (by rw [hcw];omega) (by rw [hci2];exact hlead) (by rw [hci2];omega)) J J J K2 Zfn (Zc 7 J J J (Ou 2 J J (Yx (zs:=ys) (i:=ys.length-1) (d:=I0)) Zd)) J hw) fun g_11 _=>r0' J J (stf (Yr J J) K1)<|r0' J J (stf (Yl J J J) K1)<|r0' J J (stf (Yl J J J) K1)<|r1' J (Zm (i:=97) J J J J J (by decide) J Qd J J ⟨Zb J,Zk (i:=83) J Zi,trivial⟩ J hw ho18) fun _ _=>r3' J (Zm (i:=98) J J J J J (by decide) J Qd J J ⟨Zb J,Zk (i:=84) J Zi,trivial⟩ J hw trivial) fun _ _=>Yk<|Yb<|Ql (_,_,_,_) trivial K6 ⟨by rw [←hcw,←hci2];rfl,by rw [←hcw,←hci2];rfl,by rw [←hcw,←hci2];rfl,by rw [←hcw,←hci2];rfl,rfl,rfl,rfl,rfl,rfl,rfl,trivial⟩
    ·rintro⟨qv,rv,b7,b8⟩ -
     simp only [CA,NA]
     refine Ze<|Ze<|Zg<|dt (Ya (i:=98) J J J Mg Qd J J)<|tt (Zh (n:=7) (Ce _ _ (by have:=Zm6 (cf (Qq (Zt zs) (Zt ys) j) (((Zt zs).length-(Zt ys).length-j)+(Zt ys).length-1)) (cf (Zt ys) ((Zt ys).length-1)) hlead;omega)) J J J K1 call72 (Zc 84 J J J Zd) J hw) fun _ _=>dt (Qc J J J)<|Zf<|Za<|Zs J (fun h234=>?_) (fun h234=>?_)
     ·have hne:¬Lb (Zt zs) (Zt ys) ((Zt zs).length-(Zt ys).length-j):=fun he=>h234 (by rw [(Zdw hj2).1 he];rfl)
      refine Ze<|Zg<|as_ J<|as_ J<|Zf<|Za<|Zw<|Xa<|Iw<|Xa<|Xa<|Iw<|Xa<|Qy (Ek 62) ?_
      have hno:=pdv_no (p:=Zt zs) (q:=Zt ys) hnz (by omega) hne
      exact Zy (.inl J) hsc (.slice none 0 0,[]) _ (fun a w hs=>Nr hs results55 J J) (by rw [hno]) (fun h=>absurd h (of_decide_eq_false hno)) J (Xb 62 J J J Zj)
     ·have hr0:((cf (Qq (Zt zs) (Zt ys) j) (((Zt zs).length-(Zt ys).length-j)+(Zt ys).length-1))%(cf (Zt ys) ((Zt ys).length-1)))=0:=Int.sign_eq_zero_iff_zero.1 (Decidable.byContradiction h234)
      have hde:Lb (Zt zs) (Zt ys) ((Zt zs).length-(Zt ys).length-j):=(Zdw hj2).2 hr0
      have hcb:=fun t=>Nat.le_trans (div_c hlead hr0 (Nat.le_refl _) t) hb2
      have hcc:=Hh (Int.dvd_of_emod_eq_zero hr0) (Nat.le_trans (Nat.le_add_right _ _) hb2)
      refine Zl<|Za<|Ze<|e_ex (Ow 83 J Zi) (fun sl hsl=>?_)
      subst hsl
      refine Zg<|mv J<|mv J<|dt (Ya (i:=97) J J J Mg Qd J J)<|dt (Xc (ii:=60) (i:=((Zt zs).length-(Zt ys).length-j)) J J J J (Yt pI) Nn Qd)<|tt (Ij (i:=60) (enc:=Ca) (((cf (Qq (Zt zs) (Zt ys) j) (((Zt zs).length-(Zt ys).length-j)+(Zt ys).length-1))/(cf (Zt ys) ((Zt ys).length-1))),sl) J J J J J J pI J hw) fun _ _=>Zf<|Za<|Ze<|Yq (Py (q:=qI) (z:=(((cf (Qq (Zt zs) (Zt ys) j) (((Zt zs).length-(Zt ys).length-j)+(Zt ys).length-1))/(cf (Zt ys) ((Zt ys).length-1))),sl)) 61 83 62 J J J J J)<|Yq (Zpz (ys:=os.set ((Zt zs).length-(Zt ys).length-j) (((cf (Qq (Zt zs) (Zt ys) j) (((Zt zs).length-(Zt ys).length-j)+(Zt ys).length-1))/(cf (Zt ys) ((Zt ys).length-1))),sl)) 62 61 J J (fun y hy=>by rcases List.mem_or_eq_of_mem_set hy with h | h;exact List.mem_append_left _ h;rw [h];exact List.mem_append_right _ (List.mem_singleton.2 rfl)))<|Zg<|mv J<|tt (Gd (i:=70) (n:=((Zt zs).length-(Zt ys).length-j)) (by_:=32) (enc:=Ca) I0 J J J J Nn ti48 J pI.cells pI.pos J J J hw) fun v_7 _=>as_ J<|Zf<|Za<|Ze<|Ze<|Zg<|as_ J<|Zf<|Za<|Zo<|Yq (Ej 71 ((Zt zs).length-(Zt ys).length-j)) ?_
      refine Nw [(1,_),(6,_),(7,_),(8,_),(9,_)] [(0,_),(83,_),(84,_),(97,_),(98,_),(60,_),(61,_),(80,_),(1,_),(2,_)] (fun(q:Nat×Value×List (Int×SL))=>[(12,.int .i64 (q.1:Int)),(11,q.2.1)]) (fun(q:Nat×Value×List (Int×SL))=>[(70,osl 2 48 Ca q.2.1 q.2.2),(71,Zci qI q.2.2)]) (fun(q:Nat×Value×List (Int×SL))=>(q.1≤ys.length)∧(Zt q.2.2=shm (Zt ys) ((cf (Qq (Zt zs) (Zt ys) j) (((Zt zs).length-(Zt ys).length-j)+(Zt ys).length-1))/(cf (Zt ys) ((Zt ys).length-1))) ((Zt zs).length-(Zt ys).length-j) q.1)∧(q.2.2.length=((Zt zs).length-(Zt ys).length-j)+q.1)) (fun(q:Nat×Value×List (Int×SL))=>ys.length-q.1) (0,_,List.replicate ((Zt zs).length-(Zt ys).length-j) I0) ⟨by first | omega | (dsimp only<;>omega),by rw [←Zdi];simp [Zt],by simp⟩ K7 K12 ?_
      rintro⟨i,vo,ms⟩ ⟨hi,hms,hml⟩
      dsimp only at hi hms hml
      simp only [CA,NA]
      have hci:=Nm ys i
      refine Ze<|Ze<|Zg<|mv J<|mv J<|dt (Yh J J (i:=2) J Zz Nn)<|dt (Xv J J J)<|Zf<|Za<|Zs J (fun h239=>?_) (fun h239=>?_)
      ·refine Zl<|Za<|Ze<|Zo<|Oj [2,97] [9]<|Zu (n:=3) [(0,0),(1,0),(2,0),(3,0),(4,0),(5,0),(6,1)]<|r0' J J (stf (Yr J J) K2)<|r0' J J (stf (Ya (i:=97) J J J Mg Qd J J) K2)<|r0' J J (stf (Yr J J) K2)<|r0' J J (stf (Yr J J) K2)<|r0' J J (stf (Xc (ii:=2) J J J J Zz Nn Qd J (by first | omega | (simp only [List.length_set];omega))) K2)<|r0' J J (stf (Xs (ii:=2) I0 J J J Zz pI (by first | omega | (simp only [List.length_set];omega))) K2)<|r1' J (Zh (n:=86) (Bx _ _ _ _ (by omega) (by rw [hci];have:=hsy i;omega)) J J J K2 Zld (Zc 83 J J J (Ou 2 J J (Yx (i:=i)) Zd)) J hw) fun v_8 _=>Yk<|Zlc (Ow 86 J Zi) (fun sl_2 hsl=>?_)
       subst hsl
       exact Zu (n:=0) [(7,1),(8,1),(9,3)]<|r1' J (Pm (i:=87) (ivs:=[(0,_)]) (enc:=Ca) [(((cf (Qq (Zt zs) (Zt ys) j) (((Zt zs).length-(Zt ys).length-j)+(Zt ys).length-1))/(cf (Zt ys) ((Zt ys).length-1)))*(ys.getD i I0).1,sl_2)] J J K2 Nn ti48 J J J J J pI.cells J J hw) fun v_9 _=>r1' J (Zed 70 J J J K2 (fun hoffr=>(Ak (xs:=ms) (ys:=[_]) (i:=70) (j:=87) (by_:=32) J J J J J J (by decide) J (Yt pI) Nn ti48 J pI J J J (by simp;omega) (by decide) J hw hoffr))) fun v_10 _=>r3' J (Pt (Oy J J) J) fun _ _=>Yk<|Yb<|Oe<|Za<|Zg<|mv J<|dt (Yy J J J ⟨by omega,by omega⟩)<|as_ J<|Zf<|Qy (Py (q:=qI) (z:=(((cf (Qq (Zt zs) (Zt ys) j) (((Zt zs).length-(Zt ys).length-j)+(Zt ys).length-1))/(cf (Zt ys) ((Zt ys).length-1)))*(ys.getD i I0).1,sl_2)) 71 86 71 J J J J J)<|Xp (i+1,_,ms ++ [(((cf (Qq (Zt zs) (Zt ys) j) (((Zt zs).length-(Zt ys).length-j)+(Zt ys).length-1))/(cf (Zt ys) ((Zt ys).length-1)))*(ys.getD i I0).1,sl_2)]) ⟨by first | omega | (dsimp only<;>omega),by rw [Ko,hms,←Zdj];dsimp only;rw [hci],by simp;omega⟩ (by first | omega | (dsimp only<;>omega)) K7 K12
      ·refine Yw<|Zx<|Zx<|Na<|Za<|Yq (Pe 70 J J pI)<|Yq (Mq 70 71 72 J J J J)<|Zg<|mv J<|mv J<|tt (Zh (n:=8) (Zca _ _ (by rw [hms];exact Znp fun t=>by have:=hcb t;omega)) J J J K1 call89 (Zc 72 J J J Zd) J hw) fun g_12 hg=>tt (Zh (n:=9) (Zny _ _ _ _ (by rw [hws];exact Sz.tzl fun t=>by have:=hb1 t;omega) (by rw [hg,hms];exact Sz.tzl (Znp fun t=>by have:=hcb t;omega)) (by omega) (by have h7:=congrArg List.length hg;have h8:=Gp (Zt ms);have h9:=Zv ms;have h10:=Zv g_12.2;omega)) J J J K2 call88 (Zc 80 J J J (Zc 8 J J J Zd)) J hw) fun g_13 hg_2=>as_ J<|Zf<|Oe<|Za<|Zg<|mv J<|dt (Qf J J J ⟨by omega,by omega⟩)<|as_ J<|Zf ?_
       obtain rfl:i=(Zt ys).length:=by omega
       exact Qy (Od 9 80 J J J)<|Xp (j+1,os.set ((Zt zs).length-(Zt ys).length-j) (((cf (Qq (Zt zs) (Zt ys) j) (((Zt zs).length-(Zt ys).length-j)+(Zt ys).length-1))/(cf (Zt ys) ((Zt ys).length-1))),sl),_,_) ⟨by dsimp only;omega,fun k h1 h2=>by dsimp only at h1 h2;rcases Nat.lt_or_ge ((Zt zs).length-(Zt ys).length) (k+j)with h3 | h3;(exact hx k h3 h2);(rw [show k=((Zt zs).length-(Zt ys).length-j) by omega];exact hde),by dsimp only;rw [Zx2,hos];exact Zug (by omega),by dsimp only;rw [hg_2,hg,hws,hms];exact Zyd (by omega) hj2⟩ (by first | omega | (dsimp only<;>omega)) ⟨J,by dsimp only;rw [show(zs.length:Int)-(ys.length:Int)-((j+1:Nat):Int)=(zs.length:Int)-(ys.length:Int)-(j:Int)-1 by omega];rfl,rfl,rfl,trivial⟩ K6
   ·refine Yw<|Zx<|Zx<|Na<|Za<|Ze ?_
    have hall:∀k,k≤(Zt zs).length-(Zt ys).length→Lb (Zt zs) (Zt ys) k:=fun k hk=>hx k (by omega) hk
    exact Yq (Pe 60 J J pI)<|Yq (Mq 60 61 72 J J J J)<|Zg<|mv J<|tt (Zh (n:=10) (Zca _ _ (by rw [hos];exact(dout_sz hF3 hall _).mono (by omega))) J J J K1 call89 (Zc 72 J J J Zd) J hw) fun g_14 hg_3=>mv J<|dt (Yh J J (i:=80) J Zz Nn)<|dt (Pv J J J)<|as_ J<|as_ J<|Zf<|Za<|Zw<|Zy (.inl J) hsc _ _ (fun a w hs=>Nr hs results55 J J) (by rw [←pdv_end hnz (by omega) hall (show ws.length=_ by rw [←hlw,hws,show j=(Zt zs).length-(Zt ys).length+1 by omega]),show decide ((ws.length:Int)=0)=decide (ws.length=0)from decide_eq_decide.2 (by omega)]<;>rfl) (fun _=>by rw [hg_3,hos,show j=(Zt zs).length-(Zt ys).length+1 by omega,Zbi,Zib hnz]) J (Xb 10 J J J Zj)
set_option maxHeartbeats 4000000 in
theorem rp_gcd(v u:Value)(zs ys:List (Int×SL))(F:Nat)(hv:Vp (Zt zs))(hu:Vp (Zt ys))(hok:eok F (Zt zs) (Zt ys)):Cal prog 114 #[v,u] [pp v zs,pp u ys] true (G:=Value×List (Int×SL)) (fun r=>Zt r.2=Kp (Xe (eu F (Zt zs) (Zt ys)))) (fun r=>r.1) (fun r=>[pp r.1 r.2]):=by
 refine Yd func114 J ntmps114 J K2 ?_
 intro w0 sc hw hsc
 simp only [Zq,Zp]
 refine Ze<|Zg<|as_ J<|Zf<|Za<|Ze<|Zg<|mv J<|mv J<|as_ J<|as_ J<|Zf<|Za<|Ze<|Zo<|Yq (Od 1 80 J J J)<|Yq (Od 2 81 J J J)<|Nw [] [(0,_),(1,_),(2,_)] (fun(q:Value×Value×List (Int×SL)×List (Int×SL)×Nat)=>[(5,q.1),(6,q.2.1)]) (fun(q:Value×Value×List (Int×SL)×List (Int×SL)×Nat)=>[(80,pp q.1 q.2.2.1),(81,pp q.2.1 q.2.2.2.1)]) (fun(q:Value×Value×List (Int×SL)×List (Int×SL)×Nat)=>(Vp (Zt q.2.2.1))∧(Vp (Zt q.2.2.2.1))∧(eok q.2.2.2.2 (Zt q.2.2.1) (Zt q.2.2.2.1))∧(eu q.2.2.2.2 (Zt q.2.2.1) (Zt q.2.2.2.1)=eu F (Zt zs) (Zt ys))) (fun(q:Value×Value×List (Int×SL)×List (Int×SL)×Nat)=>q.2.2.2.2) (_,_,zs,ys,F) ⟨hv,hu,hok,J⟩ K2 K5 ?_
 rintro⟨va,vb,aa,bb,f⟩ ⟨hva,hvb,hok0,heu⟩
 dsimp only at hva hvb hok0 heu
 simp only [CA,NA]
 have hla:=Zv aa
 have hlb:=Zv bb
 have hna:=hva.len
 have hnb:=hvb.len
 refine Ze<|Ze<|Zg<|mv J<|dt (Yh J J (i:=81) J Zz Nn)<|dt (Of J J J)<|Zf<|Za<|Zs J (fun h250=>?_) (fun h250=>?_)
 ·have hbn:Zt bb≠[]:=fun e=>by have h7:=congrArg List.length e;simp only [List.length_nil]at h7;omega
  obtain⟨f1,rfl,hde,hok1,heu1⟩:=Zoz hok0 hbn
  have hdo:=(Zaa hde).2
  have hvp:=Bc hva hde
  exact Zl<|Za<|Zo<|Zg<|mv J<|mv J<|mv J<|tt (Zh (n:=3) (rp_rest _ _ _ _ (by omega) (by omega) (by omega) hvb.tr (fun h=>by have h7:=hdo (by omega);rw [hla,hlb]at h7;omega)) J J J K2 call160 (Zc 80 J J J (Zc 81 J J J Zd)) J hw) fun g hg=>tt (Zh (n:=4) (Ia _ _ (by rw [hg];exact hvp.sz.mono (by omega)) (fun h=>by rw [hg];exact hvp.ne (fun e=>by have h7:=congrArg List.length hg;rw [e,Zv]at h7;exact h h7)) (by have h7:=congrArg List.length hg;have h8:=hvp.len;have h9:=Zv g.2;omega)) J J J K1 call57 (Zc 3 J J J Zd) J hw) fun g_2 hg_2=>as_ J<|as_ J<|Zf<|Oe<|Qy (Od 81 80 J J J)<|Qy (Od 4 81 J J J)<|Xp (_,_,bb,g_2.2,f1) ⟨hvb,by dsimp only;rw [hg_2,hg];exact Lv hvp,by dsimp only;rw [hg_2,hg];exact hok1,by dsimp only;rw [hg_2,hg,←heu1];exact heu⟩ (Nat.lt_succ_self f1) K2 K5
 ·have hbn:Zt bb=[]:=List.eq_nil_of_length_eq_zero (by omega)
  rw [hbn,Ez]at heu
  have hpb:=Hk hva.sz
  have hpl:=Yn (Zt aa)
  refine Yw<|Zx<|Zx<|Na<|Za<|Ze<|Zg<|mv J<|tt (Zh (n:=5) (Ia _ _ (hva.sz.mono (by omega)) (fun h=>hva.ne (fun e=>by have h7:=congrArg List.length e;simp only [List.length_nil]at h7;omega))) J J J K1 call57 (Zc 80 J J J Zd) J hw) fun g_3 hg_3=>as_ J<|Zf<|Za<|Ze<|Ze ?_
  have hpz:g_3.2.length=aa.length:=by rw [←Zv g_3.2,hg_3,hpl];exact hla
  refine Zg<|mv J<|dt (Yh J J (i:=5) J Zz Nn)<|dt (Of J J J)<|mv J<|Pa (d:=22) J (fun s254=>?_) (fun s254=>?_)
  ·refine gdt (Yr J J) J J<|gdt (Yr J J) J J<|gdt (Yh J J (i:=5) J Zz Nn) J J<|gdt (Qf J J J ⟨by omega,by omega⟩) J J<|gdt (Xc (ii:=5) (i:=(g_3.2.length-1)) J J J J Zz Nn Qd) J J<|gdt (Xs (ii:=5) I0 J J J Zz pI) J J<|gtt (Zh (n:=5) (Ce _ _ (by rw [Nm,hg_3];have:=hpb (g_3.2.length-1);omega)) J J J K1 call72 (Ou 5 J J (Yx (zs:=g_3.2) (i:=g_3.2.length-1) (d:=I0)) Zd) J hw) J J J fun _ _=>gdt (Xv J J J) J J<|dt (Yu J J J)<|Zf<|Za<|Zs J (fun h254=>?_) (fun h254=>?_)
   ·have hlc:=Nm g_3.2 (g_3.2.length-1)
    have hneg:(Kp (Xe (Zt aa)))=Xn (Xe (Zt aa)) (-1):=by unfold Kp;rw [if_pos ⟨by omega,by rw [←hg_3,Zv,←hlc];exact(Qg _).1 h254⟩]
    exact Ze<|Zg<|mv J<|tt (Zh (n:=6) (Znz _ _ (by rw [hg_3];exact hpb.mono (by omega))) J J J K1 call138 (Zc 5 J J J Zd) J hw) fun g_4 hg_4=>as_ J<|Zf<|Za<|Zw<|Xa<|Zy (.inl J) hsc _ _ (fun a w hs=>Xy hs results114 J) J (by rw [hg_4,hg_3,←heu,hneg]) J (Xb 6 J J J Zj)
   ·refine Zl<|Za<|Ze<|Zg<|mv J<|as_ J<|Zf<|Za<|Zw ?_
    have hneg:(Kp (Xe (Zt aa)))=Xe (Zt aa):=by unfold Kp;rw [if_neg (fun h=>by rw [←hg_3,Zv,←Nm]at h;first | omega | exact absurd ((Qg _).2 h.2) ‹_›)]
    exact Zy (.inl J) hsc (_,g_3.2) _ (fun a w hs=>Xy hs results114 J) J (by rw [hg_3,←heu,hneg]) J (Xb 5 J J J Zj)
  ·refine gsk J J J<|gsk J J J<|gsk J J J<|gsk J J J<|gsk J J J<|gsk J J J<|gsk J J J<|gsk J J J<|dt (Yg J J J)<|Zf<|Za<|Yi J<|Zl<|Za<|Ze<|Zg<|mv J<|as_ J<|Zf<|Za<|Zw ?_
   have hneg:(Kp (Xe (Zt aa)))=Xe (Zt aa):=by unfold Kp;rw [if_neg (fun h=>by rw [←hg_3,Zv,←Nm]at h;first | omega | exact absurd ((Qg _).2 h.2) ‹_›)]
   exact Zy (.inl J) hsc (_,g_3.2) _ (fun a w hs=>Xy hs results114 J) J (by rw [hg_3,←heu,hneg]) J (Xb 5 J J J Zj)
end Go.Sky

