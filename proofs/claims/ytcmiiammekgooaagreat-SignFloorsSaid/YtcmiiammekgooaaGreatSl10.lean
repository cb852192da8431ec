/- rules, arithmetic and contracts: part 11
   Proved without conditions of its own: each theorem bears its own. -/
import Derived.Test.YtcmiiammekgooaaGreatSl03
import Derived.Test.YtcmiiammekgooaaGreatSl02
import Derived.Test.YtcmiiammekgooaaGreatSl01
import Derived.Test.YtcmiiammekgooaaGreatSl08
import Derived.Test.YtcmiiammekgooaaGreatSl09
set_option linter.all false
namespace Go.Sky
open Go.Proofs.Tryz
open Go.Proofs
set_option maxRecDepth 20000
set_option maxHeartbeats 4000000
set_option linter.unusedSimpArgs false
theorem Zk9(v:Value)(xs:List Int)(hs:Sz 1000000 xs)(hl:xs.length≤1000:=by omega):Cal prog 16 #[v] [slp 2 wv v xs] true (G:=Value×List (Int×SL)) (fun r=>Zs r.2=xs) (fun r=>r.1) (fun r=>[pp r.1 r.2]):=by
 refine Ya func16 J ntmps16 J K1 ?_
 intro w0 sc hw hsc
 simp only [Zp,Zn]
 refine Zc<|Zg<|as_ J<|Zf<|Za<|Zc<|Zg<|as_ J<|Zf<|Za<|Zc<|Zc<|Zg<|as_ J<|Zf<|Za<|Zl<|Yl (Nj 70 2 48 Es)<|Yl (Nz qI 71)<|Nt [(0,_)] [(0,_),(1,_)] (fun(q:Nat×Value×List (Int×SL))=>[(4,.int .i64 (q.1:Int)),(3,q.2.1)]) (fun(q:Nat×Value×List (Int×SL))=>[(70,osl 2 48 Es q.2.1 q.2.2),(71,Zb7 qI q.2.2)]) (fun(q:Nat×Value×List (Int×SL))=>(q.1≤xs.length)∧(Zs q.2.2=xs.take q.1)∧(q.2.2.length=q.1)) (fun(q:Nat×Value×List (Int×SL))=>xs.length-q.1) (0,.slice none 0 0,[]) ⟨by first | omega | (dsimp only<;>omega),rfl,rfl⟩ K3 K4 ?_
 rintro⟨i,vo,zs⟩ ⟨hi,hz,hzl⟩
 dsimp only at hi hz hzl
 simp only [CA,NA]
 refine Zc<|Zc<|Zg<|mv J<|mv J<|dt (Yb J J (i:=1) J Zi Qp)<|dt (Xu J J J)<|Zf<|Za<|Zq J (fun h41=>?_) (fun h41=>?_)
 ·refine Zj<|Za<|Zc<|Zl<|Zg<|mv J<|mv J<|mv J<|dt (Yw (ii:=1) J J J J Zi Qp Yj J (by first | omega | (simp only [List.length_set];omega)))<|dt (Xm (ii:=1) 0 J J J Zi pV (by first | omega | (simp only [List.length_set];omega)))<|tt (Zh (n:=2) (Znj _ (by have:=hs.getD i;omega)) J J J K1 call30 Ze J hw) fun v _=>l_ex (On 2 J Zi) (fun sl hsl=>?_)
  subst hsl
  exact tt (Pn (i:=3) (ivs:=[(0,_)]) (enc:=Es) [(xs.getD i 0,sl)] J J K2 Nc ti48 J J J J J pI.cells J J hw) fun v_2 _=>tt (Im (i:=70) (j:=3) (by_:=32) J J J J J J (by decide) J (Yq pI) Nc ti48 J pI J J J (by simp;omega) (by decide) J hw) fun v_3 _=>as_ J<|Zf<|Oa<|Za<|Zg<|mv J<|dt (Ys J J J ⟨by omega,by omega⟩)<|as_ J<|Zf<|Qv (Pj (q:=qI) (z:=(xs.getD i 0,sl)) 71 2 71 J J J J J)<|Xk (i+1,_,zs ++ [(xs.getD i 0,sl)]) ⟨by first | omega | (dsimp only<;>omega),by rw [Of 0 _ _ (by omega),←hz];simp [Zs],by simp [hzl]⟩ (by first | omega | (dsimp only<;>omega)) K3 K4
 ·exact Yu<|Zu<|Zu<|Ox<|Za<|Zc<|Yl (Qz 70 J J pI)<|Yl (Ma 70 71 72 J J J J)<|Zg<|mv J<|as_ J<|Zf<|Za<|Zv<|Yn (.inl J) hsc (_,zs) _ (fun a w hs=>Nn hs results16 J) J (by rw [hz,List.take_of_length_le (by omega)]) J (Xa 72 J J J Zk)
theorem rp_to(v:Value)(zs:List (Int×SL))(hs:Sz 1000000 (Zs zs))(hl:zs.length≤1000):Cal prog 18 #[v] [pp v zs] false (G:=Value) (fun r=>True) (fun r=>r) (fun r=>[slp 2 wv r (Zs zs)]):=by
 refine Ya func18 J ntmps18 J K1 ?_
 intro w0 sc hw hsc
 simp only [Zp,Zn]
 have hli:=Zr zs
 refine Zc<|Zg<|as_ J<|Zf<|Za<|Zc<|Zg<|as_ J<|Zf<|Za<|Zc<|Zc<|Zg<|as_ J<|Zf<|Za<|Zl<|Yl (Nj 70 2 31 wv)<|Nt [(0,_)] [(0,_),(1,_)] (fun(q:Nat×Value)=>[(4,.int .i64 (q.1:Int)),(3,q.2)]) (fun(q:Nat×Value)=>[(70,osl 2 31 wv q.2 ((Zs zs).take q.1))]) (fun(q:Nat×Value)=>q.1≤zs.length) (fun(q:Nat×Value)=>zs.length-q.1) (0,.slice none 0 0) (by first | omega | (dsimp only<;>omega)) K3 K3 ?_
 rintro⟨i,vo⟩ hi
 dsimp only at hi
 simp only [CA,NA]
 have htl:((Zs zs).take i).length=i:=by rw [List.length_take];omega
 have hci:=Na zs i
 refine Zc<|Zc<|Zg<|mv J<|mv J<|dt (Yb J J (i:=1) J Zx Nc)<|dt (Xu J J J)<|Zf<|Za<|Zq J (fun h50=>?_) (fun h50=>?_)
 ·exact Zj<|Za<|Zc<|Zl<|Zg<|mv J<|mv J<|mv J<|dt (Yw (ii:=1) J J J J Zx Nc Qe J (by first | omega | (simp only [List.length_set];omega)))<|dt (Xm (ii:=1) I0 J J J Zx pI (by first | omega | (simp only [List.length_set];omega)))<|tt (Zh (n:=1) (r_to _ _ (by rw [hci];have:=hs i;omega)) J J J K1 call53 (Oh 1 J J (Yv) Ze) J hw) fun _ _=>tt (Pn (i:=2) (ivs:=[(0,_)]) (enc:=wv) [(zs.getD i I0).1] J J K2 Qp ti31 J J J J J pV.cells J J hw) fun v _=>tt (Im (i:=70) (j:=2) (by_:=24) J J J J J J (by decide) J (Yq pV) Qp ti31 J pV J J J (by simp;omega) (by decide) J hw) fun v_2 _=>as_ J<|Zf<|Oa<|Za<|Zg<|mv J<|dt (Ys J J J ⟨by omega,by omega⟩)<|as_ J<|Zf<|Xk (i+1,_) (by first | omega | (dsimp only<;>omega)) (by first | omega | (dsimp only<;>omega)) K3 ⟨by rw [Of 0 _ _ (by omega),show(Zs zs).getD i 0=(zs.getD i I0).1 from hci.symm];rfl,rfl,rfl,trivial⟩
 ·exact Yu<|Zu<|Zu<|Ox<|Za<|Zc<|Zg<|mv J<|as_ J<|Zf<|Za<|Zv<|Yn (.inl J) hsc _ _ (fun a w hs=>Nn hs results18 J) J trivial J (Py 70 J J pV (List.take_of_length_le (by omega)) Zk)
theorem Ah(v:Value)(zs:List (Int×SL))(hs:Sz 3000000000 (Zs zs)):Cal prog 89 #[v] [pp v zs] true (G:=Value×List (Int×SL)) (fun r=>Zs r.2=tzl (Zs zs)) (fun r=>r.1) (fun r=>[pp r.1 r.2]):=by
 refine Ya func89 J ntmps89 J K1 ?_
 intro w0 sc hw hsc
 simp only [Zp,Zn]
 refine Mc (Zl4 (i:=1) J) fun hself=>Mc (Gj (i:=1) J Zx) (fun hlen=>?_)
 have hli:=Zr zs
 refine Zc<|Zg<|as_ J<|Zf<|Za<|Zc<|Zl<|Nt [] [(0,_)] (fun(k:Nat)=>[(0,Fs v k)]) (fun(k:Nat)=>[(1,pp (Fs v k) (zs.take k))]) (fun(k:Nat)=>(k≤zs.length)∧(tzl ((Zs zs).take k)=tzl (Zs zs))) (fun(k:Nat)=>k) zs.length ⟨Nat.le_refl _,by rw [List.take_of_length_le (by omega)]⟩ ⟨by rw [hself];rfl,trivial⟩ ⟨by rw [hself,List.take_length];rfl,rfl,trivial⟩ ?_
 rintro k ⟨hk,ht⟩
 simp only [CA,NA]
 have hl:(zs.take k).length=k:=by rw [List.length_take];omega
 have hce:((zs.take k).getD (k-1) I0).1=((Zs zs).take k).getD (k-1) 0:=by rw [Na,Zd3];rfl
 refine Zc<|Zc<|Zg<|mv J<|dt (Yb J J (i:=1) J Zx Nc)<|dt (Oq J J J)<|mv J<|Qu (d:=6) J (fun s22=>?_) (fun s22=>?_)
 ·refine gdt (Ym J J) J J<|gdt (Ym J J) J J<|gdt (Yb J J (i:=1) J Zx Nc) J J<|gdt (Qa J J J ⟨by omega,by omega⟩) J J<|gdt (Yw (ii:=1) (i:=k-1) J J J J Zx Nc Qe) J J<|gdt (Xm (ii:=1) I0 J J J Zx pI) J J<|gtt (Zh (n:=1) (Cc _ _ (by rw [hce];exact(hs.take _).getD _)) J J J K1 call72 (Oh 1 J J (Yv) Ze) J hw) J J J fun _ _=>gdt (Pm J J J) J J<|dt (Xh J J J)<|Zf<|Za<|Zq J (fun h22=>?_) (fun h22=>?_)
  ·rw [hce]at h22
   have hstep:=Zmx (xs:=Zs zs) (k:=k) (by omega) (by omega) (Zfw (k:=k) (by omega) (Int.sign_eq_zero_iff_zero.1 h22))
   exact Zj<|Za<|Zl<|Zg<|mv J<|mv J<|dt (Yb J J (i:=1) J Zx Nc)<|dt (Qa J J J ⟨by omega,by omega⟩)<|dt (Zx3 (ii:=1) (i:=k-1) J J J J Zx Nc Qe)<|as_ J<|Zf<|Oa<|Qv (Zrc 1 1 (k-1) J J (by omega))<|Xk (k-1) ⟨by first | omega | (dsimp only<;>omega),by rw [←ht,←hstep]⟩ (by first | omega | (dsimp only<;>omega)) ⟨by rw [←Hi v k (k-1)];rfl,trivial⟩ ⟨by rw [Hi,List.take_take,Nat.min_eq_left (by omega)];rfl,rfl,trivial⟩
  ·try rw [hce]at h22
   exact Yu<|Zu<|Zu<|Ox<|Za<|Zc<|Zg<|mv J<|as_ J<|Zf<|Za<|Zv<|Yn (.inl J) hsc (_,zs.take k) _ (fun a w hs=>Nn hs results89 J) J (by rw [Zd3,←ht];exact(Zc3 (by omega) (by first | (left;omega) | (right;exact Zc4 (k:=k) (by omega) ‹_›))).symm) J (Xa 1 J J J Zk)
 ·exact gsk J J J<|gsk J J J<|gsk J J J<|gsk J J J<|gsk J J J<|gsk J J J<|gsk J J J<|gsk J J J<|dt (Yh J J J)<|Zf<|Za<|Ye J<|Yu<|Zu<|Zu<|Ox<|Za<|Zc<|Zg<|mv J<|as_ J<|Zf<|Za<|Zv<|Yn (.inl J) hsc (_,zs.take k) _ (fun a w hs=>Nn hs results89 J) J (by rw [Zd3,←ht];exact(Zc3 (by omega) (by first | (left;omega) | (right;exact Zc4 (k:=k) (by omega) ‹_›))).symm) J (Xa 1 J J J Zk)
theorem rp_nums(v:Value)(l:List Int)(hl:∀x∈l,inI x)(hlen:l.length≤1000):Cal prog 102 #[v] [slp 1 Ay v l] true (G:=Value×List (Int×SL)) (fun r=>Zs r.2=tzl l) (fun r=>r.1) (fun r=>[pp r.1 r.2]):=by
 refine Ya func102 J ntmps102 J K1 ?_
 intro w0 sc hw hsc
 simp only [Zp,Zn]
 have hsz:=Zd5 hl
 refine Zc<|Zg<|as_ J<|Zf<|Za<|Zc<|Zg<|as_ J<|Zf<|Za<|Zc<|Zc<|Zg<|as_ J<|Zf<|Za<|Zl<|Yl (Nj 70 2 48 Es)<|Yl (Nz qI 71)<|Nt [(0,_)] [(0,_),(1,_)] (fun(q:Nat×Value×List (Int×SL))=>[(4,.int .i64 (q.1:Int)),(3,q.2.1)]) (fun(q:Nat×Value×List (Int×SL))=>[(70,osl 2 48 Es q.2.1 q.2.2),(71,Zb7 qI q.2.2)]) (fun(q:Nat×Value×List (Int×SL))=>(q.1≤l.length)∧(Zs q.2.2=mk q.1 (cf l))∧(q.2.2.length=q.1)) (fun(q:Nat×Value×List (Int×SL))=>l.length-q.1) (0,.slice none 0 0,[]) ⟨by first | omega | (dsimp only<;>omega),rfl,rfl⟩ K3 K4 ?_
 rintro⟨i,vo,ws⟩ ⟨hi,hz,hzl⟩
 dsimp only at hi hz hzl
 simp only [CA,NA]
 refine Zc<|Zc<|Zg<|mv J<|mv J<|dt (Yb J J (i:=1) J Zi Ny)<|dt (Xu J J J)<|Zf<|Za<|Zq J (fun h59=>?_) (fun h59=>?_)
 ·refine Zj<|Za<|Zc<|Zl<|Zg<|mv J<|mv J<|mv J<|dt (Yw (ii:=1) J J J J Zi Ny zT3 J (by first | omega | (simp only [List.length_set];omega)))<|dt (Xm (ii:=1) 0 J J J Zi pZ (by first | omega | (simp only [List.length_set];omega)))<|tt (Zh (n:=2) (Cd _ (hl _ (Yv))) J J J K1 call34 Ze J hw) fun v _=>l_ex (On 2 J Zi) (fun sl hsl=>?_)
  subst hsl
  exact tt (Pn (i:=3) (ivs:=[(0,_)]) (enc:=Es) [(l.getD i 0,sl)] J J K2 Nc ti48 J J J J J pI.cells J J hw) fun v_2 _=>tt (Im (i:=70) (j:=3) (by_:=32) J J J J J J (by decide) J (Yq pI) Nc ti48 J pI J J J (by simp;omega) (by decide) J hw) fun v_3 _=>as_ J<|Zf<|Oa<|Za<|Zg<|mv J<|dt (Ys J J J ⟨by omega,by omega⟩)<|as_ J<|Zf<|Qv (Pj (q:=qI) (z:=(l.getD i 0,sl)) 71 2 71 J J J J J)<|Xk (i+1,_,ws ++ [(l.getD i 0,sl)]) ⟨by first | omega | (dsimp only<;>omega),by rw [Kh,An,hz];dsimp only;rfl,by simp [hzl]⟩ (by first | omega | (dsimp only<;>omega)) K3 K4
 ·exact Yu<|Zu<|Zu<|Ox<|Za<|Zc<|Yl (Qz 70 J J pI)<|Yl (Ma 70 71 72 J J J J)<|Zg<|mv J<|tt (Zh (n:=4) (Ah _ _ (by rw [hz];exact Zay fun t ht=>by have:=hsz t;omega)) J J J K1 call89 (Zb 72 J J J Ze) J hw) fun g hg=>as_ J<|Zf<|Za<|Zv<|Yn (.inl J) hsc _ _ (fun a w hs=>Nn hs results102 J) J (by rw [hg,hz,show i=l.length by omega,Zh7]) J (Xa 4 J J J Zk)
theorem Zhm(v:Value)(zs:List (Int×SL))(j:Int)(i:Nat)(hj:j=(i:Int):=by omega)(hi:i≤1000000:=by omega):Cal prog 101 #[v,.int .i64 j] [pp v zs] true (G:=Value) (fun r=>True) (fun r=> .agg #[.bool (decide (cf (Zs zs) i<0)),r]) (fun r=>[d9p r (cf (Zs zs) i).natAbs]):=by
 refine Ya func101 J ntmps101 J K1 ?_
 intro w0 sc hw hsc
 simp only [Zp,Zn]
 have hli:=Zr zs
 refine Mc (Gj (i:=1) J Zx) fun hlen=>Yl (Nj 60 1 3 Ds)<|Yl (Qz 60 J J pN)<|Zc<|Zg<|tt (Zo (i:=2) J J zeroValue48 J J hw) fun b _=>Zf<|Za<|Zc<|Zc<|Zg<|mv J<|dt (Xu J J J)<|mv J<|Qu (d:=7) J (fun s91=>?_) (fun s91=>?_)
 ·exfalso;omega
 ·refine gdt (Ym J J) J J<|gdt (Ym J J) J J<|gdt (Yb J J (i:=1) J Zx Nc) J J<|gdt (Lx J J J) J J<|dt (Yh J J J)<|Zf<|Za<|Zq J (fun h91=>?_) (fun h91=>?_)
  ·refine Zc<|Zg<|dt (Pz (ivs:=[]) J trivial (fun a w hs=>b48_))<|tt (Zm (i:=2) J J J J J (by decide) J Qe J J ⟨Zd J,Zd J,trivial⟩ J hw trivial) fun _ _=>Zf<|Za<|Zv<|Xc ?_
   have hz0:cf (Zs zs) i=0:=Qf (by omega)
   exact Yn (.inl J) hsc (.slice none 0 0) _ (fun a w hs=>Nn hs results101 (Yr (i:=2) J J Lg Qe J)) (by rw [hz0]<;>rfl) trivial J (Lh (by rw [hz0];rfl) Zk)
  ·exact Zj<|Za<|Zc<|Zg<|mv J<|mv J<|dt (Yw (ii:=1) (i:=i) J J J J Zx Nc Qe hj)<|dt (Xm (ii:=1) I0 J J J Zx pI)<|tt (Zm (i:=2) J J J J J (by decide) J Qe J J ⟨Zd J,Zd J,trivial⟩ J hw trivial) fun _ _=>Zf<|Za<|Zv<|Yn (.inl J) hsc _ _ (fun a w hs=>Nn hs results101 (Yr (i:=2) J J Lg Qe J)) (by rw [←Na]<;>rfl) trivial J (give_dI 1 J J (Yv (i:=i)) (by rw [←Na]<;>rfl) Zk)
theorem rp_bits(v:Value)(zs:List (Int×SL))(hs:Sz 3000000000 (Zs zs))(hl:zs.length≤1000):Ml prog 52 #[v] [pp v zs] (.int .i64 (msz (Zs zs):Int)):=by
 refine Ya func52 J ntmps52 J K1 ?_
 intro w0 sc hw hsc
 simp only [Zp,Zn]
 have hli:=Zr zs
 refine Zc<|Zg<|as_ J<|Zf<|Za<|Zc<|Zg<|as_ J<|Zf<|Za<|Zc<|Zc<|Zg<|as_ J<|Zf<|Za<|Zl<|Nt [(0,_)] [(0,_),(1,_)] (fun(i:Nat)=>[(4,.int .i64 (i:Int)),(3,.int .i64 (msz ((Zs zs).take i):Int))]) (fun(i:Nat)=>[]) (fun(i:Nat)=>i≤zs.length) (fun(i:Nat)=>zs.length-i) 0 (by first | omega | (dsimp only<;>omega)) K3 K2 ?_
 rintro i hi
 simp only [CA,NA]
 have hci:=Na zs i
 have hbi:bl (zs.getD i I0).1.natAbs≤3000000000:=by rw [hci];exact hs i
 have hms:=Zxh (Zs zs) i
 refine Zc<|Zc<|Zg<|mv J<|mv J<|dt (Yb J J (i:=1) J Zx Nc)<|dt (Xu J J J)<|Zf<|Za<|Zq J (fun h68=>?_) (fun h68=>?_)
 ·refine Zj<|Za<|Zc<|Zl<|Zc<|Zg<|mv J<|mv J<|dt (Yw (ii:=1) J J J J Zx Nc Qe J (by first | omega | (simp only [List.length_set];omega)))<|dt (Xm (ii:=1) I0 J J J Zx pI (by first | omega | (simp only [List.length_set];omega)))<|tt (Zh (n:=1) (r_bits _ _) J J J K1 call97 (Oh 1 J J (Yv) Ze) J hw) fun _ _=>mv J<|dt (Oq J J J)<|Zf<|Za<|Zq J (fun h69=>?_) (fun h69=>?_)
  ·exact Zg<|mv J<|mv J<|dt (Yw (ii:=1) J J J J Zx Nc Qe J (by first | omega | (simp only [List.length_set];omega)))<|dt (Xm (ii:=1) I0 J J J Zx pI (by first | omega | (simp only [List.length_set];omega)))<|tt (Zh (n:=1) (r_bits _ _) J J J K1 call97 (Oh 1 J J (Yv) Ze) J hw) fun _ _=>as_ J<|Zf<|Oa<|Za<|Zg<|mv J<|dt (Ys J J J ⟨by omega,by omega⟩)<|as_ J<|Zf<|Xk (i+1) (by first | omega | (dsimp only<;>omega)) (by first | omega | (dsimp only<;>omega)) ⟨J,by rw [hms (by omega),←hci];exact congrArg some (Dr (by omega)),rfl,trivial⟩ K2
  ·exact Zj<|Oa<|Za<|Zg<|mv J<|dt (Ys J J J ⟨by omega,by omega⟩)<|as_ J<|Zf<|Xk (i+1) (by first | omega | (dsimp only<;>omega)) (by first | omega | (dsimp only<;>omega)) ⟨J,by rw [hms (by omega),←hci];exact congrArg some (Dr (by omega)),rfl,trivial⟩ K2
 ·exact Yu<|Zu<|Zu<|Ox<|Za<|Zc<|Zg<|mv J<|as_ J<|Zf<|Za<|Zv<|xU hsc results52 J J (by rw [List.take_of_length_le (by omega)])
theorem Zao(v w:Value)(zs:List (Int×SL))(y:Int)(hs:Sz 1000000 (Zs zs))(hy:bl y.natAbs≤1000000)(hl:zs.length≤1000:=by omega):Cal prog 56 #[v,.agg #[.bool (decide (y<0)),w]] [pp v zs,d9p w y.natAbs] true (G:=Value×List (Int×SL)) (fun r=>Zs r.2=Xj (Zs zs) y) (fun r=>r.1) (fun r=>[pp r.1 r.2]):=by
 refine Ya func56 J ntmps56 J K2 ?_
 intro w0 sc hw hsc
 simp only [Zp,Zn]
 have hli:=Zr zs
 refine Zc<|Zg<|tt (Xe (i:=3) J J J J J hw) fun b _=>as_ J<|Zf<|Za<|Zc<|Zg<|as_ J<|Zf<|Za<|Zc<|Zc<|Zg<|as_ J<|Zf<|Za<|Zl<|Yl (Nj 70 2 48 Es)<|Yl (Nz qI 71)<|Nt [(0,_),(3,_)] [(0,_),(1,_),(2,_),(3,_)] (fun(q:Nat×Value×List (Int×SL))=>[(6,.int .i64 (q.1:Int)),(5,q.2.1)]) (fun(q:Nat×Value×List (Int×SL))=>[(70,osl 2 48 Es q.2.1 q.2.2),(71,Zb7 qI q.2.2)]) (fun(q:Nat×Value×List (Int×SL))=>(q.1≤zs.length)∧(Zs q.2.2=mk q.1 (fun t=>cf (Zs zs) t*y))∧(q.2.2.length=q.1)) (fun(q:Nat×Value×List (Int×SL))=>zs.length-q.1) (0,.slice none 0 0,[]) ⟨by first | omega | (dsimp only<;>omega),rfl,rfl⟩ K4 K6 ?_
 rintro⟨i,vo,ws⟩ ⟨hi,hz,hzl⟩
 dsimp only at hi hz hzl
 simp only [CA,NA]
 have hci:=Na zs i
 refine Zc<|Zc<|Zg<|mv J<|mv J<|dt (Yb J J (i:=1) J Zx Nc)<|dt (Xu J J J)<|Zf<|Za<|Zq J (fun h109=>?_) (fun h109=>?_)
 ·refine Zj<|Za<|Zc<|Zl<|Oo [1,3] [9]<|Zy (n:=3) [(0,0),(1,0),(2,0),(3,0),(4,0),(5,0),(6,1)]<|r0' J J (stf (Ym J J) K2)<|r0' J J (stf (Ym J J) K2)<|r0' J J (stf (Ym J J) K2)<|r0' J J (stf (Yw (ii:=1) J J J J Zx Nc Qe J (by first | omega | (simp only [List.length_set];omega))) K2)<|r0' J J (stf (Xm (ii:=1) I0 J J J Zx pI (by first | omega | (simp only [List.length_set];omega))) K2)<|r0' J J (stf (Zz (i:=3) J J J Lg Qe J J) K2)<|r1' J (Zh (n:=4) (Bo _ _ _ _ (by rw [hci];have:=hs i;omega)) J J J K2 Zkt (Oh 1 J J (Yv) (Zb 2 J J J Ze)) J hw) fun v _=>Yo<|Zks (On 4 J Zi) (fun sl hsl=>?_)
  subst hsl
  exact Zy (n:=0) [(7,1),(8,1),(9,3)]<|r1' J (Pn (i:=73) (ivs:=[(0,_)]) (enc:=Es) [((zs.getD i I0).1*y,sl)] J J K2 Nc ti48 J J J J J pI.cells J J hw) fun v_2 _=>r1' J (Du 70 J J J K2 (fun hoffr=>(Gg (xs:=ws) (ys:=[_]) (i:=70) (j:=73) (by_:=32) J J J J J J (by decide) J (Yq pI) Nc ti48 J pI J J J (by simp;omega) (by decide) J hw hoffr))) fun v_3 _=>r3' J (Px (Lq J J) J) fun _ _=>Yo<|Yg<|Oa<|Za<|Zg<|mv J<|dt (Ys J J J ⟨by omega,by omega⟩)<|as_ J<|Zf<|Qv (Pj (q:=qI) (z:=((zs.getD i I0).1*y,sl)) 71 4 71 J J J J J)<|Xk (i+1,_,ws ++ [((zs.getD i I0).1*y,sl)]) ⟨by first | omega | (dsimp only<;>omega),by rw [Kh,An,hz];dsimp only;rw [Na],by simp [hzl]⟩ (by first | omega | (dsimp only<;>omega)) K4 K6
 ·exact Yu<|Zu<|Zu<|Ox<|Za<|Zc<|Yl (Qz 70 J J pI)<|Yl (Ma 70 71 72 J J J J)<|Zg<|mv J<|tt (Zh (n:=5) (Ah _ _ (by rw [hz];exact Zay fun t ht=>by have:=Xs (cf (Zs zs) t) y;have:=hs t;omega)) J J J K1 call89 (Zb 72 J J J Ze) J hw) fun g hg=>as_ J<|Zf<|Za<|Zv<|Yn (.inl J) hsc _ _ (fun a w hs=>Nn hs results56 J) J (by rw [hg,hz,show i=(Zs zs).length by omega,Zpr]) J (Xa 5 J J J Zk)
theorem Zne(v:Value)(zs:List (Int×SL))(hs:Sz 1000000 (Zs zs))(hl:zs.length≤1000:=by omega):Cal prog 138 #[v] [pp v zs] true (G:=Value×List (Int×SL)) (fun r=>Zs r.2=Xj (Zs zs) (-1)) (fun r=>r.1) (fun r=>[pp r.1 r.2]):=by
 refine Ya func138 J ntmps138 J K1 ?_
 intro w0 sc hw hsc
 simp only [Zp,Zn]
 exact Zc<|Zg<|as_ J<|Zf<|Za<|Zc<|Zg<|mv J<|tt (Zh (n:=2) (Cd (-1) ⟨by omega,by omega⟩) J J J K1 call34 Ze J hw) fun v _=>tt (Zh (n:=3) (Zao _ _ _ _ hs (by decide) hl) J J J K2 call56 (Zb 1 J J J (Zb 2 J J J Ze)) J hw) fun g hg=>as_ J<|Zf<|Za<|Zv<|Yn (.inl J) hsc _ _ (fun a w hs=>Nn hs results138 J) J hg J (Xa 3 J J J Zk)
theorem rp_add(v u:Value)(zs ys:List (Int×SL))(hs:Sz 1000000 (Zs zs))(hl:zs.length≤1000)(ht:Sz 1000000 (Zs ys))(hk:ys.length≤1000):Cal prog 43 #[v,u] [pp v zs,pp u ys] true (G:=Value×List (Int×SL)) (fun r=>Zs r.2=Zw0 (Zs zs) (Zs ys)) (fun r=>r.1) (fun r=>[pp r.1 r.2]):=by
 refine Ya func43 J ntmps43 J K2 ?_
 intro w0 sc hw hsc
 simp only [Zp,Zn]
 have hli:=Zr zs
 have hli2:=Zr ys
 refine Mc (Gj (i:=1) J Zx) fun hlen=>Mc (Gj (i:=2) J Zx) fun hlen2=>Zc<|Zg<|as_ J<|Zf<|Za<|Zc<|Zg<|as_ J<|Zf<|Za<|Zc<|Zc<|Zg<|as_ J<|Zf<|Za<|Zl<|Yl (Nj 70 2 48 Es)<|Yl (Nz qI 71)<|Nt [(0,_),(1,_)] [(0,_),(1,_),(2,_)] (fun(q:Nat×Value×List (Int×SL))=>[(6,.int .i64 (q.1:Int)),(5,q.2.1)]) (fun(q:Nat×Value×List (Int×SL))=>[(70,osl 2 48 Es q.2.1 q.2.2),(71,Zb7 qI q.2.2)]) (fun(q:Nat×Value×List (Int×SL))=>(q.1≤(max zs.length ys.length))∧(Zs q.2.2=mk q.1 (fun t=>cf (Zs zs) t+cf (Zs ys) t))∧(q.2.2.length=q.1)) (fun(q:Nat×Value×List (Int×SL))=>(max zs.length ys.length)-q.1) (0,.slice none 0 0,[]) ⟨by first | omega | (dsimp only<;>omega),rfl,rfl⟩ K4 K5 ?_
 rintro⟨i,vo,ws⟩ ⟨hi,hz,hzl⟩
 dsimp only at hi hz hzl
 simp only [CA,NA]
 refine Zc<|Dj [(0,_),(1,_),(5,_),(6,_)] [(0,_),(70,_),(71,_),(1,_),(2,_)] (fun(_:Unit)=>[(16,.bool (decide (i<max zs.length ys.length)))]) (fun(_:Unit)=>[]) (fun(_:Unit)=>True) K4 K5 ?_ ?_
 ·refine Zg<|mv J<|mv J<|dt (Yb J J (i:=1) J Zx Nc)<|dt (Xu J J J)<|mv J<|Qu (d:=11) J (fun s100=>?_) (fun s100=>?_)
  ·exact gsk J J J<|gsk J J J<|gsk J J J<|gsk J J J<|dt (Xh J J J)<|Zf<|Qy () trivial ⟨by first | exact congrArg some (congrArg Value.bool (decide_eq_decide.2 (by omega))) | exact congrArg some (congrArg Value.bool (decide_eq_true (by omega)).symm),rfl,rfl,rfl,rfl,trivial⟩ K5
  ·exact gdt (Ym J J) J J<|gdt (Ym J J) J J<|gdt (Yb J J (i:=2) J Zx Nc) J J<|gdt (Xu J J J) J J<|dt (Yh J J J)<|Zf<|Qy () trivial ⟨by first | exact congrArg some (congrArg Value.bool (decide_eq_decide.2 (by omega))) | exact congrArg some (congrArg Value.bool (decide_eq_true (by omega)).symm),rfl,rfl,rfl,rfl,trivial⟩ K5
 ·rintro _ -
  simp only [CA,NA]
  refine Zq J (fun h100=>?_) (fun h100=>?_)
  ·refine Zj<|Za<|Zc<|Zl<|Zg<|mv J<|mv J<|mv J<|tt (Zh (n:=3) (Zhm _ _ _ i J) J J J K2 call101 (Zb 1 J J J Ze) J hw) fun v _=>mv J<|mv J<|tt (Zh (n:=4) (Zhm _ _ _ i J) J J J K2 call101 (Zb 2 J J J Ze) J hw) fun v_2 _=>tt (Zh (n:=5) (Zpp _ _ _ _ (by have:=hs i;omega) (by have:=ht i;omega)) J J J K2 call37 (Zb 3 J J J (Zb 4 J J J Ze)) J hw) fun v_3 _=>l_ex (On 5 J Zi) (fun sl hsl=>?_)
   subst hsl
   exact tt (Pn (i:=6) (ivs:=[(0,_)]) (enc:=Es) [(cf (Zs zs) i+cf (Zs ys) i,sl)] J J K2 Nc ti48 J J J J J pI.cells J J hw) fun v_4 _=>tt (Im (i:=70) (j:=6) (by_:=32) J J J J J J (by decide) J (Yq pI) Nc ti48 J pI J J J (by simp;omega) (by decide) J hw) fun v_5 _=>as_ J<|Zf<|Oa<|Za<|Zg<|mv J<|dt (Ys J J J ⟨by omega,by omega⟩)<|as_ J<|Zf<|Qv (Pj (q:=qI) (z:=(cf (Zs zs) i+cf (Zs ys) i,sl)) 71 5 71 J J J J J)<|Xk (i+1,_,ws ++ [(cf (Zs zs) i+cf (Zs ys) i,sl)]) ⟨by first | omega | (dsimp only<;>omega),by rw [Kh,An,hz],by simp [hzl]⟩ (by first | omega | (dsimp only<;>omega)) K4 K5
  ·exact Yu<|Zu<|Zu<|Ox<|Za<|Zc<|Yl (Qz 70 J J pI)<|Yl (Ma 70 71 72 J J J J)<|Zg<|mv J<|tt (Zh (n:=7) (Ah _ _ (by rw [hz];exact Zay fun t h=>by have:=Kf (cf (Zs zs) t) (cf (Zs ys) t);have:=hs t;have:=ht t;omega)) J J J K1 call89 (Zb 72 J J J Ze) J hw) fun g hg=>as_ J<|Zf<|Za<|Zv<|Yn (.inl J) hsc _ _ (fun a w hs=>Nn hs results43 J) J (by rw [hg,hz,show i=max (Zs zs).length (Zs ys).length by omega,padd_mk]) J (Xa 7 J J J Zk)
theorem Zje(v u:Value)(zs ys:List (Int×SL))(hs:Sz 1000000 (Zs zs))(ht:Sz 1000000 (Zs ys))(hl:zs.length≤1000:=by omega)(hk:ys.length≤1000:=by omega):Cal prog 88 #[v,u] [pp v zs,pp u ys] true (G:=Value×List (Int×SL)) (fun r=>Zs r.2=Zfm (Zs zs) (Zs ys)) (fun r=>r.1) (fun r=>[pp r.1 r.2]):=by
 refine Ya func88 J ntmps88 J K2 ?_
 intro w0 sc hw hsc
 simp only [Zp,Zn]
 exact Zc<|Zg<|as_ J<|Zf<|Za<|Zc<|Zg<|mv J<|mv J<|tt (Zh (n:=3) (Zne _ _ ht hk) J J J K1 call138 (Zb 2 J J J Ze) J hw) fun g hg=>tt (Zh (n:=4) (rp_add _ _ _ _ hs hl (by rw [hg];intro t;rw [Xn];have h1:=ht t;rw [Int.mul_neg,Int.mul_one,Zkn];exact h1) (by rw [←Zr,hg];have:=Kt (Zs ys) (-1);rw [Zr]at this;omega)) J J J K2 call43 (Zb 1 J J J (Zb 3 J J J Ze)) J hw) fun g_2 hg_2=>as_ J<|Zf<|Za<|Zv<|Yn (.inl J) hsc _ _ (fun a w hs=>Nn hs results88 J) J (by rw [hg_2,hg,psub_eq]) J (Xa 4 J J J Zk)
theorem Zek(v:Value)(zs:List (Int×SL))(hs:Sz 1000000 (Zs zs))(hl:zs.length≤1000:=by omega):Cal prog 115 #[v] [pp v zs] true (G:=Value×List (Int×SL)) (fun r=>Zs r.2=Pf (Zs zs)) (fun r=>r.1) (fun r=>[pp r.1 r.2]):=by
 refine Ya func115 J ntmps115 J K1 ?_
 intro w0 sc hw hsc
 simp only [Zp,Zn]
 have hli:=Zr zs
 refine Zc<|Zg<|as_ J<|Zf<|Za<|Zc<|Zg<|as_ J<|Zf<|Za<|Zc<|Zc<|Zg<|as_ J<|Zf<|Za<|Zl<|Yl (Nj 70 2 48 Es)<|Yl (Nz qI 71)<|Nt [(0,_)] [(0,_),(1,_)] (fun(q:Nat×Value×List (Int×SL))=>[(4,.int .i64 ((q.1:Int)+1)),(3,q.2.1)]) (fun(q:Nat×Value×List (Int×SL))=>[(70,osl 2 48 Es q.2.1 q.2.2),(71,Zb7 qI q.2.2)]) (fun(q:Nat×Value×List (Int×SL))=>(q.1≤(zs.length-1))∧(Zs q.2.2=mk q.1 (fun t=>cf (Zs zs) (t+1)*((t:Int)+1)))∧(q.2.2.length=q.1)) (fun(q:Nat×Value×List (Int×SL))=>(zs.length-1)-q.1) (0,.slice none 0 0,[]) ⟨by first | omega | (dsimp only<;>omega),rfl,rfl⟩ K3 K4 ?_
 rintro⟨i,vo,ws⟩ ⟨hi,hz,hzl⟩
 dsimp only at hi hz hzl
 simp only [CA,NA]
 have hci:=Na zs (i+1)
 refine Zc<|Zc<|Zg<|mv J<|mv J<|dt (Yb J J (i:=1) J Zx Nc)<|dt (Xu J J J)<|Zf<|Za<|Zq J (fun h140=>?_) (fun h140=>?_)
 ·refine Zj<|Za<|Zc<|Zl<|Oo [1] [10]<|Zy (n:=3) [(0,0),(1,0),(2,0),(3,0),(4,0),(5,0),(6,1),(7,1)]<|r0' J J (stf (Ym J J) K1)<|r0' J J (stf (Ym J J) K1)<|r0' J J (stf (Ym J J) K1)<|r0' J J (stf (Yw (ii:=1) (i:=(i+1)) J J J J Zx Nc Qe) K1)<|r0' J J (stf (Xm (ii:=1) I0 J J J Zx pI) K1)<|r0' J J (stf (Ym J J) K1)<|r1' J (Zh (n:=2) (Cd ((i:Int)+1) ⟨by omega,by omega⟩) J J J K1 call34 Ze J hw) fun v _=>r1' J (Zh (n:=3) (Bo _ _ _ _ (by rw [hci];have:=hs (i+1);omega) (bl_i1 (by omega))) J J J K2 Zkt (Oh 1 J J (Yv (i:=i+1)) (Zb 2 J J J Ze)) J hw) fun v_2 _=>Yo<|Zks (On 3 J Zi) (fun sl hsl=>?_)
  subst hsl
  exact Zy (n:=0) [(8,1),(9,1),(10,3)]<|r1' J (Pn (i:=73) (ivs:=[(0,_)]) (enc:=Es) [((zs.getD (i+1) I0).1*((i:Int)+1),sl)] J J K2 Nc ti48 J J J J J pI.cells J J hw) fun v_3 _=>r1' J (Du 70 J J J K1 (fun hoffr=>(Gg (xs:=ws) (ys:=[_]) (i:=70) (j:=73) (by_:=32) J J J J J J (by decide) J (Yq pI) Nc ti48 J pI J J J (by simp;omega) (by decide) J hw hoffr))) fun v_4 _=>r3' J (Px (Lq J J) J) fun _ _=>Yo<|Yg<|Oa<|Za<|Zg<|mv J<|dt (Ys J J J ⟨by omega,by omega⟩)<|as_ J<|Zf<|Qv (Pj (q:=qI) (z:=((zs.getD (i+1) I0).1*((i:Int)+1),sl)) 71 3 71 J J J J J)<|Xk (i+1,_,ws ++ [((zs.getD (i+1) I0).1*((i:Int)+1),sl)]) ⟨by first | omega | (dsimp only<;>omega),by rw [Kh,An,hz];dsimp only;rw [Na],by simp [hzl]⟩ (by first | omega | (dsimp only<;>omega)) K3 K4
 ·exact Yu<|Zu<|Zu<|Ox<|Za<|Zc<|Yl (Qz 70 J J pI)<|Yl (Ma 70 71 72 J J J J)<|Zg<|mv J<|as_ J<|Zf<|Za<|Zv<|Yn (.inl J) hsc (_,ws) _ (fun a w hs=>Nn hs results115 J) J (by rw [hz,show i=(Zs zs).length-1 by omega]<;>rfl) J (Xa 72 J J J Zk)
theorem Zhl(v:Value)(x:Int)(j:Int)(n:Nat)(hx:bl x.natAbs≤1000000)(hj:j=(n:Int):=by omega)(hn:n≤100:=by omega):Cal prog 165 #[.agg #[.bool (decide (x<0)),v],.int .i64 j] [d9p v x.natAbs] true (G:=Value) (fun r=>True) (fun r=> .agg #[.bool (decide (x^n<0)),r]) (fun r=>[d9p r (x^n).natAbs]):=by
 refine Ya func165 J ntmps165 J K1 ?_
 intro w0 sc hw hsc
 simp only [Zp,Zn]
 have hpb:=fun k=>Ad hx k
 refine Zc<|Zg<|tt (Xe (i:=2) J J J J J hw) fun b _=>tt (Zo (i:=3) J J zeroValue48 J J hw) fun b_2 _=>Zf<|Za<|Zc<|Zg<|tt (Zh (n:=98) (Cd 1 ⟨by omega,by omega⟩) J J J K1 call34 Ze J hw) fun v _=>tt (Zo (i:=97) J J zeroValue48 J J hw) fun b_3 _=>tt (Zm (i:=97) J J J J J (by decide) J Qe J J ⟨Zd J,Zt (i:=98) J Zi,trivial⟩ J hw trivial) fun _ _=>Zf<|Za<|Zc<|Zc<|Zg<|as_ J<|Zf<|Za<|Zl<|Nt [(1,_),(2,_),(4,_),(5,_)] [(0,_),(1,_),(2,_),(3,_)] (fun(q:Nat×Value)=>[(6,.int .i64 (q.1:Int))]) (fun(q:Nat×Value)=>[(97,box b_3 48 #[.bool (decide (x^q.1<0)),q.2]),(98,d9p q.2 (x^q.1).natAbs)]) (fun(q:Nat×Value)=>q.1≤n) (fun(q:Nat×Value)=>n-q.1) (0,_) (by first | omega | (dsimp only<;>omega)) K5 ⟨by rw [Int.pow_zero];rfl,by rw [Int.pow_zero];rfl,rfl,rfl,rfl,rfl,trivial⟩ ?_
 rintro⟨i,vs⟩ hi
 dsimp only at hi
 simp only [CA,NA]
 have hp1:=hpb i
 have hp2:i*1000000≤100*1000000:=Nat.mul_le_mul_right _ (by omega)
 refine Zc<|Zc<|Zg<|mv J<|mv J<|dt (Xu J J J)<|Zf<|Za<|Zq J (fun h149=>?_) (fun h149=>?_)
 ·exact Zj<|Za<|Zc<|Zl<|Zg<|dt (Zz (i:=97) J J J Lg Qe J J)<|dt (Zz (i:=2) J J J Lg Qe J J)<|tt (Zh (n:=4) (Bo _ _ _ _) J J J K2 Zkt (Zb 98 J J J (Zb 1 J J J Ze)) J hw) fun v_2 _=>tt (Zm (i:=97) J J J J J (by decide) J Qe J J ⟨Zd J,Zt (i:=4) J Zi,trivial⟩ J hw trivial) fun _ _=>Zf<|Oa<|Za<|Zg<|mv J<|dt (Ys J J J ⟨by omega,by omega⟩)<|as_ J<|Zf<|Qv (Oc 4 98 J J J)<|Xk (i+1,v_2) (by first | omega | (dsimp only<;>omega)) (by first | omega | (dsimp only<;>omega)) K5 ⟨by rw [Int.pow_succ];rfl,by rw [Int.pow_succ];rfl,rfl,rfl,rfl,rfl,trivial⟩
 ·refine Yu<|Zu<|Zu<|Ox<|Za<|Zc ?_
  obtain rfl:i=n:=by omega
  exact Zg<|dt (Zz (i:=97) J J J Lg Qe J J)<|tt (Zm (i:=3) J J J J J (by decide) J Qe J J ⟨Zd J,Zt (i:=98) J Zi,trivial⟩ J hw trivial) fun _ _=>Zf<|Za<|Zv<|Yn (.inl J) hsc _ _ (fun a w hs=>Nn hs results165 (Yr (i:=3) J J Lg Qe J)) J trivial J (Xa 98 J J J Zk)
theorem Zri(v w u:Value)(zs:List (Int×SL))(x y:Int)(hs:Sz 1000000 (Zs zs))(hx:bl x.natAbs≤1000000)(hy:bl y.natAbs≤1000000)(hl:zs.length≤30:=by omega):Cal prog 121 #[v,.agg #[.bool (decide (x<0)),w,.bool (decide (y<0)),u]] [pp v zs,d9p w x.natAbs,d9p u y.natAbs] true (G:=Value) (fun r=>True) (fun r=> .agg #[.bool (decide (pev (Zs zs) x y<0)),r]) (fun r=>[d9p r (pev (Zs zs) x y).natAbs]):=by
 refine Ya func121 J ntmps121 J K3 ?_
 intro w0 sc hw hsc
 simp only [Zp,Zn]
 have hli:=Zr zs
 have hpx:=fun k=>Ad hx k
 have hpy:=fun k=>Ad hy k
 have htb:=ev_tb hs hpx hpy (by omega:(Zs zs).length≤30)
 have hsb:=fun i (h:i≤30)=>Zmk (n:=i) (fun t _=>htb t) (by omega)
 refine Zc<|Zg<|tt (Xe (i:=4) J J J J J hw) fun b _=>tt (Zo (i:=5) J J zeroValue48 J J hw) fun b_2 _=>Zf<|Za<|Zc<|Zg<|dt (Pz (ivs:=[]) J trivial (fun a w hs=>b48_))<|tt (Zo (i:=97) J J zeroValue48 J J hw) fun b_3 _=>tt (Zm (i:=97) J J J J J (by decide) J Qe J J ⟨Zd J,Zd J,trivial⟩ J hw trivial) fun _ _=>Zf<|Za<|Zc<|Zc<|Zg<|as_ J<|Zf<|Za<|Zl<|Yl (Nj 98 1 3 Ds)<|Yl (Qz 98 J J pN)<|Nt [(0,_),(3,_),(4,_),(5,_)] [(0,_),(1,_),(2,_),(3,_),(4,_),(5,_)] (fun(q:Nat×Value)=>[(6,.int .i64 (q.1:Int))]) (fun(q:Nat×Value)=>[(97,box b_3 48 #[.bool (decide (Qn (fun t=>cf (Zs zs) t*(x^t*y^((Zs zs).length-1-t))) q.1<0)),q.2]),(98,d9p q.2 (Qn (fun t=>cf (Zs zs) t*(x^t*y^((Zs zs).length-1-t))) q.1).natAbs)]) (fun(q:Nat×Value)=>q.1≤zs.length) (fun(q:Nat×Value)=>zs.length-q.1) (0,.slice none 0 0) (by first | omega | (dsimp only<;>omega)) K5 K8 ?_
 rintro⟨i,vs⟩ hi
 dsimp only at hi
 simp only [CA,NA]
 have hci:=Na zs i
 have h1:=hpx i
 have h2:=hpy ((Zs zs).length-1-i)
 have h3:i*1000000≤30*1000000:=Nat.mul_le_mul_right _ (by omega)
 have h4:((Zs zs).length-1-i)*1000000≤30*1000000:=Nat.mul_le_mul_right _ (by omega)
 have h5:=Xs (x^i) (y^((Zs zs).length-1-i))
 have h6:=hs i
 have h7:=hsb i (by omega)
 refine Zc<|Zc<|Zg<|mv J<|mv J<|dt (Yb J J (i:=1) J Zx Nc)<|dt (Xu J J J)<|Zf<|Za<|Zq J (fun h158=>?_) (fun h158=>?_)
 ·refine Zj<|Za<|Zc<|Zl<|Ql (fun _=>False) [(0,0),(1,0),(2,0),(3,0),(4,0),(5,0),(6,0),(7,0),(9,0),(10,0),(11,0),(12,0),(13,0),(14,0),(15,0),(8,1),(16,1),(17,1),(18,1),(19,1),(20,3)] ?_ ?_
  ·kernel_rfl
  refine r0' J J (st0 (Zz (i:=97) J J J Lg Qe J J))<|r0' J J (st0 (Ym J J))<|r0' J J (st0 (Ym J J))<|r0' J J (st0 (Yw (ii:=1) J J J J Zx Nc Qe J (by first | omega | (simp only [List.length_set];omega))))<|r0' J J (st0 (Xm (ii:=1) I0 J J J Zx pI (by first | omega | (simp only [List.length_set];omega))))<|r0' J J (st0 (Xx J J uT50 J Qe J J))<|r0' J J (st0 (Zz (i:=4) J J J Lg Qe J J))<|r0' J J (st0 (Ym J J))<|r0' J J (st0 (Xx J J uT50 J Qe J J))<|r0' J J (st0 (Zz (i:=4) J J J Lg Qe J J))<|r0' J J (st0 (Ym J J))<|r0' J J (st0 (Yb J J (i:=1) J Zx Nc))<|r0' J J (st0 (Qa J J J ⟨by omega,by omega⟩))<|r0' J J (st0 (Ym J J))<|r0' J J (st0 (Qa J J J ⟨by omega,by omega⟩))<|r1' J (Zh (n:=6) (Zhl _ _ _ i hx J) J J J K2 call165 (Zb 2 J J J Ze) J hw) fun v _=>r1' J (Zh (n:=7) (Zhl _ _ _ ((Zs zs).length-1-i) hy) J J J K2 call165 (Zb 3 J J J Ze) J hw) fun v_2 _=>r1' J (Zh (n:=8) (Bo _ _ _ _ (by first | omega | (rw [hci];omega))) J J J K2 Zkt (Zb 6 J J J (Zb 7 J J J Ze)) J hw) fun v_3 _=>r1' J (Zh (n:=9) (Bo _ _ _ _ (by first | omega | (rw [hci];omega))) J J J K2 Zkt (Oh 1 J J (Yv) (Zb 8 J J J Ze)) J hw) (fun v_4 _=>?_)
  exact r1' J (Zh (n:=10) (Zpp _ _ _ _ (by omega) (by rw [hci];have:=htb i;omega)) J J J K2 call37 (Zb 98 J J J (Zb 9 J J J Ze)) J hw) fun v_5 _=>r3' J (Zm (i:=97) J J J J J (by decide) J Qe J J ⟨Zd J,Zt (i:=10) J Zi,trivial⟩ J hw trivial) fun _ _=>Og<|Oa<|Za<|Zg<|mv J<|dt (Ys J J J ⟨by omega,by omega⟩)<|as_ J<|Zf<|Qv (Oc 10 98 J J J)<|Xk (i+1,v_5) (by first | omega | (dsimp only<;>omega)) (by first | omega | (dsimp only<;>omega)) K5 ⟨by rw [hci,Xt];rfl,by rw [hci,Xt];rfl,rfl,rfl,rfl,rfl,rfl,rfl,trivial⟩
 ·refine Yu<|Zu<|Zu<|Ox<|Za<|Zc ?_
  obtain rfl:i=zs.length:=by omega
  exact Zg<|dt (Zz (i:=97) J J J Lg Qe J J)<|tt (Zm (i:=5) J J J J J (by decide) J Qe J J ⟨Zd J,Zt (i:=98) J Zi,trivial⟩ J hw trivial) fun _ _=>Zf<|Za<|Zv<|Yn (.inl J) hsc _ _ (fun a w hs=>Nn hs results121 (Yr (i:=5) J J Lg Qe J)) (by unfold pev;rw [hli]<;>rfl) trivial J (Yk 98 J J J (by unfold pev;rw [hli]<;>rfl) Zk)
theorem Zpk(v:Value)(zs:List (Int×SL))(hs:Sz 1000000 (Zs zs))(hl:zs.length≤1000):Cal prog 116 #[v] [pp v zs] true (G:=Value) (fun r=>True) (fun r=> .agg #[.bool (decide (Qc (Zs zs)<0)),r]) (fun r=>[d9p r (Qc (Zs zs)).natAbs]):=by
 refine Ya func116 J ntmps116 J K1 ?_
 intro w0 sc hw hsc
 simp only [Zp,Zn]
 have hli:=Zr zs
 have hcb:∀k,bl (Qc ((Zs zs).take k)).natAbs≤1000000:=fun k=>Zdg _ (hs.take k)
 refine Zc<|Zg<|tt (Zo (i:=2) J J zeroValue48 J J hw) fun b _=>Zf<|Za<|Zc<|Zg<|dt (Pz (ivs:=[]) J trivial (fun a w hs=>b48_))<|tt (Zo (i:=97) J J zeroValue48 J J hw) fun b_2 _=>tt (Zm (i:=97) J J J J J (by decide) J Qe J J ⟨Zd J,Zd J,trivial⟩ J hw trivial) fun _ _=>Zf<|Za<|Zc<|Zc<|Zg<|as_ J<|Zf<|Za<|Zl<|Yl (Nj 98 1 3 Ds)<|Yl (Qz 98 J J pN)<|Nt [(0,_),(2,_),(3,_)] [(0,_),(1,_),(2,_)] (fun(q:Nat×Value)=>[(4,.int .i64 (q.1:Int))]) (fun(q:Nat×Value)=>[(97,box b_2 48 #[.bool (decide (Qc ((Zs zs).take q.1)<0)),q.2]),(98,d9p q.2 (Qc ((Zs zs).take q.1)).natAbs)]) (fun(q:Nat×Value)=>q.1≤zs.length) (fun(q:Nat×Value)=>zs.length-q.1) (0,.slice none 0 0) (by first | omega | (dsimp only<;>omega)) K4 K5 ?_
 rintro⟨i,vs⟩ hi
 dsimp only at hi
 simp only [CA,NA]
 have hci:=Na zs i
 have hgc:=fun h=>Ms (p:=Zs zs) (k:=i) h
 have h1:=hcb i
 have h2:=hs i
 refine Zc<|Zc<|Zg<|mv J<|mv J<|dt (Yb J J (i:=1) J Zx Nc)<|dt (Xu J J J)<|Zf<|Za<|Zq J (fun h186=>?_) (fun h186=>?_)
 ·refine Zj<|Za<|Zc<|Zl<|Ql (fun _=>False) [(0,0),(1,0),(2,0),(3,0),(4,0),(5,1),(6,3)] ?_ ?_
  ·kernel_rfl
  exact r0' J J (st0 (Zz (i:=97) J J J Lg Qe J J))<|r0' J J (st0 (Ym J J))<|r0' J J (st0 (Ym J J))<|r0' J J (st0 (Yw (ii:=1) J J J J Zx Nc Qe J (by first | omega | (simp only [List.length_set];omega))))<|r0' J J (st0 (Xm (ii:=1) I0 J J J Zx pI (by first | omega | (simp only [List.length_set];omega))))<|r1' J (Zh (n:=3) (r_gcd _ _ _ _ (by rw [hci];omega)) J J J K2 call71 (Zb 98 J J J (Oh 1 J J (Yv) Ze)) J hw) fun v _=>r3' J (Zm (i:=97) J J J J J (by decide) J Qe J J ⟨Zd J,Zt (i:=3) J Zi,trivial⟩ J hw trivial) fun _ _=>Og<|Oa<|Za<|Zg<|mv J<|dt (Ys J J J ⟨by omega,by omega⟩)<|as_ J<|Zf<|Qv (Oc 3 98 J J J)<|Xk (i+1,v) (by first | omega | (dsimp only<;>omega)) (by first | omega | (dsimp only<;>omega)) K4 ⟨by rw [hgc (by omega),show(Zs zs).getD i 0=(zs.getD i I0).1 from hci.symm];rfl,by rw [hgc (by omega),show(Zs zs).getD i 0=(zs.getD i I0).1 from hci.symm];rfl,rfl,rfl,rfl,trivial⟩
 ·refine Yu<|Zu<|Zu<|Ox<|Za<|Zc ?_
  obtain rfl:i=zs.length:=by omega
  rw [List.take_of_length_le (by omega:(Zs zs).length≤zs.length)]
  exact Zg<|dt (Zz (i:=97) J J J Lg Qe J J)<|tt (Zm (i:=2) J J J J J (by decide) J Qe J J ⟨Zd J,Zt (i:=98) J Zi,trivial⟩ J hw trivial) fun _ _=>Zf<|Za<|Zv<|Yn (.inl J) hsc _ _ (fun a w hs=>Nn hs results116 (Yr (i:=2) J J Lg Qe J)) J trivial J (Xa 98 J J J Zk)
theorem Ks(v:Value)(zs:List (Int×SL))(hs:Sz 1000000 (Zs zs))(hc:zs.length≠0→Qc (Zs zs)≠0)(hl:zs.length≤1000:=by omega):Cal prog 57 #[v] [pp v zs] true (G:=Value×List (Int×SL)) (fun r=>Zs r.2=Yx (Zs zs)) (fun r=>r.1) (fun r=>[pp r.1 r.2]):=by
 refine Ya func57 J ntmps57 J K1 ?_
 intro w0 sc hw hsc
 simp only [Zp,Zn]
 have hli:=Zr zs
 have hcb:bl (Qc (Zs zs)).natAbs≤1000000:=Zdg _ hs
 refine Zc<|Zg<|as_ J<|Zf<|Za<|Zc<|Zg<|mv J<|tt (Zh (n:=2) (Zpk _ _ hs hl) J J J K1 call116 (Zb 1 J J J Ze) J hw) fun v _=>tt (Zo (i:=3) J J zeroValue48 J J hw) fun b _=>tt (Zm (i:=3) J J J J J (by decide) J Qe J J ⟨Zd J,Zt (i:=2) J Zi,trivial⟩ J hw trivial) fun _ _=>Zf<|Za<|Zc<|Zg<|as_ J<|Zf<|Za<|Zc<|Zc<|Zg<|as_ J<|Zf<|Za<|Zl<|Yl (Nj 70 2 48 Es)<|Yl (Nz qI 71)<|Nt [(0,_),(3,_)] [(0,_),(1,_),(2,_),(3,_)] (fun(q:Nat×Value×List (Int×SL))=>[(5,.int .i64 (q.1:Int)),(4,q.2.1)]) (fun(q:Nat×Value×List (Int×SL))=>[(70,osl 2 48 Es q.2.1 q.2.2),(71,Zb7 qI q.2.2)]) (fun(q:Nat×Value×List (Int×SL))=>(q.1≤zs.length)∧(Zs q.2.2=mk q.1 (fun t=>cf (Zs zs) t/Qc (Zs zs)))∧(q.2.2.length=q.1)) (fun(q:Nat×Value×List (Int×SL))=>zs.length-q.1) (0,.slice none 0 0,[]) ⟨by first | omega | (dsimp only<;>omega),rfl,rfl⟩ K4 K6 ?_
 rintro⟨i,vo,ws⟩ ⟨hi,hz,hzl⟩
 dsimp only at hi hz hzl
 simp only [CA,NA]
 have hci:=Na zs i
 refine Zc<|Zc<|Zg<|mv J<|mv J<|dt (Yb J J (i:=1) J Zx Nc)<|dt (Xu J J J)<|Zf<|Za<|Zq J (fun h196=>?_) (fun h196=>?_)
 ·refine Zj<|Za<|Zc<|Zl<|Dj [(0,_),(3,_),(4,_),(5,_)] [(0,_),(70,_),(71,_),(1,_),(2,_),(3,_)] (fun(q:Value×Nat)=>[(6,.pointer (some ⟨q.2,0,none⟩))]) (fun(q:Value×Nat)=>[(83,d9p q.1 ((zs.getD i I0).1/Qc (Zs zs)).natAbs),(97,box q.2 48 #[.bool (decide ((zs.getD i I0).1/Qc (Zs zs)<0)),q.1])]) (fun(q:Value×Nat)=>True) K4 K6 ?_ ?_
  ·refine Oo [1,3] [12]<|Zy (n:=8) [(0,0),(1,0),(2,0),(3,0),(4,0)]<|r0' J J (stf (Ym J J) K2)<|r0' J J (stf (Ym J J) K2)<|r0' J J (stf (Yw (ii:=1) J J J J Zx Nc Qe J (by first | omega | (simp only [List.length_set];omega))) K2)<|r0' J J (stf (Xm (ii:=1) I0 J J J Zx pI (by first | omega | (simp only [List.length_set];omega))) K2)<|r0' J J (stf (Zz (i:=3) J J J Lg Qe J J) K2)<|Yo<|Zbo (n:=7) 5 9 10 ?_ ?_ ?_
   ·refine Yp J (Zh (n:=83) (Fj _ _ _ _ (by rw [hci];have:=hs i;omega) (hc (by omega))) J J J K2 Zfs (Oh 1 J J (Yv) (Zb 2 J J J Ze)) J hw) fun g _=>Zy (n:=4) [(6,0),(7,0),(8,0)]<|r0' J J (stf (Ym J J) K2)<|r0' J J (stf (Yf J J J) K2)<|r0' J J (stf (Yf J J J) K2)<|Yo<|Pu (n:=3) 9 10 ?_ ?_
    ·exact Yp J (Zw (i:=97) J J zeroValue48 J J hw K2) fun b_2 ho=>Zy (n:=0) [(10,1),(11,1),(12,3)]<|r1' J (Zw (i:=99) J J zeroValue48 J J hw K2) fun b_3 ho2=>r1' J (Zm (i:=97) J J J J J (by decide) J Qe J J ⟨Zd J,Zt (i:=83) J Zi,trivial⟩ J hw ho) fun _ _=>r3' J (Zm (i:=99) J J J J J (by decide) J Qe J J ⟨Zd J,Zt (i:=84) J Zi,trivial⟩ J hw trivial) fun _ _=>Yo<|Yg<|Qy (_,_) trivial K5 K8
    ·exact Yp J (Zw (i:=99) J J zeroValue48 J J hw K2) fun b_4 ho3=>Zy (n:=0) [(9,1),(11,1),(12,3)]<|r1' J (Zw (i:=97) J J zeroValue48 J J hw K2) fun b_5 ho4=>r1' J (Zm (i:=97) J J J J J (by decide) J Qe J J ⟨Zd J,Zt (i:=83) J Zi,trivial⟩ J hw ho4) fun _ _=>r3' J (Zm (i:=99) J J J J J (by decide) J Qe J J ⟨Zd J,Zt (i:=84) J Zi,trivial⟩ J hw trivial) fun _ _=>Yo<|Yg<|Qy (_,_) trivial K5 K8
   ·refine Yp J (Zw (i:=97) J J zeroValue48 J J hw K2) fun b_6 ho5=>Pu (n:=6) 5 10 ?_ ?_
    ·exact Yp J (Zh (n:=83) (Fj _ _ _ _ (by rw [hci];have:=hs i;omega) (hc (by omega))) J J J K2 Zfs (Oh 1 J J (Yv) (Zb 2 J J J Ze)) J hw) fun g_2 _=>Zy (n:=0) [(6,0),(7,0),(8,0),(10,1),(11,1),(12,3)]<|r0' J J (stf (Ym J J) K2)<|r0' J J (stf (Yf J J J) K2)<|r0' J J (stf (Yf J J J) K2)<|r1' J (Zw (i:=99) J J zeroValue48 J J hw K2) fun b_7 ho6=>r1' J (Zm (i:=97) J J J J J (by decide) J Qe J J ⟨Zd J,Zt (i:=83) J Zi,trivial⟩ J hw ho5) fun _ _=>r3' J (Zm (i:=99) J J J J J (by decide) J Qe J J ⟨Zd J,Zt (i:=84) J Zi,trivial⟩ J hw trivial) fun _ _=>Yo<|Yg<|Qy (_,_) trivial K5 K8
    ·exact Yp J (Zw (i:=99) J J zeroValue48 J J hw K2) fun b_8 ho7=>Zy (n:=0) [(5,1),(6,0),(7,0),(8,0),(11,1),(12,3)]<|r1' J (Zh (n:=83) (Fj _ _ _ _ (by rw [hci];have:=hs i;omega) (hc (by omega))) J J J K2 Zfs (Oh 1 J J (Yv) (Zb 2 J J J Ze)) J hw) fun g_3 _=>r0' J J (stf (Ym J J) K2)<|r0' J J (stf (Yf J J J) K2)<|r0' J J (stf (Yf J J J) K2)<|r1' J (Zm (i:=97) J J J J J (by decide) J Qe J J ⟨Zd J,Zt (i:=83) J Zi,trivial⟩ J hw ho5) fun _ _=>r3' J (Zm (i:=99) J J J J J (by decide) J Qe J J ⟨Zd J,Zt (i:=84) J Zi,trivial⟩ J hw trivial) fun _ _=>Yo<|Yg<|Qy (_,_) trivial K5 K8
   ·refine Yp J (Zw (i:=99) J J zeroValue48 J J hw K2) fun b_9 ho8=>Pu (n:=6) 5 9 ?_ ?_
    ·exact Yp J (Zh (n:=83) (Fj _ _ _ _ (by rw [hci];have:=hs i;omega) (hc (by omega))) J J J K2 Zfs (Oh 1 J J (Yv) (Zb 2 J J J Ze)) J hw) fun g_4 _=>Zy (n:=0) [(6,0),(7,0),(8,0),(9,1),(11,1),(12,3)]<|r0' J J (stf (Ym J J) K2)<|r0' J J (stf (Yf J J J) K2)<|r0' J J (stf (Yf J J J) K2)<|r1' J (Zw (i:=97) J J zeroValue48 J J hw K2) fun b_10 ho9=>r1' J (Zm (i:=97) J J J J J (by decide) J Qe J J ⟨Zd J,Zt (i:=83) J Zi,trivial⟩ J hw ho9) fun _ _=>r3' J (Zm (i:=99) J J J J J (by decide) J Qe J J ⟨Zd J,Zt (i:=84) J Zi,trivial⟩ J hw trivial) fun _ _=>Yo<|Yg<|Qy (_,_) trivial K5 K8
    ·exact Yp J (Zw (i:=97) J J zeroValue48 J J hw K2) fun b_11 ho10=>Zy (n:=0) [(5,1),(6,0),(7,0),(8,0),(11,1),(12,3)]<|r1' J (Zh (n:=83) (Fj _ _ _ _ (by rw [hci];have:=hs i;omega) (hc (by omega))) J J J K2 Zfs (Oh 1 J J (Yv) (Zb 2 J J J Ze)) J hw) fun g_5 _=>r0' J J (stf (Ym J J) K2)<|r0' J J (stf (Yf J J J) K2)<|r0' J J (stf (Yf J J J) K2)<|r1' J (Zm (i:=97) J J J J J (by decide) J Qe J J ⟨Zd J,Zt (i:=83) J Zi,trivial⟩ J hw ho10) fun _ _=>r3' J (Zm (i:=99) J J J J J (by decide) J Qe J J ⟨Zd J,Zt (i:=84) J Zi,trivial⟩ J hw trivial) fun _ _=>Yo<|Yg<|Qy (_,_) trivial K5 K8
  ·rintro⟨qv,b6⟩ -
   simp only [CA,NA]
   refine e_ex (On 83 J Zi) (fun sl hsl=>?_)
   subst hsl
   exact Zg<|mv J<|dt (Zz (i:=97) J J J Lg Qe J J)<|tt (Pn (i:=4) (ivs:=[(0,_)]) (enc:=Es) [((zs.getD i I0).1/Qc (Zs zs),sl)] J J K2 Nc ti48 J J J J J pI.cells J J hw) fun v_2 _=>tt (Im (i:=70) (j:=4) (by_:=32) J J J J J J (by decide) J (Yq pI) Nc ti48 J pI J J J (by simp;omega) (by decide) J hw) fun v_3 _=>as_ J<|Zf<|Oa<|Za<|Zg<|mv J<|dt (Ys J J J ⟨by omega,by omega⟩)<|as_ J<|Zf<|Qv (Pj (q:=qI) (z:=((zs.getD i I0).1/Qc (Zs zs),sl)) 71 83 71 J J J J J)<|Xk (i+1,_,ws ++ [((zs.getD i I0).1/Qc (Zs zs),sl)]) ⟨by first | omega | (dsimp only<;>omega),by rw [Kh,An,hz];dsimp only;rw [Na],by simp [hzl]⟩ (by first | omega | (dsimp only<;>omega)) K4 K6
 ·exact Yu<|Zu<|Zu<|Ox<|Za<|Zc<|Yl (Qz 70 J J pI)<|Yl (Ma 70 71 72 J J J J)<|Zg<|mv J<|as_ J<|Zf<|Za<|Zv<|Yn (.inl J) hsc (_,ws) _ (fun a w hs=>Nn hs results57 J) J (by rw [hz,show i=(Zs zs).length by omega,Zn1 (Zs zs) (· / Qc (Zs zs))]<;>rfl) J (Xa 72 J J J Zk)
theorem rp_mul(v u:Value)(zs ys:List (Int×SL))(hs:Sz 1000000 (Zs zs))(ht:Sz 1000000 (Zs ys))(hk:ys.length≤60)(hl:zs.length≤60:=by omega):Cal prog 42 #[v,u] [pp v zs,pp u ys] true (G:=Value×List (Int×SL)) (fun r=>Zs r.2=Mb (Zs zs) (Zs ys)) (fun r=>r.1) (fun r=>[pp r.1 r.2]):=by
 refine Ya func42 J ntmps42 J K2 ?_
 intro w0 sc hw hsc
 simp only [Zp,Zn]
 have hli:=Zr zs
 have hli2:=Zr ys
 have htb:∀i k,bl (cf (Zs zs) k*cf (Zs ys) (i-k)).natAbs≤2000000:=fun i k=>by have:=Xs (cf (Zs zs) k) (cf (Zs ys) (i-k));have:=hs k;have:=ht (i-k);omega
 have hsb:∀i n,n≤1000→bl (Qn (fun k=>cf (Zs zs) k*cf (Zs ys) (i-k)) n).natAbs≤2000010:=fun i n hn=>Zmk (fun t _=>htb i t) (by omega)
 refine Zc<|Zg<|as_ J<|Zf<|Za<|Zc<|Zg<|as_ J<|Zf<|Za<|Zc<|Zc<|Zg<|as_ J<|Zf<|Za<|Zl<|Yl (Nj 70 2 48 Es)<|Yl (Nz qI 71)<|Nt [(0,_),(1,_)] [(0,_),(1,_),(2,_)] (fun(q:Nat×Value×List (Int×SL))=>[(6,.int .i64 (q.1:Int)),(5,q.2.1)]) (fun(q:Nat×Value×List (Int×SL))=>[(70,osl 2 48 Es q.2.1 q.2.2),(71,Zb7 qI q.2.2)]) (fun(q:Nat×Value×List (Int×SL))=>(q.1≤(zs.length+ys.length-1))∧(Zs q.2.2=mk q.1 (fun t=>Qn (fun a9=>cf (Zs zs) a9*cf (Zs ys) (t-a9)) (t+1)))∧(q.2.2.length=q.1)) (fun(q:Nat×Value×List (Int×SL))=>(zs.length+ys.length-1)-q.1) (0,.slice none 0 0,[]) ⟨by first | omega | (dsimp only<;>omega),rfl,rfl⟩ K4 K5 ?_
 rintro⟨i,vo,ws⟩ ⟨hi,hz,hzl⟩
 dsimp only at hi hz hzl
 simp only [CA,NA]
 refine Zc<|Zc<|Zg<|mv J<|mv J<|dt (Yb J J (i:=1) J Zx Nc)<|mv J<|dt (Yb J J (i:=2) J Zx Nc)<|dt (Ys J J J ⟨by omega,by omega⟩)<|dt (Qa J J J ⟨by omega,by omega⟩)<|dt (Xu J J J)<|Zf<|Za<|Zq J (fun h124=>?_) (fun h124=>?_)
 ·refine Zj<|Za<|Zc<|Zl<|Zc<|Zg<|dt (Pz (ivs:=[]) J trivial (fun a w hs=>b48_))<|tt (Zo (i:=97) J J zeroValue48 J J hw) fun b _=>tt (Zm (i:=97) J J J J J (by decide) J Qe J J ⟨Zd J,Zd J,trivial⟩ J hw trivial) fun _ _=>Zf<|Za<|Zc<|Zc<|Zg<|as_ J<|Zf<|Za<|Zl<|Yl (Nj 98 1 3 Ds)<|Yl (Qz 98 J J pN)<|Nt [(0,_),(1,_),(5,_),(6,_),(7,_)] [(0,_),(70,_),(71,_),(1,_),(2,_)] (fun(q:Nat×Value)=>[(8,.int .i64 (q.1:Int))]) (fun(q:Nat×Value)=>[(97,box b 48 #[.bool (decide (Qn (fun a9=>cf (Zs zs) a9*cf (Zs ys) (i-a9)) q.1<0)),q.2]),(98,d9p q.2 (Qn (fun a9=>cf (Zs zs) a9*cf (Zs ys) (i-a9)) q.1).natAbs)]) (fun(q:Nat×Value)=>q.1≤i+1) (fun(q:Nat×Value)=>i+1-q.1) (0,.slice none 0 0) (by first | omega | (dsimp only<;>omega)) K6 K7 ?_
  rintro⟨k,vs⟩ hk1
  dsimp only at hk1
  simp only [CA,NA]
  have h1:=hsb i k
  have h2:=htb i k
  have h3:=hs k
  have h4:=ht (i-k)
  refine Zc<|Zc<|Zg<|mv J<|mv J<|dt (Co J J J)<|Zf<|Za<|Zq J (fun h126=>?_) (fun h126=>?_)
  ·refine Zj<|Za<|Zc<|Zl<|Ql (fun _=>False) [(0,0),(1,0),(2,0),(4,0),(5,0),(6,0),(7,0),(3,1),(8,1),(9,1),(10,1),(11,3)] ?_ ?_
   ·kernel_rfl
   exact r0' J J (st0 (Zz (i:=97) J J J Lg Qe J J))<|r0' J J (st0 (Ym J J))<|r0' J J (st0 (Ym J J))<|r0' J J (st0 (Ym J J))<|r0' J J (st0 (Ym J J))<|r0' J J (st0 (Ym J J))<|r0' J J (st0 (Qa J J J ⟨by omega,by omega⟩))<|r1' J (Zh (n:=3) (Zhm _ _ _ k J) J J J K2 call101 (Zb 1 J J J Ze) J hw) fun v _=>r1' J (Zh (n:=4) (Zhm _ _ _ (i-k)) J J J K2 call101 (Zb 2 J J J Ze) J hw) fun v_2 _=>r1' J (Zh (n:=5) (Bo _ _ _ _) J J J K2 Zkt (Zb 3 J J J (Zb 4 J J J Ze)) J hw) fun v_3 _=>r1' J (Zh (n:=6) (Zpp _ _ _ _) J J J K2 call37 (Zb 98 J J J (Zb 5 J J J Ze)) J hw) fun v_4 _=>r3' J (Zm (i:=97) J J J J J (by decide) J Qe J J ⟨Zd J,Zt (i:=6) J Zi,trivial⟩ J hw trivial) fun _ _=>Og<|Oa<|Za<|Zg<|mv J<|dt (Ys J J J ⟨by omega,by omega⟩)<|as_ J<|Zf<|Qv (Oc 6 98 J J J)<|Xk (k+1,v_4) (by first | omega | (dsimp only<;>omega)) (by first | omega | (dsimp only<;>omega)) K6 ⟨by rw [Xt];rfl,by rw [Xt];rfl,rfl,rfl,rfl,rfl,rfl,trivial⟩
  ·refine Yu<|Zu<|Zu<|Ox<|Za ?_
   obtain rfl:k=i+1:=by omega
   refine e_ex (On 98 J Zi) (fun sl hsl=>?_)
   subst hsl
   exact Zg<|mv J<|dt (Zz (i:=97) J J J Lg Qe J J)<|tt (Pn (i:=7) (ivs:=[(0,_)]) (enc:=Es) [(Qn (fun a9=>cf (Zs zs) a9*cf (Zs ys) (i-a9)) (i+1),sl)] J J K2 Nc ti48 J J J J J pI.cells J J hw) fun v_5 _=>tt (Im (i:=70) (j:=7) (by_:=32) J J J J J J (by decide) J (Yq pI) Nc ti48 J pI J J J (by simp;omega) (by decide) J hw) fun v_6 _=>as_ J<|Zf<|Oa<|Za<|Zg<|mv J<|dt (Ys J J J ⟨by omega,by omega⟩)<|as_ J<|Zf<|Qv (Pj (q:=qI) (z:=(Qn (fun a9=>cf (Zs zs) a9*cf (Zs ys) (i-a9)) (i+1),sl)) 71 98 71 J J J J J)<|Xk (i+1,_,ws ++ [(Qn (fun a9=>cf (Zs zs) a9*cf (Zs ys) (i-a9)) (i+1),sl)]) ⟨by first | omega | (dsimp only<;>omega),by rw [Kh,An,hz],by simp [hzl]⟩ (by first | omega | (dsimp only<;>omega)) K4 K5
 ·refine Yu<|Zu<|Zu<|Ox<|Za<|Zc<|Zc<|Zg<|mv J<|dt (Yb J J (i:=1) J Zx Nc)<|dt (Pm J J J)<|mv J<|Qu (d:=43) J (fun s131=>?_) (fun s131=>?_)
  ·refine gsk J J J<|gsk J J J<|gsk J J J<|dt (Xh J J J)<|Zf<|Za<|Ov J<|Zc<|Zg<|as_ J<|Zf<|Za<|Zv<|Xc<|Qv (Fz 62) ?_
   have hp0:Mb (Zs zs) (Zs ys)=[]:=Bc (by first | (left;omega) | (right;omega))
   exact Yn (.inl J) hsc (.slice none 0 0,[]) _ (fun a w hs=>Nn hs results42 J) J (by rw [hp0]<;>rfl) J (Xa 62 J J J Zk)
  ·refine gdt (Ym J J) J J<|gdt (Yb J J (i:=2) J Zx Nc) J J<|gdt (Pm J J J) J J<|dt (Yh J J J)<|Zf<|Za<|Zq J (fun h131=>?_) (fun h131=>?_)
   ·refine Zc<|Zg<|as_ J<|Zf<|Za<|Zv<|Xc<|Qv (Fz 62) ?_
    have hp0:Mb (Zs zs) (Zs ys)=[]:=Bc (by first | (left;omega) | (right;omega))
    exact Yn (.inl J) hsc (.slice none 0 0,[]) _ (fun a w hs=>Nn hs results42 J) J (by rw [hp0]<;>rfl) J (Xa 62 J J J Zk)
   ·exact Zj<|Za<|Zc<|Yl (Qz 70 J J pI)<|Yl (Ma 70 71 72 J J J J)<|Zg<|mv J<|tt (Zh (n:=8) (Ah _ _ (by rw [hz];exact Zay fun t h=>by have:=hsb t (t+1) (by omega);omega)) J J J K1 call89 (Zb 72 J J J Ze) J hw) fun g hg=>as_ J<|Zf<|Za<|Zv<|Yn (.inl J) hsc _ _ (fun a w hs=>Nn hs results42 J) J (by rw [hg,hz,show i=(Zs zs).length+(Zs ys).length-1 by omega,pmul_mk]) J (Xa 8 J J J Zk)
theorem r_same(v u:Value)(r t:List (Bool×ByteArray)):Ml prog 17 #[v,u] [slp 2 Zie v r,slp 2 Zie u t] (.bool (decide (r=t))):=by
 refine Ya func17 J ntmps17 J K2 ?_
 intro w0 sc hw hsc
 simp only [Zp,Zn]
 refine Mc (Gj (i:=1) J Zi) fun hlr=>Mc (Gj (i:=2) J Zi) fun hlt=>Zc<|Zg<|as_ J<|Zf<|Za<|Zc<|Zc<|Zg<|mv J<|dt (Yb J J (i:=1) J Zi Qp)<|mv J<|dt (Yb J J (i:=2) J Zi Qp)<|dt (Qb J J J)<|Zf<|Za<|Zq J (fun h78=>?_) (fun h78=>?_)
 ·exact Zc<|Zg<|as_ J<|Zf<|Za<|Zv<|Xc<|xU hsc results17 J J (by rw [decide_eq_false (fun e=>by subst e;exact h78 rfl)])
 ·have hle:r.length=t.length:=by omega
  refine Zj<|Za<|Zc<|Zc<|Zg<|as_ J<|Zf<|Za<|Zl<|Nt [(0,_),(1,_)] [(0,_),(1,_),(2,_)] (fun(k:Nat)=>[(5,.int .i64 (k:Int))]) (fun(k:Nat)=>[]) (fun(k:Nat)=>(k≤r.length)∧(r.take k=t.take k)) (fun(k:Nat)=>r.length-k) 0 ⟨by first | omega | (dsimp only<;>omega),by simp⟩ K3 K3 ?_
  rintro k ⟨hk,ht⟩
  simp only [CA,NA]
  refine Zc<|Zc<|Zg<|mv J<|mv J<|dt (Yb J J (i:=1) J Zi Qp)<|dt (Xu J J J)<|Zf<|Za<|Zq J (fun h81=>?_) (fun h81=>?_)
  ·refine Zj<|Za<|Zc<|Zl<|Zc<|Ql (fun _=>False) [(0,0),(1,0),(2,0),(3,0),(4,0),(5,0),(6,0),(7,0),(8,0)] ?_ ?_
   ·kernel_rfl
   refine r0' J J (st0 (Ym J J))<|r0' J J (st0 (Ym J J))<|r0' J J (st0 (Yw (ii:=1) J J J J Zi Qp Yj J (by first | omega | (simp only [List.length_set];omega))))<|r0' J J (st0 (Xm (ii:=1) (false,⟨#[]⟩) J J J Zi pW (by first | omega | (simp only [List.length_set];omega))))<|r0' J J (st0 (Ym J J))<|r0' J J (st0 (Ym J J))<|r0' J J (st0 (Yw (ii:=2) J J J J Zi Qp Yj J (by first | omega | (simp only [List.length_set];omega))))<|r0' J J (st0 (Xm (ii:=2) (false,⟨#[]⟩) J J J Zi pW (by first | omega | (simp only [List.length_set];omega))))<|r0' J J (st0 (Zii J J J eg31 (fun w=>Zxa w _ _ _ _)))<|Og<|Za<|Lm J (fun h82=>?_) (fun h82=>?_)
   ·exact Zc<|Zg<|as_ J<|Zf<|Za<|Zv<|Hf<|Xc<|Xc<|Hf<|Xc<|xU hsc results17 J J (by rw [decide_eq_false (fun e=>by rw [e]at h82;simp [Hz]at h82)])
   ·exact Zj<|Oa<|Za<|Zg<|mv J<|dt (Ys J J J ⟨by omega,by omega⟩)<|as_ J<|Zf<|Xk (k+1) ⟨by first | omega | (dsimp only<;>omega),by rw [Of (false,⟨#[]⟩) _ _ (by omega),Of (false,⟨#[]⟩) _ _ (by omega),ht,Zxu (x:=r.getD k (false,⟨#[]⟩)) (y:=t.getD k (false,⟨#[]⟩)) (by simpa using h82)]⟩ (by first | omega | (dsimp only<;>omega)) K3 K3
  ·exact Yu<|Zu<|Zu<|Ox<|Za<|Zc<|Zg<|as_ J<|Zf<|Za<|Zv<|xU hsc results17 J J (by rw [decide_eq_true (by rw [show k=r.length by omega,List.take_length,hle,List.take_length]at ht;exact ht)])
theorem Zen(v u:Value)(xs ys:List Int):Ml prog 17 #[v,u] [slp 2 wv v xs,slp 2 wv u ys] (.bool (decide (xs=ys))):=by
 have h:=((r_same v u (xs.map wr) (ys.map wr)).imp (Zq1 v xs) (fun _ h=>h)).imp2 (Zq1 u ys) (fun _ h=>h)
 rw [decide_eq_decide.2 (Zpx xs ys)]at h;exact h
theorem Znd(v:Value)(r:List (Bool×ByteArray)):Ml prog 13 #[v] [slp 2 Zie v r] (.bool (okP r)):=by
 refine Ya func13 J ntmps13 J K1 ?_
 intro w0 sc hw hsc
 simp only [Zp,Zn]
 refine Mc (Gj (i:=1) J Zi) fun hlen=>Zc<|Zg<|as_ J<|Zf<|Za<|Zc<|Zc<|Zg<|as_ J<|Zf<|Za<|Zl<|Nt [(0,_)] [(0,_),(1,_)] (fun(k:Nat)=>[(3,.int .i64 (k:Int))]) (fun(k:Nat)=>[]) (fun(k:Nat)=>(k≤r.length)∧((r.take k).all (fun w=>okW w.1 w.2)=true)) (fun(k:Nat)=>r.length-k) 0 ⟨by first | omega | (dsimp only<;>omega),by simp⟩ K2 K2 ?_
 rintro k ⟨hk,ha⟩
 simp only [CA,NA]
 refine Zc<|Zc<|Zg<|mv J<|mv J<|dt (Yb J J (i:=1) J Zi Qp)<|dt (Xu J J J)<|Zf<|Za<|Zq J (fun h30=>?_) (fun h30=>?_)
 ·refine Zj<|Za<|Zc<|Zl<|Zc<|Zg<|mv J<|mv J<|dt (Yw (ii:=1) J J J J Zi Qp Yj J (by first | omega | (simp only [List.length_set];omega)))<|dt (Xm (ii:=1) (false,⟨#[]⟩) J J J Zi pW (by first | omega | (simp only [List.length_set];omega)))<|tt (Zh (n:=1) (Zro _ _) J J J K1 call35 Ze J hw) fun _ _=>dt (Xp J J)<|Zf<|Za<|Lm J (fun h31=>?_) (fun h31=>?_)
  ·exact Zc<|Zg<|as_ J<|Zf<|Za<|Zv<|Hf<|Xc<|Xc<|Hf<|Xc<|xU hsc results13 J J (by rw [Zsc (Yv (i:=k) (d:=(false,⟨#[]⟩))) (by simpa using h31)])
  ·exact Zj<|Oa<|Za<|Zg<|mv J<|dt (Ys J J J ⟨by omega,by omega⟩)<|as_ J<|Zf<|Xk (k+1) ⟨by first | omega | (dsimp only<;>omega),by rw [Of (false,⟨#[]⟩) _ _ (by omega),List.all_append,ha];simpa using h31⟩ (by first | omega | (dsimp only<;>omega)) K2 K2
 ·refine Yu<|Zu<|Zu<|Ox<|Za<|Zc ?_
  obtain rfl:k=r.length:=by omega
  rw [List.take_length]at ha
  refine Zg<|mv J<|dt (Yb J J (i:=1) J Zi Qp)<|dt (Co J J J)<|mv J<|Qu (d:=19) J (fun s35=>?_) (fun s35=>?_)
  ·refine gdt (Ym J J) J J<|gdt (Yb J J (i:=1) J Zi Qp) J J<|gdt (Pm J J J) J J<|gdt (Ym J J) J J<|Qu (d:=23) J (fun s35_2=>?_) (fun s35_2=>?_)
   ·exact gsk J J J<|gsk J J J<|gsk J J J<|gsk J J J<|gsk J J J<|gsk J J J<|gsk J J J<|gsk J J J<|gsk J J J<|gdt (Xh J J J) J J<|dt (Xh J J J)<|as_ J<|Zf<|Za<|Zv<|xU hsc results13 J J (by rw [Zh0 ha];first | (rw [decide_eq_false (show ¬r.length≤25 by omega)];rfl) | (rw [decide_eq_true (show r.length≤25 by omega),decide_eq_true (show r.length=0 by omega)];rfl) | (rw [decide_eq_true (show r.length≤25 by omega),decide_eq_false (show ¬r.length=0 by omega)];rfl))
   ·exact gdt (Ym J J) J J<|gdt (Ym J J) J J<|gdt (Yb J J (i:=1) J Zi Qp) J J<|gdt (Qa J J J ⟨by omega,by omega⟩) J J<|gdt (Yw (ii:=1) (i:=(r.length-1)) J J J J Zi Qp Yj) J J<|gdt (d_fae (ii:=1) J J J Zi (by omega) Zcw J zT9 J) J J<|gdt (d_ldf (ii:=1) (false,⟨#[]⟩) J J J Zi (by omega) iA9 J) J J<|gdt (Cp J J uT9) J J<|gdt (Oq J J J) J J<|gdt (Yh J J J) J J<|dt (Xh J J J)<|as_ J<|Zf<|Za<|Zv<|xU hsc results13 J J (by rw [Zh0 ha];first | (rw [decide_eq_false (show ¬r.length≤25 by omega)];rfl) | (rw [decide_eq_true (show r.length≤25 by omega),decide_eq_true (show r.length=0 by omega)];rfl) | (rw [decide_eq_true (show r.length≤25 by omega),decide_eq_false (show ¬r.length=0 by omega)];rfl))
  ·exact gsk J J J<|gsk J J J<|gsk J J J<|gsk J J J<|Zj2 J J<|Zj2 J J<|Zj2 J J<|Zj2 J J<|Zj2 J J<|Zj2 J J<|Zj2 J J<|Zj2 J J<|Zj2 J J<|gsk J J J<|dt (Yh J J J)<|as_ J<|Zf<|Za<|Zv<|xU hsc results13 J J (by rw [Zh0 ha];first | (rw [decide_eq_false (show ¬r.length≤25 by omega)];rfl) | (rw [decide_eq_true (show r.length≤25 by omega),decide_eq_true (show r.length=0 by omega)];rfl) | (rw [decide_eq_true (show r.length≤25 by omega),decide_eq_false (show ¬r.length=0 by omega)];rfl))
set_option maxHeartbeats 4000000 in
theorem rp_rest(v u:Value)(zs ys:List (Int×SL))(hl:zs.length≤30)(hk:ys.length≤30)(hy0:0<ys.length)(ht:Tr (Zs ys))(hF:ys.length≤zs.length→msz (Zs zs)+(zs.length-ys.length+1)*(msz (Zs ys)+1)≤900000):Cal prog 160 #[v,u] [pp v zs,pp u ys] true (G:=Value×List (Int×SL)) (fun r=>Zs r.2=Pk (Zs zs) (Zs ys)) (fun r=>r.1) (fun r=>[pp r.1 r.2]):=by
 refine Ya func160 J ntmps160 J K2 ?_
 intro w0 sc hw hsc
 simp only [Zp,Zn]
 have hli:=Zr zs
 have hli2:=Zr ys
 have hlead:(cf (Zs ys) ((Zs ys).length-1))≠0:=ht.mem (fun e=>by rw [←hli2,e]at hy0;simp at hy0)
 refine Mc (Gj (i:=1) J Zx) fun hlen=>Mc (Gj (i:=2) J Zx) fun hlen2=>Zc<|Zg<|as_ J<|Zf<|Za<|Zc<|Zc<|Zg<|mv J<|dt (Yb J J (i:=1) J Zx Nc)<|mv J<|dt (Yb J J (i:=2) J Zx Nc)<|dt (Xu J J J)<|Zf<|Za<|Zq J (fun h205=>?_) (fun h205=>?_)
 ·exact Zc<|Zg<|mv J<|as_ J<|Zf<|Za<|Zv<|Xc<|Yn (.inl J) hsc (_,zs) _ (fun a w hs=>Nn hs results160 J) J (by unfold Pk;rw [if_pos (by omega)]) J (Xa 1 J J J Zk)
 ·have hF2:=hF (by omega)
  have hF3:msz (Zs zs)+((Zs zs).length-(Zs ys).length+1)*(msz (Zs ys)+1)≤900000:=by rw [hli,hli2];exact hF2
  have hN:1≤zs.length-ys.length+1:=by omega
  have hB:=Nat.mul_le_mul_right (msz (Zs ys)+1) hN
  rw [Nat.one_mul]at hB
  have hcl:=Na ys (ys.length-1)
  have hci2:(ys.getD (ys.length-1) I0).1=(cf (Zs ys) ((Zs ys).length-1)):=by rw [hcl,hli2]
  have hsy:=Od (Zs ys)
  have hlq:=hsy ((Zs ys).length-1)
  have hpw:=Ad hlq (zs.length-ys.length+1)
  have hpw2:(zs.length-ys.length+1)*msz (Zs ys)≤(zs.length-ys.length+1)*(msz (Zs ys)+1):=Nat.mul_le_mul_left _ (by omega)
  refine Zj<|Za<|Zc<|Zg<|mv J<|mv J<|dt (Yb J J (i:=2) J Zx Nc)<|dt (Qa J J J ⟨by omega,by omega⟩)<|dt (Yw (ii:=2) (i:=(ys.length-1)) J J J J Zx Nc Qe)<|dt (Xm (ii:=2) I0 J J J Zx pI)<|tt (Zo (i:=96) J J zeroValue48 J J hw) fun b _=>tt (Zm (i:=96) J J J J J (by decide) J Qe J J ⟨Zd J,Zd J,trivial⟩ J hw trivial) fun _ _=>Zf<|Za<|Zc<|Zg<|mv J<|dt (Zz (i:=96) J J J Lg Qe J J)<|mv J<|dt (Yb J J (i:=1) J Zx Nc)<|mv J<|dt (Yb J J (i:=2) J Zx Nc)<|dt (Qa J J J ⟨by omega,by omega⟩)<|dt (Ys J J J ⟨by omega,by omega⟩)<|tt (Zh (n:=3) (Zhl _ _ _ (zs.length-ys.length+1) (by rw [hci2];omega)) J J J K2 call165 (Oh 2 J J (Yv (i:=ys.length-1)) Ze) J hw) fun v _=>tt (Zh (n:=80) (Zao _ _ _ _ ((Od _).mono (by omega)) (by rw [hci2];omega)) J J J K2 call56 (Zb 1 J J J (Zb 3 J J J Ze)) J hw) fun g hg=>as_ J<|Zf<|Za<|Zc<|Zl ?_
  refine Nt [(1,_),(5,_)] [(0,_),(1,_),(2,_),(96,_),(3,_)] (fun(q:Nat×List (Int×SL)×Value)=>[(6,q.2.2)]) (fun(q:Nat×List (Int×SL)×Value)=>[(80,pp q.2.2 q.2.1)]) (fun(q:Nat×List (Int×SL)×Value)=>(q.1≤zs.length-ys.length+1)∧(Fr (Zs zs) (Zs ys) (Zs q.2.1) q.1)) (fun(q:Nat×List (Int×SL)×Value)=>zs.length-ys.length+1-q.1) (0,_,_) ⟨Nat.zero_le _,by dsimp only;rw [hg,hci2,←hli,←hli2];exact Zjk⟩ K3 K6 ?_
  rintro⟨j,ws,vr⟩ ⟨hj,hI⟩
  dsimp only at hj hI
  simp only [CA,NA]
  have hlw:=Zr ws
  have hwl:=Zla hI
  refine Zc<|Zc<|Zg<|mv J<|dt (Yb J J (i:=80) J Zx Nc)<|mv J<|dt (Yb J J (i:=2) J Zx Nc)<|dt (Lx J J J)<|Zf<|Za<|Zq J (fun h210=>?_) (fun h210=>?_)
  ·have hR0:(Zs ys).length≤(Zs ws).length:=by omega
   obtain⟨g1,g2,g3,hI2⟩:=Zpm (by omega) (by omega) hlead (by omega) hI hR0
   have hst:=Zjl hlead hI2 (by omega) hR0 g3
   have hqe:=Zel hlead hI2 (by omega) hR0 g3
   have hsR:=Zpn (by omega) hI
   have hsw:Sz 1000000 (Zs ws):=hsR.mono (by omega)
   have hcw:=Na ws (ws.length-1)
   have hcqb:bl (cf (Zs ws) ((Zs ws).length-1)/(cf (Zs ys) ((Zs ys).length-1))).natAbs≤900001:=by have:=Zuy hqe (Fv (Zs zs) (Zs ys) _ _) hlq;have h7:=restq_b (p:=Zs zs) (q:=Zs ys) (R:=Zs ws) (by omega) (by omega) g3;omega
   have hcqa:(ws.getD (ws.length-1) I0).1/(ys.getD (ys.length-1) I0).1=(cf (Zs ws) ((Zs ws).length-1)/(cf (Zs ys) ((Zs ys).length-1))):=by rw [hci2,hcw,hlw]
   refine Zj<|Za<|Zl<|Dj [(1,_),(5,_),(6,_)] [(0,_),(80,_),(1,_),(2,_),(96,_),(3,_)] (fun(q:Value×Nat)=>[(7,.pointer (some ⟨q.2,0,none⟩))]) (fun(q:Value×Nat)=>[(83,d9p q.1 (cf (Zs ws) ((Zs ws).length-1)/(cf (Zs ys) ((Zs ys).length-1))).natAbs),(97,box q.2 48 #[.bool (decide ((cf (Zs ws) ((Zs ws).length-1)/(cf (Zs ys) ((Zs ys).length-1)))<0)),q.1])]) (fun(q:Value×Nat)=>True) K3 K6 ?_ ?_
   ·refine Oo [80,96] [14]<|Zy (n:=8) [(0,0),(1,0),(2,0),(3,0),(4,0),(5,0),(6,0)]<|r0' J J (stf (Ym J J) K2)<|r0' J J (stf (Ym J J) K2)<|r0' J J (stf (Yb J J (i:=80) J Zx Nc) K2)<|r0' J J (stf (Qa J J J ⟨by omega,by omega⟩) K2)<|r0' J J (stf (Yw (ii:=80) (i:=(ws.length-1)) J J J J Zx Nc Qe) K2)<|r0' J J (stf (Xm (ii:=80) I0 J J J Zx pI) K2)<|r0' J J (stf (Zz (i:=96) J J J Lg Qe J J) K2)<|Yo<|Zbo (n:=7) 7 11 12 ?_ ?_ ?_
    ·refine Yp J (Zh (n:=83) (Fj _ _ _ _ (by rw [hcw];have:=hsw (ws.length-1);omega) (by rw [hci2];exact hlead) (by rw [hci2];omega)) J J J K2 Zfs (Oh 80 J J (Yv (zs:=ws) (i:=ws.length-1) (d:=I0)) (Oh 2 J J (Yv (zs:=ys) (i:=ys.length-1) (d:=I0)) Ze)) J hw) fun g_2 _=>Zy (n:=4) [(8,0),(9,0),(10,0)]<|r0' J J (stf (Ym J J) K2)<|r0' J J (stf (Yf J J J) K2)<|r0' J J (stf (Yf J J J) K2)<|Yo<|Pu (n:=3) 11 12 ?_ ?_
     ·exact Yp J (Zw (i:=97) J J zeroValue48 J J hw K2) fun b_2 ho=>Zy (n:=0) [(12,1),(13,1),(14,3)]<|r1' J (Zw (i:=99) J J zeroValue48 J J hw K2) fun b_3 ho2=>r1' J (Zm (i:=97) J J J J J (by decide) J Qe J J ⟨Zd J,Zt (i:=83) J Zi,trivial⟩ J hw ho) fun _ _=>r3' J (Zm (i:=99) J J J J J (by decide) J Qe J J ⟨Zd J,Zt (i:=84) J Zi,trivial⟩ J hw trivial) fun _ _=>Yo<|Yg<|Qy (_,_) trivial K4 ⟨by rw [←hcqa];rfl,by rw [←hcqa];rfl,rfl,rfl,rfl,rfl,rfl,rfl,trivial⟩
     ·exact Yp J (Zw (i:=99) J J zeroValue48 J J hw K2) fun b_4 ho3=>Zy (n:=0) [(11,1),(13,1),(14,3)]<|r1' J (Zw (i:=97) J J zeroValue48 J J hw K2) fun b_5 ho4=>r1' J (Zm (i:=97) J J J J J (by decide) J Qe J J ⟨Zd J,Zt (i:=83) J Zi,trivial⟩ J hw ho4) fun _ _=>r3' J (Zm (i:=99) J J J J J (by decide) J Qe J J ⟨Zd J,Zt (i:=84) J Zi,trivial⟩ J hw trivial) fun _ _=>Yo<|Yg<|Qy (_,_) trivial K4 ⟨by rw [←hcqa];rfl,by rw [←hcqa];rfl,rfl,rfl,rfl,rfl,rfl,rfl,trivial⟩
    ·refine Yp J (Zw (i:=97) J J zeroValue48 J J hw K2) fun b_6 ho5=>Pu (n:=6) 7 12 ?_ ?_
     ·exact Yp J (Zh (n:=83) (Fj _ _ _ _ (by rw [hcw];have:=hsw (ws.length-1);omega) (by rw [hci2];exact hlead) (by rw [hci2];omega)) J J J K2 Zfs (Oh 80 J J (Yv (zs:=ws) (i:=ws.length-1) (d:=I0)) (Oh 2 J J (Yv (zs:=ys) (i:=ys.length-1) (d:=I0)) Ze)) J hw) fun g_3 _=>Zy (n:=0) [(8,0),(9,0),(10,0),(12,1),(13,1),(14,3)]<|r0' J J (stf (Ym J J) K2)<|r0' J J (stf (Yf J J J) K2)<|r0' J J (stf (Yf J J J) K2)<|r1' J (Zw (i:=99) J J zeroValue48 J J hw K2) fun b_7 ho6=>r1' J (Zm (i:=97) J J J J J (by decide) J Qe J J ⟨Zd J,Zt (i:=83) J Zi,trivial⟩ J hw ho5) fun _ _=>r3' J (Zm (i:=99) J J J J J (by decide) J Qe J J ⟨Zd J,Zt (i:=84) J Zi,trivial⟩ J hw trivial) fun _ _=>Yo<|Yg<|Qy (_,_) trivial K4 ⟨by rw [←hcqa];rfl,by rw [←hcqa];rfl,rfl,rfl,rfl,rfl,rfl,rfl,trivial⟩
     ·exact Yp J (Zw (i:=99) J J zeroValue48 J J hw K2) fun b_8 ho7=>Zy (n:=0) [(7,1),(8,0),(9,0),(10,0),(13,1),(14,3)]<|r1' J (Zh (n:=83) (Fj _ _ _ _ (by rw [hcw];have:=hsw (ws.length-1);omega) (by rw [hci2];exact hlead) (by rw [hci2];omega)) J J J K2 Zfs (Oh 80 J J (Yv (zs:=ws) (i:=ws.length-1) (d:=I0)) (Oh 2 J J (Yv (zs:=ys) (i:=ys.length-1) (d:=I0)) Ze)) J hw) fun g_4 _=>r0' J J (stf (Ym J J) K2)<|r0' J J (stf (Yf J J J) K2)<|r0' J J (stf (Yf J J J) K2)<|r1' J (Zm (i:=97) J J J J J (by decide) J Qe J J ⟨Zd J,Zt (i:=83) J Zi,trivial⟩ J hw ho5) fun _ _=>r3' J (Zm (i:=99) J J J J J (by decide) J Qe J J ⟨Zd J,Zt (i:=84) J Zi,trivial⟩ J hw trivial) fun _ _=>Yo<|Yg<|Qy (_,_) trivial K4 ⟨by rw [←hcqa];rfl,by rw [←hcqa];rfl,rfl,rfl,rfl,rfl,rfl,rfl,trivial⟩
    ·refine Yp J (Zw (i:=99) J J zeroValue48 J J hw K2) fun b_9 ho8=>Pu (n:=6) 7 11 ?_ ?_
     ·exact Yp J (Zh (n:=83) (Fj _ _ _ _ (by rw [hcw];have:=hsw (ws.length-1);omega) (by rw [hci2];exact hlead) (by rw [hci2];omega)) J J J K2 Zfs (Oh 80 J J (Yv (zs:=ws) (i:=ws.length-1) (d:=I0)) (Oh 2 J J (Yv (zs:=ys) (i:=ys.length-1) (d:=I0)) Ze)) J hw) fun g_5 _=>Zy (n:=0) [(8,0),(9,0),(10,0),(11,1),(13,1),(14,3)]<|r0' J J (stf (Ym J J) K2)<|r0' J J (stf (Yf J J J) K2)<|r0' J J (stf (Yf J J J) K2)<|r1' J (Zw (i:=97) J J zeroValue48 J J hw K2) fun b_10 ho9=>r1' J (Zm (i:=97) J J J J J (by decide) J Qe J J ⟨Zd J,Zt (i:=83) J Zi,trivial⟩ J hw ho9) fun _ _=>r3' J (Zm (i:=99) J J J J J (by decide) J Qe J J ⟨Zd J,Zt (i:=84) J Zi,trivial⟩ J hw trivial) fun _ _=>Yo<|Yg<|Qy (_,_) trivial K4 ⟨by rw [←hcqa];rfl,by rw [←hcqa];rfl,rfl,rfl,rfl,rfl,rfl,rfl,trivial⟩
     ·exact Yp J (Zw (i:=97) J J zeroValue48 J J hw K2) fun b_11 ho10=>Zy (n:=0) [(7,1),(8,0),(9,0),(10,0),(13,1),(14,3)]<|r1' J (Zh (n:=83) (Fj _ _ _ _ (by rw [hcw];have:=hsw (ws.length-1);omega) (by rw [hci2];exact hlead) (by rw [hci2];omega)) J J J K2 Zfs (Oh 80 J J (Yv (zs:=ws) (i:=ws.length-1) (d:=I0)) (Oh 2 J J (Yv (zs:=ys) (i:=ys.length-1) (d:=I0)) Ze)) J hw) fun g_6 _=>r0' J J (stf (Ym J J) K2)<|r0' J J (stf (Yf J J J) K2)<|r0' J J (stf (Yf J J J) K2)<|r1' J (Zm (i:=97) J J J J J (by decide) J Qe J J ⟨Zd J,Zt (i:=83) J Zi,trivial⟩ J hw ho10) fun _ _=>r3' J (Zm (i:=99) J J J J J (by decide) J Qe J J ⟨Zd J,Zt (i:=84) J Zi,trivial⟩ J hw trivial) fun _ _=>Yo<|Yg<|Qy (_,_) trivial K4 ⟨by rw [←hcqa];rfl,by rw [←hcqa];rfl,rfl,rfl,rfl,rfl,rfl,rfl,trivial⟩
   ·rintro⟨qv,b7⟩ -
    simp only [CA,NA]
    refine Zc<|Zg<|mv J<|dt (Yb J J (i:=80) J Zx Nc)<|mv J<|dt (Yb J J (i:=2) J Zx Nc)<|dt (Qa J J J ⟨by omega,by omega⟩)<|tt (Hr (i:=70) (n:=(ws.length-ys.length)) (by_:=32) (enc:=Es) I0 J J J J Nc ti48 J pI.cells pI.pos J J J hw) fun v_2 _=>as_ J<|Zf<|Za<|Zc<|Zc<|Zg<|as_ J<|Zf<|Za<|Zl<|Yl (Fy 71 (ws.length-ys.length))<|Nt [(1,_),(5,_),(6,_),(7,_)] [(0,_),(83,_),(97,_),(80,_),(1,_),(2,_),(96,_),(3,_)] (fun(q:Nat×Value×List (Int×SL))=>[(10,.int .i64 (q.1:Int)),(9,q.2.1)]) (fun(q:Nat×Value×List (Int×SL))=>[(70,osl 2 48 Es q.2.1 q.2.2),(71,Zb7 qI q.2.2)]) (fun(q:Nat×Value×List (Int×SL))=>(q.1≤ys.length)∧(Zs q.2.2=shm (Zs ys) (cf (Zs ws) ((Zs ws).length-1)/(cf (Zs ys) ((Zs ys).length-1))) ((Zs ws).length-(Zs ys).length) q.1)∧(q.2.2.length=((Zs ws).length-(Zs ys).length)+q.1)) (fun(q:Nat×Value×List (Int×SL))=>ys.length-q.1) (0,_,List.replicate (ws.length-ys.length) I0) ⟨by first | omega | (dsimp only<;>omega),by rw [←Zc6,←hlw,←hli2];simp [Zs],by simp<;>omega⟩ K6 K10 ?_
    rintro⟨i,vo,ms⟩ ⟨hi,hms,hml⟩
    dsimp only at hi hms hml
    simp only [CA,NA]
    have hci:=Na ys i
    refine Zc<|Zc<|Zg<|mv J<|mv J<|dt (Yb J J (i:=2) J Zx Nc)<|dt (Xu J J J)<|Zf<|Za<|Zq J (fun h214=>?_) (fun h214=>?_)
    ·refine Zj<|Za<|Zc<|Zl<|Oo [2,97] [9]<|Zy (n:=3) [(0,0),(1,0),(2,0),(3,0),(4,0),(5,0),(6,1)]<|r0' J J (stf (Ym J J) K2)<|r0' J J (stf (Zz (i:=97) J J J Lg Qe J J) K2)<|r0' J J (stf (Ym J J) K2)<|r0' J J (stf (Ym J J) K2)<|r0' J J (stf (Yw (ii:=2) J J J J Zx Nc Qe J (by first | omega | (simp only [List.length_set];omega))) K2)<|r0' J J (stf (Xm (ii:=2) I0 J J J Zx pI (by first | omega | (simp only [List.length_set];omega))) K2)<|r1' J (Zh (n:=86) (Bo _ _ _ _ (by omega) (by rw [hci];have:=hsy i;omega)) J J J K2 Zkt (Zb 83 J J J (Oh 2 J J (Yv (i:=i)) Ze)) J hw) fun v_3 _=>Yo<|Zks (On 86 J Zi) (fun sl hsl=>?_)
     subst hsl
     exact Zy (n:=0) [(7,1),(8,1),(9,3)]<|r1' J (Pn (i:=87) (ivs:=[(0,_)]) (enc:=Es) [((cf (Zs ws) ((Zs ws).length-1)/(cf (Zs ys) ((Zs ys).length-1)))*(ys.getD i I0).1,sl)] J J K2 Nc ti48 J J J J J pI.cells J J hw) fun v_4 _=>r1' J (Du 70 J J J K2 (fun hoffr=>(Gg (xs:=ms) (ys:=[_]) (i:=70) (j:=87) (by_:=32) J J J J J J (by decide) J (Yq pI) Nc ti48 J pI J J J (by simp;omega) (by decide) J hw hoffr))) fun v_5 _=>r3' J (Px (Lq J J) J) fun _ _=>Yo<|Yg<|Oa<|Za<|Zg<|mv J<|dt (Ys J J J ⟨by omega,by omega⟩)<|as_ J<|Zf<|Qv (Pj (q:=qI) (z:=((cf (Zs ws) ((Zs ws).length-1)/(cf (Zs ys) ((Zs ys).length-1)))*(ys.getD i I0).1,sl)) 71 86 71 J J J J J)<|Xk (i+1,_,ms ++ [((cf (Zs ws) ((Zs ws).length-1)/(cf (Zs ys) ((Zs ys).length-1)))*(ys.getD i I0).1,sl)]) ⟨by first | omega | (dsimp only<;>omega),by rw [Kh,hms,←Zc7];dsimp only;rw [hci],by simp;omega⟩ (by first | omega | (dsimp only<;>omega)) K6 K10
    ·exact Yu<|Zu<|Zu<|Ox<|Za<|Yl (Qz 70 J J pI)<|Yl (Ma 70 71 72 J J J J)<|Zg<|mv J<|mv J<|tt (Zh (n:=4) (Zje _ _ _ _ hsw (by rw [hms];exact Zm5 (fun t=>by have h8:=Xs (cf (Zs ws) ((Zs ws).length-1)/(cf (Zs ys) ((Zs ys).length-1))) (cf (Zs ys) t);have h9:=hsy t;have h10:=Zwe (p:=Zs zs) (q:=Zs ys) (R:=Zs ws) hqe (Fv (Zs zs) (Zs ys) _ _) hsy (by omega) (by omega) g3 t;omega))) J J J K2 call88 (Zb 80 J J J (Zb 72 J J J Ze)) J hw) fun g_7 hg_2=>as_ J<|Zf<|Oa<|Qv (Oc 4 80 J J J)<|Xk ((Zs zs).length-(Zs ws).length+1,_,_) ⟨by dsimp only;omega,by dsimp only;rw [hg_2,hms,show i=(Zs ys).length by omega];exact hst⟩ (by dsimp only;omega) K3 K6
  ·exact Yu<|Zu<|Zu<|Ox<|Za<|Zc<|Zg<|mv J<|as_ J<|Zf<|Za<|Zv<|Yn (.inl J) hsc (_,ws) _ (fun a w hs=>Nn hs results160 J) J (Zlb (R:=Zs ws) (by omega) (by omega) hlead (by omega) hI (by have:=Zr ws;omega)) J (Xa 80 J J J Zk)
set_option maxHeartbeats 4000000 in
theorem Zap(v u:Value)(zs ys:List (Int×SL))(htz:Tr (Zs zs))(ht:Tr (Zs ys))(hF:ys.length≤zs.length→msz (Zs zs)+(zs.length-ys.length+1)*(msz (Zs ys)+1)≤900000)(hl:zs.length≤30:=by omega)(hk:ys.length≤30:=by omega)(hy0:0<ys.length:=by omega):Cal prog 55 #[v,u] [pp v zs,pp u ys] true (G:=Value×List (Int×SL)) (fun r=>pdv (Zs zs) (Zs ys)→Zs r.2=Kn (Zs zs) (Zs ys)) (fun r=> .tuple #[r.1,.bool (decide (pdv (Zs zs) (Zs ys)))]) (fun r=>[pp r.1 r.2]):=by
 refine Ya func55 J ntmps55 J K2 ?_
 intro w0 sc hw hsc
 simp only [Zp,Zn]
 have hli:=Zr zs
 have hli2:=Zr ys
 have hlead:(cf (Zs ys) ((Zs ys).length-1))≠0:=ht.mem (fun e=>by rw [←hli2,e]at hy0;simp at hy0)
 refine Mc (Gj (i:=1) J Zx) fun hlen=>Mc (Gj (i:=2) J Zx) fun hlen2=>Zc<|Zg<|as_ J<|as_ J<|Zf<|Za<|Zc<|Zc<|Zg<|mv J<|dt (Yb J J (i:=1) J Zx Nc)<|dt (Pm J J J)<|Zf<|Za<|Zq J (fun h224=>?_) (fun h224=>?_)
 ·refine Zc<|Zg<|as_ J<|as_ J<|Zf<|Za<|Zv<|Xc<|Qv (Fz 62) ?_
  have hzn:Zs zs=[]:=List.eq_nil_of_length_eq_zero (by omega)
  exact Yn (.inl J) hsc (.slice none 0 0,[]) _ (fun a w hs=>Np hs results55 J J) (by rw [pdv_nil hzn]) (fun _=>by unfold Kn;rw [if_pos hzn];rfl) J (Xa 62 J J J Zk)
 ·have hnz:Zs zs≠[]:=fun e=>by have h7:=congrArg List.length e;simp only [List.length_nil]at h7;omega
  refine Zj<|Za<|Zc<|Zc<|Zg<|mv J<|dt (Yb J J (i:=1) J Zx Nc)<|mv J<|dt (Yb J J (i:=2) J Zx Nc)<|dt (Xu J J J)<|Zf<|Za<|Zq J (fun h227=>?_) (fun h227=>?_)
  ·refine Zc<|Zg<|as_ J<|as_ J<|Zf<|Za<|Zv<|Xc<|Qv (Fz 62) ?_
   have hno:=pdv_low (p:=Zs zs) (q:=Zs ys) (fun e=>by have h7:=congrArg List.length e;simp only [List.length_nil]at h7;omega) (by omega)
   exact Yn (.inl J) hsc (.slice none 0 0,[]) _ (fun a w hs=>Np hs results55 J J) (by rw [hno]) (fun h=>absurd h (of_decide_eq_false hno)) J (Xa 62 J J J Zk)
  ·have hF2:=hF (by omega)
   have hF3:msz (Zs zs)+((Zs zs).length-(Zs ys).length+1)*(msz (Zs ys)+1)≤900000:=by rw [hli,hli2];exact hF2
   have hcl:=Na ys (ys.length-1)
   have hci2:(ys.getD (ys.length-1) I0).1=(cf (Zs ys) ((Zs ys).length-1)):=by rw [hcl,hli2]
   have hsy:=Od (Zs ys)
   have hlq:=hsy ((Zs ys).length-1)
   have hmy:msz (Zs ys)≤900000:=by have h7:=Nat.mul_le_mul_right (msz (Zs ys)+1) (show 1≤(Zs zs).length-(Zs ys).length+1 by omega);omega
   refine Zj<|Za<|Zc<|Zg<|mv J<|dt (Yb J J (i:=1) J Zx Nc)<|mv J<|dt (Yb J J (i:=2) J Zx Nc)<|dt (Qa J J J ⟨by omega,by omega⟩)<|dt (Ys J J J ⟨by omega,by omega⟩)<|tt (Hr (i:=60) (n:=(zs.length-ys.length+1)) (by_:=32) (enc:=Es) I0 J J J J Nc ti48 J pI.cells pI.pos J J J hw) fun v _=>as_ J<|Zf<|Za<|Zc<|Zg<|mv J<|as_ J<|Zf<|Za<|Zc<|Zc<|Zg<|mv J<|dt (Yb J J (i:=60) J (Yq pI) Nc)<|dt (Qa J J J ⟨by simp only [List.length_replicate];omega,by simp only [List.length_replicate];omega⟩)<|as_ J<|Zf<|Za<|Zl<|Yl (Fy 61 (zs.length-ys.length+1))<|Yl (Oc 1 80 J J J) ?_
   refine Nt [(1,_),(6,_)] [(0,_),(1,_),(2,_)] (fun(q:Nat×List (Int×SL)×List (Int×SL)×Value)=>[(7,q.2.2.2),(8,.int .i64 ((zs.length:Int)-(ys.length:Int)-(q.1:Int)))]) (fun(q:Nat×List (Int×SL)×List (Int×SL)×Value)=>[(60,osl 2 48 Es v q.2.1),(61,Zb7 qI q.2.1),(80,pp q.2.2.2 q.2.2.1)]) (fun(q:Nat×List (Int×SL)×List (Int×SL)×Value)=>(q.1≤(Zs zs).length-(Zs ys).length+1)∧(∀k,((Zs zs).length-(Zs ys).length)<k+q.1→k≤((Zs zs).length-(Zs ys).length)→Mv (Zs zs) (Zs ys) k)∧(Zs q.2.1=Zkb (Zs zs) (Zs ys) q.1)∧(Zs q.2.2.1=tzl (Qi (Zs zs) (Zs ys) q.1))) (fun(q:Nat×List (Int×SL)×List (Int×SL)×Value)=>(Zs zs).length-(Zs ys).length+1-q.1) (0,List.replicate (zs.length-ys.length+1) I0,zs,_) ⟨Nat.zero_le _,fun k h1 h2=>by omega,by rw [←Zka,hli,hli2];simp [Zs],(Zae htz).symm⟩ ⟨J,by simp only [List.length_replicate];exact congrArg some (Dr (by omega)),rfl,rfl,trivial⟩ K6 ?_
   rintro⟨j,os,ws,vr⟩ ⟨hj,hx,hos,hws⟩
   dsimp only at hj hx hos hws
   simp only [CA,NA]
   have hlw:=Zr ws
   have hlo:=Zr os
   have hlo2:=congrArg List.length hos
   rw [Df]at hlo2
   have hwl:ws.length≤zs.length:=by rw [←hlw,hws];exact Nat.le_trans (Hu _) (by rw [Ig];omega)
   refine Zc<|Zc<|Zg<|mv J<|dt (Lx J J J)<|Zf<|Za<|Zq J (fun h232=>?_) (fun h232=>?_)
   ·have hj2:j≤(Zs zs).length-(Zs ys).length:=by omega
    have hcw:cf (Zs ws) (((Zs zs).length-(Zs ys).length-j)+(Zs ys).length-1)=(cf (Qi (Zs zs) (Zs ys) j) (((Zs zs).length-(Zs ys).length-j)+(Zs ys).length-1)):=by rw [hws,Lr]
    have hb1:=div_sz2 hj2 hx hF3
    have hb2:=hb1 (((Zs zs).length-(Zs ys).length-j)+(Zs ys).length-1)
    refine Zj<|Za<|Zc<|Zl<|Dj [(1,_),(6,_),(7,_),(8,_)] [(0,_),(60,_),(61,_),(80,_),(1,_),(2,_)] (fun(q:Value×Value×Nat×Nat)=>[(9,.pointer (some ⟨q.2.2.1,0,none⟩)),(10,.pointer (some ⟨q.2.2.2,0,none⟩))]) (fun(q:Value×Value×Nat×Nat)=>[(83,d9p q.1 ((cf (Qi (Zs zs) (Zs ys) j) (((Zs zs).length-(Zs ys).length-j)+(Zs ys).length-1))/(cf (Zs ys) ((Zs ys).length-1))).natAbs),(84,d9p q.2.1 ((cf (Qi (Zs zs) (Zs ys) j) (((Zs zs).length-(Zs ys).length-j)+(Zs ys).length-1))%(cf (Zs ys) ((Zs ys).length-1))).natAbs),(97,box q.2.2.1 48 #[.bool (decide (((cf (Qi (Zs zs) (Zs ys) j) (((Zs zs).length-(Zs ys).length-j)+(Zs ys).length-1))/(cf (Zs ys) ((Zs ys).length-1)))<0)),q.1]),(98,box q.2.2.2 48 #[.bool (decide (((cf (Qi (Zs zs) (Zs ys) j) (((Zs zs).length-(Zs ys).length-j)+(Zs ys).length-1))%(cf (Zs ys) ((Zs ys).length-1)))<0)),q.2.1])]) (fun(q:Value×Value×Nat×Nat)=>True) K4 K6 ?_ ?_
    ·refine Oo [2] [20]<|Zy (n:=9) [(0,0),(1,0),(2,0),(3,0),(4,0),(5,0),(7,0),(8,0),(9,0),(10,0),(11,0),(12,0)]<|r0' J J (stf (Ym J J) K1)<|r0' J J (stf (Ym J J) K1)<|r0' J J (stf (Ym J J) K1)<|r0' J J (stf (Yb J J (i:=2) J Zx Nc) K1)<|r0' J J (stf (Ys J J J ⟨by omega,by omega⟩) K1)<|r0' J J (stf (Qa J J J ⟨by omega,by omega⟩) K1)<|r0' J J (stf (Ym J J) K1)<|r0' J J (stf (Ym J J) K1)<|r0' J J (stf (Yb J J (i:=2) J Zx Nc) K1)<|r0' J J (stf (Qa J J J ⟨by omega,by omega⟩) K1)<|r0' J J (stf (Yw (ii:=2) (i:=(ys.length-1)) J J J J Zx Nc Qe) K1)<|r0' J J (stf (Xm (ii:=2) I0 J J J Zx pI) K1)<|Yo<|Zbo (n:=8) 6 17 18 ?_ ?_ ?_
     ·refine Yp J (Zh (n:=3) (Zhm _ _ _ (((Zs zs).length-(Zs ys).length-j)+(Zs ys).length-1)) J J J K2 call101 (Zb 80 J J J Ze) J hw) fun v_2 _=>Zbo (n:=7) 13 17 18 ?_ ?_ ?_
      ·refine Yp J (Zh (n:=83) (Fj _ _ _ _ (by rw [hcw];omega) (by rw [hci2];exact hlead) (by rw [hci2];omega)) J J J K2 Zfs (Zb 3 J J J (Oh 2 J J (Yv (zs:=ys) (i:=ys.length-1) (d:=I0)) Ze)) J hw) fun g _=>Zy (n:=4) [(14,0),(15,0),(16,0)]<|r0' J J (stf (Ym J J) K1)<|r0' J J (stf (Yf J J J) K1)<|r0' J J (stf (Yf J J J) K1)<|Yo<|Pu (n:=3) 17 18 ?_ ?_
       ·exact Yp J (Zw (i:=97) J J zeroValue48 J J hw K1) fun b ho=>Zy (n:=0) [(18,1),(19,1),(20,3)]<|r1' J (Zw (i:=98) J J zeroValue48 J J hw K1) fun b_2 ho2=>r1' J (Zm (i:=97) J J J J J (by decide) J Qe J J ⟨Zd J,Zt (i:=83) J Zi,trivial⟩ J hw ho) fun _ _=>r3' J (Zm (i:=98) J J J J J (by decide) J Qe J J ⟨Zd J,Zt (i:=84) J Zi,trivial⟩ J hw trivial) fun _ _=>Yo<|Yg<|Qy (_,_,_,_) trivial K6 ⟨by rw [←hcw,←hci2];rfl,by rw [←hcw,←hci2];rfl,by rw [←hcw,←hci2];rfl,by rw [←hcw,←hci2];rfl,rfl,rfl,rfl,rfl,rfl,rfl,trivial⟩
       ·exact Yp J (Zw (i:=98) J J zeroValue48 J J hw K1) fun b_3 ho3=>Zy (n:=0) [(17,1),(19,1),(20,3)]<|r1' J (Zw (i:=97) J J zeroValue48 J J hw K1) fun b_4 ho4=>r1' J (Zm (i:=97) J J J J J (by decide) J Qe J J ⟨Zd J,Zt (i:=83) J Zi,trivial⟩ J hw ho4) fun _ _=>r3' J (Zm (i:=98) J J J J J (by decide) J Qe J J ⟨Zd J,Zt (i:=84) J Zi,trivial⟩ J hw trivial) fun _ _=>Yo<|Yg<|Qy (_,_,_,_) trivial K6 ⟨by rw [←hcw,←hci2];rfl,by rw [←hcw,←hci2];rfl,by rw [←hcw,←hci2];rfl,by rw [←hcw,←hci2];rfl,rfl,rfl,rfl,rfl,rfl,rfl,trivial⟩
      ·refine Yp J (Zw (i:=97) J J zeroValue48 J J hw K1) fun b_5 ho5=>Pu (n:=6) 13 18 ?_ ?_
       ·exact Yp J (Zh (n:=83) (Fj _ _ _ _ (by rw [hcw];omega) (by rw [hci2];exact hlead) (by rw [hci2];omega)) J J J K2 Zfs (Zb 3 J J J (Oh 2 J J (Yv (zs:=ys) (i:=ys.length-1) (d:=I0)) Ze)) J hw) fun g_2 _=>Zy (n:=0) [(14,0),(15,0),(16,0),(18,1),(19,1),(20,3)]<|r0' J J (stf (Ym J J) K1)<|r0' J J (stf (Yf J J J) K1)<|r0' J J (stf (Yf J J J) K1)<|r1' J (Zw (i:=98) J J zeroValue48 J J hw K1) fun b_6 ho6=>r1' J (Zm (i:=97) J J J J J (by decide) J Qe J J ⟨Zd J,Zt (i:=83) J Zi,trivial⟩ J hw ho5) fun _ _=>r3' J (Zm (i:=98) J J J J J (by decide) J Qe J J ⟨Zd J,Zt (i:=84) J Zi,trivial⟩ J hw trivial) fun _ _=>Yo<|Yg<|Qy (_,_,_,_) trivial K6 ⟨by rw [←hcw,←hci2];rfl,by rw [←hcw,←hci2];rfl,by rw [←hcw,←hci2];rfl,by rw [←hcw,←hci2];rfl,rfl,rfl,rfl,rfl,rfl,rfl,trivial⟩
       ·exact Yp J (Zw (i:=98) J J zeroValue48 J J hw K1) fun b_7 ho7=>Zy (n:=0) [(13,1),(14,0),(15,0),(16,0),(19,1),(20,3)]<|r1' J (Zh (n:=83) (Fj _ _ _ _ (by rw [hcw];omega) (by rw [hci2];exact hlead) (by rw [hci2];omega)) J J J K2 Zfs (Zb 3 J J J (Oh 2 J J (Yv (zs:=ys) (i:=ys.length-1) (d:=I0)) Ze)) J hw) fun g_3 _=>r0' J J (stf (Ym J J) K1)<|r0' J J (stf (Yf J J J) K1)<|r0' J J (stf (Yf J J J) K1)<|r1' J (Zm (i:=97) J J J J J (by decide) J Qe J J ⟨Zd J,Zt (i:=83) J Zi,trivial⟩ J hw ho5) fun _ _=>r3' J (Zm (i:=98) J J J J J (by decide) J Qe J J ⟨Zd J,Zt (i:=84) J Zi,trivial⟩ J hw trivial) fun _ _=>Yo<|Yg<|Qy (_,_,_,_) trivial K6 ⟨by rw [←hcw,←hci2];rfl,by rw [←hcw,←hci2];rfl,by rw [←hcw,←hci2];rfl,by rw [←hcw,←hci2];rfl,rfl,rfl,rfl,rfl,rfl,rfl,trivial⟩
      ·refine Yp J (Zw (i:=98) J J zeroValue48 J J hw K1) fun b_8 ho8=>Pu (n:=6) 13 17 ?_ ?_
       ·exact Yp J (Zh (n:=83) (Fj _ _ _ _ (by rw [hcw];omega) (by rw [hci2];exact hlead) (by rw [hci2];omega)) J J J K2 Zfs (Zb 3 J J J (Oh 2 J J (Yv (zs:=ys) (i:=ys.length-1) (d:=I0)) Ze)) J hw) fun g_4 _=>Zy (n:=0) [(14,0),(15,0),(16,0),(17,1),(19,1),(20,3)]<|r0' J J (stf (Ym J J) K1)<|r0' J J (stf (Yf J J J) K1)<|r0' J J (stf (Yf J J J) K1)<|r1' J (Zw (i:=97) J J zeroValue48 J J hw K1) fun b_9 ho9=>r1' J (Zm (i:=97) J J J J J (by decide) J Qe J J ⟨Zd J,Zt (i:=83) J Zi,trivial⟩ J hw ho9) fun _ _=>r3' J (Zm (i:=98) J J J J J (by decide) J Qe J J ⟨Zd J,Zt (i:=84) J Zi,trivial⟩ J hw trivial) fun _ _=>Yo<|Yg<|Qy (_,_,_,_) trivial K6 ⟨by rw [←hcw,←hci2];rfl,by rw [←hcw,←hci2];rfl,by rw [←hcw,←hci2];rfl,by rw [←hcw,←hci2];rfl,rfl,rfl,rfl,rfl,rfl,rfl,trivial⟩
       ·exact Yp J (Zw (i:=97) J J zeroValue48 J J hw K1) fun b_10 ho10=>Zy (n:=0) [(13,1),(14,0),(15,0),(16,0),(19,1),(20,3)]<|r1' J (Zh (n:=83) (Fj _ _ _ _ (by rw [hcw];omega) (by rw [hci2];exact hlead) (by rw [hci2];omega)) J J J K2 Zfs (Zb 3 J J J (Oh 2 J J (Yv (zs:=ys) (i:=ys.length-1) (d:=I0)) Ze)) J hw) fun g_5 _=>r0' J J (stf (Ym J J) K1)<|r0' J J (stf (Yf J J J) K1)<|r0' J J (stf (Yf J J J) K1)<|r1' J (Zm (i:=97) J J J J J (by decide) J Qe J J ⟨Zd J,Zt (i:=83) J Zi,trivial⟩ J hw ho10) fun _ _=>r3' J (Zm (i:=98) J J J J J (by decide) J Qe J J ⟨Zd J,Zt (i:=84) J Zi,trivial⟩ J hw trivial) fun _ _=>Yo<|Yg<|Qy (_,_,_,_) trivial K6 ⟨by rw [←hcw,←hci2];rfl,by rw [←hcw,←hci2];rfl,by rw [←hcw,←hci2];rfl,by rw [←hcw,←hci2];rfl,rfl,rfl,rfl,rfl,rfl,rfl,trivial⟩
     ·refine Yp J (Zw (i:=97) J J zeroValue48 J J hw K1) fun b_11 ho11=>Pu (n:=7) 6 18 ?_ ?_
      ·refine Yp J (Zh (n:=4) (Zhm _ _ _ (((Zs zs).length-(Zs ys).length-j)+(Zs ys).length-1)) J J J K2 call101 (Zb 80 J J J Ze) J hw) fun v_3 _=>Pu (n:=6) 13 18 ?_ ?_
       ·exact Yp J (Zh (n:=83) (Fj _ _ _ _ (by rw [hcw];omega) (by rw [hci2];exact hlead) (by rw [hci2];omega)) J J J K2 Zfs (Zb 4 J J J (Oh 2 J J (Yv (zs:=ys) (i:=ys.length-1) (d:=I0)) Ze)) J hw) fun g_6 _=>Zy (n:=0) [(14,0),(15,0),(16,0),(18,1),(19,1),(20,3)]<|r0' J J (stf (Ym J J) K1)<|r0' J J (stf (Yf J J J) K1)<|r0' J J (stf (Yf J J J) K1)<|r1' J (Zw (i:=98) J J zeroValue48 J J hw K1) fun b_12 ho12=>r1' J (Zm (i:=97) J J J J J (by decide) J Qe J J ⟨Zd J,Zt (i:=83) J Zi,trivial⟩ J hw ho11) fun _ _=>r3' J (Zm (i:=98) J J J J J (by decide) J Qe J J ⟨Zd J,Zt (i:=84) J Zi,trivial⟩ J hw trivial) fun _ _=>Yo<|Yg<|Qy (_,_,_,_) trivial K6 ⟨by rw [←hcw,←hci2];rfl,by rw [←hcw,←hci2];rfl,by rw [←hcw,←hci2];rfl,by rw [←hcw,←hci2];rfl,rfl,rfl,rfl,rfl,rfl,rfl,trivial⟩
       ·exact Yp J (Zw (i:=98) J J zeroValue48 J J hw K1) fun b_13 ho13=>Zy (n:=0) [(13,1),(14,0),(15,0),(16,0),(19,1),(20,3)]<|r1' J (Zh (n:=83) (Fj _ _ _ _ (by rw [hcw];omega) (by rw [hci2];exact hlead) (by rw [hci2];omega)) J J J K2 Zfs (Zb 4 J J J (Oh 2 J J (Yv (zs:=ys) (i:=ys.length-1) (d:=I0)) Ze)) J hw) fun g_7 _=>r0' J J (stf (Ym J J) K1)<|r0' J J (stf (Yf J J J) K1)<|r0' J J (stf (Yf J J J) K1)<|r1' J (Zm (i:=97) J J J J J (by decide) J Qe J J ⟨Zd J,Zt (i:=83) J Zi,trivial⟩ J hw ho11) fun _ _=>r3' J (Zm (i:=98) J J J J J (by decide) J Qe J J ⟨Zd J,Zt (i:=84) J Zi,trivial⟩ J hw trivial) fun _ _=>Yo<|Yg<|Qy (_,_,_,_) trivial K6 ⟨by rw [←hcw,←hci2];rfl,by rw [←hcw,←hci2];rfl,by rw [←hcw,←hci2];rfl,by rw [←hcw,←hci2];rfl,rfl,rfl,rfl,rfl,rfl,rfl,trivial⟩
      ·exact Yp J (Zw (i:=98) J J zeroValue48 J J hw K1) fun b_14 ho14=>Zy (n:=0) [(6,1),(13,1),(14,0),(15,0),(16,0),(19,1),(20,3)]<|r1' J (Zh (n:=5) (Zhm _ _ _ (((Zs zs).length-(Zs ys).length-j)+(Zs ys).length-1)) J J J K2 call101 (Zb 80 J J J Ze) J hw) fun v_4 _=>r1' J (Zh (n:=83) (Fj _ _ _ _ (by rw [hcw];omega) (by rw [hci2];exact hlead) (by rw [hci2];omega)) J J J K2 Zfs (Zb 5 J J J (Oh 2 J J (Yv (zs:=ys) (i:=ys.length-1) (d:=I0)) Ze)) J hw) fun g_8 _=>r0' J J (stf (Ym J J) K1)<|r0' J J (stf (Yf J J J) K1)<|r0' J J (stf (Yf J J J) K1)<|r1' J (Zm (i:=97) J J J J J (by decide) J Qe J J ⟨Zd J,Zt (i:=83) J Zi,trivial⟩ J hw ho11) fun _ _=>r3' J (Zm (i:=98) J J J J J (by decide) J Qe J J ⟨Zd J,Zt (i:=84) J Zi,trivial⟩ J hw trivial) fun _ _=>Yo<|Yg<|Qy (_,_,_,_) trivial K6 ⟨by rw [←hcw,←hci2];rfl,by rw [←hcw,←hci2];rfl,by rw [←hcw,←hci2];rfl,by rw [←hcw,←hci2];rfl,rfl,rfl,rfl,rfl,rfl,rfl,trivial⟩
     ·refine Yp J (Zw (i:=98) J J zeroValue48 J J hw K1) fun b_15 ho15=>Pu (n:=7) 6 17 ?_ ?_
      ·refine Yp J (Zh (n:=6) (Zhm _ _ _ (((Zs zs).length-(Zs ys).length-j)+(Zs ys).length-1)) J J J K2 call101 (Zb 80 J J J Ze) J hw) fun v_5 _=>Pu (n:=6) 13 17 ?_ ?_
       ·exact Yp J (Zh (n:=83) (Fj _ _ _ _ (by rw [hcw];omega) (by rw [hci2];exact hlead) (by rw [hci2];omega)) J J J K2 Zfs (Zb 6 J J J (Oh 2 J J (Yv (zs:=ys) (i:=ys.length-1) (d:=I0)) Ze)) J hw) fun g_9 _=>Zy (n:=0) [(14,0),(15,0),(16,0),(17,1),(19,1),(20,3)]<|r0' J J (stf (Ym J J) K1)<|r0' J J (stf (Yf J J J) K1)<|r0' J J (stf (Yf J J J) K1)<|r1' J (Zw (i:=97) J J zeroValue48 J J hw K1) fun b_16 ho16=>r1' J (Zm (i:=97) J J J J J (by decide) J Qe J J ⟨Zd J,Zt (i:=83) J Zi,trivial⟩ J hw ho16) fun _ _=>r3' J (Zm (i:=98) J J J J J (by decide) J Qe J J ⟨Zd J,Zt (i:=84) J Zi,trivial⟩ J hw trivial) fun _ _=>Yo<|Yg<|Qy (_,_,_,_) trivial K6 ⟨by rw [←hcw,←hci2];rfl,by rw [←hcw,←hci2];rfl,by rw [←hcw,←hci2];rfl,by rw [←hcw,←hci2];rfl,rfl,rfl,rfl,rfl,rfl,rfl,trivial⟩
       ·exact Yp J (Zw (i:=97) J J zeroValue48 J J hw K1) fun b_17 ho17=>Zy (n:=0) [(13,1),(14,0),(15,0),(16,0),(19,1),(20,3)]<|r1' J (Zh (n:=83) (Fj _ _ _ _ (by rw [hcw];omega) (by rw [hci2];exact hlead) (by rw [hci2];omega)) J J J K2 Zfs (Zb 6 J J J (Oh 2 J J (Yv (zs:=ys) (i:=ys.length-1) (d:=I0)) Ze)) J hw) fun g_10 _=>r0' J J (stf (Ym J J) K1)<|r0' J J (stf (Yf J J J) K1)<|r0' J J (stf (Yf J J J) K1)<|r1' J (Zm (i:=97) J J J J J (by decide) J Qe J J ⟨Zd J,Zt (i:=83) J Zi,trivial⟩ J hw ho17) fun _ _=>r3' J (Zm (i:=98) J J J J J (by decide) J Qe J J ⟨Zd J,Zt (i:=84) J Zi,trivial⟩ J hw trivial) fun _ _=>Yo<|Yg<|Qy (_,_,_,_) trivial K6 ⟨by rw [←hcw,←hci2];rfl,by rw [←hcw,←hci2];rfl,by rw [←hcw,←hci2];rfl,by rw [←hcw,←hci2];rfl,rfl,rfl,rfl,rfl,rfl,rfl,trivial⟩
      ·exact Yp J (Zw (i:=97) J J zeroValue48 J J hw K1) fun b_18 ho18=>Zy (n:=0) [(6,1),(13,1),(14,0),(15,0),(16,0),(19,1),(20,3)]<|r1' J (Zh (n:=7) (Zhm _ _ _ (((Zs zs).length-(Zs ys).length-j)+(Zs ys).length-1)) J J J K2 call101 (Zb 80 J J J Ze) J hw) fun v_6 _=>r1' J (Zh (n:=83) (Fj _ _ _ _ (by rw [hcw];omega) (by rw [hci2];exact hlead) (by rw [hci2];omega)) J J J K2 Zfs (Zb 7 J J J (Oh 2 J J (Yv (zs:=ys) (i:=ys.length-1) (d:=I0)) Ze)) J hw) fun g_11 _=>r0' J J (stf (Ym J J) K1)<|r0' J J (stf (Yf J J J) K1)<|r0' J J (stf (Yf J J J) K1)<|r1' J (Zm (i:=97) J J J J J (by decide) J Qe J J ⟨Zd J,Zt (i:=83) J Zi,trivial⟩ J hw ho18) fun _ _=>r3' J (Zm (i:=98) J J J J J (by decide) J Qe J J ⟨Zd J,Zt (i:=84) J Zi,trivial⟩ J hw trivial) fun _ _=>Yo<|Yg<|Qy (_,_,_,_) trivial K6 ⟨by rw [←hcw,←hci2];rfl,by rw [←hcw,←hci2];rfl,by rw [←hcw,←hci2];rfl,by rw [←hcw,←hci2];rfl,rfl,rfl,rfl,rfl,rfl,rfl,trivial⟩
    ·rintro⟨qv,rv,b7,b8⟩ -
     simp only [CA,NA]
     refine Zc<|Zc<|Zg<|dt (Zz (i:=98) J J J Lg Qe J J)<|tt (Zh (n:=7) (Cc _ _ (by have:=Zmm (cf (Qi (Zs zs) (Zs ys) j) (((Zs zs).length-(Zs ys).length-j)+(Zs ys).length-1)) (cf (Zs ys) ((Zs ys).length-1)) hlead;omega)) J J J K1 call72 (Zb 84 J J J Ze) J hw) fun _ _=>dt (Qb J J J)<|Zf<|Za<|Zq J (fun h234=>?_) (fun h234=>?_)
     ·have hne:¬Mv (Zs zs) (Zs ys) ((Zs zs).length-(Zs ys).length-j):=fun he=>h234 (by rw [(Zdl hj2).1 he];rfl)
      refine Zc<|Zg<|as_ J<|as_ J<|Zf<|Za<|Zv<|Xc<|Hf<|Xc<|Xc<|Hf<|Xc<|Qv (Fz 62) ?_
      have hno:=pdv_no (p:=Zs zs) (q:=Zs ys) hnz (by omega) hne
      exact Yn (.inl J) hsc (.slice none 0 0,[]) _ (fun a w hs=>Np hs results55 J J) (by rw [hno]) (fun h=>absurd h (of_decide_eq_false hno)) J (Xa 62 J J J Zk)
     ·have hr0:((cf (Qi (Zs zs) (Zs ys) j) (((Zs zs).length-(Zs ys).length-j)+(Zs ys).length-1))%(cf (Zs ys) ((Zs ys).length-1)))=0:=Int.sign_eq_zero_iff_zero.1 (Decidable.byContradiction h234)
      have hde:Mv (Zs zs) (Zs ys) ((Zs zs).length-(Zs ys).length-j):=(Zdl hj2).2 hr0
      have hcb:=fun t=>Nat.le_trans (div_c hlead hr0 (Nat.le_refl _) t) hb2
      have hcc:=Ha (Int.dvd_of_emod_eq_zero hr0) (Nat.le_trans (Nat.le_add_right _ _) hb2)
      refine Zj<|Za<|Zc<|e_ex (On 83 J Zi) (fun sl hsl=>?_)
      subst hsl
      refine Zg<|mv J<|mv J<|dt (Zz (i:=97) J J J Lg Qe J J)<|dt (Yw (ii:=60) (i:=((Zs zs).length-(Zs ys).length-j)) J J J J (Yq pI) Nc Qe)<|tt (Kz (i:=60) (enc:=Es) (((cf (Qi (Zs zs) (Zs ys) j) (((Zs zs).length-(Zs ys).length-j)+(Zs ys).length-1))/(cf (Zs ys) ((Zs ys).length-1))),sl) J J J J J J pI J hw) fun _ _=>Zf<|Za<|Zc<|Yl (Pj (q:=qI) (z:=(((cf (Qi (Zs zs) (Zs ys) j) (((Zs zs).length-(Zs ys).length-j)+(Zs ys).length-1))/(cf (Zs ys) ((Zs ys).length-1))),sl)) 61 83 62 J J J J J)<|Yl (Zpi (ys:=os.set ((Zs zs).length-(Zs ys).length-j) (((cf (Qi (Zs zs) (Zs ys) j) (((Zs zs).length-(Zs ys).length-j)+(Zs ys).length-1))/(cf (Zs ys) ((Zs ys).length-1))),sl)) 62 61 J J (fun y hy=>by rcases List.mem_or_eq_of_mem_set hy with h | h;exact List.mem_append_left _ h;rw [h];exact List.mem_append_right _ (List.mem_singleton.2 rfl)))<|Zg<|mv J<|tt (Hr (i:=70) (n:=((Zs zs).length-(Zs ys).length-j)) (by_:=32) (enc:=Es) I0 J J J J Nc ti48 J pI.cells pI.pos J J J hw) fun v_7 _=>as_ J<|Zf<|Za<|Zc<|Zc<|Zg<|as_ J<|Zf<|Za<|Zl<|Yl (Fy 71 ((Zs zs).length-(Zs ys).length-j)) ?_
      refine Nt [(1,_),(6,_),(7,_),(8,_),(9,_)] [(0,_),(83,_),(84,_),(97,_),(98,_),(60,_),(61,_),(80,_),(1,_),(2,_)] (fun(q:Nat×Value×List (Int×SL))=>[(12,.int .i64 (q.1:Int)),(11,q.2.1)]) (fun(q:Nat×Value×List (Int×SL))=>[(70,osl 2 48 Es q.2.1 q.2.2),(71,Zb7 qI q.2.2)]) (fun(q:Nat×Value×List (Int×SL))=>(q.1≤ys.length)∧(Zs q.2.2=shm (Zs ys) ((cf (Qi (Zs zs) (Zs ys) j) (((Zs zs).length-(Zs ys).length-j)+(Zs ys).length-1))/(cf (Zs ys) ((Zs ys).length-1))) ((Zs zs).length-(Zs ys).length-j) q.1)∧(q.2.2.length=((Zs zs).length-(Zs ys).length-j)+q.1)) (fun(q:Nat×Value×List (Int×SL))=>ys.length-q.1) (0,_,List.replicate ((Zs zs).length-(Zs ys).length-j) I0) ⟨by first | omega | (dsimp only<;>omega),by rw [←Zc6];simp [Zs],by simp⟩ K7 K12 ?_
      rintro⟨i,vo,ms⟩ ⟨hi,hms,hml⟩
      dsimp only at hi hms hml
      simp only [CA,NA]
      have hci:=Na ys i
      refine Zc<|Zc<|Zg<|mv J<|mv J<|dt (Yb J J (i:=2) J Zx Nc)<|dt (Xu J J J)<|Zf<|Za<|Zq J (fun h239=>?_) (fun h239=>?_)
      ·refine Zj<|Za<|Zc<|Zl<|Oo [2,97] [9]<|Zy (n:=3) [(0,0),(1,0),(2,0),(3,0),(4,0),(5,0),(6,1)]<|r0' J J (stf (Ym J J) K2)<|r0' J J (stf (Zz (i:=97) J J J Lg Qe J J) K2)<|r0' J J (stf (Ym J J) K2)<|r0' J J (stf (Ym J J) K2)<|r0' J J (stf (Yw (ii:=2) J J J J Zx Nc Qe J (by first | omega | (simp only [List.length_set];omega))) K2)<|r0' J J (stf (Xm (ii:=2) I0 J J J Zx pI (by first | omega | (simp only [List.length_set];omega))) K2)<|r1' J (Zh (n:=86) (Bo _ _ _ _ (by omega) (by rw [hci];have:=hsy i;omega)) J J J K2 Zkt (Zb 83 J J J (Oh 2 J J (Yv (i:=i)) Ze)) J hw) fun v_8 _=>Yo<|Zks (On 86 J Zi) (fun sl_2 hsl=>?_)
       subst hsl
       exact Zy (n:=0) [(7,1),(8,1),(9,3)]<|r1' J (Pn (i:=87) (ivs:=[(0,_)]) (enc:=Es) [(((cf (Qi (Zs zs) (Zs ys) j) (((Zs zs).length-(Zs ys).length-j)+(Zs ys).length-1))/(cf (Zs ys) ((Zs ys).length-1)))*(ys.getD i I0).1,sl_2)] J J K2 Nc ti48 J J J J J pI.cells J J hw) fun v_9 _=>r1' J (Du 70 J J J K2 (fun hoffr=>(Gg (xs:=ms) (ys:=[_]) (i:=70) (j:=87) (by_:=32) J J J J J J (by decide) J (Yq pI) Nc ti48 J pI J J J (by simp;omega) (by decide) J hw hoffr))) fun v_10 _=>r3' J (Px (Lq J J) J) fun _ _=>Yo<|Yg<|Oa<|Za<|Zg<|mv J<|dt (Ys J J J ⟨by omega,by omega⟩)<|as_ J<|Zf<|Qv (Pj (q:=qI) (z:=(((cf (Qi (Zs zs) (Zs ys) j) (((Zs zs).length-(Zs ys).length-j)+(Zs ys).length-1))/(cf (Zs ys) ((Zs ys).length-1)))*(ys.getD i I0).1,sl_2)) 71 86 71 J J J J J)<|Xk (i+1,_,ms ++ [(((cf (Qi (Zs zs) (Zs ys) j) (((Zs zs).length-(Zs ys).length-j)+(Zs ys).length-1))/(cf (Zs ys) ((Zs ys).length-1)))*(ys.getD i I0).1,sl_2)]) ⟨by first | omega | (dsimp only<;>omega),by rw [Kh,hms,←Zc7];dsimp only;rw [hci],by simp;omega⟩ (by first | omega | (dsimp only<;>omega)) K7 K12
      ·refine Yu<|Zu<|Zu<|Ox<|Za<|Yl (Qz 70 J J pI)<|Yl (Ma 70 71 72 J J J J)<|Zg<|mv J<|mv J<|tt (Zh (n:=8) (Ah _ _ (by rw [hms];exact Zm5 fun t=>by have:=hcb t;omega)) J J J K1 call89 (Zb 72 J J J Ze) J hw) fun g_12 hg=>tt (Zh (n:=9) (Zje _ _ _ _ (by rw [hws];exact Sz.tzl fun t=>by have:=hb1 t;omega) (by rw [hg,hms];exact Sz.tzl (Zm5 fun t=>by have:=hcb t;omega)) (by omega) (by have h7:=congrArg List.length hg;have h8:=Hu (Zs ms);have h9:=Zr ms;have h10:=Zr g_12.2;omega)) J J J K2 call88 (Zb 80 J J J (Zb 8 J J J Ze)) J hw) fun g_13 hg_2=>as_ J<|Zf<|Oa<|Za<|Zg<|mv J<|dt (Qa J J J ⟨by omega,by omega⟩)<|as_ J<|Zf ?_
       obtain rfl:i=(Zs ys).length:=by omega
       exact Qv (Oc 9 80 J J J)<|Xk (j+1,os.set ((Zs zs).length-(Zs ys).length-j) (((cf (Qi (Zs zs) (Zs ys) j) (((Zs zs).length-(Zs ys).length-j)+(Zs ys).length-1))/(cf (Zs ys) ((Zs ys).length-1))),sl),_,_) ⟨by dsimp only;omega,fun k h1 h2=>by dsimp only at h1 h2;rcases Nat.lt_or_ge ((Zs zs).length-(Zs ys).length) (k+j)with h3 | h3;(exact hx k h3 h2);(rw [show k=((Zs zs).length-(Zs ys).length-j) by omega];exact hde),by dsimp only;rw [Zxp,hos];exact Zt0 (by omega),by dsimp only;rw [hg_2,hg,hws,hms];exact Zx0 (by omega) hj2⟩ (by first | omega | (dsimp only<;>omega)) ⟨J,by dsimp only;rw [show(zs.length:Int)-(ys.length:Int)-((j+1:Nat):Int)=(zs.length:Int)-(ys.length:Int)-(j:Int)-1 by omega];rfl,rfl,rfl,trivial⟩ K6
   ·refine Yu<|Zu<|Zu<|Ox<|Za<|Zc ?_
    have hall:∀k,k≤(Zs zs).length-(Zs ys).length→Mv (Zs zs) (Zs ys) k:=fun k hk=>hx k (by omega) hk
    exact Yl (Qz 60 J J pI)<|Yl (Ma 60 61 72 J J J J)<|Zg<|mv J<|tt (Zh (n:=10) (Ah _ _ (by rw [hos];exact(dout_sz hF3 hall _).mono (by omega))) J J J K1 call89 (Zb 72 J J J Ze) J hw) fun g_14 hg_3=>mv J<|dt (Yb J J (i:=80) J Zx Nc)<|dt (Pm J J J)<|as_ J<|as_ J<|Zf<|Za<|Zv<|Yn (.inl J) hsc _ _ (fun a w hs=>Np hs results55 J J) (by rw [←pdv_end hnz (by omega) hall (show ws.length=_ by rw [←hlw,hws,show j=(Zs zs).length-(Zs ys).length+1 by omega]),show decide ((ws.length:Int)=0)=decide (ws.length=0)from decide_eq_decide.2 (by omega)]<;>rfl) (fun _=>by rw [hg_3,hos,show j=(Zs zs).length-(Zs ys).length+1 by omega,Zbb,Zhv hnz]) J (Xa 10 J J J Zk)
set_option maxHeartbeats 4000000 in
theorem rp_gcd(v u:Value)(zs ys:List (Int×SL))(F:Nat)(hv:Vp (Zs zs))(hu:Vp (Zs ys))(hok:eok F (Zs zs) (Zs ys)):Cal prog 114 #[v,u] [pp v zs,pp u ys] true (G:=Value×List (Int×SL)) (fun r=>Zs r.2=Ki (Yx (eu F (Zs zs) (Zs ys)))) (fun r=>r.1) (fun r=>[pp r.1 r.2]):=by
 refine Ya func114 J ntmps114 J K2 ?_
 intro w0 sc hw hsc
 simp only [Zp,Zn]
 refine Zc<|Zg<|as_ J<|Zf<|Za<|Zc<|Zg<|mv J<|mv J<|as_ J<|as_ J<|Zf<|Za<|Zc<|Zl<|Yl (Oc 1 80 J J J)<|Yl (Oc 2 81 J J J)<|Nt [] [(0,_),(1,_),(2,_)] (fun(q:Value×Value×List (Int×SL)×List (Int×SL)×Nat)=>[(5,q.1),(6,q.2.1)]) (fun(q:Value×Value×List (Int×SL)×List (Int×SL)×Nat)=>[(80,pp q.1 q.2.2.1),(81,pp q.2.1 q.2.2.2.1)]) (fun(q:Value×Value×List (Int×SL)×List (Int×SL)×Nat)=>(Vp (Zs q.2.2.1))∧(Vp (Zs q.2.2.2.1))∧(eok q.2.2.2.2 (Zs q.2.2.1) (Zs q.2.2.2.1))∧(eu q.2.2.2.2 (Zs q.2.2.1) (Zs q.2.2.2.1)=eu F (Zs zs) (Zs ys))) (fun(q:Value×Value×List (Int×SL)×List (Int×SL)×Nat)=>q.2.2.2.2) (_,_,zs,ys,F) ⟨hv,hu,hok,J⟩ K2 K5 ?_
 rintro⟨va,vb,aa,bb,f⟩ ⟨hva,hvb,hok0,heu⟩
 dsimp only at hva hvb hok0 heu
 simp only [CA,NA]
 have hla:=Zr aa
 have hlb:=Zr bb
 have hna:=hva.len
 have hnb:=hvb.len
 refine Zc<|Zc<|Zg<|mv J<|dt (Yb J J (i:=81) J Zx Nc)<|dt (Oq J J J)<|Zf<|Za<|Zq J (fun h250=>?_) (fun h250=>?_)
 ·have hbn:Zs bb≠[]:=fun e=>by have h7:=congrArg List.length e;simp only [List.length_nil]at h7;omega
  obtain⟨f1,rfl,hde,hok1,heu1⟩:=Zoh hok0 hbn
  have hdo:=(Ar hde).2
  have hvp:=Cv hva hde
  exact Zj<|Za<|Zl<|Zg<|mv J<|mv J<|mv J<|tt (Zh (n:=3) (rp_rest _ _ _ _ (by omega) (by omega) (by omega) hvb.tr (fun h=>by have h7:=hdo (by omega);rw [hla,hlb]at h7;omega)) J J J K2 call160 (Zb 80 J J J (Zb 81 J J J Ze)) J hw) fun g hg=>tt (Zh (n:=4) (Ks _ _ (by rw [hg];exact hvp.sz.mono (by omega)) (fun h=>by rw [hg];exact hvp.ne (fun e=>by have h7:=congrArg List.length hg;rw [e,Zr]at h7;exact h h7)) (by have h7:=congrArg List.length hg;have h8:=hvp.len;have h9:=Zr g.2;omega)) J J J K1 call57 (Zb 3 J J J Ze) J hw) fun g_2 hg_2=>as_ J<|as_ J<|Zf<|Oa<|Qv (Oc 81 80 J J J)<|Qv (Oc 4 81 J J J)<|Xk (_,_,bb,g_2.2,f1) ⟨hvb,by dsimp only;rw [hg_2,hg];exact Lo hvp,by dsimp only;rw [hg_2,hg];exact hok1,by dsimp only;rw [hg_2,hg,←heu1];exact heu⟩ (Nat.lt_succ_self f1) K2 K5
 ·have hbn:Zs bb=[]:=List.eq_nil_of_length_eq_zero (by omega)
  rw [hbn,Ek]at heu
  have hpb:=Hd hva.sz
  have hpl:=Yi (Zs aa)
  refine Yu<|Zu<|Zu<|Ox<|Za<|Zc<|Zg<|mv J<|tt (Zh (n:=5) (Ks _ _ (hva.sz.mono (by omega)) (fun h=>hva.ne (fun e=>by have h7:=congrArg List.length e;simp only [List.length_nil]at h7;omega))) J J J K1 call57 (Zb 80 J J J Ze) J hw) fun g_3 hg_3=>as_ J<|Zf<|Za<|Zc<|Zc ?_
  have hpz:g_3.2.length=aa.length:=by rw [←Zr g_3.2,hg_3,hpl];exact hla
  refine Zg<|mv J<|dt (Yb J J (i:=5) J Zx Nc)<|dt (Oq J J J)<|mv J<|Qu (d:=22) J (fun s254=>?_) (fun s254=>?_)
  ·refine gdt (Ym J J) J J<|gdt (Ym J J) J J<|gdt (Yb J J (i:=5) J Zx Nc) J J<|gdt (Qa J J J ⟨by omega,by omega⟩) J J<|gdt (Yw (ii:=5) (i:=(g_3.2.length-1)) J J J J Zx Nc Qe) J J<|gdt (Xm (ii:=5) I0 J J J Zx pI) J J<|gtt (Zh (n:=5) (Cc _ _ (by rw [Na,hg_3];have:=hpb (g_3.2.length-1);omega)) J J J K1 call72 (Oh 5 J J (Yv (zs:=g_3.2) (i:=g_3.2.length-1) (d:=I0)) Ze) J hw) J J J fun _ _=>gdt (Xu J J J) J J<|dt (Xh J J J)<|Zf<|Za<|Zq J (fun h254=>?_) (fun h254=>?_)
   ·have hlc:=Na g_3.2 (g_3.2.length-1)
    have hneg:(Ki (Yx (Zs aa)))=Xj (Yx (Zs aa)) (-1):=by unfold Ki;rw [if_pos ⟨by omega,by rw [←hg_3,Zr,←hlc];exact(Qk _).1 h254⟩]
    exact Zc<|Zg<|mv J<|tt (Zh (n:=6) (Zne _ _ (by rw [hg_3];exact hpb.mono (by omega))) J J J K1 call138 (Zb 5 J J J Ze) J hw) fun g_4 hg_4=>as_ J<|Zf<|Za<|Zv<|Xc<|Yn (.inl J) hsc _ _ (fun a w hs=>Nn hs results114 J) J (by rw [hg_4,hg_3,←heu,hneg]) J (Xa 6 J J J Zk)
   ·refine Zj<|Za<|Zc<|Zg<|mv J<|as_ J<|Zf<|Za<|Zv ?_
    have hneg:(Ki (Yx (Zs aa)))=Yx (Zs aa):=by unfold Ki;rw [if_neg (fun h=>by rw [←hg_3,Zr,←Na]at h;first | omega | exact absurd ((Qk _).2 h.2) ‹_›)]
    exact Yn (.inl J) hsc (_,g_3.2) _ (fun a w hs=>Nn hs results114 J) J (by rw [hg_3,←heu,hneg]) J (Xa 5 J J J Zk)
  ·refine gsk J J J<|gsk J J J<|gsk J J J<|gsk J J J<|gsk J J J<|gsk J J J<|gsk J J J<|gsk J J J<|dt (Yh J J J)<|Zf<|Za<|Ye J<|Zj<|Za<|Zc<|Zg<|mv J<|as_ J<|Zf<|Za<|Zv ?_
   have hneg:(Ki (Yx (Zs aa)))=Yx (Zs aa):=by unfold Ki;rw [if_neg (fun h=>by rw [←hg_3,Zr,←Na]at h;first | omega | exact absurd ((Qk _).2 h.2) ‹_›)]
   exact Yn (.inl J) hsc (_,g_3.2) _ (fun a w hs=>Nn hs results114 J) J (by rw [hg_3,←heu,hneg]) J (Xa 5 J J J Zk)
end Go.Sky

