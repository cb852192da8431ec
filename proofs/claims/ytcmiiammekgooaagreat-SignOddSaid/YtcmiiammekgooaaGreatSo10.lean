/- rules, arithmetic and contracts: part 11
   Proved without conditions of its own: each theorem bears its own. -/
import Derived.Test.YtcmiiammekgooaaGreatSo03
import Derived.Test.YtcmiiammekgooaaGreatSo02
import Derived.Test.YtcmiiammekgooaaGreatSo01
import Derived.Test.YtcmiiammekgooaaGreatSo08
import Derived.Test.YtcmiiammekgooaaGreatSo09
set_option linter.all false
namespace Go.Sky
open Go.Proofs
set_option maxRecDepth 20000
set_option maxHeartbeats 4000000
set_option linter.unusedSimpArgs false
theorem rp_from(v:Value)(xs:List Int)(hs:Sz 1000000 xs)(hl:xs.length≤1000):Cal Tryz.prog 16 #[v] [slp 2 wv v xs] true (G:=Value×List (Int×SL)) (fun r=>Zw r.2=xs) (fun r=>r.1) (fun r=>[pp r.1 r.2]):=by
 refine Yd Tryz.func16 J Tryz.ntmps16 J K1 ?_
 intro w0 sc hw hsc
 simp only [Zp,Zn]
 refine Zb<|Zg<|as_ J J<|Zf<|Za<|Zb<|Zg<|as_ J J<|Zf<|Za<|Zb<|Zb<|Zg<|as_ J J<|Zf<|Za<|Zl<|Ys (Nj 70 2 48 Cz)<|Ys (Lg qI 71)<|Nt [(0,_)] [(0,_),(1,_)] (fun(q:Nat×Value×List (Int×SL))=>[(4,.int .i64 (q.1:Int)),(3,q.2.1)]) (fun(q:Nat×Value×List (Int×SL))=>[(70,osl 2 48 Cz q.2.1 q.2.2),(71,Zcw qI q.2.2)]) (fun(q:Nat×Value×List (Int×SL))=>(q.1≤xs.length)∧(Zw q.2.2=xs.take q.1)∧(q.2.2.length=q.1)) (fun(q:Nat×Value×List (Int×SL))=>xs.length-q.1) (0,.slice none 0 0,[]) ⟨by first | omega | (dsimp only<;>omega),rfl,rfl⟩ K3 K4 ?_
 rintro⟨i,vo,zs⟩ ⟨hi,hz,hzl⟩
 dsimp only at hi hz hzl
 simp only [List.cons_append,List.nil_append]
 refine Zb<|Zb<|Zg<|mv J J<|mv J J<|dt (Zy J J (i:=1) J Zi Qn) J<|dt (Qb J J J) J<|Zf<|Za<|Zq J (fun h41=>?_) (fun h41=>?_)
 ·refine Zk<|Za<|Zb<|Zl<|Zg<|mv J J<|mv J J<|mv J J<|dt (Yz (ii:=1) J J J J Zi Qn Yk J (by first | omega | (simp only [List.length_set];omega))) J<|dt (Xs (ii:=1) 0 J J J Zi pV (by first | omega | (simp only [List.length_set];omega))) J<|tt (Zh (n:=2) (r_from _ (by have:=hs.getD i;omega)) J J J K1 cF30 Ze J hw) J fun v _=>l_ex (Oq 2 J Zi) (fun sl hsl=>?_)
  subst hsl
  exact tt (Pt (i:=3) (ivs:=[(0,_)]) (enc:=Cz) [(xs.getD i 0,sl)] J J J K2 Mj Tryz.ti48 J J J J J J pI.cells J J hw) J fun v_2 _=>tt (Kt (i:=70) (j:=3) (by_:=32) J J J J J J (by decide) J (Yn pI) Mj Tryz.ti48 J pI J J J (by simp;omega) (by decide) J hw) J fun v_3 _=>as_ J J<|Zf<|Ob<|Za<|Zg<|mv J J<|dt (Yt J J J ⟨by omega,by omega⟩) J<|as_ J J<|Zf<|Pr (Oo (q:=qI) (z:=(xs.getD i 0,sl)) 71 2 71 J J J J J)<|Xq (i+1,_,zs ++ [(xs.getD i 0,sl)]) ⟨by first | omega | (dsimp only<;>omega),by rw [Om 0 _ _ (by omega),←hz];simp [Zw],by simp [hzl]⟩ (by first | omega | (dsimp only<;>omega)) K3 K4
 ·exact Yu<|Zs<|Zs<|Ox<|Za<|Zb<|Ys (Po 70 J J pI)<|Ys (Lu 70 71 72 J J J J)<|Zg<|mv J J<|as_ J J<|Zf<|Za<|Zu<|Zv (.inl J) hsc (_,zs) _ (fun a w hs=>Qj hs Tryz.results16 J) J (by rw [hz,List.take_of_length_le (by omega)]) J (Xb 72 J J J Zj)
theorem rp_to(v:Value)(zs:List (Int×SL))(hs:Sz 1000000 (Zw zs))(hl:zs.length≤1000):Cal Tryz.prog 18 #[v] [pp v zs] false (G:=Value) (fun r=>True) (fun r=>r) (fun r=>[slp 2 wv r (Zw zs)]):=by
 refine Yd Tryz.func18 J Tryz.ntmps18 J K1 ?_
 intro w0 sc hw hsc
 simp only [Zp,Zn]
 have hli:=Ya zs
 refine Zb<|Zg<|as_ J J<|Zf<|Za<|Zb<|Zg<|as_ J J<|Zf<|Za<|Zb<|Zb<|Zg<|as_ J J<|Zf<|Za<|Zl<|Ys (Nj 70 2 31 wv)<|Nt [(0,_)] [(0,_),(1,_)] (fun(q:Nat×Value)=>[(4,.int .i64 (q.1:Int)),(3,q.2)]) (fun(q:Nat×Value)=>[(70,osl 2 31 wv q.2 ((Zw zs).take q.1))]) (fun(q:Nat×Value)=>q.1≤zs.length) (fun(q:Nat×Value)=>zs.length-q.1) (0,.slice none 0 0) (by first | omega | (dsimp only<;>omega)) K3 K3 ?_
 rintro⟨i,vo⟩ hi
 dsimp only at hi
 simp only [List.cons_append,List.nil_append]
 have htl:((Zw zs).take i).length=i:=by rw [List.length_take];omega
 have hci:=Nu zs i
 refine Zb<|Zb<|Zg<|mv J J<|mv J J<|dt (Zy J J (i:=1) J Zz Mj) J<|dt (Qb J J J) J<|Zf<|Za<|Zq J (fun h50=>?_) (fun h50=>?_)
 ·exact Zk<|Za<|Zb<|Zl<|Zg<|mv J J<|mv J J<|mv J J<|dt (Yz (ii:=1) J J J J Zz Mj Pf J (by first | omega | (simp only [List.length_set];omega))) J<|dt (Xs (ii:=1) I0 J J J Zz pI (by first | omega | (simp only [List.length_set];omega))) J<|tt (Zh (n:=1) (r_to _ _ (by rw [hci];have:=hs i;omega)) J J J K1 cF53 (Oi 1 J J (Yv (by omega)) Ze) J hw) J fun _ _=>tt (Pt (i:=2) (ivs:=[(0,_)]) (enc:=wv) [(zs.getD i I0).1] J J J K2 Qn Tryz.ti31 J J J J J J pV.cells J J hw) J fun v _=>tt (Kt (i:=70) (j:=2) (by_:=24) J J J J J J (by decide) J (Yn pV) Qn Tryz.ti31 J pV J J J (by simp;omega) (by decide) J hw) J fun v_2 _=>as_ J J<|Zf<|Ob<|Za<|Zg<|mv J J<|dt (Yt J J J ⟨by omega,by omega⟩) J<|as_ J J<|Zf<|Xq (i+1,_) (by first | omega | (dsimp only<;>omega)) (by first | omega | (dsimp only<;>omega)) K3 ⟨by rw [Om 0 _ _ (by omega),show(Zw zs).getD i 0=(zs.getD i I0).1 from hci.symm];rfl,rfl,rfl,trivial⟩
 ·exact Yu<|Zs<|Zs<|Ox<|Za<|Zb<|Zg<|mv J J<|as_ J J<|Zf<|Za<|Zu<|Zv (.inl J) hsc _ _ (fun a w hs=>Qj hs Tryz.results18 J) J trivial J (Ps 70 J J pV (List.take_of_length_le (by omega)) Zj)
theorem Zba(v:Value)(zs:List (Int×SL))(hs:Sz 3000000000 (Zw zs)):Cal Tryz.prog 89 #[v] [pp v zs] true (G:=Value×List (Int×SL)) (fun r=>Zw r.2=tzl (Zw zs)) (fun r=>r.1) (fun r=>[pp r.1 r.2]):=by
 refine Yd Tryz.func89 J Tryz.ntmps89 J K1 ?_
 intro w0 sc hw hsc
 simp only [Zp,Zn]
 refine Nw (Zll (i:=1) J) fun hself=>Nw (Hz (i:=1) J Zz) (fun hlen=>?_)
 have hli:=Ya zs
 refine Zb<|Zg<|as_ J J<|Zf<|Za<|Zb<|Zl<|Nt [] [(0,_)] (fun(k:Nat)=>[(0,Fe v k)]) (fun(k:Nat)=>[(1,pp (Fe v k) (zs.take k))]) (fun(k:Nat)=>(k≤zs.length)∧(tzl ((Zw zs).take k)=tzl (Zw zs))) (fun(k:Nat)=>k) zs.length ⟨Nat.le_refl _,by rw [List.take_of_length_le (by omega)]⟩ ⟨by rw [hself];rfl,trivial⟩ ⟨by rw [hself,List.take_length];rfl,rfl,trivial⟩ ?_
 rintro k ⟨hk,ht⟩
 simp only [List.cons_append,List.nil_append]
 have hl:(zs.take k).length=k:=by rw [List.length_take];omega
 have hce:((zs.take k).getD (k-1) I0).1=((Zw zs).take k).getD (k-1) 0:=by rw [Nu,Zdg];rfl
 refine Zb<|Zb<|Zg<|mv J J<|dt (Zy J J (i:=1) J Zz Mj) J<|dt (On J J J) J<|mv J J<|Qx (d:=6) J (fun s22=>?_) (fun s22=>?_)
 ·refine gdt (Ym J J) J J J J<|gdt (Ym J J) J J J J<|gdt (Zy J J (i:=1) J Zz Mj) J J J J<|gdt (Qg J J J ⟨by omega,by omega⟩) J J J J<|gdt (Yz (ii:=1) (i:=k-1) J J J J Zz Mj Pf (by omega) (by omega)) J J J J<|gdt (Xs (ii:=1) I0 J J J Zz pI (by omega)) J J J J<|gtt (Zh (n:=1) (Zfk _ _ (by rw [hce];exact(hs.take _).getD _)) J J J K1 cF72 (Oi 1 J J (Yv (by omega)) Ze) J hw) J J J J fun _ _=>gdt (Pi J J J) J J J J<|dt (Xh J J J) J<|Zf<|Za<|Zq J (fun h22=>?_) (fun h22=>?_)
  ·rw [hce]at h22
   have hstep:=Zmj (xs:=Zw zs) (k:=k) (by omega) (by omega) (Zfa (k:=k) (by omega) (Int.sign_eq_zero_iff_zero.1 h22))
   exact Zk<|Za<|Zl<|Zg<|mv J J<|mv J J<|dt (Zy J J (i:=1) J Zz Mj) J<|dt (Qg J J J ⟨by omega,by omega⟩) J<|dt (Zw1 (ii:=1) (i:=k-1) J J J J Zz Mj Pf (by omega) (by omega)) J<|as_ J J<|Zf<|Ob<|Pr (Zqq 1 1 (k-1) J J (by omega))<|Xq (k-1) ⟨by first | omega | (dsimp only<;>omega),by rw [←ht,←hstep]⟩ (by first | omega | (dsimp only<;>omega)) ⟨by rw [←Ha v k (k-1)];rfl,trivial⟩ ⟨by rw [Ha,List.take_take,Nat.min_eq_left (by omega)];rfl,rfl,trivial⟩
  ·try rw [hce]at h22
   exact Yu<|Zs<|Zs<|Ox<|Za<|Zb<|Zg<|mv J J<|as_ J J<|Zf<|Za<|Zu<|Zv (.inl J) hsc (_,zs.take k) _ (fun a w hs=>Qj hs Tryz.results89 J) J (by rw [Zdg,←ht];exact(Zci (by omega) (by first | (left;omega) | (right;exact Zcj (k:=k) (by omega) (by assumption)))).symm) J (Xb 1 J J J Zj)
 ·exact gsk J J J J J<|gsk J J J J J<|gsk J J J J J<|gsk J J J J J<|gsk J J J J J<|gsk J J J J J<|gsk J J J J J<|gsk J J J J J<|dt (Yh J J J) J<|Zf<|Za<|Yf J<|Yu<|Zs<|Zs<|Ox<|Za<|Zb<|Zg<|mv J J<|as_ J J<|Zf<|Za<|Zu<|Zv (.inl J) hsc (_,zs.take k) _ (fun a w hs=>Qj hs Tryz.results89 J) J (by rw [Zdg,←ht];exact(Zci (by omega) (by first | (left;omega) | (right;exact Zcj (k:=k) (by omega) (by assumption)))).symm) J (Xb 1 J J J Zj)
theorem rp_nums(v:Value)(l:List Int)(hl:∀x∈l,inI x)(hlen:l.length≤1000):Cal Tryz.prog 102 #[v] [slp 1 Zb4 v l] true (G:=Value×List (Int×SL)) (fun r=>Zw r.2=tzl l) (fun r=>r.1) (fun r=>[pp r.1 r.2]):=by
 refine Yd Tryz.func102 J Tryz.ntmps102 J K1 ?_
 intro w0 sc hw hsc
 simp only [Zp,Zn]
 have hsz:=Zdh hl
 refine Zb<|Zg<|as_ J J<|Zf<|Za<|Zb<|Zg<|as_ J J<|Zf<|Za<|Zb<|Zb<|Zg<|as_ J J<|Zf<|Za<|Zl<|Ys (Nj 70 2 48 Cz)<|Ys (Lg qI 71)<|Nt [(0,_)] [(0,_),(1,_)] (fun(q:Nat×Value×List (Int×SL))=>[(4,.int .i64 (q.1:Int)),(3,q.2.1)]) (fun(q:Nat×Value×List (Int×SL))=>[(70,osl 2 48 Cz q.2.1 q.2.2),(71,Zcw qI q.2.2)]) (fun(q:Nat×Value×List (Int×SL))=>(q.1≤l.length)∧(Zw q.2.2=mk q.1 (cf l))∧(q.2.2.length=q.1)) (fun(q:Nat×Value×List (Int×SL))=>l.length-q.1) (0,.slice none 0 0,[]) ⟨by first | omega | (dsimp only<;>omega),rfl,rfl⟩ K3 K4 ?_
 rintro⟨i,vo,ws⟩ ⟨hi,hz,hzl⟩
 dsimp only at hi hz hzl
 simp only [List.cons_append,List.nil_append]
 refine Zb<|Zb<|Zg<|mv J J<|mv J J<|dt (Zy J J (i:=1) J Zi Mi) J<|dt (Qb J J J) J<|Zf<|Za<|Zq J (fun h59=>?_) (fun h59=>?_)
 ·refine Zk<|Za<|Zb<|Zl<|Zg<|mv J J<|mv J J<|mv J J<|dt (Yz (ii:=1) J J J J Zi Mi zT3 J (by first | omega | (simp only [List.length_set];omega))) J<|dt (Xs (ii:=1) 0 J J J Zi pZ (by first | omega | (simp only [List.length_set];omega))) J<|tt (Zh (n:=2) (Zi2 _ (hl _ (Yv (by omega)))) J J J K1 cF34 Ze J hw) J fun v _=>l_ex (Oq 2 J Zi) (fun sl hsl=>?_)
  subst hsl
  exact tt (Pt (i:=3) (ivs:=[(0,_)]) (enc:=Cz) [(l.getD i 0,sl)] J J J K2 Mj Tryz.ti48 J J J J J J pI.cells J J hw) J fun v_2 _=>tt (Kt (i:=70) (j:=3) (by_:=32) J J J J J J (by decide) J (Yn pI) Mj Tryz.ti48 J pI J J J (by simp;omega) (by decide) J hw) J fun v_3 _=>as_ J J<|Zf<|Ob<|Za<|Zg<|mv J J<|dt (Yt J J J ⟨by omega,by omega⟩) J<|as_ J J<|Zf<|Pr (Oo (q:=qI) (z:=(l.getD i 0,sl)) 71 2 71 J J J J J)<|Xq (i+1,_,ws ++ [(l.getD i 0,sl)]) ⟨by first | omega | (dsimp only<;>omega),by rw [Hd,Bo,hz];dsimp only;rfl,by simp [hzl]⟩ (by first | omega | (dsimp only<;>omega)) K3 K4
 ·exact Yu<|Zs<|Zs<|Ox<|Za<|Zb<|Ys (Po 70 J J pI)<|Ys (Lu 70 71 72 J J J J)<|Zg<|mv J J<|tt (Zh (n:=4) (Zba _ _ (by rw [hz];exact Ax fun t ht=>by have:=hsz t;omega)) J J J K1 cF89 (Zd 72 J J J Ze) J hw) J fun g hg=>as_ J J<|Zf<|Za<|Zu<|Zv (.inl J) hsc _ _ (fun a w hs=>Qj hs Tryz.results102 J) J (by rw [hg,hz,show i=l.length by omega,Zhq]) J (Xb 4 J J J Zj)
theorem Zg5(v:Value)(zs:List (Int×SL))(j:Int)(i:Nat)(hj:j=(i:Int))(hi:i≤1000000):Cal Tryz.prog 101 #[v,.int .i64 j] [pp v zs] true (G:=Value) (fun r=>True) (fun r=> .agg #[.bool (decide (cf (Zw zs) i<0)),r]) (fun r=>[d9p r (cf (Zw zs) i).natAbs]):=by
 refine Yd Tryz.func101 J Tryz.ntmps101 J K1 ?_
 intro w0 sc hw hsc
 simp only [Zp,Zn]
 have hli:=Ya zs
 refine Nw (Hz (i:=1) J Zz) fun hlen=>Ys (Nj 60 1 3 Dc)<|Ys (Po 60 J J pN)<|Zb<|Zg<|tt (Zo (i:=2) J J J Tryz.zeroValue48 J J hw) J fun b _=>Zf<|Za<|Zb<|Zb<|Zg<|mv J J<|dt (Qb J J J) J<|mv J J<|Qx (d:=7) J (fun s91=>?_) (fun s91=>?_)
 ·exfalso;omega
 ·refine gdt (Ym J J) J J J J<|gdt (Ym J J) J J J J<|gdt (Zy J J (i:=1) J Zz Mj) J J J J<|gdt (Lq J J J) J J J J<|dt (Yh J J J) J<|Zf<|Za<|Zq J (fun h91=>?_) (fun h91=>?_)
  ·refine Zb<|Zg<|dt (Oh (ivs:=[]) J trivial (fun a w hs=>b48_)) J<|tt (Zm (i:=2) J J J J J (by decide) J Pf J J ⟨Zc J,Zc J,trivial⟩ J hw trivial) J fun _ _=>Zf<|Za<|Zu<|Xe ?_
   have hz0:cf (Zw zs) i=0:=Qe (by omega)
   exact Zv (.inl J) hsc (.slice none 0 0) _ (fun a w hs=>Qj hs Tryz.results101 (Yp (i:=2) J J Hh Pf J)) (by rw [hz0]<;>rfl) trivial J (Ld (by rw [hz0];rfl) Zj)
  ·exact Zk<|Za<|Zb<|Zg<|mv J J<|mv J J<|dt (Yz (ii:=1) (i:=i) J J J J Zz Mj Pf hj (by omega)) J<|dt (Xs (ii:=1) I0 J J J Zz pI (by omega)) J<|tt (Zm (i:=2) J J J J J (by decide) J Pf J J ⟨Zc J,Zc J,trivial⟩ J hw trivial) J fun _ _=>Zf<|Za<|Zu<|Zv (.inl J) hsc _ _ (fun a w hs=>Qj hs Tryz.results101 (Yp (i:=2) J J Hh Pf J)) (by rw [←Nu]<;>rfl) trivial J (give_dI 1 J J (Yv (i:=i) (by omega)) (by rw [←Nu]<;>rfl) Zj)
theorem rp_bits(v:Value)(zs:List (Int×SL))(hs:Sz 3000000000 (Zw zs))(hl:zs.length≤1000):Cal Tryz.prog 52 #[v] [pp v zs] false (G:=Unit) (fun _=>True) (fun _=> .int .i64 (msz (Zw zs):Int)) (fun _=>[]):=by
 refine Yd Tryz.func52 J Tryz.ntmps52 J K1 ?_
 intro w0 sc hw hsc
 simp only [Zp,Zn]
 have hli:=Ya zs
 refine Zb<|Zg<|as_ J J<|Zf<|Za<|Zb<|Zg<|as_ J J<|Zf<|Za<|Zb<|Zb<|Zg<|as_ J J<|Zf<|Za<|Zl<|Nt [(0,_)] [(0,_),(1,_)] (fun(i:Nat)=>[(4,.int .i64 (i:Int)),(3,.int .i64 (msz ((Zw zs).take i):Int))]) (fun(i:Nat)=>[]) (fun(i:Nat)=>i≤zs.length) (fun(i:Nat)=>zs.length-i) 0 (by first | omega | (dsimp only<;>omega)) K3 K2 ?_
 rintro i hi
 simp only [List.cons_append,List.nil_append]
 have hci:=Nu zs i
 have hbi:bl (zs.getD i I0).1.natAbs≤3000000000:=by rw [hci];exact hs i
 have hms:=Zwe (Zw zs) i
 refine Zb<|Zb<|Zg<|mv J J<|mv J J<|dt (Zy J J (i:=1) J Zz Mj) J<|dt (Qb J J J) J<|Zf<|Za<|Zq J (fun h68=>?_) (fun h68=>?_)
 ·refine Zk<|Za<|Zb<|Zl<|Zb<|Zg<|mv J J<|mv J J<|dt (Yz (ii:=1) J J J J Zz Mj Pf J (by first | omega | (simp only [List.length_set];omega))) J<|dt (Xs (ii:=1) I0 J J J Zz pI (by first | omega | (simp only [List.length_set];omega))) J<|tt (Zh (n:=1) (r_bits _ _ (by omega)) J J J K1 cF97 (Oi 1 J J (Yv (by omega)) Ze) J hw) J fun _ _=>mv J J<|dt (On J J J) J<|Zf<|Za<|Zq J (fun h69=>?_) (fun h69=>?_)
  ·exact Zg<|mv J J<|mv J J<|dt (Yz (ii:=1) J J J J Zz Mj Pf J (by first | omega | (simp only [List.length_set];omega))) J<|dt (Xs (ii:=1) I0 J J J Zz pI (by first | omega | (simp only [List.length_set];omega))) J<|tt (Zh (n:=1) (r_bits _ _ (by omega)) J J J K1 cF97 (Oi 1 J J (Yv (by omega)) Ze) J hw) J fun _ _=>as_ J J<|Zf<|Ob<|Za<|Zg<|mv J J<|dt (Yt J J J ⟨by omega,by omega⟩) J<|as_ J J<|Zf<|Xq (i+1) (by first | omega | (dsimp only<;>omega)) (by first | omega | (dsimp only<;>omega)) ⟨J,by rw [hms (by omega),←hci];exact congrArg some (Db (by omega)),rfl,trivial⟩ K2
  ·exact Zk<|Ob<|Za<|Zg<|mv J J<|dt (Yt J J J ⟨by omega,by omega⟩) J<|as_ J J<|Zf<|Xq (i+1) (by first | omega | (dsimp only<;>omega)) (by first | omega | (dsimp only<;>omega)) ⟨J,by rw [hms (by omega),←hci];exact congrArg some (Db (by omega)),rfl,trivial⟩ K2
 ·exact Yu<|Zs<|Zs<|Ox<|Za<|Zb<|Zg<|mv J J<|as_ J J<|Zf<|Za<|Zu<|Zv (.inl J) hsc () _ (fun a w hs=>Qj hs Tryz.results52 J) (by rw [List.take_of_length_le (by omega)]) trivial J Zj
theorem Zg4(v w:Value)(zs:List (Int×SL))(y:Int)(hs:Sz 1000000 (Zw zs))(hl:zs.length≤1000)(hy:bl y.natAbs≤1000000):Cal Tryz.prog 56 #[v,.agg #[.bool (decide (y<0)),w]] [pp v zs,d9p w y.natAbs] true (G:=Value×List (Int×SL)) (fun r=>Zw r.2=Xk (Zw zs) y) (fun r=>r.1) (fun r=>[pp r.1 r.2]):=by
 refine Yd Tryz.func56 J Tryz.ntmps56 J K2 ?_
 intro w0 sc hw hsc
 simp only [Zp,Zn]
 have hli:=Ya zs
 refine Zb<|Zg<|tt (Xl (i:=3) J J J J J J hw) J fun b _=>as_ J J<|Zf<|Za<|Zb<|Zg<|as_ J J<|Zf<|Za<|Zb<|Zb<|Zg<|as_ J J<|Zf<|Za<|Zl<|Ys (Nj 70 2 48 Cz)<|Ys (Lg qI 71)<|Nt [(0,_),(3,_)] [(0,_),(1,_),(2,_),(3,_)] (fun(q:Nat×Value×List (Int×SL))=>[(6,.int .i64 (q.1:Int)),(5,q.2.1)]) (fun(q:Nat×Value×List (Int×SL))=>[(70,osl 2 48 Cz q.2.1 q.2.2),(71,Zcw qI q.2.2)]) (fun(q:Nat×Value×List (Int×SL))=>(q.1≤zs.length)∧(Zw q.2.2=mk q.1 (fun t=>cf (Zw zs) t*y))∧(q.2.2.length=q.1)) (fun(q:Nat×Value×List (Int×SL))=>zs.length-q.1) (0,.slice none 0 0,[]) ⟨by first | omega | (dsimp only<;>omega),rfl,rfl⟩ K4 K6 ?_
 rintro⟨i,vo,ws⟩ ⟨hi,hz,hzl⟩
 dsimp only at hi hz hzl
 simp only [List.cons_append,List.nil_append]
 have hci:=Nu zs i
 refine Zb<|Zb<|Zg<|mv J J<|mv J J<|dt (Zy J J (i:=1) J Zz Mj) J<|dt (Qb J J J) J<|Zf<|Za<|Zq J (fun h109=>?_) (fun h109=>?_)
 ·refine Zk<|Za<|Zb<|Zl<|Nr [1,3] [9] (by kernel_rfl)<|Zx (n:=3) [(0,0),(1,0),(2,0),(3,0),(4,0),(5,0),(6,1)] (by kernel_rfl)<|r0' J J J J (stf (Ym J J) K2)<|r0' J J J J (stf (Ym J J) K2)<|r0' J J J J (stf (Ym J J) K2)<|r0' J J J J (stf (Yz (ii:=1) J J J J Zz Mj Pf J (by first | omega | (simp only [List.length_set];omega))) K2)<|r0' J J J J (stf (Xs (ii:=1) I0 J J J Zz pI (by first | omega | (simp only [List.length_set];omega))) K2)<|r0' J J J J (stf (Yc (i:=3) J J J Hh Pf J J) K2)<|r1' J J (Zh (n:=4) (Zez _ _ _ _ (by rw [hci];have:=hs i;omega) (by omega)) J J J K2 Zuk (Oi 1 J J (Yv (by omega)) (Zd 2 J J J Ze)) J hw) fun v _=>Yr<|Zl8 (Oq 4 J Zi) (fun sl hsl=>?_)
  subst hsl
  exact Zx (n:=0) [(7,1),(8,1),(9,3)] (by kernel_rfl)<|r1' J J (Pt (i:=73) (ivs:=[(0,_)]) (enc:=Cz) [((zs.getD i I0).1*y,sl)] J J J K2 Mj Tryz.ti48 J J J J J J pI.cells J J hw) fun v_2 _=>r1' J J (Zmm 70 J J J K2 (fun hoffr=>(Zgm (xs:=ws) (ys:=[_]) (i:=70) (j:=73) (by_:=32) J J J J J J (by decide) J (Yn pI) Mj Tryz.ti48 J pI J J J (by simp;omega) (by decide) J hw hoffr))) fun v_3 _=>r3' J J (Od (Kk J J) J J) fun _ _=>Yr<|Yl (by kernel_rfl)<|Ob<|Za<|Zg<|mv J J<|dt (Yt J J J ⟨by omega,by omega⟩) J<|as_ J J<|Zf<|Pr (Oo (q:=qI) (z:=((zs.getD i I0).1*y,sl)) 71 4 71 J J J J J)<|Xq (i+1,_,ws ++ [((zs.getD i I0).1*y,sl)]) ⟨by first | omega | (dsimp only<;>omega),by rw [Hd,Bo,hz];dsimp only;rw [Nu],by simp [hzl]⟩ (by first | omega | (dsimp only<;>omega)) K4 K6
 ·exact Yu<|Zs<|Zs<|Ox<|Za<|Zb<|Ys (Po 70 J J pI)<|Ys (Lu 70 71 72 J J J J)<|Zg<|mv J J<|tt (Zh (n:=5) (Zba _ _ (by rw [hz];exact Ax fun t ht=>by have:=Qh (cf (Zw zs) t) y;have:=hs t;omega)) J J J K1 cF89 (Zd 72 J J J Ze) J hw) J fun g hg=>as_ J J<|Zf<|Za<|Zu<|Zv (.inl J) hsc _ _ (fun a w hs=>Qj hs Tryz.results56 J) J (by rw [hg,hz,show i=(Zw zs).length by omega,Zo1]) J (Xb 5 J J J Zj)
theorem Zqv(v:Value)(zs:List (Int×SL))(hs:Sz 1000000 (Zw zs))(hl:zs.length≤1000):Cal Tryz.prog 138 #[v] [pp v zs] true (G:=Value×List (Int×SL)) (fun r=>Zw r.2=Xk (Zw zs) (-1)) (fun r=>r.1) (fun r=>[pp r.1 r.2]):=by
 refine Yd Tryz.func138 J Tryz.ntmps138 J K1 ?_
 intro w0 sc hw hsc
 simp only [Zp,Zn]
 exact Zb<|Zg<|as_ J J<|Zf<|Za<|Zb<|Zg<|mv J J<|tt (Zh (n:=2) (Zi2 (-1) ⟨by omega,by omega⟩) J J J K1 cF34 Ze J hw) J fun v _=>tt (Zh (n:=3) (Zg4 _ _ _ _ hs hl (by decide)) J J J K2 cF56 (Zd 1 J J J (Zd 2 J J J Ze)) J hw) J fun g hg=>as_ J J<|Zf<|Za<|Zu<|Zv (.inl J) hsc _ _ (fun a w hs=>Qj hs Tryz.results138 J) J hg J (Xb 3 J J J Zj)
theorem rp_add(v u:Value)(zs ys:List (Int×SL))(hs:Sz 1000000 (Zw zs))(hl:zs.length≤1000)(ht:Sz 1000000 (Zw ys))(hk:ys.length≤1000):Cal Tryz.prog 43 #[v,u] [pp v zs,pp u ys] true (G:=Value×List (Int×SL)) (fun r=>Zw r.2=Zv2 (Zw zs) (Zw ys)) (fun r=>r.1) (fun r=>[pp r.1 r.2]):=by
 refine Yd Tryz.func43 J Tryz.ntmps43 J K2 ?_
 intro w0 sc hw hsc
 simp only [Zp,Zn]
 have hli:=Ya zs
 have hli2:=Ya ys
 refine Nw (Hz (i:=1) J Zz) fun hlen=>Nw (Hz (i:=2) J Zz) fun hlen2=>Zb<|Zg<|as_ J J<|Zf<|Za<|Zb<|Zg<|as_ J J<|Zf<|Za<|Zb<|Zb<|Zg<|as_ J J<|Zf<|Za<|Zl<|Ys (Nj 70 2 48 Cz)<|Ys (Lg qI 71)<|Nt [(0,_),(1,_)] [(0,_),(1,_),(2,_)] (fun(q:Nat×Value×List (Int×SL))=>[(6,.int .i64 (q.1:Int)),(5,q.2.1)]) (fun(q:Nat×Value×List (Int×SL))=>[(70,osl 2 48 Cz q.2.1 q.2.2),(71,Zcw qI q.2.2)]) (fun(q:Nat×Value×List (Int×SL))=>(q.1≤(max zs.length ys.length))∧(Zw q.2.2=mk q.1 (fun t=>cf (Zw zs) t+cf (Zw ys) t))∧(q.2.2.length=q.1)) (fun(q:Nat×Value×List (Int×SL))=>(max zs.length ys.length)-q.1) (0,.slice none 0 0,[]) ⟨by first | omega | (dsimp only<;>omega),rfl,rfl⟩ K4 K5 ?_
 rintro⟨i,vo,ws⟩ ⟨hi,hz,hzl⟩
 dsimp only at hi hz hzl
 simp only [List.cons_append,List.nil_append]
 refine Zb<|Dd [(0,_),(1,_),(5,_),(6,_)] [(0,_),(70,_),(71,_),(1,_),(2,_)] (fun(_:Unit)=>[(16,.bool (decide (i<max zs.length ys.length)))]) (fun(_:Unit)=>[]) (fun(_:Unit)=>True) K4 K5 ?_ ?_
 ·refine Zg<|mv J J<|mv J J<|dt (Zy J J (i:=1) J Zz Mj) J<|dt (Qb J J J) J<|mv J J<|Qx (d:=11) J (fun s100=>?_) (fun s100=>?_)
  ·exact gsk J J J J J<|gsk J J J J J<|gsk J J J J J<|gsk J J J J J<|dt (Xh J J J) J<|Zf<|Qv () trivial ⟨by first | exact congrArg some (congrArg Value.bool (decide_eq_decide.2 (by omega))) | exact congrArg some (congrArg Value.bool (decide_eq_true (by omega)).symm),rfl,rfl,rfl,rfl,trivial⟩ K5
  ·exact gdt (Ym J J) J J J J<|gdt (Ym J J) J J J J<|gdt (Zy J J (i:=2) J Zz Mj) J J J J<|gdt (Qb J J J) J J J J<|dt (Yh J J J) J<|Zf<|Qv () trivial ⟨by first | exact congrArg some (congrArg Value.bool (decide_eq_decide.2 (by omega))) | exact congrArg some (congrArg Value.bool (decide_eq_true (by omega)).symm),rfl,rfl,rfl,rfl,trivial⟩ K5
 ·rintro _ -
  simp only [List.cons_append,List.nil_append]
  refine Zq J (fun h100=>?_) (fun h100=>?_)
  ·refine Zk<|Za<|Zb<|Zl<|Zg<|mv J J<|mv J J<|mv J J<|tt (Zh (n:=3) (Zg5 _ _ _ i J (by omega)) J J J K2 Zh7 (Zd 1 J J J Ze) J hw) J fun v _=>mv J J<|mv J J<|tt (Zh (n:=4) (Zg5 _ _ _ i J (by omega)) J J J K2 Zh7 (Zd 2 J J J Ze) J hw) J fun v_2 _=>tt (Zh (n:=5) (Zvp _ _ _ _ (by have:=hs i;omega) (by have:=ht i;omega)) J J J K2 cF37 (Zd 3 J J J (Zd 4 J J J Ze)) J hw) J fun v_3 _=>l_ex (Oq 5 J Zi) (fun sl hsl=>?_)
   subst hsl
   exact tt (Pt (i:=6) (ivs:=[(0,_)]) (enc:=Cz) [(cf (Zw zs) i+cf (Zw ys) i,sl)] J J J K2 Mj Tryz.ti48 J J J J J J pI.cells J J hw) J fun v_4 _=>tt (Kt (i:=70) (j:=6) (by_:=32) J J J J J J (by decide) J (Yn pI) Mj Tryz.ti48 J pI J J J (by simp;omega) (by decide) J hw) J fun v_5 _=>as_ J J<|Zf<|Ob<|Za<|Zg<|mv J J<|dt (Yt J J J ⟨by omega,by omega⟩) J<|as_ J J<|Zf<|Pr (Oo (q:=qI) (z:=(cf (Zw zs) i+cf (Zw ys) i,sl)) 71 5 71 J J J J J)<|Xq (i+1,_,ws ++ [(cf (Zw zs) i+cf (Zw ys) i,sl)]) ⟨by first | omega | (dsimp only<;>omega),by rw [Hd,Bo,hz],by simp [hzl]⟩ (by first | omega | (dsimp only<;>omega)) K4 K5
  ·exact Yu<|Zs<|Zs<|Ox<|Za<|Zb<|Ys (Po 70 J J pI)<|Ys (Lu 70 71 72 J J J J)<|Zg<|mv J J<|tt (Zh (n:=7) (Zba _ _ (by rw [hz];exact Ax fun t h=>by have:=Km (cf (Zw zs) t) (cf (Zw ys) t);have:=hs t;have:=ht t;omega)) J J J K1 cF89 (Zd 72 J J J Ze) J hw) J fun g hg=>as_ J J<|Zf<|Za<|Zu<|Zv (.inl J) hsc _ _ (fun a w hs=>Qj hs Tryz.results43 J) J (by rw [hg,hz,show i=max (Zw zs).length (Zw ys).length by omega,padd_mk]) J (Xb 7 J J J Zj)
theorem rp_sub(v u:Value)(zs ys:List (Int×SL))(hs:Sz 1000000 (Zw zs))(hl:zs.length≤1000)(ht:Sz 1000000 (Zw ys))(hk:ys.length≤1000):Cal Tryz.prog 88 #[v,u] [pp v zs,pp u ys] true (G:=Value×List (Int×SL)) (fun r=>Zw r.2=Zfm (Zw zs) (Zw ys)) (fun r=>r.1) (fun r=>[pp r.1 r.2]):=by
 refine Yd Tryz.func88 J Tryz.ntmps88 J K2 ?_
 intro w0 sc hw hsc
 simp only [Zp,Zn]
 exact Zb<|Zg<|as_ J J<|Zf<|Za<|Zb<|Zg<|mv J J<|mv J J<|tt (Zh (n:=3) (Zqv _ _ ht hk) J J J K1 cF138 (Zd 2 J J J Ze) J hw) J fun g hg=>tt (Zh (n:=4) (rp_add _ _ _ _ hs hl (by rw [hg];intro t;rw [Xp];have h1:=ht t;rw [Int.mul_neg,Int.mul_one,Zj2];exact h1) (by rw [←Ya,hg];have:=Fo (Zw ys) (-1);rw [Ya]at this;omega)) J J J K2 cF43 (Zd 1 J J J (Zd 3 J J J Ze)) J hw) J fun g_2 hg_2=>as_ J J<|Zf<|Za<|Zu<|Zv (.inl J) hsc _ _ (fun a w hs=>Qj hs Tryz.results88 J) J (by rw [hg_2,hg,psub_eq]) J (Xb 4 J J J Zj)
theorem Zqw(v:Value)(zs:List (Int×SL))(hs:Sz 1000000 (Zw zs))(hl:zs.length≤1000):Cal Tryz.prog 115 #[v] [pp v zs] true (G:=Value×List (Int×SL)) (fun r=>Zw r.2=Pj (Zw zs)) (fun r=>r.1) (fun r=>[pp r.1 r.2]):=by
 refine Yd Tryz.func115 J Tryz.ntmps115 J K1 ?_
 intro w0 sc hw hsc
 simp only [Zp,Zn]
 have hli:=Ya zs
 refine Zb<|Zg<|as_ J J<|Zf<|Za<|Zb<|Zg<|as_ J J<|Zf<|Za<|Zb<|Zb<|Zg<|as_ J J<|Zf<|Za<|Zl<|Ys (Nj 70 2 48 Cz)<|Ys (Lg qI 71)<|Nt [(0,_)] [(0,_),(1,_)] (fun(q:Nat×Value×List (Int×SL))=>[(4,.int .i64 ((q.1:Int)+1)),(3,q.2.1)]) (fun(q:Nat×Value×List (Int×SL))=>[(70,osl 2 48 Cz q.2.1 q.2.2),(71,Zcw qI q.2.2)]) (fun(q:Nat×Value×List (Int×SL))=>(q.1≤(zs.length-1))∧(Zw q.2.2=mk q.1 (fun t=>cf (Zw zs) (t+1)*((t:Int)+1)))∧(q.2.2.length=q.1)) (fun(q:Nat×Value×List (Int×SL))=>(zs.length-1)-q.1) (0,.slice none 0 0,[]) ⟨by first | omega | (dsimp only<;>omega),rfl,rfl⟩ K3 K4 ?_
 rintro⟨i,vo,ws⟩ ⟨hi,hz,hzl⟩
 dsimp only at hi hz hzl
 simp only [List.cons_append,List.nil_append]
 have hci:=Nu zs (i+1)
 refine Zb<|Zb<|Zg<|mv J J<|mv J J<|dt (Zy J J (i:=1) J Zz Mj) J<|dt (Qb J J J) J<|Zf<|Za<|Zq J (fun h140=>?_) (fun h140=>?_)
 ·refine Zk<|Za<|Zb<|Zl<|Nr [1] [10] (by kernel_rfl)<|Zx (n:=3) [(0,0),(1,0),(2,0),(3,0),(4,0),(5,0),(6,1),(7,1)] (by kernel_rfl)<|r0' J J J J (stf (Ym J J) K1)<|r0' J J J J (stf (Ym J J) K1)<|r0' J J J J (stf (Ym J J) K1)<|r0' J J J J (stf (Yz (ii:=1) (i:=(i+1)) J J J J Zz Mj Pf (by omega) (by omega)) K1)<|r0' J J J J (stf (Xs (ii:=1) I0 J J J Zz pI (by omega)) K1)<|r0' J J J J (stf (Ym J J) K1)<|r1' J J (Zh (n:=2) (Zi2 ((i:Int)+1) ⟨by omega,by omega⟩) J J J K1 cF34 Ze J hw) fun v _=>r1' J J (Zh (n:=3) (Zez _ _ _ _ (by rw [hci];have:=hs (i+1);omega) (bl_i1 (by omega))) J J J K2 Zuk (Oi 1 J J (Yv (i:=i+1) (by omega)) (Zd 2 J J J Ze)) J hw) fun v_2 _=>Yr<|Zl8 (Oq 3 J Zi) (fun sl hsl=>?_)
  subst hsl
  exact Zx (n:=0) [(8,1),(9,1),(10,3)] (by kernel_rfl)<|r1' J J (Pt (i:=73) (ivs:=[(0,_)]) (enc:=Cz) [((zs.getD (i+1) I0).1*((i:Int)+1),sl)] J J J K2 Mj Tryz.ti48 J J J J J J pI.cells J J hw) fun v_3 _=>r1' J J (Zmm 70 J J J K1 (fun hoffr=>(Zgm (xs:=ws) (ys:=[_]) (i:=70) (j:=73) (by_:=32) J J J J J J (by decide) J (Yn pI) Mj Tryz.ti48 J pI J J J (by simp;omega) (by decide) J hw hoffr))) fun v_4 _=>r3' J J (Od (Kk J J) J J) fun _ _=>Yr<|Yl (by kernel_rfl)<|Ob<|Za<|Zg<|mv J J<|dt (Yt J J J ⟨by omega,by omega⟩) J<|as_ J J<|Zf<|Pr (Oo (q:=qI) (z:=((zs.getD (i+1) I0).1*((i:Int)+1),sl)) 71 3 71 J J J J J)<|Xq (i+1,_,ws ++ [((zs.getD (i+1) I0).1*((i:Int)+1),sl)]) ⟨by first | omega | (dsimp only<;>omega),by rw [Hd,Bo,hz];dsimp only;rw [Nu],by simp [hzl]⟩ (by first | omega | (dsimp only<;>omega)) K3 K4
 ·exact Yu<|Zs<|Zs<|Ox<|Za<|Zb<|Ys (Po 70 J J pI)<|Ys (Lu 70 71 72 J J J J)<|Zg<|mv J J<|as_ J J<|Zf<|Za<|Zu<|Zv (.inl J) hsc (_,ws) _ (fun a w hs=>Qj hs Tryz.results115 J) J (by rw [hz,show i=(Zw zs).length-1 by omega]<;>rfl) J (Xb 72 J J J Zj)
theorem Zvn(v:Value)(x:Int)(j:Int)(n:Nat)(hj:j=(n:Int))(hn:n≤100)(hx:bl x.natAbs≤1000000):Cal Tryz.prog 165 #[.agg #[.bool (decide (x<0)),v],.int .i64 j] [d9p v x.natAbs] true (G:=Value) (fun r=>True) (fun r=> .agg #[.bool (decide (x^n<0)),r]) (fun r=>[d9p r (x^n).natAbs]):=by
 refine Yd Tryz.func165 J Tryz.ntmps165 J K1 ?_
 intro w0 sc hw hsc
 simp only [Zp,Zn]
 have hpb:=fun k=>Zkf hx k
 refine Zb<|Zg<|tt (Xl (i:=2) J J J J J J hw) J fun b _=>tt (Zo (i:=3) J J J Tryz.zeroValue48 J J hw) J fun b_2 _=>Zf<|Za<|Zb<|Zg<|tt (Zh (n:=98) (Zi2 1 ⟨by omega,by omega⟩) J J J K1 cF34 Ze J hw) J fun v _=>tt (Zo (i:=97) J J J Tryz.zeroValue48 J J hw) J fun b_3 _=>tt (Zm (i:=97) J J J J J (by decide) J Pf J J ⟨Zc J,Zr (i:=98) J Zi,trivial⟩ J hw trivial) J fun _ _=>Zf<|Za<|Zb<|Zb<|Zg<|as_ J J<|Zf<|Za<|Zl<|Nt [(1,_),(2,_),(4,_),(5,_)] [(0,_),(1,_),(2,_),(3,_)] (fun(q:Nat×Value)=>[(6,.int .i64 (q.1:Int))]) (fun(q:Nat×Value)=>[(97,box b_3 48 #[.bool (decide (x^q.1<0)),q.2]),(98,d9p q.2 (x^q.1).natAbs)]) (fun(q:Nat×Value)=>q.1≤n) (fun(q:Nat×Value)=>n-q.1) (0,_) (by first | omega | (dsimp only<;>omega)) K5 ⟨by rw [Int.pow_zero];rfl,by rw [Int.pow_zero];rfl,rfl,rfl,rfl,rfl,trivial⟩ ?_
 rintro⟨i,vs⟩ hi
 dsimp only at hi
 simp only [List.cons_append,List.nil_append]
 have hp1:=hpb i
 have hp2:i*1000000≤100*1000000:=Nat.mul_le_mul_right _ (by omega)
 refine Zb<|Zb<|Zg<|mv J J<|mv J J<|dt (Qb J J J) J<|Zf<|Za<|Zq J (fun h149=>?_) (fun h149=>?_)
 ·exact Zk<|Za<|Zb<|Zl<|Zg<|dt (Yc (i:=97) J J J Hh Pf J J) J<|dt (Yc (i:=2) J J J Hh Pf J J) J<|tt (Zh (n:=4) (Zez _ _ _ _ (by omega) (by omega)) J J J K2 Zuk (Zd 98 J J J (Zd 1 J J J Ze)) J hw) J fun v_2 _=>tt (Zm (i:=97) J J J J J (by decide) J Pf J J ⟨Zc J,Zr (i:=4) J Zi,trivial⟩ J hw trivial) J fun _ _=>Zf<|Ob<|Za<|Zg<|mv J J<|dt (Yt J J J ⟨by omega,by omega⟩) J<|as_ J J<|Zf<|Pr (Nk 4 98 J J J)<|Xq (i+1,v_2) (by first | omega | (dsimp only<;>omega)) (by first | omega | (dsimp only<;>omega)) K5 ⟨by rw [Int.pow_succ];rfl,by rw [Int.pow_succ];rfl,rfl,rfl,rfl,rfl,trivial⟩
 ·refine Yu<|Zs<|Zs<|Ox<|Za<|Zb ?_
  obtain rfl:i=n:=by omega
  exact Zg<|dt (Yc (i:=97) J J J Hh Pf J J) J<|tt (Zm (i:=3) J J J J J (by decide) J Pf J J ⟨Zc J,Zr (i:=98) J Zi,trivial⟩ J hw trivial) J fun _ _=>Zf<|Za<|Zu<|Zv (.inl J) hsc _ _ (fun a w hs=>Qj hs Tryz.results165 (Yp (i:=3) J J Hh Pf J)) J trivial J (Xb 98 J J J Zj)
theorem Zox(v:Value)(zs:List (Int×SL))(hs:Sz 1000000 (Zw zs))(hl:zs.length≤1000):Cal Tryz.prog 116 #[v] [pp v zs] true (G:=Value) (fun r=>True) (fun r=> .agg #[.bool (decide (Qa (Zw zs)<0)),r]) (fun r=>[d9p r (Qa (Zw zs)).natAbs]):=by
 refine Yd Tryz.func116 J Tryz.ntmps116 J K1 ?_
 intro w0 sc hw hsc
 simp only [Zp,Zn]
 have hli:=Ya zs
 have hcb:∀k,bl (Qa ((Zw zs).take k)).natAbs≤1000000:=fun k=>Zct _ (hs.take k)
 refine Zb<|Zg<|tt (Zo (i:=2) J J J Tryz.zeroValue48 J J hw) J fun b _=>Zf<|Za<|Zb<|Zg<|dt (Oh (ivs:=[]) J trivial (fun a w hs=>b48_)) J<|tt (Zo (i:=97) J J J Tryz.zeroValue48 J J hw) J fun b_2 _=>tt (Zm (i:=97) J J J J J (by decide) J Pf J J ⟨Zc J,Zc J,trivial⟩ J hw trivial) J fun _ _=>Zf<|Za<|Zb<|Zb<|Zg<|as_ J J<|Zf<|Za<|Zl<|Ys (Nj 98 1 3 Dc)<|Ys (Po 98 J J pN)<|Nt [(0,_),(2,_),(3,_)] [(0,_),(1,_),(2,_)] (fun(q:Nat×Value)=>[(4,.int .i64 (q.1:Int))]) (fun(q:Nat×Value)=>[(97,box b_2 48 #[.bool (decide (Qa ((Zw zs).take q.1)<0)),q.2]),(98,d9p q.2 (Qa ((Zw zs).take q.1)).natAbs)]) (fun(q:Nat×Value)=>q.1≤zs.length) (fun(q:Nat×Value)=>zs.length-q.1) (0,.slice none 0 0) (by first | omega | (dsimp only<;>omega)) K4 K5 ?_
 rintro⟨i,vs⟩ hi
 dsimp only at hi
 simp only [List.cons_append,List.nil_append]
 have hci:=Nu zs i
 have hgc:=fun h=>Mn (p:=Zw zs) (k:=i) h
 have h1:=hcb i
 have h2:=hs i
 refine Zb<|Zb<|Zg<|mv J J<|mv J J<|dt (Zy J J (i:=1) J Zz Mj) J<|dt (Qb J J J) J<|Zf<|Za<|Zq J (fun h186=>?_) (fun h186=>?_)
 ·refine Zk<|Za<|Zb<|Zl<|Qs (fun _=>False) [(0,0),(1,0),(2,0),(3,0),(4,0),(5,1),(6,3)] (by kernel_rfl) ?_ ?_
  ·kernel_rfl
  exact r0' J J J J (st0 (Yc (i:=97) J J J Hh Pf J J))<|r0' J J J J (st0 (Ym J J))<|r0' J J J J (st0 (Ym J J))<|r0' J J J J (st0 (Yz (ii:=1) J J J J Zz Mj Pf J (by first | omega | (simp only [List.length_set];omega))))<|r0' J J J J (st0 (Xs (ii:=1) I0 J J J Zz pI (by first | omega | (simp only [List.length_set];omega))))<|r1' J J (Zh (n:=3) (r_gcd _ _ _ _ (by omega) (by rw [hci];omega)) J J J K2 cF71 (Zd 98 J J J (Oi 1 J J (Yv (by omega)) Ze)) J hw) fun v _=>r3' J J (Zm (i:=97) J J J J J (by decide) J Pf J J ⟨Zc J,Zr (i:=3) J Zi,trivial⟩ J hw trivial) fun _ _=>Og<|Ob<|Za<|Zg<|mv J J<|dt (Yt J J J ⟨by omega,by omega⟩) J<|as_ J J<|Zf<|Pr (Nk 3 98 J J J)<|Xq (i+1,v) (by first | omega | (dsimp only<;>omega)) (by first | omega | (dsimp only<;>omega)) K4 ⟨by rw [hgc (by omega),show(Zw zs).getD i 0=(zs.getD i I0).1 from hci.symm];rfl,by rw [hgc (by omega),show(Zw zs).getD i 0=(zs.getD i I0).1 from hci.symm];rfl,rfl,rfl,rfl,trivial⟩
 ·refine Yu<|Zs<|Zs<|Ox<|Za<|Zb ?_
  obtain rfl:i=zs.length:=by omega
  rw [List.take_of_length_le (by omega:(Zw zs).length≤zs.length)]
  exact Zg<|dt (Yc (i:=97) J J J Hh Pf J J) J<|tt (Zm (i:=2) J J J J J (by decide) J Pf J J ⟨Zc J,Zr (i:=98) J Zi,trivial⟩ J hw trivial) J fun _ _=>Zf<|Za<|Zu<|Zv (.inl J) hsc _ _ (fun a w hs=>Qj hs Tryz.results116 (Yp (i:=2) J J Hh Pf J)) J trivial J (Xb 98 J J J Zj)
theorem Iz(v:Value)(zs:List (Int×SL))(hs:Sz 1000000 (Zw zs))(hl:zs.length≤1000)(hc:zs.length≠0→Qa (Zw zs)≠0):Cal Tryz.prog 57 #[v] [pp v zs] true (G:=Value×List (Int×SL)) (fun r=>Zw r.2=Yx (Zw zs)) (fun r=>r.1) (fun r=>[pp r.1 r.2]):=by
 refine Yd Tryz.func57 J Tryz.ntmps57 J K1 ?_
 intro w0 sc hw hsc
 simp only [Zp,Zn]
 have hli:=Ya zs
 have hcb:bl (Qa (Zw zs)).natAbs≤1000000:=Zct _ hs
 refine Zb<|Zg<|as_ J J<|Zf<|Za<|Zb<|Zg<|mv J J<|tt (Zh (n:=2) (Zox _ _ hs hl) J J J K1 cF116 (Zd 1 J J J Ze) J hw) J fun v _=>tt (Zo (i:=3) J J J Tryz.zeroValue48 J J hw) J fun b _=>tt (Zm (i:=3) J J J J J (by decide) J Pf J J ⟨Zc J,Zr (i:=2) J Zi,trivial⟩ J hw trivial) J fun _ _=>Zf<|Za<|Zb<|Zg<|as_ J J<|Zf<|Za<|Zb<|Zb<|Zg<|as_ J J<|Zf<|Za<|Zl<|Ys (Nj 70 2 48 Cz)<|Ys (Lg qI 71)<|Nt [(0,_),(3,_)] [(0,_),(1,_),(2,_),(3,_)] (fun(q:Nat×Value×List (Int×SL))=>[(5,.int .i64 (q.1:Int)),(4,q.2.1)]) (fun(q:Nat×Value×List (Int×SL))=>[(70,osl 2 48 Cz q.2.1 q.2.2),(71,Zcw qI q.2.2)]) (fun(q:Nat×Value×List (Int×SL))=>(q.1≤zs.length)∧(Zw q.2.2=mk q.1 (fun t=>cf (Zw zs) t/Qa (Zw zs)))∧(q.2.2.length=q.1)) (fun(q:Nat×Value×List (Int×SL))=>zs.length-q.1) (0,.slice none 0 0,[]) ⟨by first | omega | (dsimp only<;>omega),rfl,rfl⟩ K4 K6 ?_
 rintro⟨i,vo,ws⟩ ⟨hi,hz,hzl⟩
 dsimp only at hi hz hzl
 simp only [List.cons_append,List.nil_append]
 have hci:=Nu zs i
 refine Zb<|Zb<|Zg<|mv J J<|mv J J<|dt (Zy J J (i:=1) J Zz Mj) J<|dt (Qb J J J) J<|Zf<|Za<|Zq J (fun h196=>?_) (fun h196=>?_)
 ·refine Zk<|Za<|Zb<|Zl<|Dd [(0,_),(3,_),(4,_),(5,_)] [(0,_),(70,_),(71,_),(1,_),(2,_),(3,_)] (fun(q:Value×Nat)=>[(6,.pointer (some ⟨q.2,0,none⟩))]) (fun(q:Value×Nat)=>[(83,d9p q.1 ((zs.getD i I0).1/Qa (Zw zs)).natAbs),(97,box q.2 48 #[.bool (decide ((zs.getD i I0).1/Qa (Zw zs)<0)),q.1])]) (fun(q:Value×Nat)=>True) K4 K6 ?_ ?_
  ·refine Nr [1,3] [12] (by kernel_rfl)<|Zx (n:=8) [(0,0),(1,0),(2,0),(3,0),(4,0)] (by kernel_rfl)<|r0' J J J J (stf (Ym J J) K2)<|r0' J J J J (stf (Ym J J) K2)<|r0' J J J J (stf (Yz (ii:=1) J J J J Zz Mj Pf J (by first | omega | (simp only [List.length_set];omega))) K2)<|r0' J J J J (stf (Xs (ii:=1) I0 J J J Zz pI (by first | omega | (simp only [List.length_set];omega))) K2)<|r0' J J J J (stf (Yc (i:=3) J J J Hh Pf J J) K2)<|Yr<|Zay (n:=7) 5 9 10 (by kernel_rfl) ?_ ?_ ?_
   ·refine Yo J J (Zh (n:=83) (Gw _ _ _ _ (by rw [hci];have:=hs i;omega) (by omega) (hc (by omega))) J J J K2 Ze6 (Oi 1 J J (Yv (by omega)) (Zd 2 J J J Ze)) J hw) fun g _=>Zx (n:=4) [(6,0),(7,0),(8,0)] (by kernel_rfl)<|r0' J J J J (stf (Ym J J) K2)<|r0' J J J J (stf (Yg J J J) K2)<|r0' J J J J (stf (Yg J J J) K2)<|Yr<|Pu (n:=3) 9 10 (by kernel_rfl) ?_ ?_
    ·exact Yo J J (Zt (i:=97) J J J Tryz.zeroValue48 J J hw K2) fun b_2 ho=>Zx (n:=0) [(10,1),(11,1),(12,3)] (by kernel_rfl)<|r1' J J (Zt (i:=99) J J J Tryz.zeroValue48 J J hw K2) fun b_3 ho2=>r1' J J (Zm (i:=97) J J J J J (by decide) J Pf J J ⟨Zc J,Zr (i:=83) J Zi,trivial⟩ J hw ho) fun _ _=>r3' J J (Zm (i:=99) J J J J J (by decide) J Pf J J ⟨Zc J,Zr (i:=84) J Zi,trivial⟩ J hw trivial) fun _ _=>Yr<|Yl (by kernel_rfl)<|Qv (_,_) trivial K5 K8
    ·exact Yo J J (Zt (i:=99) J J J Tryz.zeroValue48 J J hw K2) fun b_4 ho3=>Zx (n:=0) [(9,1),(11,1),(12,3)] (by kernel_rfl)<|r1' J J (Zt (i:=97) J J J Tryz.zeroValue48 J J hw K2) fun b_5 ho4=>r1' J J (Zm (i:=97) J J J J J (by decide) J Pf J J ⟨Zc J,Zr (i:=83) J Zi,trivial⟩ J hw ho4) fun _ _=>r3' J J (Zm (i:=99) J J J J J (by decide) J Pf J J ⟨Zc J,Zr (i:=84) J Zi,trivial⟩ J hw trivial) fun _ _=>Yr<|Yl (by kernel_rfl)<|Qv (_,_) trivial K5 K8
   ·refine Yo J J (Zt (i:=97) J J J Tryz.zeroValue48 J J hw K2) fun b_6 ho5=>Pu (n:=6) 5 10 (by kernel_rfl) ?_ ?_
    ·exact Yo J J (Zh (n:=83) (Gw _ _ _ _ (by rw [hci];have:=hs i;omega) (by omega) (hc (by omega))) J J J K2 Ze6 (Oi 1 J J (Yv (by omega)) (Zd 2 J J J Ze)) J hw) fun g_2 _=>Zx (n:=0) [(6,0),(7,0),(8,0),(10,1),(11,1),(12,3)] (by kernel_rfl)<|r0' J J J J (stf (Ym J J) K2)<|r0' J J J J (stf (Yg J J J) K2)<|r0' J J J J (stf (Yg J J J) K2)<|r1' J J (Zt (i:=99) J J J Tryz.zeroValue48 J J hw K2) fun b_7 ho6=>r1' J J (Zm (i:=97) J J J J J (by decide) J Pf J J ⟨Zc J,Zr (i:=83) J Zi,trivial⟩ J hw ho5) fun _ _=>r3' J J (Zm (i:=99) J J J J J (by decide) J Pf J J ⟨Zc J,Zr (i:=84) J Zi,trivial⟩ J hw trivial) fun _ _=>Yr<|Yl (by kernel_rfl)<|Qv (_,_) trivial K5 K8
    ·exact Yo J J (Zt (i:=99) J J J Tryz.zeroValue48 J J hw K2) fun b_8 ho7=>Zx (n:=0) [(5,1),(6,0),(7,0),(8,0),(11,1),(12,3)] (by kernel_rfl)<|r1' J J (Zh (n:=83) (Gw _ _ _ _ (by rw [hci];have:=hs i;omega) (by omega) (hc (by omega))) J J J K2 Ze6 (Oi 1 J J (Yv (by omega)) (Zd 2 J J J Ze)) J hw) fun g_3 _=>r0' J J J J (stf (Ym J J) K2)<|r0' J J J J (stf (Yg J J J) K2)<|r0' J J J J (stf (Yg J J J) K2)<|r1' J J (Zm (i:=97) J J J J J (by decide) J Pf J J ⟨Zc J,Zr (i:=83) J Zi,trivial⟩ J hw ho5) fun _ _=>r3' J J (Zm (i:=99) J J J J J (by decide) J Pf J J ⟨Zc J,Zr (i:=84) J Zi,trivial⟩ J hw trivial) fun _ _=>Yr<|Yl (by kernel_rfl)<|Qv (_,_) trivial K5 K8
   ·refine Yo J J (Zt (i:=99) J J J Tryz.zeroValue48 J J hw K2) fun b_9 ho8=>Pu (n:=6) 5 9 (by kernel_rfl) ?_ ?_
    ·exact Yo J J (Zh (n:=83) (Gw _ _ _ _ (by rw [hci];have:=hs i;omega) (by omega) (hc (by omega))) J J J K2 Ze6 (Oi 1 J J (Yv (by omega)) (Zd 2 J J J Ze)) J hw) fun g_4 _=>Zx (n:=0) [(6,0),(7,0),(8,0),(9,1),(11,1),(12,3)] (by kernel_rfl)<|r0' J J J J (stf (Ym J J) K2)<|r0' J J J J (stf (Yg J J J) K2)<|r0' J J J J (stf (Yg J J J) K2)<|r1' J J (Zt (i:=97) J J J Tryz.zeroValue48 J J hw K2) fun b_10 ho9=>r1' J J (Zm (i:=97) J J J J J (by decide) J Pf J J ⟨Zc J,Zr (i:=83) J Zi,trivial⟩ J hw ho9) fun _ _=>r3' J J (Zm (i:=99) J J J J J (by decide) J Pf J J ⟨Zc J,Zr (i:=84) J Zi,trivial⟩ J hw trivial) fun _ _=>Yr<|Yl (by kernel_rfl)<|Qv (_,_) trivial K5 K8
    ·exact Yo J J (Zt (i:=97) J J J Tryz.zeroValue48 J J hw K2) fun b_11 ho10=>Zx (n:=0) [(5,1),(6,0),(7,0),(8,0),(11,1),(12,3)] (by kernel_rfl)<|r1' J J (Zh (n:=83) (Gw _ _ _ _ (by rw [hci];have:=hs i;omega) (by omega) (hc (by omega))) J J J K2 Ze6 (Oi 1 J J (Yv (by omega)) (Zd 2 J J J Ze)) J hw) fun g_5 _=>r0' J J J J (stf (Ym J J) K2)<|r0' J J J J (stf (Yg J J J) K2)<|r0' J J J J (stf (Yg J J J) K2)<|r1' J J (Zm (i:=97) J J J J J (by decide) J Pf J J ⟨Zc J,Zr (i:=83) J Zi,trivial⟩ J hw ho10) fun _ _=>r3' J J (Zm (i:=99) J J J J J (by decide) J Pf J J ⟨Zc J,Zr (i:=84) J Zi,trivial⟩ J hw trivial) fun _ _=>Yr<|Yl (by kernel_rfl)<|Qv (_,_) trivial K5 K8
  ·rintro⟨qv,b6⟩ -
   simp only [List.cons_append,List.nil_append]
   refine e_ex (Oq 83 J Zi) (fun sl hsl=>?_)
   subst hsl
   exact Zg<|mv J J<|dt (Yc (i:=97) J J J Hh Pf J J) J<|tt (Pt (i:=4) (ivs:=[(0,_)]) (enc:=Cz) [((zs.getD i I0).1/Qa (Zw zs),sl)] J J J K2 Mj Tryz.ti48 J J J J J J pI.cells J J hw) J fun v_2 _=>tt (Kt (i:=70) (j:=4) (by_:=32) J J J J J J (by decide) J (Yn pI) Mj Tryz.ti48 J pI J J J (by simp;omega) (by decide) J hw) J fun v_3 _=>as_ J J<|Zf<|Ob<|Za<|Zg<|mv J J<|dt (Yt J J J ⟨by omega,by omega⟩) J<|as_ J J<|Zf<|Pr (Oo (q:=qI) (z:=((zs.getD i I0).1/Qa (Zw zs),sl)) 71 83 71 J J J J J)<|Xq (i+1,_,ws ++ [((zs.getD i I0).1/Qa (Zw zs),sl)]) ⟨by first | omega | (dsimp only<;>omega),by rw [Hd,Bo,hz];dsimp only;rw [Nu],by simp [hzl]⟩ (by first | omega | (dsimp only<;>omega)) K4 K6
 ·exact Yu<|Zs<|Zs<|Ox<|Za<|Zb<|Ys (Po 70 J J pI)<|Ys (Lu 70 71 72 J J J J)<|Zg<|mv J J<|as_ J J<|Zf<|Za<|Zu<|Zv (.inl J) hsc (_,ws) _ (fun a w hs=>Qj hs Tryz.results57 J) J (by rw [hz,show i=(Zw zs).length by omega,Znh (Zw zs) (· / Qa (Zw zs))]<;>rfl) J (Xb 72 J J J Zj)
theorem rp_mul(v u:Value)(zs ys:List (Int×SL))(hs:Sz 1000000 (Zw zs))(hl:zs.length≤60)(ht:Sz 1000000 (Zw ys))(hk:ys.length≤60):Cal Tryz.prog 42 #[v,u] [pp v zs,pp u ys] true (G:=Value×List (Int×SL)) (fun r=>Zw r.2=Nv (Zw zs) (Zw ys)) (fun r=>r.1) (fun r=>[pp r.1 r.2]):=by
 refine Yd Tryz.func42 J Tryz.ntmps42 J K2 ?_
 intro w0 sc hw hsc
 simp only [Zp,Zn]
 have hli:=Ya zs
 have hli2:=Ya ys
 have htb:∀i k,bl (cf (Zw zs) k*cf (Zw ys) (i-k)).natAbs≤2000000:=fun i k=>by have:=Qh (cf (Zw zs) k) (cf (Zw ys) (i-k));have:=hs k;have:=ht (i-k);omega
 have hsb:∀i n,n≤1000→bl (Qp (fun k=>cf (Zw zs) k*cf (Zw ys) (i-k)) n).natAbs≤2000010:=fun i n hn=>bl_sumn (fun t _=>htb i t) (by omega)
 refine Zb<|Zg<|as_ J J<|Zf<|Za<|Zb<|Zg<|as_ J J<|Zf<|Za<|Zb<|Zb<|Zg<|as_ J J<|Zf<|Za<|Zl<|Ys (Nj 70 2 48 Cz)<|Ys (Lg qI 71)<|Nt [(0,_),(1,_)] [(0,_),(1,_),(2,_)] (fun(q:Nat×Value×List (Int×SL))=>[(6,.int .i64 (q.1:Int)),(5,q.2.1)]) (fun(q:Nat×Value×List (Int×SL))=>[(70,osl 2 48 Cz q.2.1 q.2.2),(71,Zcw qI q.2.2)]) (fun(q:Nat×Value×List (Int×SL))=>(q.1≤(zs.length+ys.length-1))∧(Zw q.2.2=mk q.1 (fun t=>Qp (fun a9=>cf (Zw zs) a9*cf (Zw ys) (t-a9)) (t+1)))∧(q.2.2.length=q.1)) (fun(q:Nat×Value×List (Int×SL))=>(zs.length+ys.length-1)-q.1) (0,.slice none 0 0,[]) ⟨by first | omega | (dsimp only<;>omega),rfl,rfl⟩ K4 K5 ?_
 rintro⟨i,vo,ws⟩ ⟨hi,hz,hzl⟩
 dsimp only at hi hz hzl
 simp only [List.cons_append,List.nil_append]
 refine Zb<|Zb<|Zg<|mv J J<|mv J J<|dt (Zy J J (i:=1) J Zz Mj) J<|mv J J<|dt (Zy J J (i:=2) J Zz Mj) J<|dt (Yt J J J ⟨by omega,by omega⟩) J<|dt (Qg J J J ⟨by omega,by omega⟩) J<|dt (Qb J J J) J<|Zf<|Za<|Zq J (fun h124=>?_) (fun h124=>?_)
 ·refine Zk<|Za<|Zb<|Zl<|Zb<|Zg<|dt (Oh (ivs:=[]) J trivial (fun a w hs=>b48_)) J<|tt (Zo (i:=97) J J J Tryz.zeroValue48 J J hw) J fun b _=>tt (Zm (i:=97) J J J J J (by decide) J Pf J J ⟨Zc J,Zc J,trivial⟩ J hw trivial) J fun _ _=>Zf<|Za<|Zb<|Zb<|Zg<|as_ J J<|Zf<|Za<|Zl<|Ys (Nj 98 1 3 Dc)<|Ys (Po 98 J J pN)<|Nt [(0,_),(1,_),(5,_),(6,_),(7,_)] [(0,_),(70,_),(71,_),(1,_),(2,_)] (fun(q:Nat×Value)=>[(8,.int .i64 (q.1:Int))]) (fun(q:Nat×Value)=>[(97,box b 48 #[.bool (decide (Qp (fun a9=>cf (Zw zs) a9*cf (Zw ys) (i-a9)) q.1<0)),q.2]),(98,d9p q.2 (Qp (fun a9=>cf (Zw zs) a9*cf (Zw ys) (i-a9)) q.1).natAbs)]) (fun(q:Nat×Value)=>q.1≤i+1) (fun(q:Nat×Value)=>i+1-q.1) (0,.slice none 0 0) (by first | omega | (dsimp only<;>omega)) K6 K7 ?_
  rintro⟨k,vs⟩ hk1
  dsimp only at hk1
  simp only [List.cons_append,List.nil_append]
  have h1:=hsb i k
  have h2:=htb i k
  have h3:=hs k
  have h4:=ht (i-k)
  refine Zb<|Zb<|Zg<|mv J J<|mv J J<|dt (De J J J) J<|Zf<|Za<|Zq J (fun h126=>?_) (fun h126=>?_)
  ·refine Zk<|Za<|Zb<|Zl<|Qs (fun _=>False) [(0,0),(1,0),(2,0),(4,0),(5,0),(6,0),(7,0),(3,1),(8,1),(9,1),(10,1),(11,3)] (by kernel_rfl) ?_ ?_
   ·kernel_rfl
   exact r0' J J J J (st0 (Yc (i:=97) J J J Hh Pf J J))<|r0' J J J J (st0 (Ym J J))<|r0' J J J J (st0 (Ym J J))<|r0' J J J J (st0 (Ym J J))<|r0' J J J J (st0 (Ym J J))<|r0' J J J J (st0 (Ym J J))<|r0' J J J J (st0 (Qg J J J ⟨by omega,by omega⟩))<|r1' J J (Zh (n:=3) (Zg5 _ _ _ k J (by omega)) J J J K2 Zh7 (Zd 1 J J J Ze) J hw) fun v _=>r1' J J (Zh (n:=4) (Zg5 _ _ _ (i-k) (by omega) (by omega)) J J J K2 Zh7 (Zd 2 J J J Ze) J hw) fun v_2 _=>r1' J J (Zh (n:=5) (Zez _ _ _ _ (by omega) (by omega)) J J J K2 Zuk (Zd 3 J J J (Zd 4 J J J Ze)) J hw) fun v_3 _=>r1' J J (Zh (n:=6) (Zvp _ _ _ _ (by omega) (by omega)) J J J K2 cF37 (Zd 98 J J J (Zd 5 J J J Ze)) J hw) fun v_4 _=>r3' J J (Zm (i:=97) J J J J J (by decide) J Pf J J ⟨Zc J,Zr (i:=6) J Zi,trivial⟩ J hw trivial) fun _ _=>Og<|Ob<|Za<|Zg<|mv J J<|dt (Yt J J J ⟨by omega,by omega⟩) J<|as_ J J<|Zf<|Pr (Nk 6 98 J J J)<|Xq (k+1,v_4) (by first | omega | (dsimp only<;>omega)) (by first | omega | (dsimp only<;>omega)) K6 ⟨by rw [Xv];rfl,by rw [Xv];rfl,rfl,rfl,rfl,rfl,rfl,trivial⟩
  ·refine Yu<|Zs<|Zs<|Ox<|Za ?_
   obtain rfl:k=i+1:=by omega
   refine e_ex (Oq 98 J Zi) (fun sl hsl=>?_)
   subst hsl
   exact Zg<|mv J J<|dt (Yc (i:=97) J J J Hh Pf J J) J<|tt (Pt (i:=7) (ivs:=[(0,_)]) (enc:=Cz) [(Qp (fun a9=>cf (Zw zs) a9*cf (Zw ys) (i-a9)) (i+1),sl)] J J J K2 Mj Tryz.ti48 J J J J J J pI.cells J J hw) J fun v_5 _=>tt (Kt (i:=70) (j:=7) (by_:=32) J J J J J J (by decide) J (Yn pI) Mj Tryz.ti48 J pI J J J (by simp;omega) (by decide) J hw) J fun v_6 _=>as_ J J<|Zf<|Ob<|Za<|Zg<|mv J J<|dt (Yt J J J ⟨by omega,by omega⟩) J<|as_ J J<|Zf<|Pr (Oo (q:=qI) (z:=(Qp (fun a9=>cf (Zw zs) a9*cf (Zw ys) (i-a9)) (i+1),sl)) 71 98 71 J J J J J)<|Xq (i+1,_,ws ++ [(Qp (fun a9=>cf (Zw zs) a9*cf (Zw ys) (i-a9)) (i+1),sl)]) ⟨by first | omega | (dsimp only<;>omega),by rw [Hd,Bo,hz],by simp [hzl]⟩ (by first | omega | (dsimp only<;>omega)) K4 K5
 ·refine Yu<|Zs<|Zs<|Ox<|Za<|Zb<|Zb<|Zg<|mv J J<|dt (Zy J J (i:=1) J Zz Mj) J<|dt (Pi J J J) J<|mv J J<|Qx (d:=43) J (fun s131=>?_) (fun s131=>?_)
  ·refine gsk J J J J J<|gsk J J J J J<|gsk J J J J J<|dt (Xh J J J) J<|Zf<|Za<|Nf J<|Zb<|Zg<|as_ J J<|Zf<|Za<|Zu<|Xe<|Pr (Fm 62) ?_
   have hp0:Nv (Zw zs) (Zw ys)=[]:=Cm (by first | (left;omega) | (right;omega))
   exact Zv (.inl J) hsc (.slice none 0 0,[]) _ (fun a w hs=>Qj hs Tryz.results42 J) J (by rw [hp0]<;>rfl) J (Xb 62 J J J Zj)
  ·refine gdt (Ym J J) J J J J<|gdt (Zy J J (i:=2) J Zz Mj) J J J J<|gdt (Pi J J J) J J J J<|dt (Yh J J J) J<|Zf<|Za<|Zq J (fun h131=>?_) (fun h131=>?_)
   ·refine Zb<|Zg<|as_ J J<|Zf<|Za<|Zu<|Xe<|Pr (Fm 62) ?_
    have hp0:Nv (Zw zs) (Zw ys)=[]:=Cm (by first | (left;omega) | (right;omega))
    exact Zv (.inl J) hsc (.slice none 0 0,[]) _ (fun a w hs=>Qj hs Tryz.results42 J) J (by rw [hp0]<;>rfl) J (Xb 62 J J J Zj)
   ·exact Zk<|Za<|Zb<|Ys (Po 70 J J pI)<|Ys (Lu 70 71 72 J J J J)<|Zg<|mv J J<|tt (Zh (n:=8) (Zba _ _ (by rw [hz];exact Ax fun t h=>by have:=hsb t (t+1) (by omega);omega)) J J J K1 cF89 (Zd 72 J J J Ze) J hw) J fun g hg=>as_ J J<|Zf<|Za<|Zu<|Zv (.inl J) hsc _ _ (fun a w hs=>Qj hs Tryz.results42 J) J (by rw [hg,hz,show i=(Zw zs).length+(Zw ys).length-1 by omega,pmul_mk]) J (Xb 8 J J J Zj)
theorem r_same(v u:Value)(r t:List (Bool×ByteArray)):Cal Tryz.prog 17 #[v,u] [slp 2 Zf0 v r,slp 2 Zf0 u t] false (G:=Unit) (fun _=>True) (fun _=> .bool (decide (r=t))) (fun _=>[]):=by
 refine Yd Tryz.func17 J Tryz.ntmps17 J K2 ?_
 intro w0 sc hw hsc
 simp only [Zp,Zn]
 refine Nw (Hz (i:=1) J Zi) fun hlr=>Nw (Hz (i:=2) J Zi) fun hlt=>Zb<|Zg<|as_ J J<|Zf<|Za<|Zb<|Zb<|Zg<|mv J J<|dt (Zy J J (i:=1) J Zi Qn) J<|mv J J<|dt (Zy J J (i:=2) J Zi Qn) J<|dt (Qd J J J) J<|Zf<|Za<|Zq J (fun h78=>?_) (fun h78=>?_)
 ·exact Zb<|Zg<|as_ J J<|Zf<|Za<|Zu<|Xe<|Zv (.inl J) hsc () _ (fun a w hs=>Qj hs Tryz.results17 J) (by rw [decide_eq_false (fun e=>by subst e;exact h78 rfl)]) trivial J Zj
 ·have hle:r.length=t.length:=by omega
  refine Zk<|Za<|Zb<|Zb<|Zg<|as_ J J<|Zf<|Za<|Zl<|Nt [(0,_),(1,_)] [(0,_),(1,_),(2,_)] (fun(k:Nat)=>[(5,.int .i64 (k:Int))]) (fun(k:Nat)=>[]) (fun(k:Nat)=>(k≤r.length)∧(r.take k=t.take k)) (fun(k:Nat)=>r.length-k) 0 ⟨by first | omega | (dsimp only<;>omega),by simp⟩ K3 K3 ?_
  rintro k ⟨hk,ht⟩
  simp only [List.cons_append,List.nil_append]
  refine Zb<|Zb<|Zg<|mv J J<|mv J J<|dt (Zy J J (i:=1) J Zi Qn) J<|dt (Qb J J J) J<|Zf<|Za<|Zq J (fun h81=>?_) (fun h81=>?_)
  ·refine Zk<|Za<|Zb<|Zl<|Zb<|Qs (fun _=>False) [(0,0),(1,0),(2,0),(3,0),(4,0),(5,0),(6,0),(7,0),(8,0)] (by kernel_rfl) ?_ ?_
   ·kernel_rfl
   refine r0' J J J J (st0 (Ym J J))<|r0' J J J J (st0 (Ym J J))<|r0' J J J J (st0 (Yz (ii:=1) J J J J Zi Qn Yk J (by first | omega | (simp only [List.length_set];omega))))<|r0' J J J J (st0 (Xs (ii:=1) (false,⟨#[]⟩) J J J Zi pW (by first | omega | (simp only [List.length_set];omega))))<|r0' J J J J (st0 (Ym J J))<|r0' J J J J (st0 (Ym J J))<|r0' J J J J (st0 (Yz (ii:=2) J J J J Zi Qn Yk J (by first | omega | (simp only [List.length_set];omega))))<|r0' J J J J (st0 (Xs (ii:=2) (false,⟨#[]⟩) J J J Zi pW (by first | omega | (simp only [List.length_set];omega))))<|r0' J J J J (st0 (Zpc J J J eg31 (fun w=>Zv7 w _ _ _ _)))<|Og<|Za<|Mq J (fun h82=>?_) (fun h82=>?_)
   ·exact Zb<|Zg<|as_ J J<|Zf<|Za<|Zu<|Iw<|Xe<|Xe<|Iw<|Xe<|Zv (.inl J) hsc () _ (fun a w hs=>Qj hs Tryz.results17 J) (by rw [decide_eq_false (fun e=>by rw [e]at h82;simp [Cs]at h82)]) trivial J Zj
   ·exact Zk<|Ob<|Za<|Zg<|mv J J<|dt (Yt J J J ⟨by omega,by omega⟩) J<|as_ J J<|Zf<|Xq (k+1) ⟨by first | omega | (dsimp only<;>omega),by rw [Om (false,⟨#[]⟩) _ _ (by omega),Om (false,⟨#[]⟩) _ _ (by omega),ht,Zws (x:=r.getD k (false,⟨#[]⟩)) (y:=t.getD k (false,⟨#[]⟩)) (by simpa using h82)]⟩ (by first | omega | (dsimp only<;>omega)) K3 K3
  ·exact Yu<|Zs<|Zs<|Ox<|Za<|Zb<|Zg<|as_ J J<|Zf<|Za<|Zu<|Zv (.inl J) hsc () _ (fun a w hs=>Qj hs Tryz.results17 J) (by rw [decide_eq_true (by rw [show k=r.length by omega,List.take_length,hle,List.take_length]at ht;exact ht)]) trivial J Zj
theorem Am(v u:Value)(xs ys:List Int):Cal Tryz.prog 17 #[v,u] [slp 2 wv v xs,slp 2 wv u ys] false (G:=Unit) (fun _=>True) (fun _=> .bool (decide (xs=ys))) (fun _=>[]):=by
 have h:=((r_same v u (xs.map wr) (ys.map wr)).imp (Zqe v xs) (fun _ h=>h)).imp2 (Zqe u ys) (fun _ h=>h)
 rw [decide_eq_decide.2 (Zo7 xs ys)]at h;exact h
theorem Zcm(v:Value)(r:List (Bool×ByteArray)):Cal Tryz.prog 13 #[v] [slp 2 Zf0 v r] false (G:=Unit) (fun _=>True) (fun _=> .bool (okP r)) (fun _=>[]):=by
 refine Yd Tryz.func13 J Tryz.ntmps13 J K1 ?_
 intro w0 sc hw hsc
 simp only [Zp,Zn]
 refine Nw (Hz (i:=1) J Zi) fun hlen=>Zb<|Zg<|as_ J J<|Zf<|Za<|Zb<|Zb<|Zg<|as_ J J<|Zf<|Za<|Zl<|Nt [(0,_)] [(0,_),(1,_)] (fun(k:Nat)=>[(3,.int .i64 (k:Int))]) (fun(k:Nat)=>[]) (fun(k:Nat)=>(k≤r.length)∧((r.take k).all (fun w=>okW w.1 w.2)=true)) (fun(k:Nat)=>r.length-k) 0 ⟨by first | omega | (dsimp only<;>omega),by simp⟩ K2 K2 ?_
 rintro k ⟨hk,ha⟩
 simp only [List.cons_append,List.nil_append]
 refine Zb<|Zb<|Zg<|mv J J<|mv J J<|dt (Zy J J (i:=1) J Zi Qn) J<|dt (Qb J J J) J<|Zf<|Za<|Zq J (fun h30=>?_) (fun h30=>?_)
 ·refine Zk<|Za<|Zb<|Zl<|Zb<|Zg<|mv J J<|mv J J<|dt (Yz (ii:=1) J J J J Zi Qn Yk J (by first | omega | (simp only [List.length_set];omega))) J<|dt (Xs (ii:=1) (false,⟨#[]⟩) J J J Zi pW (by first | omega | (simp only [List.length_set];omega))) J<|tt (Zh (n:=1) (r_valid _ _) J J J K1 cF35 Ze J hw) J fun _ _=>dt (Xo J J) J<|Zf<|Za<|Mq J (fun h31=>?_) (fun h31=>?_)
  ·exact Zb<|Zg<|as_ J J<|Zf<|Za<|Zu<|Iw<|Xe<|Xe<|Iw<|Xe<|Zv (.inl J) hsc () _ (fun a w hs=>Qj hs Tryz.results13 J) (by rw [Zrk (Yv (i:=k) (d:=(false,⟨#[]⟩)) (by omega)) (by simpa using h31)]) trivial J Zj
  ·exact Zk<|Ob<|Za<|Zg<|mv J J<|dt (Yt J J J ⟨by omega,by omega⟩) J<|as_ J J<|Zf<|Xq (k+1) ⟨by first | omega | (dsimp only<;>omega),by rw [Om (false,⟨#[]⟩) _ _ (by omega),List.all_append,ha];simpa using h31⟩ (by first | omega | (dsimp only<;>omega)) K2 K2
 ·refine Yu<|Zs<|Zs<|Ox<|Za<|Zb ?_
  obtain rfl:k=r.length:=by omega
  rw [List.take_length]at ha
  refine Zg<|mv J J<|dt (Zy J J (i:=1) J Zi Qn) J<|dt (De J J J) J<|mv J J<|Qx (d:=19) J (fun s35=>?_) (fun s35=>?_)
  ·refine gdt (Ym J J) J J J J<|gdt (Zy J J (i:=1) J Zi Qn) J J J J<|gdt (Pi J J J) J J J J<|gdt (Ym J J) J J J J<|Qx (d:=23) J (fun s35_2=>?_) (fun s35_2=>?_)
   ·exact gsk J J J J J<|gsk J J J J J<|gsk J J J J J<|gsk J J J J J<|gsk J J J J J<|gsk J J J J J<|gsk J J J J J<|gsk J J J J J<|gsk J J J J J<|gdt (Xh J J J) J J J J<|dt (Xh J J J) J<|as_ J J<|Zf<|Za<|Zu<|Zv (.inl J) hsc () _ (fun a w hs=>Qj hs Tryz.results13 J) (by rw [Zhj ha];first | (rw [decide_eq_false (show ¬r.length≤25 by omega)];rfl) | (rw [decide_eq_true (show r.length≤25 by omega),decide_eq_true (show r.length=0 by omega)];rfl) | (rw [decide_eq_true (show r.length≤25 by omega),decide_eq_false (show ¬r.length=0 by omega)];rfl)) trivial J Zj
   ·exact gdt (Ym J J) J J J J<|gdt (Ym J J) J J J J<|gdt (Zy J J (i:=1) J Zi Qn) J J J J<|gdt (Qg J J J ⟨by omega,by omega⟩) J J J J<|gdt (Yz (ii:=1) (i:=(r.length-1)) J J J J Zi Qn Yk (by omega) (by omega)) J J J J<|gdt (d_fae (ii:=1) J J J Zi (by omega) Zca J zT9 J) J J J J<|gdt (d_ldf (ii:=1) (false,⟨#[]⟩) J J J Zi (by omega) iA9 J) J J J J<|gdt (Ca J J uT9) J J J J<|gdt (On J J J) J J J J<|gdt (Yh J J J) J J J J<|dt (Xh J J J) J<|as_ J J<|Zf<|Za<|Zu<|Zv (.inl J) hsc () _ (fun a w hs=>Qj hs Tryz.results13 J) (by rw [Zhj ha];first | (rw [decide_eq_false (show ¬r.length≤25 by omega)];rfl) | (rw [decide_eq_true (show r.length≤25 by omega),decide_eq_true (show r.length=0 by omega)];rfl) | (rw [decide_eq_true (show r.length≤25 by omega),decide_eq_false (show ¬r.length=0 by omega)];rfl)) trivial J Zj
  ·exact gsk J J J J J<|gsk J J J J J<|gsk J J J J J<|gsk J J J J J<|Zji J J J<|Zji J J J<|Zji J J J<|Zji J J J<|Zji J J J<|Zji J J J<|Zji J J J<|Zji J J J<|Zji J J J<|gsk J J J J J<|dt (Yh J J J) J<|as_ J J<|Zf<|Za<|Zu<|Zv (.inl J) hsc () _ (fun a w hs=>Qj hs Tryz.results13 J) (by rw [Zhj ha];first | (rw [decide_eq_false (show ¬r.length≤25 by omega)];rfl) | (rw [decide_eq_true (show r.length≤25 by omega),decide_eq_true (show r.length=0 by omega)];rfl) | (rw [decide_eq_true (show r.length≤25 by omega),decide_eq_false (show ¬r.length=0 by omega)];rfl)) trivial J Zj
set_option maxHeartbeats 4000000 in
theorem rp_rest(v u:Value)(zs ys:List (Int×SL))(hl:zs.length≤30)(hk:ys.length≤30)(hy0:0<ys.length)(ht:Tr (Zw ys))(hF:ys.length≤zs.length→msz (Zw zs)+(zs.length-ys.length+1)*(msz (Zw ys)+1)≤900000):Cal Tryz.prog 160 #[v,u] [pp v zs,pp u ys] true (G:=Value×List (Int×SL)) (fun r=>Zw r.2=Ph (Zw zs) (Zw ys)) (fun r=>r.1) (fun r=>[pp r.1 r.2]):=by
 refine Yd Tryz.func160 J Tryz.ntmps160 J K2 ?_
 intro w0 sc hw hsc
 simp only [Zp,Zn]
 have hli:=Ya zs
 have hli2:=Ya ys
 have hlead:(cf (Zw ys) ((Zw ys).length-1))≠0:=ht.mem (fun e=>by rw [←hli2,e]at hy0;simp at hy0)
 refine Nw (Hz (i:=1) J Zz) fun hlen=>Nw (Hz (i:=2) J Zz) fun hlen2=>Zb<|Zg<|as_ J J<|Zf<|Za<|Zb<|Zb<|Zg<|mv J J<|dt (Zy J J (i:=1) J Zz Mj) J<|mv J J<|dt (Zy J J (i:=2) J Zz Mj) J<|dt (Qb J J J) J<|Zf<|Za<|Zq J (fun h205=>?_) (fun h205=>?_)
 ·exact Zb<|Zg<|mv J J<|as_ J J<|Zf<|Za<|Zu<|Xe<|Zv (.inl J) hsc (_,zs) _ (fun a w hs=>Qj hs Tryz.results160 J) J (by unfold Ph;rw [if_pos (by omega)]) J (Xb 1 J J J Zj)
 ·have hF2:=hF (by omega)
  have hF3:msz (Zw zs)+((Zw zs).length-(Zw ys).length+1)*(msz (Zw ys)+1)≤900000:=by rw [hli,hli2];exact hF2
  have hN:1≤zs.length-ys.length+1:=by omega
  have hB:=Nat.mul_le_mul_right (msz (Zw ys)+1) hN
  rw [Nat.one_mul]at hB
  have hcl:=Nu ys (ys.length-1)
  have hci2:(ys.getD (ys.length-1) I0).1=(cf (Zw ys) ((Zw ys).length-1)):=by rw [hcl,hli2]
  have hsy:=Lc (Zw ys)
  have hlq:=hsy ((Zw ys).length-1)
  have hpw:=Zkf hlq (zs.length-ys.length+1)
  have hpw2:(zs.length-ys.length+1)*msz (Zw ys)≤(zs.length-ys.length+1)*(msz (Zw ys)+1):=Nat.mul_le_mul_left _ (by omega)
  refine Zk<|Za<|Zb<|Zg<|mv J J<|mv J J<|dt (Zy J J (i:=2) J Zz Mj) J<|dt (Qg J J J ⟨by omega,by omega⟩) J<|dt (Yz (ii:=2) (i:=(ys.length-1)) J J J J Zz Mj Pf (by omega) (by omega)) J<|dt (Xs (ii:=2) I0 J J J Zz pI (by omega)) J<|tt (Zo (i:=96) J J J Tryz.zeroValue48 J J hw) J fun b _=>tt (Zm (i:=96) J J J J J (by decide) J Pf J J ⟨Zc J,Zc J,trivial⟩ J hw trivial) J fun _ _=>Zf<|Za<|Zb<|Zg<|mv J J<|dt (Yc (i:=96) J J J Hh Pf J J) J<|mv J J<|dt (Zy J J (i:=1) J Zz Mj) J<|mv J J<|dt (Zy J J (i:=2) J Zz Mj) J<|dt (Qg J J J ⟨by omega,by omega⟩) J<|dt (Yt J J J ⟨by omega,by omega⟩) J<|tt (Zh (n:=3) (Zvn _ _ _ (zs.length-ys.length+1) (by omega) (by omega) (by rw [hci2];omega)) J J J K2 cF165 (Oi 2 J J (Yv (i:=ys.length-1) (by omega)) Ze) J hw) J fun v _=>tt (Zh (n:=80) (Zg4 _ _ _ _ ((Lc _).mono (by omega)) (by omega) (by rw [hci2];omega)) J J J K2 cF56 (Zd 1 J J J (Zd 3 J J J Ze)) J hw) J fun g hg=>as_ J J<|Zf<|Za<|Zb<|Zl ?_
  refine Nt [(1,_),(5,_)] [(0,_),(1,_),(2,_),(96,_),(3,_)] (fun(q:Nat×List (Int×SL)×Value)=>[(6,q.2.2)]) (fun(q:Nat×List (Int×SL)×Value)=>[(80,pp q.2.2 q.2.1)]) (fun(q:Nat×List (Int×SL)×Value)=>(q.1≤zs.length-ys.length+1)∧(Fd (Zw zs) (Zw ys) (Zw q.2.1) q.1)) (fun(q:Nat×List (Int×SL)×Value)=>zs.length-ys.length+1-q.1) (0,_,_) ⟨Nat.zero_le _,by dsimp only;rw [hg,hci2,←hli,←hli2];exact Zi0⟩ K3 K6 ?_
  rintro⟨j,ws,vr⟩ ⟨hj,hI⟩
  dsimp only at hj hI
  simp only [List.cons_append,List.nil_append]
  have hlw:=Ya ws
  have hwl:=Zko hI
  refine Zb<|Zb<|Zg<|mv J J<|dt (Zy J J (i:=80) J Zz Mj) J<|mv J J<|dt (Zy J J (i:=2) J Zz Mj) J<|dt (Lq J J J) J<|Zf<|Za<|Zq J (fun h210=>?_) (fun h210=>?_)
  ·have hR0:(Zw ys).length≤(Zw ws).length:=by omega
   obtain⟨g1,g2,g3,hI2⟩:=Zoz (by omega) (by omega) hlead (by omega) hI hR0
   have hst:=Zi1 hlead hI2 (by omega) hR0 g3
   have hqe:=Zd0 hlead hI2 (by omega) hR0 g3
   have hsR:=Zo0 (by omega) hI
   have hsw:Sz 1000000 (Zw ws):=hsR.mono (by omega)
   have hcw:=Nu ws (ws.length-1)
   have hcqb:bl (cf (Zw ws) ((Zw ws).length-1)/(cf (Zw ys) ((Zw ys).length-1))).natAbs≤900001:=by have:=Zt5 hqe (Fh (Zw zs) (Zw ys) _ _) hlq;have h7:=restq_b (p:=Zw zs) (q:=Zw ys) (R:=Zw ws) (by omega) (by omega) g3;omega
   have hcqa:(ws.getD (ws.length-1) I0).1/(ys.getD (ys.length-1) I0).1=(cf (Zw ws) ((Zw ws).length-1)/(cf (Zw ys) ((Zw ys).length-1))):=by rw [hci2,hcw,hlw]
   refine Zk<|Za<|Zl<|Dd [(1,_),(5,_),(6,_)] [(0,_),(80,_),(1,_),(2,_),(96,_),(3,_)] (fun(q:Value×Nat)=>[(7,.pointer (some ⟨q.2,0,none⟩))]) (fun(q:Value×Nat)=>[(83,d9p q.1 (cf (Zw ws) ((Zw ws).length-1)/(cf (Zw ys) ((Zw ys).length-1))).natAbs),(97,box q.2 48 #[.bool (decide ((cf (Zw ws) ((Zw ws).length-1)/(cf (Zw ys) ((Zw ys).length-1)))<0)),q.1])]) (fun(q:Value×Nat)=>True) K3 K6 ?_ ?_
   ·refine Nr [80,96] [14] (by kernel_rfl)<|Zx (n:=8) [(0,0),(1,0),(2,0),(3,0),(4,0),(5,0),(6,0)] (by kernel_rfl)<|r0' J J J J (stf (Ym J J) K2)<|r0' J J J J (stf (Ym J J) K2)<|r0' J J J J (stf (Zy J J (i:=80) J Zz Mj) K2)<|r0' J J J J (stf (Qg J J J ⟨by omega,by omega⟩) K2)<|r0' J J J J (stf (Yz (ii:=80) (i:=(ws.length-1)) J J J J Zz Mj Pf (by omega) (by omega)) K2)<|r0' J J J J (stf (Xs (ii:=80) I0 J J J Zz pI (by omega)) K2)<|r0' J J J J (stf (Yc (i:=96) J J J Hh Pf J J) K2)<|Yr<|Zay (n:=7) 7 11 12 (by kernel_rfl) ?_ ?_ ?_
    ·refine Yo J J (Zh (n:=83) (Gw _ _ _ _ (by rw [hcw];have:=hsw (ws.length-1);omega) (by rw [hci2];omega) (by rw [hci2];exact hlead)) J J J K2 Ze6 (Oi 80 J J (Yv (zs:=ws) (i:=ws.length-1) (d:=I0) (by omega)) (Oi 2 J J (Yv (zs:=ys) (i:=ys.length-1) (d:=I0) (by omega)) Ze)) J hw) fun g_2 _=>Zx (n:=4) [(8,0),(9,0),(10,0)] (by kernel_rfl)<|r0' J J J J (stf (Ym J J) K2)<|r0' J J J J (stf (Yg J J J) K2)<|r0' J J J J (stf (Yg J J J) K2)<|Yr<|Pu (n:=3) 11 12 (by kernel_rfl) ?_ ?_
     ·exact Yo J J (Zt (i:=97) J J J Tryz.zeroValue48 J J hw K2) fun b_2 ho=>Zx (n:=0) [(12,1),(13,1),(14,3)] (by kernel_rfl)<|r1' J J (Zt (i:=99) J J J Tryz.zeroValue48 J J hw K2) fun b_3 ho2=>r1' J J (Zm (i:=97) J J J J J (by decide) J Pf J J ⟨Zc J,Zr (i:=83) J Zi,trivial⟩ J hw ho) fun _ _=>r3' J J (Zm (i:=99) J J J J J (by decide) J Pf J J ⟨Zc J,Zr (i:=84) J Zi,trivial⟩ J hw trivial) fun _ _=>Yr<|Yl (by kernel_rfl)<|Qv (_,_) trivial K4 ⟨by rw [←hcqa];rfl,by rw [←hcqa];rfl,rfl,rfl,rfl,rfl,rfl,rfl,trivial⟩
     ·exact Yo J J (Zt (i:=99) J J J Tryz.zeroValue48 J J hw K2) fun b_4 ho3=>Zx (n:=0) [(11,1),(13,1),(14,3)] (by kernel_rfl)<|r1' J J (Zt (i:=97) J J J Tryz.zeroValue48 J J hw K2) fun b_5 ho4=>r1' J J (Zm (i:=97) J J J J J (by decide) J Pf J J ⟨Zc J,Zr (i:=83) J Zi,trivial⟩ J hw ho4) fun _ _=>r3' J J (Zm (i:=99) J J J J J (by decide) J Pf J J ⟨Zc J,Zr (i:=84) J Zi,trivial⟩ J hw trivial) fun _ _=>Yr<|Yl (by kernel_rfl)<|Qv (_,_) trivial K4 ⟨by rw [←hcqa];rfl,by rw [←hcqa];rfl,rfl,rfl,rfl,rfl,rfl,rfl,trivial⟩
    ·refine Yo J J (Zt (i:=97) J J J Tryz.zeroValue48 J J hw K2) fun b_6 ho5=>Pu (n:=6) 7 12 (by kernel_rfl) ?_ ?_
     ·exact Yo J J (Zh (n:=83) (Gw _ _ _ _ (by rw [hcw];have:=hsw (ws.length-1);omega) (by rw [hci2];omega) (by rw [hci2];exact hlead)) J J J K2 Ze6 (Oi 80 J J (Yv (zs:=ws) (i:=ws.length-1) (d:=I0) (by omega)) (Oi 2 J J (Yv (zs:=ys) (i:=ys.length-1) (d:=I0) (by omega)) Ze)) J hw) fun g_3 _=>Zx (n:=0) [(8,0),(9,0),(10,0),(12,1),(13,1),(14,3)] (by kernel_rfl)<|r0' J J J J (stf (Ym J J) K2)<|r0' J J J J (stf (Yg J J J) K2)<|r0' J J J J (stf (Yg J J J) K2)<|r1' J J (Zt (i:=99) J J J Tryz.zeroValue48 J J hw K2) fun b_7 ho6=>r1' J J (Zm (i:=97) J J J J J (by decide) J Pf J J ⟨Zc J,Zr (i:=83) J Zi,trivial⟩ J hw ho5) fun _ _=>r3' J J (Zm (i:=99) J J J J J (by decide) J Pf J J ⟨Zc J,Zr (i:=84) J Zi,trivial⟩ J hw trivial) fun _ _=>Yr<|Yl (by kernel_rfl)<|Qv (_,_) trivial K4 ⟨by rw [←hcqa];rfl,by rw [←hcqa];rfl,rfl,rfl,rfl,rfl,rfl,rfl,trivial⟩
     ·exact Yo J J (Zt (i:=99) J J J Tryz.zeroValue48 J J hw K2) fun b_8 ho7=>Zx (n:=0) [(7,1),(8,0),(9,0),(10,0),(13,1),(14,3)] (by kernel_rfl)<|r1' J J (Zh (n:=83) (Gw _ _ _ _ (by rw [hcw];have:=hsw (ws.length-1);omega) (by rw [hci2];omega) (by rw [hci2];exact hlead)) J J J K2 Ze6 (Oi 80 J J (Yv (zs:=ws) (i:=ws.length-1) (d:=I0) (by omega)) (Oi 2 J J (Yv (zs:=ys) (i:=ys.length-1) (d:=I0) (by omega)) Ze)) J hw) fun g_4 _=>r0' J J J J (stf (Ym J J) K2)<|r0' J J J J (stf (Yg J J J) K2)<|r0' J J J J (stf (Yg J J J) K2)<|r1' J J (Zm (i:=97) J J J J J (by decide) J Pf J J ⟨Zc J,Zr (i:=83) J Zi,trivial⟩ J hw ho5) fun _ _=>r3' J J (Zm (i:=99) J J J J J (by decide) J Pf J J ⟨Zc J,Zr (i:=84) J Zi,trivial⟩ J hw trivial) fun _ _=>Yr<|Yl (by kernel_rfl)<|Qv (_,_) trivial K4 ⟨by rw [←hcqa];rfl,by rw [←hcqa];rfl,rfl,rfl,rfl,rfl,rfl,rfl,trivial⟩
    ·refine Yo J J (Zt (i:=99) J J J Tryz.zeroValue48 J J hw K2) fun b_9 ho8=>Pu (n:=6) 7 11 (by kernel_rfl) ?_ ?_
     ·exact Yo J J (Zh (n:=83) (Gw _ _ _ _ (by rw [hcw];have:=hsw (ws.length-1);omega) (by rw [hci2];omega) (by rw [hci2];exact hlead)) J J J K2 Ze6 (Oi 80 J J (Yv (zs:=ws) (i:=ws.length-1) (d:=I0) (by omega)) (Oi 2 J J (Yv (zs:=ys) (i:=ys.length-1) (d:=I0) (by omega)) Ze)) J hw) fun g_5 _=>Zx (n:=0) [(8,0),(9,0),(10,0),(11,1),(13,1),(14,3)] (by kernel_rfl)<|r0' J J J J (stf (Ym J J) K2)<|r0' J J J J (stf (Yg J J J) K2)<|r0' J J J J (stf (Yg J J J) K2)<|r1' J J (Zt (i:=97) J J J Tryz.zeroValue48 J J hw K2) fun b_10 ho9=>r1' J J (Zm (i:=97) J J J J J (by decide) J Pf J J ⟨Zc J,Zr (i:=83) J Zi,trivial⟩ J hw ho9) fun _ _=>r3' J J (Zm (i:=99) J J J J J (by decide) J Pf J J ⟨Zc J,Zr (i:=84) J Zi,trivial⟩ J hw trivial) fun _ _=>Yr<|Yl (by kernel_rfl)<|Qv (_,_) trivial K4 ⟨by rw [←hcqa];rfl,by rw [←hcqa];rfl,rfl,rfl,rfl,rfl,rfl,rfl,trivial⟩
     ·exact Yo J J (Zt (i:=97) J J J Tryz.zeroValue48 J J hw K2) fun b_11 ho10=>Zx (n:=0) [(7,1),(8,0),(9,0),(10,0),(13,1),(14,3)] (by kernel_rfl)<|r1' J J (Zh (n:=83) (Gw _ _ _ _ (by rw [hcw];have:=hsw (ws.length-1);omega) (by rw [hci2];omega) (by rw [hci2];exact hlead)) J J J K2 Ze6 (Oi 80 J J (Yv (zs:=ws) (i:=ws.length-1) (d:=I0) (by omega)) (Oi 2 J J (Yv (zs:=ys) (i:=ys.length-1) (d:=I0) (by omega)) Ze)) J hw) fun g_6 _=>r0' J J J J (stf (Ym J J) K2)<|r0' J J J J (stf (Yg J J J) K2)<|r0' J J J J (stf (Yg J J J) K2)<|r1' J J (Zm (i:=97) J J J J J (by decide) J Pf J J ⟨Zc J,Zr (i:=83) J Zi,trivial⟩ J hw ho10) fun _ _=>r3' J J (Zm (i:=99) J J J J J (by decide) J Pf J J ⟨Zc J,Zr (i:=84) J Zi,trivial⟩ J hw trivial) fun _ _=>Yr<|Yl (by kernel_rfl)<|Qv (_,_) trivial K4 ⟨by rw [←hcqa];rfl,by rw [←hcqa];rfl,rfl,rfl,rfl,rfl,rfl,rfl,trivial⟩
   ·rintro⟨qv,b7⟩ -
    simp only [List.cons_append,List.nil_append]
    refine Zb<|Zg<|mv J J<|dt (Zy J J (i:=80) J Zz Mj) J<|mv J J<|dt (Zy J J (i:=2) J Zz Mj) J<|dt (Qg J J J ⟨by omega,by omega⟩) J<|tt (Hw (i:=70) (n:=(ws.length-ys.length)) (by_:=32) (enc:=Cz) I0 J J J J J (by omega) Mj Tryz.ti48 J pI.cells pI.pos J J (by omega) (by decide) J hw) J fun v_2 _=>as_ J J<|Zf<|Za<|Zb<|Zb<|Zg<|as_ J J<|Zf<|Za<|Zl<|Ys (Za8 71 (ws.length-ys.length))<|Nt [(1,_),(5,_),(6,_),(7,_)] [(0,_),(83,_),(97,_),(80,_),(1,_),(2,_),(96,_),(3,_)] (fun(q:Nat×Value×List (Int×SL))=>[(10,.int .i64 (q.1:Int)),(9,q.2.1)]) (fun(q:Nat×Value×List (Int×SL))=>[(70,osl 2 48 Cz q.2.1 q.2.2),(71,Zcw qI q.2.2)]) (fun(q:Nat×Value×List (Int×SL))=>(q.1≤ys.length)∧(Zw q.2.2=shm (Zw ys) (cf (Zw ws) ((Zw ws).length-1)/(cf (Zw ys) ((Zw ys).length-1))) ((Zw ws).length-(Zw ys).length) q.1)∧(q.2.2.length=((Zw ws).length-(Zw ys).length)+q.1)) (fun(q:Nat×Value×List (Int×SL))=>ys.length-q.1) (0,_,List.replicate (ws.length-ys.length) I0) ⟨by first | omega | (dsimp only<;>omega),by rw [←Zms,←hlw,←hli2];simp [Zw],by simp<;>omega⟩ K6 K10 ?_
    rintro⟨i,vo,ms⟩ ⟨hi,hms,hml⟩
    dsimp only at hi hms hml
    simp only [List.cons_append,List.nil_append]
    have hci:=Nu ys i
    refine Zb<|Zb<|Zg<|mv J J<|mv J J<|dt (Zy J J (i:=2) J Zz Mj) J<|dt (Qb J J J) J<|Zf<|Za<|Zq J (fun h214=>?_) (fun h214=>?_)
    ·refine Zk<|Za<|Zb<|Zl<|Nr [2,97] [9] (by kernel_rfl)<|Zx (n:=3) [(0,0),(1,0),(2,0),(3,0),(4,0),(5,0),(6,1)] (by kernel_rfl)<|r0' J J J J (stf (Ym J J) K2)<|r0' J J J J (stf (Yc (i:=97) J J J Hh Pf J J) K2)<|r0' J J J J (stf (Ym J J) K2)<|r0' J J J J (stf (Ym J J) K2)<|r0' J J J J (stf (Yz (ii:=2) J J J J Zz Mj Pf J (by first | omega | (simp only [List.length_set];omega))) K2)<|r0' J J J J (stf (Xs (ii:=2) I0 J J J Zz pI (by first | omega | (simp only [List.length_set];omega))) K2)<|r1' J J (Zh (n:=86) (Zez _ _ _ _ (by omega) (by rw [hci];have:=hsy i;omega)) J J J K2 Zuk (Zd 83 J J J (Oi 2 J J (Yv (i:=i) (by omega)) Ze)) J hw) fun v_3 _=>Yr<|Zl8 (Oq 86 J Zi) (fun sl hsl=>?_)
     subst hsl
     exact Zx (n:=0) [(7,1),(8,1),(9,3)] (by kernel_rfl)<|r1' J J (Pt (i:=87) (ivs:=[(0,_)]) (enc:=Cz) [((cf (Zw ws) ((Zw ws).length-1)/(cf (Zw ys) ((Zw ys).length-1)))*(ys.getD i I0).1,sl)] J J J K2 Mj Tryz.ti48 J J J J J J pI.cells J J hw) fun v_4 _=>r1' J J (Zmm 70 J J J K2 (fun hoffr=>(Zgm (xs:=ms) (ys:=[_]) (i:=70) (j:=87) (by_:=32) J J J J J J (by decide) J (Yn pI) Mj Tryz.ti48 J pI J J J (by simp;omega) (by decide) J hw hoffr))) fun v_5 _=>r3' J J (Od (Kk J J) J J) fun _ _=>Yr<|Yl (by kernel_rfl)<|Ob<|Za<|Zg<|mv J J<|dt (Yt J J J ⟨by omega,by omega⟩) J<|as_ J J<|Zf<|Pr (Oo (q:=qI) (z:=((cf (Zw ws) ((Zw ws).length-1)/(cf (Zw ys) ((Zw ys).length-1)))*(ys.getD i I0).1,sl)) 71 86 71 J J J J J)<|Xq (i+1,_,ms ++ [((cf (Zw ws) ((Zw ws).length-1)/(cf (Zw ys) ((Zw ys).length-1)))*(ys.getD i I0).1,sl)]) ⟨by first | omega | (dsimp only<;>omega),by rw [Hd,hms,←Zmt];dsimp only;rw [hci],by simp;omega⟩ (by first | omega | (dsimp only<;>omega)) K6 K10
    ·exact Yu<|Zs<|Zs<|Ox<|Za<|Ys (Po 70 J J pI)<|Ys (Lu 70 71 72 J J J J)<|Zg<|mv J J<|mv J J<|tt (Zh (n:=4) (rp_sub _ _ _ _ hsw (by omega) (by rw [hms];exact Zqj (fun t=>by have h8:=Qh (cf (Zw ws) ((Zw ws).length-1)/(cf (Zw ys) ((Zw ys).length-1))) (cf (Zw ys) t);have h9:=hsy t;have h10:=Zvo (p:=Zw zs) (q:=Zw ys) (R:=Zw ws) hqe (Fh (Zw zs) (Zw ys) _ _) hsy (by omega) (by omega) g3 t;omega)) (by omega)) J J J K2 cF88 (Zd 80 J J J (Zd 72 J J J Ze)) J hw) J fun g_7 hg_2=>as_ J J<|Zf<|Ob<|Pr (Nk 4 80 J J J)<|Xq ((Zw zs).length-(Zw ws).length+1,_,_) ⟨by dsimp only;omega,by dsimp only;rw [hg_2,hms,show i=(Zw ys).length by omega];exact hst⟩ (by dsimp only;omega) K3 K6
  ·exact Yu<|Zs<|Zs<|Ox<|Za<|Zb<|Zg<|mv J J<|as_ J J<|Zf<|Za<|Zu<|Zv (.inl J) hsc (_,ws) _ (fun a w hs=>Qj hs Tryz.results160 J) J (Zkp (R:=Zw ws) (by omega) (by omega) hlead (by omega) hI (by have:=Ya ws;omega)) J (Xb 80 J J J Zj)
set_option maxHeartbeats 4000000 in
theorem Ak(v u:Value)(zs ys:List (Int×SL))(hl:zs.length≤30)(hk:ys.length≤30)(hy0:0<ys.length)(htz:Tr (Zw zs))(ht:Tr (Zw ys))(hF:ys.length≤zs.length→msz (Zw zs)+(zs.length-ys.length+1)*(msz (Zw ys)+1)≤900000):Cal Tryz.prog 55 #[v,u] [pp v zs,pp u ys] true (G:=Value×List (Int×SL)) (fun r=>pdv (Zw zs) (Zw ys)→Zw r.2=Ki (Zw zs) (Zw ys)) (fun r=> .tuple #[r.1,.bool (decide (pdv (Zw zs) (Zw ys)))]) (fun r=>[pp r.1 r.2]):=by
 refine Yd Tryz.func55 J Tryz.ntmps55 J K2 ?_
 intro w0 sc hw hsc
 simp only [Zp,Zn]
 have hli:=Ya zs
 have hli2:=Ya ys
 have hlead:(cf (Zw ys) ((Zw ys).length-1))≠0:=ht.mem (fun e=>by rw [←hli2,e]at hy0;simp at hy0)
 refine Nw (Hz (i:=1) J Zz) fun hlen=>Nw (Hz (i:=2) J Zz) fun hlen2=>Zb<|Zg<|as_ J J<|as_ J J<|Zf<|Za<|Zb<|Zb<|Zg<|mv J J<|dt (Zy J J (i:=1) J Zz Mj) J<|dt (Pi J J J) J<|Zf<|Za<|Zq J (fun h224=>?_) (fun h224=>?_)
 ·refine Zb<|Zg<|as_ J J<|as_ J J<|Zf<|Za<|Zu<|Xe<|Pr (Fm 62) ?_
  have hzn:Zw zs=[]:=List.eq_nil_of_length_eq_zero (by omega)
  exact Zv (.inl J) hsc (.slice none 0 0,[]) _ (fun a w hs=>Ni hs Tryz.results55 J J) (by rw [pdv_nil hzn]) (fun _=>by unfold Ki;rw [if_pos hzn];rfl) J (Xb 62 J J J Zj)
 ·have hnz:Zw zs≠[]:=fun e=>by have h7:=congrArg List.length e;simp only [List.length_nil]at h7;omega
  refine Zk<|Za<|Zb<|Zb<|Zg<|mv J J<|dt (Zy J J (i:=1) J Zz Mj) J<|mv J J<|dt (Zy J J (i:=2) J Zz Mj) J<|dt (Qb J J J) J<|Zf<|Za<|Zq J (fun h227=>?_) (fun h227=>?_)
  ·refine Zb<|Zg<|as_ J J<|as_ J J<|Zf<|Za<|Zu<|Xe<|Pr (Fm 62) ?_
   have hno:=pdv_low (p:=Zw zs) (q:=Zw ys) (fun e=>by have h7:=congrArg List.length e;simp only [List.length_nil]at h7;omega) (by omega)
   exact Zv (.inl J) hsc (.slice none 0 0,[]) _ (fun a w hs=>Ni hs Tryz.results55 J J) (by rw [hno]) (fun h=>absurd h (of_decide_eq_false hno)) J (Xb 62 J J J Zj)
  ·have hF2:=hF (by omega)
   have hF3:msz (Zw zs)+((Zw zs).length-(Zw ys).length+1)*(msz (Zw ys)+1)≤900000:=by rw [hli,hli2];exact hF2
   have hcl:=Nu ys (ys.length-1)
   have hci2:(ys.getD (ys.length-1) I0).1=(cf (Zw ys) ((Zw ys).length-1)):=by rw [hcl,hli2]
   have hsy:=Lc (Zw ys)
   have hlq:=hsy ((Zw ys).length-1)
   have hmy:msz (Zw ys)≤900000:=by have h7:=Nat.mul_le_mul_right (msz (Zw ys)+1) (show 1≤(Zw zs).length-(Zw ys).length+1 by omega);omega
   refine Zk<|Za<|Zb<|Zg<|mv J J<|dt (Zy J J (i:=1) J Zz Mj) J<|mv J J<|dt (Zy J J (i:=2) J Zz Mj) J<|dt (Qg J J J ⟨by omega,by omega⟩) J<|dt (Yt J J J ⟨by omega,by omega⟩) J<|tt (Hw (i:=60) (n:=(zs.length-ys.length+1)) (by_:=32) (enc:=Cz) I0 J J J J J (by omega) Mj Tryz.ti48 J pI.cells pI.pos J J (by omega) (by decide) J hw) J fun v _=>as_ J J<|Zf<|Za<|Zb<|Zg<|mv J J<|as_ J J<|Zf<|Za<|Zb<|Zb<|Zg<|mv J J<|dt (Zy J J (i:=60) J (Yn pI) Mj) J<|dt (Qg J J J ⟨by simp only [List.length_replicate];omega,by simp only [List.length_replicate];omega⟩) J<|as_ J J<|Zf<|Za<|Zl<|Ys (Za8 61 (zs.length-ys.length+1))<|Ys (Nk 1 80 J J J) ?_
   refine Nt [(1,_),(6,_)] [(0,_),(1,_),(2,_)] (fun(q:Nat×List (Int×SL)×List (Int×SL)×Value)=>[(7,q.2.2.2),(8,.int .i64 ((zs.length:Int)-(ys.length:Int)-(q.1:Int)))]) (fun(q:Nat×List (Int×SL)×List (Int×SL)×Value)=>[(60,osl 2 48 Cz v q.2.1),(61,Zcw qI q.2.1),(80,pp q.2.2.2 q.2.2.1)]) (fun(q:Nat×List (Int×SL)×List (Int×SL)×Value)=>(q.1≤(Zw zs).length-(Zw ys).length+1)∧(∀k,((Zw zs).length-(Zw ys).length)<k+q.1→k≤((Zw zs).length-(Zw ys).length)→Mr (Zw zs) (Zw ys) k)∧(Zw q.2.1=Zjq (Zw zs) (Zw ys) q.1)∧(Zw q.2.2.1=tzl (Qi (Zw zs) (Zw ys) q.1))) (fun(q:Nat×List (Int×SL)×List (Int×SL)×Value)=>(Zw zs).length-(Zw ys).length+1-q.1) (0,List.replicate (zs.length-ys.length+1) I0,zs,_) ⟨Nat.zero_le _,fun k h1 h2=>by omega,by rw [←Zjp,hli,hli2];simp [Zw],(Ad htz).symm⟩ ⟨J,by simp only [List.length_replicate];exact congrArg some (Db (by omega)),rfl,rfl,trivial⟩ K6 ?_
   rintro⟨j,os,ws,vr⟩ ⟨hj,hx,hos,hws⟩
   dsimp only at hj hx hos hws
   simp only [List.cons_append,List.nil_append]
   have hlw:=Ya ws
   have hlo:=Ya os
   have hlo2:=congrArg List.length hos
   rw [Ep]at hlo2
   have hwl:ws.length≤zs.length:=by rw [←hlw,hws];exact Nat.le_trans (Hu _) (by rw [Kw];omega)
   refine Zb<|Zb<|Zg<|mv J J<|dt (Lq J J J) J<|Zf<|Za<|Zq J (fun h232=>?_) (fun h232=>?_)
   ·have hj2:j≤(Zw zs).length-(Zw ys).length:=by omega
    have hcw:cf (Zw ws) (((Zw zs).length-(Zw ys).length-j)+(Zw ys).length-1)=(cf (Qi (Zw zs) (Zw ys) j) (((Zw zs).length-(Zw ys).length-j)+(Zw ys).length-1)):=by rw [hws,Lm]
    have hb1:=div_sz2 hj2 hx hF3
    have hb2:=hb1 (((Zw zs).length-(Zw ys).length-j)+(Zw ys).length-1)
    refine Zk<|Za<|Zb<|Zl<|Dd [(1,_),(6,_),(7,_),(8,_)] [(0,_),(60,_),(61,_),(80,_),(1,_),(2,_)] (fun(q:Value×Value×Nat×Nat)=>[(9,.pointer (some ⟨q.2.2.1,0,none⟩)),(10,.pointer (some ⟨q.2.2.2,0,none⟩))]) (fun(q:Value×Value×Nat×Nat)=>[(83,d9p q.1 ((cf (Qi (Zw zs) (Zw ys) j) (((Zw zs).length-(Zw ys).length-j)+(Zw ys).length-1))/(cf (Zw ys) ((Zw ys).length-1))).natAbs),(84,d9p q.2.1 ((cf (Qi (Zw zs) (Zw ys) j) (((Zw zs).length-(Zw ys).length-j)+(Zw ys).length-1))%(cf (Zw ys) ((Zw ys).length-1))).natAbs),(97,box q.2.2.1 48 #[.bool (decide (((cf (Qi (Zw zs) (Zw ys) j) (((Zw zs).length-(Zw ys).length-j)+(Zw ys).length-1))/(cf (Zw ys) ((Zw ys).length-1)))<0)),q.1]),(98,box q.2.2.2 48 #[.bool (decide (((cf (Qi (Zw zs) (Zw ys) j) (((Zw zs).length-(Zw ys).length-j)+(Zw ys).length-1))%(cf (Zw ys) ((Zw ys).length-1)))<0)),q.2.1])]) (fun(q:Value×Value×Nat×Nat)=>True) K4 K6 ?_ ?_
    ·refine Nr [2] [20] (by kernel_rfl)<|Zx (n:=9) [(0,0),(1,0),(2,0),(3,0),(4,0),(5,0),(7,0),(8,0),(9,0),(10,0),(11,0),(12,0)] (by kernel_rfl)<|r0' J J J J (stf (Ym J J) K1)<|r0' J J J J (stf (Ym J J) K1)<|r0' J J J J (stf (Ym J J) K1)<|r0' J J J J (stf (Zy J J (i:=2) J Zz Mj) K1)<|r0' J J J J (stf (Yt J J J ⟨by omega,by omega⟩) K1)<|r0' J J J J (stf (Qg J J J ⟨by omega,by omega⟩) K1)<|r0' J J J J (stf (Ym J J) K1)<|r0' J J J J (stf (Ym J J) K1)<|r0' J J J J (stf (Zy J J (i:=2) J Zz Mj) K1)<|r0' J J J J (stf (Qg J J J ⟨by omega,by omega⟩) K1)<|r0' J J J J (stf (Yz (ii:=2) (i:=(ys.length-1)) J J J J Zz Mj Pf (by omega) (by omega)) K1)<|r0' J J J J (stf (Xs (ii:=2) I0 J J J Zz pI (by omega)) K1)<|Yr<|Zay (n:=8) 6 17 18 (by kernel_rfl) ?_ ?_ ?_
     ·refine Yo J J (Zh (n:=3) (Zg5 _ _ _ (((Zw zs).length-(Zw ys).length-j)+(Zw ys).length-1) (by omega) (by omega)) J J J K2 Zh7 (Zd 80 J J J Ze) J hw) fun v_2 _=>Zay (n:=7) 13 17 18 (by kernel_rfl) ?_ ?_ ?_
      ·refine Yo J J (Zh (n:=83) (Gw _ _ _ _ (by rw [hcw];omega) (by rw [hci2];omega) (by rw [hci2];exact hlead)) J J J K2 Ze6 (Zd 3 J J J (Oi 2 J J (Yv (zs:=ys) (i:=ys.length-1) (d:=I0) (by omega)) Ze)) J hw) fun g _=>Zx (n:=4) [(14,0),(15,0),(16,0)] (by kernel_rfl)<|r0' J J J J (stf (Ym J J) K1)<|r0' J J J J (stf (Yg J J J) K1)<|r0' J J J J (stf (Yg J J J) K1)<|Yr<|Pu (n:=3) 17 18 (by kernel_rfl) ?_ ?_
       ·exact Yo J J (Zt (i:=97) J J J Tryz.zeroValue48 J J hw K1) fun b ho=>Zx (n:=0) [(18,1),(19,1),(20,3)] (by kernel_rfl)<|r1' J J (Zt (i:=98) J J J Tryz.zeroValue48 J J hw K1) fun b_2 ho2=>r1' J J (Zm (i:=97) J J J J J (by decide) J Pf J J ⟨Zc J,Zr (i:=83) J Zi,trivial⟩ J hw ho) fun _ _=>r3' J J (Zm (i:=98) J J J J J (by decide) J Pf J J ⟨Zc J,Zr (i:=84) J Zi,trivial⟩ J hw trivial) fun _ _=>Yr<|Yl (by kernel_rfl)<|Qv (_,_,_,_) trivial K6 ⟨by rw [←hcw,←hci2];rfl,by rw [←hcw,←hci2];rfl,by rw [←hcw,←hci2];rfl,by rw [←hcw,←hci2];rfl,rfl,rfl,rfl,rfl,rfl,rfl,trivial⟩
       ·exact Yo J J (Zt (i:=98) J J J Tryz.zeroValue48 J J hw K1) fun b_3 ho3=>Zx (n:=0) [(17,1),(19,1),(20,3)] (by kernel_rfl)<|r1' J J (Zt (i:=97) J J J Tryz.zeroValue48 J J hw K1) fun b_4 ho4=>r1' J J (Zm (i:=97) J J J J J (by decide) J Pf J J ⟨Zc J,Zr (i:=83) J Zi,trivial⟩ J hw ho4) fun _ _=>r3' J J (Zm (i:=98) J J J J J (by decide) J Pf J J ⟨Zc J,Zr (i:=84) J Zi,trivial⟩ J hw trivial) fun _ _=>Yr<|Yl (by kernel_rfl)<|Qv (_,_,_,_) trivial K6 ⟨by rw [←hcw,←hci2];rfl,by rw [←hcw,←hci2];rfl,by rw [←hcw,←hci2];rfl,by rw [←hcw,←hci2];rfl,rfl,rfl,rfl,rfl,rfl,rfl,trivial⟩
      ·refine Yo J J (Zt (i:=97) J J J Tryz.zeroValue48 J J hw K1) fun b_5 ho5=>Pu (n:=6) 13 18 (by kernel_rfl) ?_ ?_
       ·exact Yo J J (Zh (n:=83) (Gw _ _ _ _ (by rw [hcw];omega) (by rw [hci2];omega) (by rw [hci2];exact hlead)) J J J K2 Ze6 (Zd 3 J J J (Oi 2 J J (Yv (zs:=ys) (i:=ys.length-1) (d:=I0) (by omega)) Ze)) J hw) fun g_2 _=>Zx (n:=0) [(14,0),(15,0),(16,0),(18,1),(19,1),(20,3)] (by kernel_rfl)<|r0' J J J J (stf (Ym J J) K1)<|r0' J J J J (stf (Yg J J J) K1)<|r0' J J J J (stf (Yg J J J) K1)<|r1' J J (Zt (i:=98) J J J Tryz.zeroValue48 J J hw K1) fun b_6 ho6=>r1' J J (Zm (i:=97) J J J J J (by decide) J Pf J J ⟨Zc J,Zr (i:=83) J Zi,trivial⟩ J hw ho5) fun _ _=>r3' J J (Zm (i:=98) J J J J J (by decide) J Pf J J ⟨Zc J,Zr (i:=84) J Zi,trivial⟩ J hw trivial) fun _ _=>Yr<|Yl (by kernel_rfl)<|Qv (_,_,_,_) trivial K6 ⟨by rw [←hcw,←hci2];rfl,by rw [←hcw,←hci2];rfl,by rw [←hcw,←hci2];rfl,by rw [←hcw,←hci2];rfl,rfl,rfl,rfl,rfl,rfl,rfl,trivial⟩
       ·exact Yo J J (Zt (i:=98) J J J Tryz.zeroValue48 J J hw K1) fun b_7 ho7=>Zx (n:=0) [(13,1),(14,0),(15,0),(16,0),(19,1),(20,3)] (by kernel_rfl)<|r1' J J (Zh (n:=83) (Gw _ _ _ _ (by rw [hcw];omega) (by rw [hci2];omega) (by rw [hci2];exact hlead)) J J J K2 Ze6 (Zd 3 J J J (Oi 2 J J (Yv (zs:=ys) (i:=ys.length-1) (d:=I0) (by omega)) Ze)) J hw) fun g_3 _=>r0' J J J J (stf (Ym J J) K1)<|r0' J J J J (stf (Yg J J J) K1)<|r0' J J J J (stf (Yg J J J) K1)<|r1' J J (Zm (i:=97) J J J J J (by decide) J Pf J J ⟨Zc J,Zr (i:=83) J Zi,trivial⟩ J hw ho5) fun _ _=>r3' J J (Zm (i:=98) J J J J J (by decide) J Pf J J ⟨Zc J,Zr (i:=84) J Zi,trivial⟩ J hw trivial) fun _ _=>Yr<|Yl (by kernel_rfl)<|Qv (_,_,_,_) trivial K6 ⟨by rw [←hcw,←hci2];rfl,by rw [←hcw,←hci2];rfl,by rw [←hcw,←hci2];rfl,by rw [←hcw,←hci2];rfl,rfl,rfl,rfl,rfl,rfl,rfl,trivial⟩
      ·refine Yo J J (Zt (i:=98) J J J Tryz.zeroValue48 J J hw K1) fun b_8 ho8=>Pu (n:=6) 13 17 (by kernel_rfl) ?_ ?_
       ·exact Yo J J (Zh (n:=83) (Gw _ _ _ _ (by rw [hcw];omega) (by rw [hci2];omega) (by rw [hci2];exact hlead)) J J J K2 Ze6 (Zd 3 J J J (Oi 2 J J (Yv (zs:=ys) (i:=ys.length-1) (d:=I0) (by omega)) Ze)) J hw) fun g_4 _=>Zx (n:=0) [(14,0),(15,0),(16,0),(17,1),(19,1),(20,3)] (by kernel_rfl)<|r0' J J J J (stf (Ym J J) K1)<|r0' J J J J (stf (Yg J J J) K1)<|r0' J J J J (stf (Yg J J J) K1)<|r1' J J (Zt (i:=97) J J J Tryz.zeroValue48 J J hw K1) fun b_9 ho9=>r1' J J (Zm (i:=97) J J J J J (by decide) J Pf J J ⟨Zc J,Zr (i:=83) J Zi,trivial⟩ J hw ho9) fun _ _=>r3' J J (Zm (i:=98) J J J J J (by decide) J Pf J J ⟨Zc J,Zr (i:=84) J Zi,trivial⟩ J hw trivial) fun _ _=>Yr<|Yl (by kernel_rfl)<|Qv (_,_,_,_) trivial K6 ⟨by rw [←hcw,←hci2];rfl,by rw [←hcw,←hci2];rfl,by rw [←hcw,←hci2];rfl,by rw [←hcw,←hci2];rfl,rfl,rfl,rfl,rfl,rfl,rfl,trivial⟩
       ·exact Yo J J (Zt (i:=97) J J J Tryz.zeroValue48 J J hw K1) fun b_10 ho10=>Zx (n:=0) [(13,1),(14,0),(15,0),(16,0),(19,1),(20,3)] (by kernel_rfl)<|r1' J J (Zh (n:=83) (Gw _ _ _ _ (by rw [hcw];omega) (by rw [hci2];omega) (by rw [hci2];exact hlead)) J J J K2 Ze6 (Zd 3 J J J (Oi 2 J J (Yv (zs:=ys) (i:=ys.length-1) (d:=I0) (by omega)) Ze)) J hw) fun g_5 _=>r0' J J J J (stf (Ym J J) K1)<|r0' J J J J (stf (Yg J J J) K1)<|r0' J J J J (stf (Yg J J J) K1)<|r1' J J (Zm (i:=97) J J J J J (by decide) J Pf J J ⟨Zc J,Zr (i:=83) J Zi,trivial⟩ J hw ho10) fun _ _=>r3' J J (Zm (i:=98) J J J J J (by decide) J Pf J J ⟨Zc J,Zr (i:=84) J Zi,trivial⟩ J hw trivial) fun _ _=>Yr<|Yl (by kernel_rfl)<|Qv (_,_,_,_) trivial K6 ⟨by rw [←hcw,←hci2];rfl,by rw [←hcw,←hci2];rfl,by rw [←hcw,←hci2];rfl,by rw [←hcw,←hci2];rfl,rfl,rfl,rfl,rfl,rfl,rfl,trivial⟩
     ·refine Yo J J (Zt (i:=97) J J J Tryz.zeroValue48 J J hw K1) fun b_11 ho11=>Pu (n:=7) 6 18 (by kernel_rfl) ?_ ?_
      ·refine Yo J J (Zh (n:=4) (Zg5 _ _ _ (((Zw zs).length-(Zw ys).length-j)+(Zw ys).length-1) (by omega) (by omega)) J J J K2 Zh7 (Zd 80 J J J Ze) J hw) fun v_3 _=>Pu (n:=6) 13 18 (by kernel_rfl) ?_ ?_
       ·exact Yo J J (Zh (n:=83) (Gw _ _ _ _ (by rw [hcw];omega) (by rw [hci2];omega) (by rw [hci2];exact hlead)) J J J K2 Ze6 (Zd 4 J J J (Oi 2 J J (Yv (zs:=ys) (i:=ys.length-1) (d:=I0) (by omega)) Ze)) J hw) fun g_6 _=>Zx (n:=0) [(14,0),(15,0),(16,0),(18,1),(19,1),(20,3)] (by kernel_rfl)<|r0' J J J J (stf (Ym J J) K1)<|r0' J J J J (stf (Yg J J J) K1)<|r0' J J J J (stf (Yg J J J) K1)<|r1' J J (Zt (i:=98) J J J Tryz.zeroValue48 J J hw K1) fun b_12 ho12=>r1' J J (Zm (i:=97) J J J J J (by decide) J Pf J J ⟨Zc J,Zr (i:=83) J Zi,trivial⟩ J hw ho11) fun _ _=>r3' J J (Zm (i:=98) J J J J J (by decide) J Pf J J ⟨Zc J,Zr (i:=84) J Zi,trivial⟩ J hw trivial) fun _ _=>Yr<|Yl (by kernel_rfl)<|Qv (_,_,_,_) trivial K6 ⟨by rw [←hcw,←hci2];rfl,by rw [←hcw,←hci2];rfl,by rw [←hcw,←hci2];rfl,by rw [←hcw,←hci2];rfl,rfl,rfl,rfl,rfl,rfl,rfl,trivial⟩
       ·exact Yo J J (Zt (i:=98) J J J Tryz.zeroValue48 J J hw K1) fun b_13 ho13=>Zx (n:=0) [(13,1),(14,0),(15,0),(16,0),(19,1),(20,3)] (by kernel_rfl)<|r1' J J (Zh (n:=83) (Gw _ _ _ _ (by rw [hcw];omega) (by rw [hci2];omega) (by rw [hci2];exact hlead)) J J J K2 Ze6 (Zd 4 J J J (Oi 2 J J (Yv (zs:=ys) (i:=ys.length-1) (d:=I0) (by omega)) Ze)) J hw) fun g_7 _=>r0' J J J J (stf (Ym J J) K1)<|r0' J J J J (stf (Yg J J J) K1)<|r0' J J J J (stf (Yg J J J) K1)<|r1' J J (Zm (i:=97) J J J J J (by decide) J Pf J J ⟨Zc J,Zr (i:=83) J Zi,trivial⟩ J hw ho11) fun _ _=>r3' J J (Zm (i:=98) J J J J J (by decide) J Pf J J ⟨Zc J,Zr (i:=84) J Zi,trivial⟩ J hw trivial) fun _ _=>Yr<|Yl (by kernel_rfl)<|Qv (_,_,_,_) trivial K6 ⟨by rw [←hcw,←hci2];rfl,by rw [←hcw,←hci2];rfl,by rw [←hcw,←hci2];rfl,by rw [←hcw,←hci2];rfl,rfl,rfl,rfl,rfl,rfl,rfl,trivial⟩
      ·exact Yo J J (Zt (i:=98) J J J Tryz.zeroValue48 J J hw K1) fun b_14 ho14=>Zx (n:=0) [(6,1),(13,1),(14,0),(15,0),(16,0),(19,1),(20,3)] (by kernel_rfl)<|r1' J J (Zh (n:=5) (Zg5 _ _ _ (((Zw zs).length-(Zw ys).length-j)+(Zw ys).length-1) (by omega) (by omega)) J J J K2 Zh7 (Zd 80 J J J Ze) J hw) fun v_4 _=>r1' J J (Zh (n:=83) (Gw _ _ _ _ (by rw [hcw];omega) (by rw [hci2];omega) (by rw [hci2];exact hlead)) J J J K2 Ze6 (Zd 5 J J J (Oi 2 J J (Yv (zs:=ys) (i:=ys.length-1) (d:=I0) (by omega)) Ze)) J hw) fun g_8 _=>r0' J J J J (stf (Ym J J) K1)<|r0' J J J J (stf (Yg J J J) K1)<|r0' J J J J (stf (Yg J J J) K1)<|r1' J J (Zm (i:=97) J J J J J (by decide) J Pf J J ⟨Zc J,Zr (i:=83) J Zi,trivial⟩ J hw ho11) fun _ _=>r3' J J (Zm (i:=98) J J J J J (by decide) J Pf J J ⟨Zc J,Zr (i:=84) J Zi,trivial⟩ J hw trivial) fun _ _=>Yr<|Yl (by kernel_rfl)<|Qv (_,_,_,_) trivial K6 ⟨by rw [←hcw,←hci2];rfl,by rw [←hcw,←hci2];rfl,by rw [←hcw,←hci2];rfl,by rw [←hcw,←hci2];rfl,rfl,rfl,rfl,rfl,rfl,rfl,trivial⟩
     ·refine Yo J J (Zt (i:=98) J J J Tryz.zeroValue48 J J hw K1) fun b_15 ho15=>Pu (n:=7) 6 17 (by kernel_rfl) ?_ ?_
      ·refine Yo J J (Zh (n:=6) (Zg5 _ _ _ (((Zw zs).length-(Zw ys).length-j)+(Zw ys).length-1) (by omega) (by omega)) J J J K2 Zh7 (Zd 80 J J J Ze) J hw) fun v_5 _=>Pu (n:=6) 13 17 (by kernel_rfl) ?_ ?_
       ·exact Yo J J (Zh (n:=83) (Gw _ _ _ _ (by rw [hcw];omega) (by rw [hci2];omega) (by rw [hci2];exact hlead)) J J J K2 Ze6 (Zd 6 J J J (Oi 2 J J (Yv (zs:=ys) (i:=ys.length-1) (d:=I0) (by omega)) Ze)) J hw) fun g_9 _=>Zx (n:=0) [(14,0),(15,0),(16,0),(17,1),(19,1),(20,3)] (by kernel_rfl)<|r0' J J J J (stf (Ym J J) K1)<|r0' J J J J (stf (Yg J J J) K1)<|r0' J J J J (stf (Yg J J J) K1)<|r1' J J (Zt (i:=97) J J J Tryz.zeroValue48 J J hw K1) fun b_16 ho16=>r1' J J (Zm (i:=97) J J J J J (by decide) J Pf J J ⟨Zc J,Zr (i:=83) J Zi,trivial⟩ J hw ho16) fun _ _=>r3' J J (Zm (i:=98) J J J J J (by decide) J Pf J J ⟨Zc J,Zr (i:=84) J Zi,trivial⟩ J hw trivial) fun _ _=>Yr<|Yl (by kernel_rfl)<|Qv (_,_,_,_) trivial K6 ⟨by rw [←hcw,←hci2];rfl,by rw [←hcw,←hci2];rfl,by rw [←hcw,←hci2];rfl,by rw [←hcw,←hci2];rfl,rfl,rfl,rfl,rfl,rfl,rfl,trivial⟩
       ·exact Yo J J (Zt (i:=97) J J J Tryz.zeroValue48 J J hw K1) fun b_17 ho17=>Zx (n:=0) [(13,1),(14,0),(15,0),(16,0),(19,1),(20,3)] (by kernel_rfl)<|r1' J J (Zh (n:=83) (Gw _ _ _ _ (by rw [hcw];omega) (by rw [hci2];omega) (by rw [hci2];exact hlead)) J J J K2 Ze6 (Zd 6 J J J (Oi 2 J J (Yv (zs:=ys) (i:=ys.length-1) (d:=I0) (by omega)) Ze)) J hw) fun g_10 _=>r0' J J J J (stf (Ym J J) K1)<|r0' J J J J (stf (Yg J J J) K1)<|r0' J J J J (stf (Yg J J J) K1)<|r1' J J (Zm (i:=97) J J J J J (by decide) J Pf J J ⟨Zc J,Zr (i:=83) J Zi,trivial⟩ J hw ho17) fun _ _=>r3' J J (Zm (i:=98) J J J J J (by decide) J Pf J J ⟨Zc J,Zr (i:=84) J Zi,trivial⟩ J hw trivial) fun _ _=>Yr<|Yl (by kernel_rfl)<|Qv (_,_,_,_) trivial K6 ⟨by rw [←hcw,←hci2];rfl,by rw [←hcw,←hci2];rfl,by rw [←hcw,←hci2];rfl,by rw [←hcw,←hci2];rfl,rfl,rfl,rfl,rfl,rfl,rfl,trivial⟩
      ·exact Yo J J (Zt (i:=97) J J J Tryz.zeroValue48 J J hw K1) fun b_18 ho18=>Zx (n:=0) [(6,1),(13,1),(14,0),(15,0),(16,0),(19,1),(20,3)] (by kernel_rfl)<|r1' J J (Zh (n:=7) (Zg5 _ _ _ (((Zw zs).length-(Zw ys).length-j)+(Zw ys).length-1) (by omega) (by omega)) J J J K2 Zh7 (Zd 80 J J J Ze) J hw) fun v_6 _=>r1' J J (Zh (n:=83) (Gw _ _ _ _ (by rw [hcw];omega) (by rw [hci2];omega) (by rw [hci2];exact hlead)) J J J K2 Ze6 (Zd 7 J J J (Oi 2 J J (Yv (zs:=ys) (i:=ys.length-1) (d:=I0) (by omega)) Ze)) J hw) fun g_11 _=>r0' J J J J (stf (Ym J J) K1)<|r0' J J J J (stf (Yg J J J) K1)<|r0' J J J J (stf (Yg J J J) K1)<|r1' J J (Zm (i:=97) J J J J J (by decide) J Pf J J ⟨Zc J,Zr (i:=83) J Zi,trivial⟩ J hw ho18) fun _ _=>r3' J J (Zm (i:=98) J J J J J (by decide) J Pf J J ⟨Zc J,Zr (i:=84) J Zi,trivial⟩ J hw trivial) fun _ _=>Yr<|Yl (by kernel_rfl)<|Qv (_,_,_,_) trivial K6 ⟨by rw [←hcw,←hci2];rfl,by rw [←hcw,←hci2];rfl,by rw [←hcw,←hci2];rfl,by rw [←hcw,←hci2];rfl,rfl,rfl,rfl,rfl,rfl,rfl,trivial⟩
    ·rintro⟨qv,rv,b7,b8⟩ -
     simp only [List.cons_append,List.nil_append]
     refine Zb<|Zb<|Zg<|dt (Yc (i:=98) J J J Hh Pf J J) J<|tt (Zh (n:=7) (Zfk _ _ (by have:=Zl5 (cf (Qi (Zw zs) (Zw ys) j) (((Zw zs).length-(Zw ys).length-j)+(Zw ys).length-1)) (cf (Zw ys) ((Zw ys).length-1)) hlead;omega)) J J J K1 cF72 (Zd 84 J J J Ze) J hw) J fun _ _=>dt (Qd J J J) J<|Zf<|Za<|Zq J (fun h234=>?_) (fun h234=>?_)
     ·have hne:¬Mr (Zw zs) (Zw ys) ((Zw zs).length-(Zw ys).length-j):=fun he=>h234 (by rw [(Zcz hj2).1 he];rfl)
      refine Zb<|Zg<|as_ J J<|as_ J J<|Zf<|Za<|Zu<|Xe<|Iw<|Xe<|Xe<|Iw<|Xe<|Pr (Fm 62) ?_
      have hno:=pdv_no (p:=Zw zs) (q:=Zw ys) hnz (by omega) hne
      exact Zv (.inl J) hsc (.slice none 0 0,[]) _ (fun a w hs=>Ni hs Tryz.results55 J J) (by rw [hno]) (fun h=>absurd h (of_decide_eq_false hno)) J (Xb 62 J J J Zj)
     ·have hr0:((cf (Qi (Zw zs) (Zw ys) j) (((Zw zs).length-(Zw ys).length-j)+(Zw ys).length-1))%(cf (Zw ys) ((Zw ys).length-1)))=0:=Int.sign_eq_zero_iff_zero.1 (Decidable.byContradiction h234)
      have hde:Mr (Zw zs) (Zw ys) ((Zw zs).length-(Zw ys).length-j):=(Zcz hj2).2 hr0
      have hcb:=fun t=>Nat.le_trans (div_c hlead hr0 (Nat.le_refl _) t) hb2
      have hcc:=Ir (Int.dvd_of_emod_eq_zero hr0) (Nat.le_trans (Nat.le_add_right _ _) hb2)
      refine Zk<|Za<|Zb<|e_ex (Oq 83 J Zi) (fun sl hsl=>?_)
      subst hsl
      refine Zg<|mv J J<|mv J J<|dt (Yc (i:=97) J J J Hh Pf J J) J<|dt (Yz (ii:=60) (i:=((Zw zs).length-(Zw ys).length-j)) J J J J (Yn pI) Mj Pf (by omega) (by omega)) J<|tt (Kr (i:=60) (enc:=Cz) (((cf (Qi (Zw zs) (Zw ys) j) (((Zw zs).length-(Zw ys).length-j)+(Zw ys).length-1))/(cf (Zw ys) ((Zw ys).length-1))),sl) J J J J J J (by decide) pI (by omega) J hw) J fun _ _=>Zf<|Za<|Zb<|Ys (Oo (q:=qI) (z:=(((cf (Qi (Zw zs) (Zw ys) j) (((Zw zs).length-(Zw ys).length-j)+(Zw ys).length-1))/(cf (Zw ys) ((Zw ys).length-1))),sl)) 61 83 62 J J J J J)<|Ys (Zov (ys:=os.set ((Zw zs).length-(Zw ys).length-j) (((cf (Qi (Zw zs) (Zw ys) j) (((Zw zs).length-(Zw ys).length-j)+(Zw ys).length-1))/(cf (Zw ys) ((Zw ys).length-1))),sl)) 62 61 J J (fun y hy=>by rcases List.mem_or_eq_of_mem_set hy with h | h;exact List.mem_append_left _ h;rw [h];exact List.mem_append_right _ (List.mem_singleton.2 rfl)))<|Zg<|mv J J<|tt (Hw (i:=70) (n:=((Zw zs).length-(Zw ys).length-j)) (by_:=32) (enc:=Cz) I0 J J J J J (by omega) Mj Tryz.ti48 J pI.cells pI.pos J J (by omega) (by decide) J hw) J fun v_7 _=>as_ J J<|Zf<|Za<|Zb<|Zb<|Zg<|as_ J J<|Zf<|Za<|Zl ?_
      refine Ys (Za8 71 ((Zw zs).length-(Zw ys).length-j))<|Nt [(1,_),(6,_),(7,_),(8,_),(9,_)] [(0,_),(83,_),(84,_),(97,_),(98,_),(60,_),(61,_),(80,_),(1,_),(2,_)] (fun(q:Nat×Value×List (Int×SL))=>[(12,.int .i64 (q.1:Int)),(11,q.2.1)]) (fun(q:Nat×Value×List (Int×SL))=>[(70,osl 2 48 Cz q.2.1 q.2.2),(71,Zcw qI q.2.2)]) (fun(q:Nat×Value×List (Int×SL))=>(q.1≤ys.length)∧(Zw q.2.2=shm (Zw ys) ((cf (Qi (Zw zs) (Zw ys) j) (((Zw zs).length-(Zw ys).length-j)+(Zw ys).length-1))/(cf (Zw ys) ((Zw ys).length-1))) ((Zw zs).length-(Zw ys).length-j) q.1)∧(q.2.2.length=((Zw zs).length-(Zw ys).length-j)+q.1)) (fun(q:Nat×Value×List (Int×SL))=>ys.length-q.1) (0,_,List.replicate ((Zw zs).length-(Zw ys).length-j) I0) ⟨by first | omega | (dsimp only<;>omega),by rw [←Zms];simp [Zw],by simp⟩ K7 K12 ?_
      rintro⟨i,vo,ms⟩ ⟨hi,hms,hml⟩
      dsimp only at hi hms hml
      simp only [List.cons_append,List.nil_append]
      have hci:=Nu ys i
      refine Zb<|Zb<|Zg<|mv J J<|mv J J<|dt (Zy J J (i:=2) J Zz Mj) J<|dt (Qb J J J) J<|Zf<|Za<|Zq J (fun h239=>?_) (fun h239=>?_)
      ·refine Zk<|Za<|Zb<|Zl<|Nr [2,97] [9] (by kernel_rfl)<|Zx (n:=3) [(0,0),(1,0),(2,0),(3,0),(4,0),(5,0),(6,1)] (by kernel_rfl)<|r0' J J J J (stf (Ym J J) K2)<|r0' J J J J (stf (Yc (i:=97) J J J Hh Pf J J) K2)<|r0' J J J J (stf (Ym J J) K2)<|r0' J J J J (stf (Ym J J) K2)<|r0' J J J J (stf (Yz (ii:=2) J J J J Zz Mj Pf J (by first | omega | (simp only [List.length_set];omega))) K2)<|r0' J J J J (stf (Xs (ii:=2) I0 J J J Zz pI (by first | omega | (simp only [List.length_set];omega))) K2)<|r1' J J (Zh (n:=86) (Zez _ _ _ _ (by omega) (by rw [hci];have:=hsy i;omega)) J J J K2 Zuk (Zd 83 J J J (Oi 2 J J (Yv (i:=i) (by omega)) Ze)) J hw) fun v_8 _=>Yr<|Zl8 (Oq 86 J Zi) (fun sl_2 hsl=>?_)
       subst hsl
       refine Zx (n:=0) [(7,1),(8,1),(9,3)] (by kernel_rfl)<|r1' J J (Pt (i:=87) (ivs:=[(0,_)]) (enc:=Cz) [(((cf (Qi (Zw zs) (Zw ys) j) (((Zw zs).length-(Zw ys).length-j)+(Zw ys).length-1))/(cf (Zw ys) ((Zw ys).length-1)))*(ys.getD i I0).1,sl_2)] J J J K2 Mj Tryz.ti48 J J J J J J pI.cells J J hw) fun v_9 _=>r1' J J (Zmm 70 J J J K2 (fun hoffr=>(Zgm (xs:=ms) (ys:=[_]) (i:=70) (j:=87) (by_:=32) J J J J J J (by decide) J (Yn pI) Mj Tryz.ti48 J pI J J J (by simp;omega) (by decide) J hw hoffr))) fun v_10 _=>r3' J J (Od (Kk J J) J J) fun _ _=>Yr<|Yl (by kernel_rfl)<|Ob<|Za<|Zg<|mv J J<|dt (Yt J J J ⟨by omega,by omega⟩) J<|as_ J J<|Zf<|Pr (Oo (q:=qI) (z:=(((cf (Qi (Zw zs) (Zw ys) j) (((Zw zs).length-(Zw ys).length-j)+(Zw ys).length-1))/(cf (Zw ys) ((Zw ys).length-1)))*(ys.getD i I0).1,sl_2)) 71 86 71 J J J J J) ?_
       exact Xq (i+1,_,ms ++ [(((cf (Qi (Zw zs) (Zw ys) j) (((Zw zs).length-(Zw ys).length-j)+(Zw ys).length-1))/(cf (Zw ys) ((Zw ys).length-1)))*(ys.getD i I0).1,sl_2)]) ⟨by first | omega | (dsimp only<;>omega),by rw [Hd,hms,←Zmt];dsimp only;rw [hci],by simp;omega⟩ (by first | omega | (dsimp only<;>omega)) K7 K12
      ·refine Yu<|Zs<|Zs<|Ox<|Za<|Ys (Po 70 J J pI)<|Ys (Lu 70 71 72 J J J J)<|Zg<|mv J J<|mv J J<|tt (Zh (n:=8) (Zba _ _ (by rw [hms];exact Zqj fun t=>by have:=hcb t;omega)) J J J K1 cF89 (Zd 72 J J J Ze) J hw) J fun g_12 hg=>tt (Zh (n:=9) (rp_sub _ _ _ _ (by rw [hws];exact Sz.tzl fun t=>by have:=hb1 t;omega) (by omega) (by rw [hg,hms];exact Sz.tzl (Zqj fun t=>by have:=hcb t;omega)) (by have h7:=congrArg List.length hg;have h8:=Hu (Zw ms);have h9:=Ya ms;have h10:=Ya g_12.2;omega)) J J J K2 cF88 (Zd 80 J J J (Zd 8 J J J Ze)) J hw) J fun g_13 hg_2=>as_ J J<|Zf<|Ob<|Za<|Zg<|mv J J<|dt (Qg J J J ⟨by omega,by omega⟩) J<|as_ J J<|Zf ?_
       obtain rfl:i=(Zw ys).length:=by omega
       exact Pr (Nk 9 80 J J J)<|Xq (j+1,os.set ((Zw zs).length-(Zw ys).length-j) (((cf (Qi (Zw zs) (Zw ys) j) (((Zw zs).length-(Zw ys).length-j)+(Zw ys).length-1))/(cf (Zw ys) ((Zw ys).length-1))),sl),_,_) ⟨by dsimp only;omega,fun k h1 h2=>by dsimp only at h1 h2;rcases Nat.lt_or_ge ((Zw zs).length-(Zw ys).length) (k+j)with h3 | h3;(exact hx k h3 h2);(rw [show k=((Zw zs).length-(Zw ys).length-j) by omega];exact hde),by dsimp only;rw [Zwm,hos];exact Zs7 (by omega),by dsimp only;rw [hg_2,hg,hws,hms];exact Zwy (by omega) hj2⟩ (by first | omega | (dsimp only<;>omega)) ⟨J,by dsimp only;rw [show(zs.length:Int)-(ys.length:Int)-((j+1:Nat):Int)=(zs.length:Int)-(ys.length:Int)-(j:Int)-1 by omega];rfl,rfl,rfl,trivial⟩ K6
   ·refine Yu<|Zs<|Zs<|Ox<|Za<|Zb ?_
    have hall:∀k,k≤(Zw zs).length-(Zw ys).length→Mr (Zw zs) (Zw ys) k:=fun k hk=>hx k (by omega) hk
    exact Ys (Po 60 J J pI)<|Ys (Lu 60 61 72 J J J J)<|Zg<|mv J J<|tt (Zh (n:=10) (Zba _ _ (by rw [hos];exact(dout_sz hF3 hall _).mono (by omega))) J J J K1 cF89 (Zd 72 J J J Ze) J hw) J fun g_14 hg_3=>mv J J<|dt (Zy J J (i:=80) J Zz Mj) J<|dt (Pi J J J) J<|as_ J J<|as_ J J<|Zf<|Za<|Zu<|Zv (.inl J) hsc _ _ (fun a w hs=>Ni hs Tryz.results55 J J) (by rw [←pdv_end hnz (by omega) hall (show ws.length=_ by rw [←hlw,hws,show j=(Zw zs).length-(Zw ys).length+1 by omega]),show decide ((ws.length:Int)=0)=decide (ws.length=0)from decide_eq_decide.2 (by omega)]<;>rfl) (fun _=>by rw [hg_3,hos,show j=(Zw zs).length-(Zw ys).length+1 by omega,Zaj,Zhe hnz]) J (Xb 10 J J J Zj)
set_option maxHeartbeats 4000000 in
theorem rp_gcd(v u:Value)(zs ys:List (Int×SL))(F:Nat)(hv:Vp (Zw zs))(hu:Vp (Zw ys))(hok:eok F (Zw zs) (Zw ys)):Cal Tryz.prog 114 #[v,u] [pp v zs,pp u ys] true (G:=Value×List (Int×SL)) (fun r=>Zw r.2=Kd (Yx (eu F (Zw zs) (Zw ys)))) (fun r=>r.1) (fun r=>[pp r.1 r.2]):=by
 refine Yd Tryz.func114 J Tryz.ntmps114 J K2 ?_
 intro w0 sc hw hsc
 simp only [Zp,Zn]
 refine Zb<|Zg<|as_ J J<|Zf<|Za<|Zb<|Zg<|mv J J<|mv J J<|as_ J J<|as_ J J<|Zf<|Za<|Zb<|Zl<|Ys (Nk 1 80 J J J)<|Ys (Nk 2 81 J J J)<|Nt [] [(0,_),(1,_),(2,_)] (fun(q:Value×Value×List (Int×SL)×List (Int×SL)×Nat)=>[(5,q.1),(6,q.2.1)]) (fun(q:Value×Value×List (Int×SL)×List (Int×SL)×Nat)=>[(80,pp q.1 q.2.2.1),(81,pp q.2.1 q.2.2.2.1)]) (fun(q:Value×Value×List (Int×SL)×List (Int×SL)×Nat)=>(Vp (Zw q.2.2.1))∧(Vp (Zw q.2.2.2.1))∧(eok q.2.2.2.2 (Zw q.2.2.1) (Zw q.2.2.2.1))∧(eu q.2.2.2.2 (Zw q.2.2.1) (Zw q.2.2.2.1)=eu F (Zw zs) (Zw ys))) (fun(q:Value×Value×List (Int×SL)×List (Int×SL)×Nat)=>q.2.2.2.2) (_,_,zs,ys,F) ⟨hv,hu,hok,J⟩ K2 K5 ?_
 rintro⟨va,vb,aa,bb,f⟩ ⟨hva,hvb,hok0,heu⟩
 dsimp only at hva hvb hok0 heu
 simp only [List.cons_append,List.nil_append]
 have hla:=Ya aa
 have hlb:=Ya bb
 have hna:=hva.len
 have hnb:=hvb.len
 refine Zb<|Zb<|Zg<|mv J J<|dt (Zy J J (i:=81) J Zz Mj) J<|dt (On J J J) J<|Zf<|Za<|Zq J (fun h250=>?_) (fun h250=>?_)
 ·have hbn:Zw bb≠[]:=fun e=>by have h7:=congrArg List.length e;simp only [List.length_nil]at h7;omega
  obtain⟨f1,rfl,hde,hok1,heu1⟩:=Znx hok0 hbn
  have hdo:=(Bs hde).2
  have hvp:=Cg hva hde
  exact Zk<|Za<|Zl<|Zg<|mv J J<|mv J J<|mv J J<|tt (Zh (n:=3) (rp_rest _ _ _ _ (by omega) (by omega) (by omega) hvb.tr (fun h=>by have h7:=hdo (by omega);rw [hla,hlb]at h7;omega)) J J J K2 cF160 (Zd 80 J J J (Zd 81 J J J Ze)) J hw) J fun g hg=>tt (Zh (n:=4) (Iz _ _ (by rw [hg];exact hvp.sz.mono (by omega)) (by have h7:=congrArg List.length hg;have h8:=hvp.len;have h9:=Ya g.2;omega) (fun h=>by rw [hg];exact hvp.ne (fun e=>by have h7:=congrArg List.length hg;rw [e,Ya]at h7;exact h h7))) J J J K1 cF57 (Zd 3 J J J Ze) J hw) J fun g_2 hg_2=>as_ J J<|as_ J J<|Zf<|Ob<|Pr (Nk 81 80 J J J)<|Pr (Nk 4 81 J J J)<|Xq (_,_,bb,g_2.2,f1) ⟨hvb,by dsimp only;rw [hg_2,hg];exact Lt hvp,by dsimp only;rw [hg_2,hg];exact hok1,by dsimp only;rw [hg_2,hg,←heu1];exact heu⟩ (Nat.lt_succ_self f1) K2 K5
 ·have hbn:Zw bb=[]:=List.eq_nil_of_length_eq_zero (by omega)
  rw [hbn,Fx]at heu
  have hpb:=Iv hva.sz
  have hpl:=Yi (Zw aa)
  refine Yu<|Zs<|Zs<|Ox<|Za<|Zb<|Zg<|mv J J<|tt (Zh (n:=5) (Iz _ _ (hva.sz.mono (by omega)) (by omega) (fun h=>hva.ne (fun e=>by have h7:=congrArg List.length e;simp only [List.length_nil]at h7;omega))) J J J K1 cF57 (Zd 80 J J J Ze) J hw) J fun g_3 hg_3=>as_ J J<|Zf<|Za<|Zb<|Zb ?_
  have hpz:g_3.2.length=aa.length:=by rw [←Ya g_3.2,hg_3,hpl];exact hla
  refine Zg<|mv J J<|dt (Zy J J (i:=5) J Zz Mj) J<|dt (On J J J) J<|mv J J<|Qx (d:=22) J (fun s254=>?_) (fun s254=>?_)
  ·refine gdt (Ym J J) J J J J<|gdt (Ym J J) J J J J<|gdt (Zy J J (i:=5) J Zz Mj) J J J J<|gdt (Qg J J J ⟨by omega,by omega⟩) J J J J<|gdt (Yz (ii:=5) (i:=(g_3.2.length-1)) J J J J Zz Mj Pf (by omega) (by omega)) J J J J<|gdt (Xs (ii:=5) I0 J J J Zz pI (by omega)) J J J J<|gtt (Zh (n:=5) (Zfk _ _ (by rw [Nu,hg_3];have:=hpb (g_3.2.length-1);omega)) J J J K1 cF72 (Oi 5 J J (Yv (zs:=g_3.2) (i:=g_3.2.length-1) (d:=I0) (by omega)) Ze) J hw) J J J J fun _ _=>gdt (Qb J J J) J J J J<|dt (Xh J J J) J<|Zf<|Za<|Zq J (fun h254=>?_) (fun h254=>?_)
   ·have hlc:=Nu g_3.2 (g_3.2.length-1)
    have hneg:(Kd (Yx (Zw aa)))=Xk (Yx (Zw aa)) (-1):=by unfold Kd;rw [if_pos ⟨by omega,by rw [←hg_3,Ya,←hlc];exact(Qk _).1 h254⟩]
    exact Zb<|Zg<|mv J J<|tt (Zh (n:=6) (Zqv _ _ (by rw [hg_3];exact hpb.mono (by omega)) (by omega)) J J J K1 cF138 (Zd 5 J J J Ze) J hw) J fun g_4 hg_4=>as_ J J<|Zf<|Za<|Zu<|Xe<|Zv (.inl J) hsc _ _ (fun a w hs=>Qj hs Tryz.results114 J) J (by rw [hg_4,hg_3,←heu,hneg]) J (Xb 6 J J J Zj)
   ·refine Zk<|Za<|Zb<|Zg<|mv J J<|as_ J J<|Zf<|Za<|Zu ?_
    have hneg:(Kd (Yx (Zw aa)))=Yx (Zw aa):=by unfold Kd;rw [if_neg (fun h=>by rw [←hg_3,Ya,←Nu]at h;first | omega | exact absurd ((Qk _).2 h.2) (by assumption))]
    exact Zv (.inl J) hsc (_,g_3.2) _ (fun a w hs=>Qj hs Tryz.results114 J) J (by rw [hg_3,←heu,hneg]) J (Xb 5 J J J Zj)
  ·refine gsk J J J J J<|gsk J J J J J<|gsk J J J J J<|gsk J J J J J<|gsk J J J J J<|gsk J J J J J<|gsk J J J J J<|gsk J J J J J<|dt (Yh J J J) J<|Zf<|Za<|Yf J<|Zk<|Za<|Zb<|Zg<|mv J J<|as_ J J<|Zf<|Za<|Zu ?_
   have hneg:(Kd (Yx (Zw aa)))=Yx (Zw aa):=by unfold Kd;rw [if_neg (fun h=>by rw [←hg_3,Ya,←Nu]at h;first | omega | exact absurd ((Qk _).2 h.2) (by assumption))]
   exact Zv (.inl J) hsc (_,g_3.2) _ (fun a w hs=>Qj hs Tryz.results114 J) J (by rw [hg_3,←heu,hneg]) J (Xb 5 J J J Zj)
end Go.Sky

