/- rules, arithmetic and contracts: part 9
   Proved without conditions of its own: each theorem bears its own. -/
import Derived.Test.YtcmiiammekgooaaGreatSn03
import Derived.Test.YtcmiiammekgooaaGreatSn02
import Derived.Test.YtcmiiammekgooaaGreatSn01
import Derived.Test.YtcmiiammekgooaaGreatSn07
set_option linter.all false
namespace Go.Sky
open Go.Proofs.Tryz
open Go.Proofs
set_option maxRecDepth 20000
set_option maxHeartbeats 4000000
set_option linter.unusedSimpArgs false
theorem Zlw(b:Bool)(s:ByteArray):Mb prog 35 #[.agg #[.bool b,.string s]] [] (.bool (okW b s)):=by
 refine Yd func35 J ntmps35 J trivial ?_
 intro w0 sc hw hsc
 simp only [Zq,Zp]
 refine Ze<|Zg<|tt (Yz (i:=1) J J J J J hw) fun b _=>as_ J<|Zf<|Za<|Ze<|Ze<|Zg<|dt (Xu J J Zak J zT9 J J)<|dt (Ok (i:=1) J J J iA9 J)<|dt (Fl J J uT9)<|dt (Pv J J J)<|Zf<|Za<|Zs J (fun h25=>?_) (fun h25=>?_)
 ·exact Ze<|Zg<|dt (Xu J J Zak J zT4 J J)<|dt (Ok (i:=1) J J J iA4 J)<|dt (Xh J J)<|as_ J<|Zf<|Za<|Zw<|Xa<|Zy (.inl J) hsc () _ (fun a w hs=>Xy hs results35 J) (by unfold okW;rw [if_pos (by omega)]) trivial J Zj
 ·refine Zl<|Za<|Ze<|Zg<|dt (Xu J J Zak J zT9 J J)<|dt (Ok (i:=1) J J J iA9 J)<|dt (Fl J J uT9)<|dt (Ab J J J)<|mv J<|Pa (d:=14) J (fun s28=>?_) (fun s28=>?_)
  ·exact gdt (Xu J J Zak J zT9 J J) J J<|gdt (Ok (i:=1) J J J iA9 J) J J<|gdt (Zqh (i:=0) J J J uT9 J) J J<|gdt (Qc J J J) J J<|dt (Yu J J J)<|as_ J<|Zf<|Za<|Zw<|Zy (.inl J) hsc () _ (fun a w hs=>Xy hs results35 J) (by unfold okW;rw [if_neg (by omega)];simp_all<;>omega) trivial J Zj
  ·exact gsk J J J<|gsk J J J<|gsk J J J<|gsk J J J<|dt (Yg J J J)<|as_ J<|Zf<|Za<|Zw<|Zy (.inl J) hsc () _ (fun a w hs=>Xy hs results35 J) (by unfold okW;rw [if_neg (by omega)];simp_all<;>omega) trivial J Zj
theorem r_trim(v:Value)(xs:List Nat):Cal prog 77 #[v] [slp 1 Cg v xs] true (G:=Unit) (fun _=>True) (fun _=>Eb v (tz xs).length) (fun _=>[slp 1 Cg (Eb v (tz xs).length) (tz xs)]):=by
 refine Yd func77 J ntmps77 J K1 ?_
 intro w0 sc hw hsc
 simp only [Zq,Zp]
 refine Md (Zty (i:=1) J Zi) fun hself=>Md (Gg (i:=1) J Zi) fun hlen=>Ze<|Zg<|as_ J<|Zf<|Za<|Ze<|Zo<|Nw [] [(0,_)] (fun(k:Nat)=>[(0,Eb v k)]) (fun(k:Nat)=>[(1,slp 1 Cg (Eb v k) (xs.take k))]) (fun(k:Nat)=>(k≤xs.length)∧(tz (xs.take k)=tz xs)) (fun(k:Nat)=>k) xs.length ⟨Nat.le_refl _,by rw [List.take_length]⟩ ⟨by rw [hself];rfl,trivial⟩ ⟨by rw [hself,List.take_length];rfl,rfl,trivial⟩ ?_
 rintro k ⟨hk,ht⟩
 simp only [CA,NA]
 have hl:(xs.take k).length=k:=by rw [List.length_take];omega
 refine Ze<|Ze<|Zg<|mv J<|dt (Yh J J (i:=1) J Zi Me)<|dt (Of J J J)<|mv J<|Pa (d:=6) J (fun s33=>?_) (fun s33=>?_)
 ·refine gdt (Yr J J) J J<|gdt (Yr J J) J J<|gdt (Yh J J (i:=1) J Zi Me) J J<|gdt (Qf J J J ⟨by omega,by omega⟩) J J<|gdt (Xc (ii:=1) (i:=k-1) J J J J Zi Me zT3) J J<|gdt (Xs (ii:=1) 0 J J J Zi pN) J J<|gdt (Pv J J J) J J<|dt (Yu J J J)<|Zf<|Za<|Zs J (fun h33=>?_) (fun h33=>?_)
  ·have hstep:=Zq7 hk (by omega) (by omega:(xs.take k).getD (k-1) 0=0)
   exact Zl<|Za<|Zo<|Zg<|mv J<|mv J<|dt (Yh J J (i:=1) J Zi Me)<|dt (Qf J J J ⟨by omega,by omega⟩)<|dt (Zyg (ii:=1) (i:=k-1) J J J J Zi Me zT3)<|as_ J<|Zf<|Oe<|Qy (s_pre 1 1 (k-1) J J)<|Xp (k-1) ⟨by first | omega | (dsimp only<;>omega),by rw [←ht,←hstep]⟩ (by first | omega | (dsimp only<;>omega)) ⟨by rw [←Hr v k (k-1)];rfl,trivial⟩ ⟨by rw [Hr,List.take_take,Nat.min_eq_left (by omega)];rfl,rfl,trivial⟩
  ·refine Yw<|Zx<|Zx<|Na<|Za<|Ze<|Zg<|mv J<|as_ J<|Zf<|Za<|Zw ?_
   have hx:tz xs=xs.take k:=by rw [←ht];exact Zea hk (by omega)
   exact Zy (.inl J) hsc () _ (fun a w hs=>Xy hs results77 J) (by rw [hx,hl]) trivial J (Yp 1 J J J (by rw [hx,hl]) Zj)
 ·refine gsk J J J<|gsk J J J<|gsk J J J<|gsk J J J<|gsk J J J<|gsk J J J<|gsk J J J<|dt (Yg J J J)<|Zf<|Za<|Yi J<|Yw<|Zx<|Zx<|Na<|Za<|Ze<|Zg<|mv J<|as_ J<|Zf<|Za<|Zw ?_
  have hx:tz xs=xs.take k:=by rw [←ht];exact Zea hk (by omega)
  exact Zy (.inl J) hsc () _ (fun a w hs=>Xy hs results77 J) (by rw [hx,hl]) trivial J (Yp 1 J J J (by rw [hx,hl]) Zj)
theorem Kg(v:Value)(xs:List Nat):Cal prog 77 #[v] [slp 1 Cg v xs] false (G:=Unit) (fun _=>True) (fun _=>Eb v (tz xs).length) (fun _=>[]):=(r_trim v xs).bare
theorem Zlx(v w:Value)(x y:Nat)(hx:bl x≤4294967296:=by omega)(hy:bl y≤4294967296:=by omega):Mb prog 90 #[v,w] [d9p v x,d9p w y] (.int .i64 (Zqr x y)):=by
 refine Yd func90 J ntmps90 J K2 ?_
 intro w0 sc hw hsc
 simp only [Zq,Zp]
 have hX:=Kw x
 have hY:=Kw y
 refine Ze<|Zg<|as_ J<|Zf<|Za<|Ze<|Ze<|Zg<|mv J<|dt (Yh J J (i:=1) J Zi Me)<|mv J<|dt (Yh J J (i:=2) J Zi Me)<|dt (Qc J J J)<|Zf<|Za<|Zs J (fun h41=>?_) (fun h41=>?_)
 ·refine Ze<|Ze<|Zg<|mv J<|dt (Yh J J (i:=1) J Zi Me)<|mv J<|dt (Yh J J (i:=2) J Zi Me)<|dt (Xv J J J)<|Zf<|Za<|Zs J (fun h42=>?_) (fun h42=>?_)
  ·have hlt:x<y:=Cw Ng (by omega)
   exact Ze<|Zg<|as_ J<|Zf<|Za<|Zw<|Xa<|Xa<|Zy (.inl J) hsc () _ (fun a w hs=>Xy hs results90 J) (by unfold Zqr;rw [if_pos hlt]) trivial J Zj
  ·have hlt:y<x:=Cw Ng (by omega)
   exact Zl<|Za<|Ze<|Zg<|as_ J<|Zf<|Za<|Zw<|Xa<|Zy (.inl J) hsc () _ (fun a w hs=>Xy hs results90 J) (by unfold Zqr;rw [if_neg (by omega),if_pos hlt]) trivial J Zj
 ·have hlen:(dg 1000000000 x).length=(dg 1000000000 y).length:=by omega
  refine Zl<|Za<|Ze<|Ze<|Zg<|mv J<|dt (Yh J J (i:=1) J Zi Me)<|dt (Qf J J J ⟨by omega,by omega⟩)<|as_ J<|Zf<|Za<|Zo<|Nw [(0,_),(1,_)] [(0,_),(1,_),(2,_)] (fun(k:Nat)=>[(5,.int .i64 ((k:Int)-1))]) (fun(k:Nat)=>[]) (fun(k:Nat)=>(k≤(dg 1000000000 x).length)∧((dg 1000000000 x).drop k=(dg 1000000000 y).drop k)) (fun(k:Nat)=>k) (dg 1000000000 x).length ⟨by first | omega | (dsimp only<;>omega),by rw [List.drop_length,hlen,List.drop_length]⟩ K3 K3 ?_
  rintro k ⟨hk,hd⟩
  simp only [CA,NA]
  refine Ze<|Ze<|Zg<|mv J<|dt (Ke J J J)<|Zf<|Za<|Zs J (fun h47=>?_) (fun h47=>?_)
  ·refine Zl<|Za<|Ze<|Zo<|Ze<|Ze<|Qo (fun _=>False) [(0,0),(1,0),(2,0),(3,0),(4,0),(5,0),(6,0),(7,0),(8,0)] ?_ ?_
   ·kernel_rfl
   refine r0' J J (st0 (Yr J J))<|r0' J J (st0 (Yr J J))<|r0' J J (st0 (Xc (ii:=1) (i:=k-1) J J J J Zi Me zT3))<|r0' J J (st0 (Xs (ii:=1) 0 J J J Zi pN (by first | omega | (simp only [List.length_set];omega))))<|r0' J J (st0 (Yr J J))<|r0' J J (st0 (Yr J J))<|r0' J J (st0 (Xc (ii:=2) (i:=k-1) J J J J Zi Me zT3))<|r0' J J (st0 (Xs (ii:=2) 0 J J J Zi pN (by first | omega | (simp only [List.length_set];omega))))<|r0' J J (st0 (Xv J J J))<|Oh<|Za<|Zs J (fun h48=>?_) (fun h48=>?_)
   ·have hlt:=Zpd Hx (xs:=(dg 1000000000 x)) (ys:=(dg 1000000000 y)) (Lo Ng x) (k:=k-1) (by omega) (by omega) (by rw [show k-1+1=k by omega];exact hd) (by omega)
    rw [Le Ng,Le Ng]at hlt
    exact Ze<|Zg<|as_ J<|Zf<|Za<|Zw<|Xa<|Iw<|Xa<|Xa<|Iw<|Xa<|Zy (.inl J) hsc () _ (fun a w hs=>Xy hs results90 J) (by unfold Zqr;rw [if_pos hlt]) trivial J Zj
   ·refine Zl<|Za<|Ze<|Qo (fun _=>False) [(0,0),(1,0),(2,0),(3,0),(4,0),(5,0),(6,0),(7,0),(8,0)] ?_ ?_
    ·kernel_rfl
    refine r0' J J (st0 (Yr J J))<|r0' J J (st0 (Yr J J))<|r0' J J (st0 (Xc (ii:=1) (i:=k-1) J J J J Zi Me zT3))<|r0' J J (st0 (Xs (ii:=1) 0 J J J Zi pN (by first | omega | (simp only [List.length_set];omega))))<|r0' J J (st0 (Yr J J))<|r0' J J (st0 (Yr J J))<|r0' J J (st0 (Xc (ii:=2) (i:=k-1) J J J J Zi Me zT3))<|r0' J J (st0 (Xs (ii:=2) 0 J J J Zi pN (by first | omega | (simp only [List.length_set];omega))))<|r0' J J (st0 (Of J J J))<|Oh<|Za<|Zs J (fun h51=>?_) (fun h51=>?_)
    ·have hlt:=Zpd Hx (xs:=(dg 1000000000 y)) (ys:=(dg 1000000000 x)) (Lo Ng y) (k:=k-1) (by omega) (by omega) (by rw [show k-1+1=k by omega];exact hd.symm) (by omega)
     rw [Le Ng,Le Ng]at hlt
     exact Ze<|Zg<|as_ J<|Zf<|Za<|Zw<|Iw<|Xa<|Xa<|Iw<|Xa<|Zy (.inl J) hsc () _ (fun a w hs=>Xy hs results90 J) (by unfold Zqr;rw [if_neg (by omega),if_pos hlt]) trivial J Zj
    ·exact Zl<|Oe<|Za<|Zg<|mv J<|dt (Qf J J J ⟨by omega,by omega⟩)<|as_ J<|Zf<|Xp (k-1) ⟨by first | omega | (dsimp only<;>omega),by have:=Zc5 (xs:=(dg 1000000000 x)) (ys:=(dg 1000000000 y)) (k:=k-1) (by omega) (by omega) (by rw [show k-1+1=k by omega];exact hd) (by omega);exact this⟩ (by first | omega | (dsimp only<;>omega)) ⟨by rw [show(((k-1:Nat):Int)-1)=(k:Int)-1-1 by omega];rfl,rfl,rfl,trivial⟩ K3
  ·refine Yw<|Zx<|Zx<|Na<|Za<|Ze<|Zg<|as_ J<|Zf<|Za<|Zw ?_
   obtain rfl:k=0:=by omega
   have heq:x=y:=(Zff Ng).1 (by simpa using hd)
   exact Zy (.inl J) hsc () _ (fun a w hs=>Xy hs results90 J) (by unfold Zqr;rw [if_neg (by omega),if_neg (by omega)]) trivial J Zj
theorem Zr7(v w:Value)(x y:Nat)(hx:bl x≤4294967296)(hy:bl y≤4294967296):Cal prog 75 #[v,w] [d9p v x,d9p w y] false (G:=Value) (fun r=>True) (fun r=>r) (fun r=>[d9p r (x+y)]):=by
 refine Yd func75 J ntmps75 J K2 ?_
 intro w0 sc hw hsc
 simp only [Zq,Zp]
 have hX:=Kw x
 have hY:=Kw y
 refine Ze<|Zg<|as_ J<|Zf<|Za<|Ze<|Zg<|as_ J<|Zf<|Za<|Ze<|Zg<|as_ J<|Zf<|Za<|Ze<|Ze<|Zg<|as_ J<|Zf<|Za<|Zo<|Yq (Nh 70 1 3 Cg)<|Nw [(0,_),(1,_)] [(0,_),(1,_),(2,_)] (fun(q:Nat×List Nat×Nat×Value)=>[(7,.int .i64 (q.1:Int)),(6,.int .i64 (q.2.2.1:Int)),(5,q.2.2.2)]) (fun(q:Nat×List Nat×Nat×Value)=>[(70,osl 1 3 Cg q.2.2.2 q.2.1)]) (fun(q:Nat×List Nat×Nat×Value)=>(q.1≤max (dg 1000000000 x).length (dg 1000000000 y).length+1∧(q.1=max (dg 1000000000 x).length (dg 1000000000 y).length+1→q.2.2.1=0))∧(q.2.1.length=q.1)∧(∀d∈q.2.1,d<1000000000)∧(q.2.2.1≤1)∧(val 1000000000 q.2.1+q.2.2.1*1000000000^q.1=val 1000000000 ((dg 1000000000 x).take q.1)+val 1000000000 ((dg 1000000000 y).take q.1))∧(q.1=0∨1000000000^(q.1-1)≤x+y)) (fun(q:Nat×List Nat×Nat×Value)=>max (dg 1000000000 x).length (dg 1000000000 y).length+1-q.1) (0,[],0,.slice none 0 0) ⟨⟨by omega,by omega⟩,J,by simp,by first | omega | (dsimp only<;>omega),by simp [val],.inl rfl⟩ K5 K4 ?_
 rintro⟨i,o,c,vo⟩ ⟨hi,hol,hoa,hc,hv,hge⟩
 dsimp only at hi hol hoa hc hv hge
 simp only [CA,NA]
 refine Ze<|Da [(0,_),(1,_),(5,_),(6,_),(7,_)] [(0,_),(70,_),(1,_),(2,_)] (fun(_:Unit)=>[(21,.bool (decide (i<(dg 1000000000 x).length∨i<(dg 1000000000 y).length∨0<c)))]) (fun(_:Unit)=>[]) (fun(_:Unit)=>True) K5 K4 ?_ ?_
 ·refine Zg<|mv J<|mv J<|dt (Yh J J (i:=1) J Zi Me)<|dt (Xv J J J)<|mv J<|Pa (d:=12) J (fun s62=>?_) (fun s62=>?_)
  ·exact gsk J J J<|gsk J J J<|gsk J J J<|gsk J J J<|dt (Yu J J J)<|mv J<|gsk J J J<|gsk J J J<|dt (Yu J J J)<|Zf<|Ql () trivial ⟨by first | exact congrArg some (congrArg Value.bool (decide_eq_decide.2 (by omega))) | exact congrArg some (congrArg Value.bool (decide_eq_true (by omega)).symm),rfl,rfl,rfl,rfl,rfl,trivial⟩ K4
  ·refine gdt (Yr J J) J J<|gdt (Yr J J) J J<|gdt (Yh J J (i:=2) J Zi Me) J J<|gdt (Xv J J J) J J<|dt (Yg J J J)<|mv J<|Pa (d:=18) J (fun s62_2=>?_) (fun s62_2=>?_)
   ·exact gsk J J J<|gsk J J J<|dt (Yu J J J)<|Zf<|Ql () trivial ⟨by first | exact congrArg some (congrArg Value.bool (decide_eq_decide.2 (by omega))) | exact congrArg some (congrArg Value.bool (decide_eq_true (by omega)).symm),rfl,rfl,rfl,rfl,rfl,trivial⟩ K4
   ·exact gdt (Yr J J) J J<|gdt (Of J J J) J J<|dt (Yg J J J)<|Zf<|Ql () trivial ⟨by first | exact congrArg some (congrArg Value.bool (decide_eq_decide.2 (by omega))) | exact congrArg some (congrArg Value.bool (decide_eq_true (by omega)).symm),rfl,rfl,rfl,rfl,rfl,trivial⟩ K4
 ·rintro _ -
  simp only [CA,NA]
  refine Zs J (fun h62=>?_) (fun h62=>?_)
  ·have hgn:1000000000^i≤x+y:=by
    rcases h62 with h1 | h1 | h1
    ·have:=Cn Ng h1;omega
    ·have:=Cn Ng h1;omega
    ·by_cases h2:i<(dg 1000000000 x).length
     ·have:=Cn Ng h2;omega
     ·by_cases h3:i<(dg 1000000000 y).length
      ·have:=Cn Ng h3;omega
      ·rw [Ix Ng (by omega),Ix Ng (by omega)]at hv
       have:1000000000^i≤c*1000000000^i:=Nat.le_mul_of_pos_left _ h1
       omega
   refine Zl<|Za<|Ze<|Zo<|Da [(0,_),(1,_),(5,_),(7,_)] [(0,_),(70,_),(1,_),(2,_)] (fun(_:Unit)=>[(6,.int .i64 ((c+(dg 1000000000 x).getD i 0:Nat):Int))]) (fun(_:Unit)=>[]) (fun(_:Unit)=>True) K4 K4 ?_ ?_
   ·refine Ze<|Zg<|mv J<|mv J<|dt (Yh J J (i:=1) J Zi Me)<|dt (Xv J J J)<|Zf<|Za<|Zs J (fun h63=>?_) (fun h63=>?_)
    ·refine Zg<|mv J<|mv J<|mv J<|dt (Xc (ii:=1) J J J J Zi Me zT3 J (by first | omega | (simp only [List.length_set];omega)))<|dt (Xs (ii:=1) 0 J J J Zi pN (by first | omega | (simp only [List.length_set];omega)))<|dt (Zil J J J (by have h1:=(Qs Hx (Lo Ng x) i);omega))<|as_ J<|Zf ?_
     try (have hz:(dg 1000000000 x).getD i 0=0:=by simp [List.getD,List.getElem?_eq_none (by omega:(dg 1000000000 x).length≤i)])
     exact Ql () trivial ⟨by first | rfl | (rw [hz];rfl),rfl,rfl,rfl,rfl,trivial⟩ K4
    ·refine Zl ?_
     try (have hz:(dg 1000000000 x).getD i 0=0:=by simp [List.getD,List.getElem?_eq_none (by omega:(dg 1000000000 x).length≤i)])
     exact Ql () trivial ⟨by first | rfl | (rw [hz];rfl),rfl,rfl,rfl,rfl,trivial⟩ K4
   ·rintro _ -
    simp only [CA,NA]
    refine Da [(0,_),(1,_),(5,_),(7,_)] [(0,_),(70,_),(1,_),(2,_)] (fun(_:Unit)=>[(6,.int .i64 ((c+(dg 1000000000 x).getD i 0+(dg 1000000000 y).getD i 0:Nat):Int))]) (fun(_:Unit)=>[]) (fun(_:Unit)=>True) K4 K4 ?_ ?_
    ·refine Ze<|Zg<|mv J<|mv J<|dt (Yh J J (i:=2) J Zi Me)<|dt (Xv J J J)<|Zf<|Za<|Zs J (fun h66=>?_) (fun h66=>?_)
     ·refine Zg<|mv J<|mv J<|mv J<|dt (Xc (ii:=2) J J J J Zi Me zT3 J (by first | omega | (simp only [List.length_set];omega)))<|dt (Xs (ii:=2) 0 J J J Zi pN (by first | omega | (simp only [List.length_set];omega)))<|dt (Zil J J J (by have h1:=(Qs Hx (Lo Ng x) i);have h2:=(Qs Hx (Lo Ng y) i);omega))<|as_ J<|Zf ?_
      try (have hz:(dg 1000000000 y).getD i 0=0:=by simp [List.getD,List.getElem?_eq_none (by omega:(dg 1000000000 y).length≤i)])
      exact Ql () trivial ⟨by first | rfl | (rw [hz];rfl),rfl,rfl,rfl,rfl,trivial⟩ K4
     ·refine Zl ?_
      try (have hz:(dg 1000000000 y).getD i 0=0:=by simp [List.getD,List.getElem?_eq_none (by omega:(dg 1000000000 y).length≤i)])
      exact Ql () trivial ⟨by first | rfl | (rw [hz];rfl),rfl,rfl,rfl,rfl,trivial⟩ K4
    ·rintro _ -
     simp only [CA,NA]
     exact Ze<|Zg<|mv J<|mv J<|dt (Zs3 (n:=1000000000) J J J (by omega))<|tt (Pm (i:=3) (ivs:=[(0,_)]) (enc:=Cg) [(c+(dg 1000000000 x).getD i 0+(dg 1000000000 y).getD i 0)%1000000000] J J K2 Me ti3 J J J J J pN.cells J J hw) fun v _=>tt (Iv (i:=70) (j:=3) (by_:=8) J J J J J J (by decide) J (Yt pN) Me ti3 J pN J J J (by simp;omega) (by decide) J hw) fun v_2 _=>as_ J<|Zf<|Za<|Zg<|mv J<|dt (Zmc (n:=1000000000) J J J (by have h1:=(Qs Hx (Lo Ng x) i);have h2:=(Qs Hx (Lo Ng y) i);omega) (by omega))<|as_ J<|Zf<|Oe<|Za<|Zg<|mv J<|dt (Yy J J J ⟨by omega,by omega⟩)<|as_ J<|Zf<|Xp (i+1,o ++ [(c+(dg 1000000000 x).getD i 0+(dg 1000000000 y).getD i 0)%1000000000],(c+(dg 1000000000 x).getD i 0+(dg 1000000000 y).getD i 0)/1000000000,_) ⟨⟨by dsimp only;omega,fun h=>by dsimp only at h ⊢;rw [Zbk (by omega:(dg 1000000000 x).length≤i),Zbk (by omega:(dg 1000000000 y).length≤i)];omega⟩,by simp [hol],Zi7 hoa (Nat.mod_lt _ Hx),by have h1:=(Qs Hx (Lo Ng x) i);have h2:=(Qs Hx (Lo Ng y) i);dsimp only;omega,Zsk hol hv,.inr hgn⟩ (by first | omega | (dsimp only<;>omega)) K5 K4
  ·refine Yw<|Zx<|Zx<|Na<|Za<|Ze<|Zg<|mv J<|as_ J<|Zf<|Za<|Zw ?_
   have hc0:c=0:=by omega
   have hv2:val 1000000000 o=x+y:=by
    rw [Ix Ng (by omega),Ix Ng (by omega),hc0,Nat.zero_mul,Nat.add_zero]at hv
    exact hv
   have hx:o=dg 1000000000 (x+y):=Zq8 Ng hoa hv2 (by rw [hol];exact hge)
   exact Zy (.inl J) hsc _ _ (fun a w hs=>Xy hs results75 J) J trivial J (Ob 70 J J pN (by rw [←hx]<;>rfl) Zj)
theorem Zly(v w:Value)(x y:Nat)(hxy:y≤x)(hx:bl x≤4294967296:=by omega):Cal prog 91 #[v,w] [d9p v x,d9p w y] false (G:=Value) (fun r=>True) (fun r=>r) (fun r=>[d9p r (x-y)]):=by
 refine Yd func91 J ntmps91 J K2 ?_
 intro w0 sc hw hsc
 simp only [Zq,Zp]
 have hX:=Kw x
 have hm:=Oz hxy
 have hY:=Kw y
 have hly:(dg 1000000000 y).length≤(dg 1000000000 x).length:=Zmv Ng hxy
 refine Ze<|Zg<|as_ J<|Zf<|Za<|Ze<|Zg<|as_ J<|Zf<|Za<|Ze<|Zg<|as_ J<|Zf<|Za<|Ze<|Ze<|Zg<|as_ J<|Zf<|Za<|Zo<|Yq (Nh 70 1 3 Cg)<|Nw [(0,_),(1,_)] [(0,_),(1,_),(2,_)] (fun(q:Nat×List Nat×Nat×Value)=>[(7,.int .i64 (q.1:Int)),(6,.int .i64 (q.2.2.1:Int)),(5,q.2.2.2)]) (fun(q:Nat×List Nat×Nat×Value)=>[(70,osl 1 3 Cg q.2.2.2 q.2.1)]) (fun(q:Nat×List Nat×Nat×Value)=>(q.1≤(dg 1000000000 x).length)∧(q.2.1.length=q.1)∧(∀d∈q.2.1,d<1000000000)∧(q.2.2.1≤1)∧(val 1000000000 q.2.1+val 1000000000 ((dg 1000000000 y).take q.1)=val 1000000000 ((dg 1000000000 x).take q.1)+q.2.2.1*1000000000^q.1)) (fun(q:Nat×List Nat×Nat×Value)=>(dg 1000000000 x).length-q.1) (0,[],0,.slice none 0 0) ⟨by first | omega | (dsimp only<;>omega),rfl,by simp,by first | omega | (dsimp only<;>omega),by simp [val]⟩ K5 K4 ?_
 rintro⟨i,o,c,vo⟩ ⟨hi,hol,hoa,hc,hv⟩
 dsimp only at hi hol hoa hc hv
 simp only [CA,NA]
 have hda:=(Qs Hx (Lo Ng x) i)
 have hdb:=(Qs Hx (Lo Ng y) i)
 refine Ze<|Ze<|Zg<|mv J<|mv J<|dt (Yh J J (i:=1) J Zi Me)<|dt (Xv J J J)<|Zf<|Za<|Zs J (fun h79=>?_) (fun h79=>?_)
 ·refine Zl<|Za<|Ze<|Zo<|Ze<|Zg<|mv J<|mv J<|dt (Xc (ii:=1) J J J J Zi Me zT3 J (by first | omega | (simp only [List.length_set];omega)))<|dt (Xs (ii:=1) 0 J J J Zi pN (by first | omega | (simp only [List.length_set];omega)))<|mv J<|dt (Qf J J J ⟨by omega,by omega⟩)<|as_ J<|Zf<|Za<|Da [(0,_),(1,_),(5,_),(7,_)] [(0,_),(70,_),(1,_),(2,_)] (fun(_:Unit)=>[(8,.int .i64 (((dg 1000000000 x).getD i 0:Int)-(c:Int)-((dg 1000000000 y).getD i 0:Int)))]) (fun(_:Unit)=>[]) (fun(_:Unit)=>True) K4 K4 ?_ ?_
  ·refine Ze<|Zg<|mv J<|mv J<|dt (Yh J J (i:=2) J Zi Me)<|dt (Xv J J J)<|Zf<|Za<|Zs J (fun h81=>?_) (fun h81=>?_)
   ·refine Zg<|mv J<|mv J<|mv J<|dt (Xc (ii:=2) J J J J Zi Me zT3 J (by first | omega | (simp only [List.length_set];omega)))<|dt (Xs (ii:=2) 0 J J J Zi pN (by first | omega | (simp only [List.length_set];omega)))<|dt (Qf J J J ⟨by omega,by omega⟩)<|as_ J<|Zf ?_
    try (have hz:(dg 1000000000 y).getD i 0=0:=by simp [List.getD,List.getElem?_eq_none (by omega:(dg 1000000000 y).length≤i)])
    exact Ql () trivial ⟨by first | rfl | (rw [hz];exact congrArg some (Ag (by omega))),rfl,rfl,rfl,rfl,trivial⟩ K4
   ·refine Zl ?_
    try (have hz:(dg 1000000000 y).getD i 0=0:=by simp [List.getD,List.getElem?_eq_none (by omega:(dg 1000000000 y).length≤i)])
    exact Ql () trivial ⟨by first | rfl | (rw [hz];exact congrArg some (Ag (by omega))),rfl,rfl,rfl,rfl,trivial⟩ K4
  ·rintro _ -
   simp only [CA,NA]
   refine Ze<|Zg<|as_ J<|Zf<|Za<|Da [(0,_),(1,_),(5,_),(7,_)] [(0,_),(70,_),(1,_),(2,_)] (fun(_:Unit)=>[(8,.int .i64 ((d9s ((dg 1000000000 x).getD i 0) ((dg 1000000000 y).getD i 0) c:Nat):Int)),(6,.int .i64 ((brw ((dg 1000000000 x).getD i 0) ((dg 1000000000 y).getD i 0) c:Nat):Int))]) (fun(_:Unit)=>[]) (fun(_:Unit)=>True) K4 K4 ?_ ?_
   ·refine Ze<|Zg<|mv J<|dt (Xv J J J)<|Zf<|Za<|Zs J (fun h85=>?_) (fun h85=>?_)
    ·exact Zg<|mv J<|dt (Yy J J J ⟨by omega,by omega⟩)<|as_ J<|as_ J<|Zf<|Ql () trivial ⟨by exact congrArg some (Ag (by unfold d9s;split<;>omega)),by exact congrArg some (Ag (by unfold brw;split<;>omega)),rfl,rfl,rfl,rfl,trivial⟩ K4
    ·exact Zl<|Ql () trivial ⟨by exact congrArg some (Ag (by unfold d9s;split<;>omega)),by exact congrArg some (Ag (by unfold brw;split<;>omega)),rfl,rfl,rfl,rfl,trivial⟩ K4
   ·rintro _ -
    simp only [CA,NA]
    exact Zg<|mv J<|mv J<|tt (Pm (i:=3) (ivs:=[(0,_)]) (enc:=Cg) [d9s ((dg 1000000000 x).getD i 0) ((dg 1000000000 y).getD i 0) c] J J K2 Me ti3 J J J J J pN.cells J J hw) fun v _=>tt (Iv (i:=70) (j:=3) (by_:=8) J J J J J J (by decide) J (Yt pN) Me ti3 J pN J J J (by simp;omega) (by decide) J hw) fun v_2 _=>as_ J<|Zf<|Oe<|Za<|Zg<|mv J<|dt (Yy J J J ⟨by omega,by omega⟩)<|as_ J<|Zf<|Xp (i+1,o ++ [d9s ((dg 1000000000 x).getD i 0) ((dg 1000000000 y).getD i 0) c],brw ((dg 1000000000 x).getD i 0) ((dg 1000000000 y).getD i 0) c,_) ⟨by first | omega | (dsimp only<;>omega),by simp [hol],Zi7 hoa (Zuo hda hdb hc).1,brw_le _ _ _,Zqc hc hda hdb hol hv⟩ (by first | omega | (dsimp only<;>omega)) K5 K4
 ·refine Yw<|Zx<|Zx<|Na<|Za<|Ze<|Zg<|mv J<|tt (Zh (n:=3) (Kg _ _) J J J K1 call77 (Xr 70 J J pN Zd) J hw) fun _ _=>Oa (Zgf 70 J J pN)<|as_ J<|Zf<|Za<|Zw ?_
  obtain rfl:i=(dg 1000000000 x).length:=by omega
  have hx:tz o=dg 1000000000 (x-y):=by
   rw [←Kr Ng _ hoa]
   congr 1
   rw [Nu _ (dg 1000000000 y) _ hly,Nu _ (dg 1000000000 x) _ (Nat.le_refl _),Le Ng,Le Ng]at hv
   have h1:=Zf9 Hx o hoa
   rw [hol]at h1
   have h0:c=0∨c=1:=by omega
   rcases h0 with rfl | rfl<;>omega
  exact Zy (.inl J) hsc _ _ (fun a w hs=>Xy hs results91 J) J trivial J (Ob 70 J J pN (by rw [hx]<;>rfl) Zj)
set_option maxHeartbeats 4000000 in
theorem Zr6(v w:Value)(x y:Nat)(hx:bl x≤4294967296)(hy:bl y≤4294967296):Cal prog 123 #[v,w] [d9p v x,d9p w y] false (G:=Value) (fun r=>True) (fun r=>r) (fun r=>[d9p r (x*y)]):=by
 refine Yd func123 J ntmps123 J K2 ?_
 intro w0 sc hw hsc
 simp only [Zq,Zp]
 have hX:=Kw x
 have hY:=Kw y
 refine Ze<|Zg<|as_ J<|Zf<|Za<|Ze<|Zg<|mv J<|dt (Yh J J (i:=1) J Zi Me)<|mv J<|dt (Yh J J (i:=2) J Zi Me)<|dt (Yy J J J ⟨by omega,by omega⟩)<|tt (Gd (i:=3) (n:=((dg 1000000000 x).length+(dg 1000000000 y).length)) (by_:=8) (enc:=Cg) 0 J J J J Me ti3 J pN.cells pN.pos J J J hw) fun v _=>as_ J<|Zf<|Za<|Ze<|Ze<|Zg<|as_ J<|Zf<|Za<|Zo<|Nw [(0,_),(1,_),(5,_)] [(0,_),(1,_),(2,_)] (fun(q:Nat×List Nat)=>[(6,.int .i64 (q.1:Int))]) (fun(q:Nat×List Nat)=>[(3,osl 1 3 Cg v q.2)]) (fun(q:Nat×List Nat)=>(q.1≤(dg 1000000000 x).length)∧(q.2.length=((dg 1000000000 x).length+(dg 1000000000 y).length))∧(∀d∈q.2,d<1000000000)∧(∀j,q.1+(dg 1000000000 y).length≤j→q.2.getD j 0=0)∧(val 1000000000 q.2=val 1000000000 ((dg 1000000000 x).take q.1)*y)) (fun(q:Nat×List Nat)=>(dg 1000000000 x).length-q.1) (0,List.replicate ((dg 1000000000 x).length+(dg 1000000000 y).length) 0) ⟨by first | omega | (dsimp only<;>omega),by simp,Ni _ Hx,fun j _=>Lr _ j,by simp [val,Ii]⟩ K4 K4 ?_
 rintro⟨i,o⟩ ⟨hi,hol,hoa,hz0,hv⟩
 dsimp only at hi hol hoa hz0 hv
 simp only [CA,NA]
 refine Ze<|Ze<|Zg<|mv J<|mv J<|dt (Yh J J (i:=1) J Zi Me)<|dt (Xv J J J)<|Zf<|Za<|Zs J (fun h96=>?_) (fun h96=>?_)
 ·refine Zl<|Za<|Ze<|Zo<|Ze<|Zg<|as_ J<|Zf<|Za<|Ze<|Zg<|as_ J<|Zf<|Za<|Zo<|Nw [(0,_),(1,_),(5,_),(6,_)] [(0,_),(1,_),(2,_)] (fun(q:Nat×List Nat×Nat)=>[(8,.int .i64 (q.1:Int)),(7,.int .i64 (q.2.2:Int))]) (fun(q:Nat×List Nat×Nat)=>[(3,osl 1 3 Cg v q.2.1)]) (fun(q:Nat×List Nat×Nat)=>(q.1≤(dg 1000000000 y).length+1∧(q.1=(dg 1000000000 y).length+1→q.2.2=0))∧(q.2.1.length=((dg 1000000000 x).length+(dg 1000000000 y).length))∧(∀d∈q.2.1,d<1000000000)∧(∀j,i+q.1≤j→i+(dg 1000000000 y).length≤j→q.2.1.getD j 0=0)∧(q.2.2<1000000000)∧(val 1000000000 q.2.1+q.2.2*1000000000^(i+q.1)=val 1000000000 ((dg 1000000000 x).take i)*y+(dg 1000000000 x).getD i 0*1000000000^i*val 1000000000 ((dg 1000000000 y).take q.1))) (fun(q:Nat×List Nat×Nat)=>(dg 1000000000 y).length+1-q.1) (0,o,0) ⟨⟨by omega,by omega⟩,hol,hoa,fun j _ h=>hz0 j h,by first | omega | (dsimp only<;>omega),by rw [hv];simp [val]⟩ K6 K4 ?_
  rintro⟨k,p,c⟩ ⟨hk,hpl,hpa,hpz,hcU,hpv⟩
  dsimp only at hk hpl hpa hpz hcU hpv
  simp only [CA,NA]
  have hdig:=Zli (Qs Hx (Lo Ng x) i) (Qs Hx (Lo Ng y) k) (Qs Hx hpa (i+k)) hcU
  refine Ze<|Da [(0,_),(1,_),(5,_),(6,_),(7,_),(8,_)] [(0,_),(3,_),(1,_),(2,_)] (fun(_:Unit)=>[(29,.bool (decide (k<(dg 1000000000 y).length∨0<c)))]) (fun(_:Unit)=>[]) (fun(_:Unit)=>True) K6 K4 ?_ ?_
  ·refine Zg<|mv J<|mv J<|dt (Yh J J (i:=2) J Zi Me)<|dt (Xv J J J)<|mv J<|Pa (d:=26) J (fun s98=>?_) (fun s98=>?_)
   ·exact gsk J J J<|gsk J J J<|dt (Yu J J J)<|Zf<|Ql () trivial ⟨by first | exact congrArg some (congrArg Value.bool (decide_eq_decide.2 (by omega))) | exact congrArg some (congrArg Value.bool (decide_eq_true (by omega)).symm),rfl,rfl,rfl,rfl,rfl,rfl,trivial⟩ K4
   ·exact gdt (Yr J J) J J<|gdt (Of J J J) J J<|dt (Yg J J J)<|Zf<|Ql () trivial ⟨by first | exact congrArg some (congrArg Value.bool (decide_eq_decide.2 (by omega))) | exact congrArg some (congrArg Value.bool (decide_eq_true (by omega)).symm),rfl,rfl,rfl,rfl,rfl,rfl,trivial⟩ K4
  ·rintro _ -
   simp only [CA,NA]
   refine Zs J (fun h98=>?_) (fun h98=>?_)
   ·refine Zl<|Za<|Ze<|Zo<|Ze<|Zg<|mv J<|mv J<|mv J<|dt (Zil J J J (by omega))<|dt (Xc (ii:=3) (i:=(i+k)) J J J J (Yt pN) Me zT3)<|dt (Xs (ii:=3) 0 J J J (Yt pN) pN)<|mv J<|dt (Zil J J J (by have h1:=Qs Hx hpa (i+k);omega))<|as_ J<|Zf<|Za<|Da [(0,_),(1,_),(5,_),(6,_),(8,_)] [(0,_),(3,_),(1,_),(2,_)] (fun(_:Unit)=>[(9,.int .i64 ((p.getD (i+k) 0+c+(dg 1000000000 x).getD i 0*(dg 1000000000 y).getD k 0:Nat):Int))]) (fun(_:Unit)=>[]) (fun(_:Unit)=>True) K5 K4 ?_ ?_
    ·refine Ze<|Zg<|mv J<|mv J<|dt (Yh J J (i:=2) J Zi Me)<|dt (Xv J J J)<|Zf<|Za<|Zs J (fun h100=>?_) (fun h100=>?_)
     ·refine Qo (fun _=>False) [(0,0),(1,0),(2,0),(3,0),(4,0),(5,0),(6,0),(7,0),(8,0),(9,0),(10,0),(11,3)] ?_ ?_
      ·kernel_rfl
      refine r0' J J (st0 (Yr J J))<|r0' J J (st0 (Yr J J))<|r0' J J (st0 (Yr J J))<|r0' J J (st0 (Xc (ii:=1) J J J J Zi Me zT3 J (by first | omega | (simp only [List.length_set];omega))))<|r0' J J (st0 (Xs (ii:=1) 0 J J J Zi pN (by first | omega | (simp only [List.length_set];omega))))<|r0' J J (st0 (Yr J J))<|r0' J J (st0 (Yr J J))<|r0' J J (st0 (Xc (ii:=2) J J J J Zi Me zT3 J (by first | omega | (simp only [List.length_set];omega))))<|r0' J J (st0 (Xs (ii:=2) 0 J J J Zi pN (by first | omega | (simp only [List.length_set];omega))))<|r0' J J (st0 (n_mul J J J (by have h1:=hdig.2;omega)))<|r0' J J (st0 (Zil J J J hdig.2))<|r3' J (Pt (Oy J J) J) fun _ _=>Oh ?_
      try (have hz:(dg 1000000000 y).getD k 0=0:=Zbk (by omega))
      exact Ql () trivial ⟨by first | rfl | (rw [hz,Nat.mul_zero];rfl),rfl,rfl,rfl,rfl,rfl,trivial⟩ K4
     ·refine Zl ?_
      try (have hz:(dg 1000000000 y).getD k 0=0:=Zbk (by omega))
      exact Ql () trivial ⟨by first | rfl | (rw [hz,Nat.mul_zero];rfl),rfl,rfl,rfl,rfl,rfl,trivial⟩ K4
    ·rintro _ -
     simp only [CA,NA]
     exact Ze<|Zg<|mv J<|mv J<|mv J<|dt (Zil J J J (by omega))<|mv J<|dt (Zs3 (n:=1000000000) J J J (by omega))<|dt (Xc (ii:=3) (i:=(i+k)) J J J J (Yt pN) Me zT3)<|tt (Ij (i:=3) (enc:=Cg) _ J J J J J J pN J hw) fun _ _=>Zf<|Za<|Zg<|mv J<|dt (Zmc (n:=1000000000) J J J hdig.2 (by omega))<|as_ J<|Zf<|Oe<|Za<|Zg<|mv J<|dt (Yy J J J ⟨by omega,by omega⟩)<|as_ J<|Zf<|Xp (k+1,_,_) ⟨⟨by dsimp only;omega,fun h=>by dsimp only at h ⊢;rw [Zbk (by omega:(dg 1000000000 y).length≤k),hpz (i+k) (by omega) (by omega),Nat.mul_zero];omega⟩,by simp;omega,Lu hpa _ _ (Nat.mod_lt _ Hx),fun j hj hj2=>by dsimp only at hj ⊢;rw [Nq _ _ _ _ _ (by omega),if_neg (by omega)];exact hpz j (by omega) hj2,hdig.1,Zpv hpv (by omega)⟩ (by first | omega | (dsimp only<;>omega)) K6 K4
   ·refine Yw<|Zx<|Zx<|Na<|Oe<|Za<|Zg<|mv J<|dt (Yy J J J ⟨by omega,by omega⟩)<|as_ J<|Zf ?_
    have hc0:c=0:=by omega
    have hvf:=hpv
    rw [hc0,Nat.zero_mul,Nat.add_zero,Ix (x:=y) (k:=k) Ng (by omega)]at hvf
    exact Xp (i+1,_) ⟨by first | omega | (dsimp only<;>omega),hpl,hpa,fun j hj=>hpz j (by dsimp only at hj;omega) (by dsimp only at hj;omega),by dsimp only;rw [hvf,Qw,Nat.add_mul]⟩ (by first | omega | (dsimp only<;>omega)) K4 K4
 ·refine Yw<|Zx<|Zx<|Na<|Za<|Ze<|Zg<|mv J<|tt (Zh (n:=3) (Kg _ _) J J J K1 call77 (Xr 3 J J pN Zd) J hw) fun _ _=>Oa (Zgf 3 J J pN)<|as_ J<|Zf<|Za<|Zw ?_
  obtain rfl:i=(dg 1000000000 x).length:=by omega
  have hx:tz o=dg 1000000000 (x*y):=by
   rw [←Kr Ng _ hoa,hv,Ix Ng (Nat.le_refl _)]
  exact Zy (.inl J) hsc _ _ (fun a w hs=>Xy hs results123 J) J trivial J (Ob 3 J J pN (by rw [hx]<;>rfl) Zj)
theorem Zh8(v:Value)(x n:Nat)(hx:bl x≤4294967296:=by omega)(hn:n<1000000000:=by omega):Cal prog 76 #[v,.int .i64 (n:Int)] [d9p v x] true (G:=Value) (fun r=>True) (fun r=>r) (fun r=>[d9p r (x*n)]):=by
 refine Yd func76 J ntmps76 J K1 ?_
 intro w0 sc hw hsc
 simp only [Zq,Zp]
 refine Ze<|Zg<|as_ J<|Zf<|Za<|Ze<|Ze<|Zg<|mv J<|dt (Pv J J J)<|Zf<|Za<|Zs J (fun h112=>?_) (fun h112=>?_)
 ·exact Ze<|Zg<|as_ J<|Zf<|Za<|Zw<|Xa<|Qy (Nh 9 1 3 Cg)<|Zy (.inl J) hsc (.slice none 0 0) _ (fun a w hs=>Xy hs results76 J) J trivial J (Ob 9 J J pN (by rw [show n=0 by omega,Nat.mul_zero]<;>rfl) Zj)
 ·have hn0:n≠0:=by omega
  exact Zl<|Za<|Ze<|Zg<|mv J<|mv J<|tt (Pm (i:=70) (ivs:=[(0,_)]) (enc:=Cg) [n] J J K2 Me ti3 J J J J J pN.cells J J hw) fun v _=>Oa (Zfy 70 (Zyf Ng hn hn0).symm J J)<|tt (Zh (n:=2) (Zr6 _ _ _ n hx (by have:=(Mp 30 n).2 (by omega);omega)) J J J K2 call123 (Zc 1 J J J (Xr 70 J J pN Zd)) J hw) fun v_2 _=>as_ J<|Zf<|Za<|Zw<|Zy (.inl J) hsc _ _ (fun a w hs=>Xy hs results76 J) J trivial J (Xb 2 J J J Zj)
set_option maxHeartbeats 4000000 in
theorem r_over(v w:Value)(x y:Nat)(hy0:0<y)(hx:bl x≤4000000000:=by omega)(hy:bl y≤4000000000:=by omega):Cal prog 124 #[v,w] [d9p v x,d9p w y] true (G:=Value×Value) (fun r=>True) (fun r=> .tuple #[r.1,r.2]) (fun r=>[d9p r.1 (x/y),d9p r.2 (x%y)]):=by
 refine Yd func124 J ntmps124 J K2 ?_
 intro w0 sc hw hsc
 simp only [Zq,Zp]
 have hX:=Kw x
 have hY:=Kw y
 refine Ze<|Zg<|as_ J<|as_ J<|Zf<|Za<|Ze<|Zg<|mv J<|dt (Yh J J (i:=1) J Zi Me)<|tt (Gd (i:=3) (n:=(dg 1000000000 x).length) (by_:=8) (enc:=Cg) 0 J J J J Me ti3 J pN.cells pN.pos J J J hw) fun v _=>as_ J<|Zf<|Za<|Ze<|Zg<|as_ J<|Zf<|Za<|Ze<|Ze<|Zg<|mv J<|dt (Yh J J (i:=1) J Zi Me)<|dt (Qf J J J ⟨by omega,by omega⟩)<|as_ J<|Zf<|Za<|Zo<|Yq (Nh 71 1 3 Cg)<|Yq (Pe 71 J J pN) ?_
 refine Nw [(0,_),(1,_),(6,_)] [(0,_),(1,_),(2,_)] (fun(q:Nat×List Nat×Nat×Value)=>[(8,.int .i64 ((q.1:Int)-1)),(7,q.2.2.2)]) (fun(q:Nat×List Nat×Nat×Value)=>[(3,osl 1 3 Cg v q.2.1),(71,d9p q.2.2.2 q.2.2.1)]) (fun(q:Nat×List Nat×Nat×Value)=>(q.1≤(dg 1000000000 x).length)∧(q.2.1.length=(dg 1000000000 x).length)∧(∀d∈q.2.1,d<1000000000)∧(∀j,j<q.1→q.2.1.getD j 0=0)∧(val 1000000000 (q.2.1.drop q.1)*y+q.2.2.1=x/1000000000^q.1)∧(q.2.2.1<y)) (fun(q:Nat×List Nat×Nat×Value)=>q.1) ((dg 1000000000 x).length,List.replicate (dg 1000000000 x).length 0,0,.slice none 0 0) ⟨Nat.le_refl _,by simp,Ni _ Hx,fun j _=>Lr _ j,by dsimp only;rw [Nat.div_eq_of_lt ((Qa Ng _ x).1 (Nat.le_refl _))];simp [val],hy0⟩ K5 K5 ?_
 rintro⟨k,q,r,vr⟩ ⟨hk,hql,hqa,hqz,hv,hr⟩
 dsimp only at hk hql hqa hqz hv hr
 simp only [CA,NA]
 refine Ze<|Ze<|Zg<|mv J<|dt (Ke J J J)<|Zf<|Za<|Zs J (fun h122=>?_) (fun h122=>?_)
 ·have hk0:0<k:=by omega
  have ha9:=Qs Hx (Lo Ng x) (k-1)
  have hdig:x/1000000000^(k-1)=x/1000000000^k*1000000000+(dg 1000000000 x).getD (k-1) 0:=by rw [Hi Ng];exact(Zqa hk0).symm
  rw [←hv,Nat.add_mul]at hdig
  have hrb:=bl_over hr ha9
  have hQ9:=over_Q hr ha9
  refine Zl<|Za<|Ze<|Zo<|Ze<|Zg<|mv J<|mv J<|dt (Xc (ii:=1) (i:=(k-1)) J J J J Zi Me zT3)<|dt (Xs (ii:=1) 0 J J J Zi pN)<|tt (Pm (i:=72) (ivs:=[(0,_)]) (enc:=Cg) [(dg 1000000000 x).getD (k-1) 0] J J K2 Me ti3 J J J J J pN.cells J J hw) fun v_2 _=>mv J<|tt (Iv (i:=72) (j:=71) (by_:=8) J J J J J J (by decide) J Zi Me ti3 J pN J J J (by have h8:=Kw r;have h9:=Oz (Nat.le_of_lt hr);simp;omega) (by decide) J hw) fun v_3 _=>tt (Zh (n:=3) (Kg _ _) J J J K1 call77 (Xr 72 J J pN Zd) J hw) fun _ _=>Oa (Zgf 72 J J pN)<|Oa (Zfy 72 (tz_cons Ng ha9) J J)<|Oa (Pe 72 J J pN)<|as_ J<|Zf<|Za<|Ze<|Ze<|Zg<|mv J<|mv J<|tt (Zh (n:=3) (Zlx _ _ _ _) J J J K2 call90 (Zc 72 J J J (Zc 2 J J J Zd)) J hw) fun _ _=>dt (Xv J J J)<|Zf<|Za<|Zs J (fun h124=>?_) (fun h124=>?_)
  ·have hlt:(r*1000000000+(dg 1000000000 x).getD (k-1) 0)<y:=Zpe.1 h124
   refine Yw<|Zx<|Na<|Za<|Zg<|mv J<|dt (Qf J J J ⟨by omega,by omega⟩)<|as_ J<|Zf<|Qy (Od 72 71 J J J) ?_
   have h2:=Zud hk0 (by omega:k≤q.length) (hqz (k-1) (by omega))
   exact Xp (k-1,q,r*1000000000+(dg 1000000000 x).getD (k-1) 0,_) ⟨by first | omega | (dsimp only<;>omega),by first | omega | (dsimp only<;>omega),by first | omega | (dsimp only<;>omega),fun j hj=>hqz j (by dsimp only at hj;omega),by have h9:1000000000*val 1000000000 (q.drop k)*y=val 1000000000 (q.drop k)*y*1000000000:=(by rw [Nat.mul_assoc,Nat.mul_comm]);dsimp only;rw [h2,hdig,h9];omega,hlt⟩ (by first | omega | (dsimp only<;>omega)) ⟨by rw [show(((k-1:Nat):Int)-1)=(k:Int)-1-1 by omega];rfl,rfl,rfl,rfl,rfl,trivial⟩ K5
  ·have hge:y≤(r*1000000000+(dg 1000000000 x).getD (k-1) 0):=by have:=mt Zpe.2 h124;omega
   refine Zl<|Za<|Ze<|Zg<|as_ J<|as_ J<|Zf<|Za<|Ze<|Zo<|Nw [(0,_),(1,_),(6,_),(7,_),(8,_)] [(0,_),(3,_),(71,_),(1,_),(2,_),(72,_)] (fun(q:Nat×Nat)=>[(9,.int .i64 (q.1:Int)),(10,.int .i64 (q.2:Int))]) (fun(q:Nat×Nat)=>[]) (fun(q:Nat×Nat)=>(q.1≤(r*1000000000+(dg 1000000000 x).getD (k-1) 0)/y)∧((r*1000000000+(dg 1000000000 x).getD (k-1) 0)/y≤q.2)∧(q.2<1000000000)) (fun(q:Nat×Nat)=>q.2-q.1) (0,999999999) ⟨Nat.zero_le _,by omega,by first | omega | (dsimp only<;>omega)⟩ K7 K6 ?_
   rintro⟨lo,hi⟩ ⟨hlo,hhi,hh9⟩
   dsimp only at hlo hhi hh9
   simp only [CA,NA]
   have hmid:(lo+hi+1)/2<1000000000:=by omega
   refine Ze<|Ze<|Zg<|mv J<|mv J<|dt (Xv J J J)<|Zf<|Za<|Zs J (fun h128=>?_) (fun h128=>?_)
   ·refine Zl<|Za<|Zo<|Ze<|Zg<|mv J<|mv J<|dt (Zil J J J (by omega))<|dt (Zil (n:=1) J J J (by omega))<|dt (Zmc (n:=2) J J J (by omega) (by omega))<|as_ J<|Zf<|Za<|Ze<|Zg<|mv J<|mv J<|tt (Zh (n:=4) (Zh8 _ _ _) J J J K2 call76 (Zc 2 J J J Zd) J hw) fun v_4 _=>mv J<|tt (Zh (n:=4) (Zlx _ _ _ _ (by have:=Zi4 (y:=y) hmid;omega)) J J J K2 call90 (Zc 4 J J J (Zc 72 J J J Zd)) J hw) fun _ _=>dt (Ab J J J)<|Zf<|Za<|Zs J (fun h130=>?_) (fun h130=>?_)
    ·have hcm:y*((lo+hi+1)/2)≤(r*1000000000+(dg 1000000000 x).getD (k-1) 0):=Zuv.1 h130
     exact Zg<|mv J<|as_ J<|Zf<|Oe<|Xp ((lo+hi+1)/2,hi) ⟨(Nat.le_div_iff_mul_le hy0).2 (by rw [Nat.mul_comm];exact hcm),by first | omega | (dsimp only<;>omega),by first | omega | (dsimp only<;>omega)⟩ (by first | omega | (dsimp only<;>omega)) K7 K6
    ·have hcm:(r*1000000000+(dg 1000000000 x).getD (k-1) 0)<y*((lo+hi+1)/2):=by have:=mt Zuv.2 h130;omega
     exact Zg<|mv J<|dt (Qf J J J ⟨by omega,by omega⟩)<|as_ J<|Zf<|Oe<|Xp (lo,(lo+hi+1)/2-1) ⟨by first | omega | (dsimp only<;>omega),by have h7:=(Nat.div_lt_iff_lt_mul hy0).2 (show(r*1000000000+(dg 1000000000 x).getD (k-1) 0)<(lo+hi+1)/2*y by have h6:=Nat.mul_comm ((lo+hi+1)/2) y;omega);dsimp only;omega,by first | omega | (dsimp only<;>omega)⟩ (by first | omega | (dsimp only<;>omega)) ⟨J,by rw [show(((lo+hi+1)/2-1:Nat):Int)=(((lo+hi+1)/2:Nat):Int)-1 by omega];rfl,rfl,rfl,rfl,rfl,rfl,trivial⟩ K6
   ·have hloQ:lo=(r*1000000000+(dg 1000000000 x).getD (k-1) 0)/y:=by omega
    refine Yw<|Zx<|Zx<|Na<|Za<|Ze<|Zg<|mv J<|mv J<|mv J<|dt (Xc (ii:=3) (i:=(k-1)) J J J J (Yt pN) Me zT3)<|tt (Ij (i:=3) (enc:=Cg) _ J J J J J J pN J hw) fun _ _=>Zf<|Za<|Zg<|mv J<|mv J<|mv J<|tt (Zh (n:=5) (Zh8 _ _ _) J J J K2 call76 (Zc 2 J J J Zd) J hw) fun v_5 _=>tt (Zh (n:=6) (Zly _ _ _ _ (by rw [hloQ];exact Nat.mul_div_le _ _)) J J J K2 call91 (Zc 72 J J J (Zc 5 J J J Zd)) J hw) fun v_6 _=>as_ J<|Zf<|Oe<|Za<|Zg<|mv J<|dt (Qf J J J ⟨by omega,by omega⟩)<|as_ J<|Zf<|Qy (Od 6 71 J J J) ?_
    have h2:=Zc4 (d:=lo) hk0 (by omega:k≤q.length)
    have h16:y*lo≤(r*1000000000+(dg 1000000000 x).getD (k-1) 0):=by rw [hloQ];exact Nat.mul_div_le _ _
    exact Xp (k-1,_,(r*1000000000+(dg 1000000000 x).getD (k-1) 0)-y*lo,_) ⟨by first | omega | (dsimp only<;>omega),by simp [hql],Lu hqa _ _ (by omega),fun j hj=>by dsimp only at hj ⊢;rw [Nq _ _ _ _ _ (by omega),if_neg (by omega)];exact hqz j (by omega),by have h9:1000000000*val 1000000000 (q.drop k)*y=val 1000000000 (q.drop k)*y*1000000000:=(by rw [Nat.mul_assoc,Nat.mul_comm]);dsimp only;rw [h2,hdig,Nat.add_mul,h9];have h5:lo*y=y*lo:=Nat.mul_comm _ _;omega,by dsimp only;rw [hloQ];have h5:=Nat.div_add_mod (r*1000000000+(dg 1000000000 x).getD (k-1) 0) y;have h6:=Nat.mod_lt (r*1000000000+(dg 1000000000 x).getD (k-1) 0) hy0;omega⟩ (by first | omega | (dsimp only<;>omega)) ⟨by rw [show(((k-1:Nat):Int)-1)=(k:Int)-1-1 by omega];rfl,rfl,rfl,rfl,rfl,trivial⟩ K5
 ·refine Yw<|Zx<|Zx<|Na<|Za<|Ze<|Zg<|mv J<|tt (Zh (n:=6) (Kg _ _) J J J K1 call77 (Xr 3 J J pN Zd) J hw) fun _ _=>Oa (Zgf 3 J J pN)<|mv J<|as_ J<|as_ J<|Zf<|Za<|Zw ?_
  obtain rfl:k=0:=by omega
  rw [List.drop_zero,Nat.pow_zero,Nat.div_one]at hv
  have hq:val 1000000000 q=x/y:=by rw [←hv,Nat.mul_comm,Nat.mul_add_div hy0,Nat.div_eq_of_lt hr,Nat.add_zero]
  have hr2:r=x%y:=by rw [←hv,Nat.mul_comm,Nat.mul_add_mod,Nat.mod_eq_of_lt hr]
  have hx:tz q=dg 1000000000 (x/y):=by rw [←Kr Ng _ hqa,hq]
  exact Zy (.inl J) hsc (_,_) _ (fun a w hs=>Nr hs results124 J J) J trivial J (Ob 3 J J pN (by rw [hx]<;>rfl) (Yp 71 J J J (by rw [hr2]<;>rfl) Zj))
theorem Ae(s:Bool)(v:Value)(n:Nat)(z:Int)(hn:n=z.natAbs)(hs:sg s z)(hb:bl n≤4294967296):Mb prog 78 #[.bool s,v] [d9p v n] (.agg #[.bool (decide (z<0)),v]):=by
 refine Yd func78 J ntmps78 J K1 ?_
 intro w0 sc hw hsc
 simp only [Zq,Zp]
 have hl9:=Kw n
 refine Ze<|Zg<|tt (Zr (i:=2) J J zeroValue48 J J hw) fun b _=>Zf<|Za<|Ze<|Zg<|mv J<|mv J<|Ly (d:=6) J (fun s143=>?_) (fun s143=>?_)
 ·exact gdt (Yr J J) J J<|gdt (Yh J J (i:=1) J Zi Me) J J<|gdt (Of J J J) J J<|dt (Yu J J J)<|mv J<|dt (Oc (ivs:=[(0,_),(1,_)]) J K4 (fun a w hs=>b48_01 ((Zb J) a w hs) ((Zk (i:=1) J Zi) a w hs)))<|tt (Zm (i:=2) J J J J J (by decide) J Qd J J ⟨Zb J,Zk (i:=1) J Zi,trivial⟩ J hw trivial) fun _ _=>Zf<|Za<|Zw<|Zy (.inl J) hsc () _ (fun a w hs=>Xy hs results78 (Ys (i:=2) J J Mg Qd J)) (by rw [←made_b hn hs,←Zoo];simp_all) trivial J Zj
 ·exact gsk J J J<|gsk J J J<|gsk J J J<|dt (Yg J J J)<|mv J<|dt (Oc (ivs:=[(0,_),(1,_)]) J K4 (fun a w hs=>b48_01 ((Zb J) a w hs) ((Zk (i:=1) J Zi) a w hs)))<|tt (Zm (i:=2) J J J J J (by decide) J Qd J J ⟨Zb J,Zk (i:=1) J Zi,trivial⟩ J hw trivial) fun _ _=>Zf<|Za<|Zw<|Zy (.inl J) hsc () _ (fun a w hs=>Xy hs results78 (Ys (i:=2) J J Mg Qd J)) (by rw [←made_b hn hs,←Zoo];simp_all) trivial J Zj
theorem Zp5(v:Value)(x:Int)(hx:bl x.natAbs≤3000000000):Cal prog 73 #[.agg #[.bool (decide (x<0)),v]] [d9p v x.natAbs] true (G:=Value) (fun r=>True) (fun r=> .agg #[.bool (decide (-x<0)),r]) (fun r=>[d9p r (-x).natAbs]):=by
 refine Yd func73 J ntmps73 J K1 ?_
 intro w0 sc hw hsc
 simp only [Zq,Zp]
 exact Ze<|Zg<|tt (Yz (i:=2) J J J J J hw) fun b _=>tt (Zr (i:=3) J J zeroValue48 J J hw) fun b_2 _=>Zf<|Za<|Ze<|Zg<|dt (Xu J J Zaj J zT4 J J)<|dt (Ok (i:=2) J J J iA4 J)<|dt (Xh J J)<|dt (Xu J J Zaj J Zja J J)<|dt (Ok (i:=2) J J J Zki J)<|tt (Zh (n:=3) (Ae _ _ _ (-x) (Int.natAbs_neg x).symm (sg_neg (Xo x)) (by omega)) J J J K2 call78 (Zc 1 J J J Zd) J hw) fun _ _=>tt (Zm (i:=3) J J J J J (by decide) J Qd J J ⟨Zb J,Zk (i:=1) J Zi,trivial⟩ J hw trivial) fun _ _=>Zf<|Za<|Zw<|Zy (.inl J) hsc _ _ (fun a w hs=>Xy hs results73 (Ys (i:=3) J J Mg Qd J)) J trivial J (Yp 1 J J J (by rw [Int.natAbs_neg]<;>rfl) Zj)
theorem Zr9(v w:Value)(x y:Int)(hx:bl x.natAbs≤3000000000:=by omega)(hy:bl y.natAbs≤3000000000:=by omega):Cal prog 37 #[.agg #[.bool (decide (x<0)),v],.agg #[.bool (decide (y<0)),w]] [d9p v x.natAbs,d9p w y.natAbs] true (G:=Value) (fun r=>True) (fun r=> .agg #[.bool (decide (x+y<0)),r]) (fun r=>[d9p r (x+y).natAbs]):=by
 refine Yd func37 J ntmps37 J K2 ?_
 intro w0 sc hw hsc
 simp only [Zq,Zp]
 have hb:=Km x y
 refine Ze<|Zg<|tt (Yz (i:=3) J J J J J hw) fun b _=>tt (Yz (i:=4) J J J J J hw) fun b_2 _=>tt (Zr (i:=5) J J zeroValue48 J J hw) fun b_3 _=>Zf<|Za<|Ze<|Ze<|Zg<|dt (Xu J J Zaj J zT4 J J)<|dt (Ok (i:=3) J J J iA4 J)<|dt (Xu J J Zaj J zT4 J J)<|dt (Ok (i:=4) J J J iA4 J)<|dt (d_eqb J J J uT4)<|Zf<|Za<|La J (fun h189=>?_) (fun h189=>?_)
 ·replace h189:=beq_dec h189
  refine Ze<|Qo (fun _=>False) [(0,0),(1,0),(2,0),(3,0),(4,0),(5,0),(6,1),(7,1),(8,3)] ?_ ?_
  ·kernel_rfl
  exact r0' J J (st0 (Xu J J Zaj J zT4 J J))<|r0' J J (st0 (Ok (i:=3) J J J iA4 J))<|r0' J J (st0 (Xu J J Zaj J Zja J J))<|r0' J J (st0 (Ok (i:=3) J J J Zki J))<|r0' J J (st0 (Xu J J Zaj J Zja J J))<|r0' J J (st0 (Ok (i:=4) J J J Zki J))<|r1' J (Zh (n:=6) (Zr7 _ _ _ _ (by omega) (by omega)) J J J K2 call75 (Zc 1 J J J (Zc 2 J J J Zd)) J hw) fun v _=>r1' J (Zh (n:=6) (Ae _ _ _ (x+y) (Zd4 (Xo x) (h189▸Xo y)).symm (Zrs (Xo x) (h189▸Xo y)) (by rw [←Zd4 (Xo x) (h189▸Xo y)];omega)) J J J K2 call78 (Zc 6 J J J Zd) J hw) fun _ _=>r3' J (Zm (i:=5) J J J J J (by decide) J Qd J J ⟨Zb J,Zk (i:=6) J Zi,trivial⟩ J hw trivial) fun _ _=>Oh<|Za<|Zw<|Xa<|Zy (.inl J) hsc _ _ (fun a w hs=>Xy hs results37 (Ys (i:=5) J J Mg Qd J)) J trivial J (Yp 6 J J J (by rw [Zd4 (Xo x) (h189▸Xo y)]<;>rfl) Zj)
 ·have hne:decide (x<0)≠decide (y<0):=by simpa using h189
  refine Zl<|Za<|Ze<|Ze<|Zg<|dt (Xu J J Zaj J Zja J J)<|dt (Ok (i:=3) J J J Zki J)<|dt (Xu J J Zaj J Zja J J)<|dt (Ok (i:=4) J J J Zki J)<|tt (Zh (n:=6) (Zlx _ _ _ _) J J J K2 call90 (Zc 1 J J J (Zc 2 J J J Zd)) J hw) fun _ _=>dt (Ke J J J)<|Zf<|Za<|Zs J (fun h192=>?_) (fun h192=>?_)
  ·have hge:y.natAbs≤x.natAbs:=Zuw.1 h192
   refine Ze<|Qo (fun _=>False) [(0,0),(1,0),(2,0),(3,0),(4,0),(5,0),(6,1),(7,1),(8,3)] ?_ ?_
   ·kernel_rfl
   exact r0' J J (st0 (Xu J J Zaj J zT4 J J))<|r0' J J (st0 (Ok (i:=3) J J J iA4 J))<|r0' J J (st0 (Xu J J Zaj J Zja J J))<|r0' J J (st0 (Ok (i:=3) J J J Zki J))<|r0' J J (st0 (Xu J J Zaj J Zja J J))<|r0' J J (st0 (Ok (i:=4) J J J Zki J))<|r1' J (Zh (n:=7) (Zly _ _ _ _ hge) J J J K2 call91 (Zc 1 J J J (Zc 2 J J J Zd)) J hw) fun v_2 _=>r1' J (Zh (n:=7) (Ae _ _ _ (x+y) (Bt (Xo x) (Xo y) hne hge).symm (Zhx (Xo x) (Xo y) hne hge) (by have:=Oz (Nat.sub_le x.natAbs y.natAbs);omega)) J J J K2 call78 (Zc 7 J J J Zd) J hw) fun _ _=>r3' J (Zm (i:=5) J J J J J (by decide) J Qd J J ⟨Zb J,Zk (i:=7) J Zi,trivial⟩ J hw trivial) fun _ _=>Oh<|Za<|Zw<|Xa<|Zy (.inl J) hsc _ _ (fun a w hs=>Xy hs results37 (Ys (i:=5) J J Mg Qd J)) J trivial J (Yp 7 J J J (by rw [Bt (Xo x) (Xo y) hne hge]<;>rfl) Zj)
  ·have hge:x.natAbs≤y.natAbs:=by have:=mt Zuw.2 h192;omega
   refine Zl<|Za<|Ze<|Qo (fun _=>False) [(0,0),(1,0),(2,0),(3,0),(4,0),(5,0),(6,1),(7,1),(8,3)] ?_ ?_
   ·kernel_rfl
   exact r0' J J (st0 (Xu J J Zaj J zT4 J J))<|r0' J J (st0 (Ok (i:=4) J J J iA4 J))<|r0' J J (st0 (Xu J J Zaj J Zja J J))<|r0' J J (st0 (Ok (i:=4) J J J Zki J))<|r0' J J (st0 (Xu J J Zaj J Zja J J))<|r0' J J (st0 (Ok (i:=3) J J J Zki J))<|r1' J (Zh (n:=8) (Zly _ _ _ _ hge) J J J K2 call91 (Zc 2 J J J (Zc 1 J J J Zd)) J hw) fun v_3 _=>r1' J (Zh (n:=8) (Ae _ _ _ (x+y) (by rw [Int.add_comm x];exact(Bt (Xo y) (Xo x) (Ne.symm hne) hge).symm) (by rw [Int.add_comm x];exact Zhx (Xo y) (Xo x) (Ne.symm hne) hge) (by have:=Oz (Nat.sub_le y.natAbs x.natAbs);omega)) J J J K2 call78 (Zc 8 J J J Zd) J hw) fun _ _=>r3' J (Zm (i:=5) J J J J J (by decide) J Qd J J ⟨Zb J,Zk (i:=8) J Zi,trivial⟩ J hw trivial) fun _ _=>Oh<|Za<|Zw<|Zy (.inl J) hsc _ _ (fun a w hs=>Xy hs results37 (Ys (i:=5) J J Mg Qd J)) J trivial J (Yp 8 J J J (by rw [Int.add_comm x,Bt (Xo y) (Xo x) (Ne.symm hne) hge]<;>rfl) Zj)
theorem Zjy(v w:Value)(x y:Int)(hx:bl x.natAbs≤3000000000:=by omega)(hy:bl y.natAbs≤3000000000:=by omega):Cal prog 87 #[.agg #[.bool (decide (x<0)),v],.agg #[.bool (decide (y<0)),w]] [d9p v x.natAbs,d9p w y.natAbs] true (G:=Value) (fun r=>True) (fun r=> .agg #[.bool (decide (x-y<0)),r]) (fun r=>[d9p r (x-y).natAbs]):=by
 refine Yd func87 J ntmps87 J K2 ?_
 intro w0 sc hw hsc
 simp only [Zq,Zp]
 have hb:=Fy x y
 have hn:=Zk6 y
 refine Ze<|Zg<|tt (Yz (i:=3) J J J J J hw) fun b _=>tt (Yz (i:=4) J J J J J hw) fun b_2 _=>tt (Zr (i:=5) J J zeroValue48 J J hw) fun b_3 _=>Zf<|Za<|Ze<|Qo (fun _=>False) [(0,0),(1,0),(2,1),(3,1),(4,3)] ?_ ?_
 ·kernel_rfl
 exact r0' J J (st0 (Ya (i:=3) J J J Mg Qd J J))<|r0' J J (st0 (Ya (i:=4) J J J Mg Qd J J))<|r1' J (Zh (n:=6) (Zp5 _ _ (by omega)) J J J K1 call73 (Zc 2 J J J Zd) J hw) fun v _=>r1' J (Zh (n:=7) (Zr9 _ _ _ _) J J J K2 call37 (Zc 1 J J J (Zc 6 J J J Zd)) J hw) fun v_2 _=>r3' J (Zm (i:=5) J J J J J (by decide) J Qd J J ⟨Zb J,Zk (i:=7) J Zi,trivial⟩ J hw trivial) fun _ _=>Oh<|Za<|Zw<|Zy (.inl J) hsc _ _ (fun a w hs=>Xy hs results87 (Ys (i:=5) J J Mg Qd J)) (by rw [Int.sub_eq_add_neg]<;>rfl) trivial J (Yp 7 J J J (by rw [Int.sub_eq_add_neg]<;>rfl) Zj)
theorem Bx(v w:Value)(x y:Int)(hx:bl x.natAbs≤1000000000:=by omega)(hy:bl y.natAbs≤1000000000:=by omega):Cal prog 69 #[.agg #[.bool (decide (x<0)),v],.agg #[.bool (decide (y<0)),w]] [d9p v x.natAbs,d9p w y.natAbs] true (G:=Value) (fun r=>True) (fun r=> .agg #[.bool (decide (x*y<0)),r]) (fun r=>[d9p r (x*y).natAbs]):=by
 refine Yd func69 J ntmps69 J K2 ?_
 intro w0 sc hw hsc
 simp only [Zq,Zp]
 have hb:=Xw x y
 refine Ze<|Zg<|tt (Yz (i:=3) J J J J J hw) fun b _=>tt (Yz (i:=4) J J J J J hw) fun b_2 _=>tt (Zr (i:=5) J J zeroValue48 J J hw) fun b_3 _=>Zf<|Za<|Ze<|Qo (fun _=>False) [(0,0),(1,0),(2,0),(3,0),(4,0),(5,0),(6,0),(7,0),(8,0),(9,1),(10,1),(11,3)] ?_ ?_
 ·kernel_rfl
 exact r0' J J (st0 (Xu J J Zaj J zT4 J J))<|r0' J J (st0 (Ok (i:=3) J J J iA4 J))<|r0' J J (st0 (Xu J J Zaj J zT4 J J))<|r0' J J (st0 (Ok (i:=4) J J J iA4 J))<|r0' J J (st0 (Zkx J J J uT4))<|r0' J J (st0 (Xu J J Zaj J Zja J J))<|r0' J J (st0 (Ok (i:=3) J J J Zki J))<|r0' J J (st0 (Xu J J Zaj J Zja J J))<|r0' J J (st0 (Ok (i:=4) J J J Zki J))<|r1' J (Zh (n:=6) (Zr6 _ _ _ _ (by omega) (by omega)) J J J K2 call123 (Zc 1 J J J (Zc 2 J J J Zd)) J hw) fun v _=>r1' J (Zh (n:=6) (Ae _ _ _ (x*y) (Int.natAbs_mul x y).symm (sg_mul (Xo x) (Xo y)) (by rw [←Int.natAbs_mul];omega)) J J J K2 call78 (Zc 6 J J J Zd) J hw) fun _ _=>r3' J (Zm (i:=5) J J J J J (by decide) J Qd J J ⟨Zb J,Zk (i:=6) J Zi,trivial⟩ J hw trivial) fun _ _=>Oh<|Za<|Zw<|Zy (.inl J) hsc _ _ (fun a w hs=>Xy hs results69 (Ys (i:=5) J J Mg Qd J)) J trivial J (Yp 6 J J J (by rw [Int.natAbs_mul]<;>rfl) Zj)
theorem Ce(v:Value)(x:Int)(hx:bl x.natAbs≤3000000000:=by omega):Mb prog 72 #[.agg #[.bool (decide (x<0)),v]] [d9p v x.natAbs] (.int .i64 x.sign):=by
 refine Yd func72 J ntmps72 J K1 ?_
 intro w0 sc hw hsc
 simp only [Zq,Zp]
 have hl9:=Kw x.natAbs
 refine Ze<|Zg<|tt (Yz (i:=2) J J J J J hw) fun b _=>as_ J<|Zf<|Za<|Ze<|Ze<|Zg<|dt (Xu J J Zaj J Zja J J)<|dt (Ok (i:=2) J J J Zki J)<|dt (Yh J J (i:=1) J Zi Me)<|dt (Pv J J J)<|Zf<|Za<|Zs J (fun h206=>?_) (fun h206=>?_)
 ·exact Ze<|Zg<|as_ J<|Zf<|Za<|Zw<|Xa<|Zy (.inl J) hsc () _ (fun a w hs=>Xy hs results72 J) (sign9 h206) trivial J Zj
 ·refine Zl<|Za<|Ze<|Ze<|Zg<|dt (Xu J J Zaj J zT4 J J)<|dt (Ok (i:=2) J J J iA4 J)<|Zf<|Za<|La J (fun h209=>?_) (fun h209=>?_)
  ·exact Ze<|Zg<|as_ J<|Zf<|Za<|Zw<|Xa<|Zy (.inl J) hsc () _ (fun a w hs=>Xy hs results72 J) (by rw [Int.sign_eq_neg_one_of_neg (by simpa using h209)]) trivial J Zj
  ·exact Zl<|Za<|Ze<|Zg<|as_ J<|Zf<|Za<|Zw<|Zy (.inl J) hsc () _ (fun a w hs=>Xy hs results72 J) (by have h3:=Ziq h206;have h4:¬x<0:=(by simpa using h209);rw [Int.sign_eq_one_of_pos (by omega)]) trivial J Zj
theorem Zr8(v w:Value)(x y:Int)(hx:bl x.natAbs≤2000000000)(hy:bl y.natAbs≤2000000000):Mb prog 68 #[.agg #[.bool (decide (x<0)),v],.agg #[.bool (decide (y<0)),w]] [d9p v x.natAbs,d9p w y.natAbs] (.int .i64 (x-y).sign):=by
 refine Yd func68 J ntmps68 J K2 ?_
 intro w0 sc hw hsc
 simp only [Zq,Zp]
 have hb:=Fy x y
 exact Ze<|Zg<|tt (Yz (i:=3) J J J J J hw) fun b _=>tt (Yz (i:=4) J J J J J hw) fun b_2 _=>as_ J<|Zf<|Za<|Ze<|Zg<|dt (Ya (i:=3) J J J Mg Qd J J)<|dt (Ya (i:=4) J J J Mg Qd J J)<|tt (Zh (n:=5) (Zjy _ _ _ _) J J J K2 call87 (Zc 1 J J J (Zc 2 J J J Zd)) J hw) fun v _=>tt (Zh (n:=5) (Ce _ _) J J J K1 call72 (Zc 5 J J J Zd) J hw) fun _ _=>as_ J<|Zf<|Za<|Zw<|Zy (.inl J) hsc () _ (fun a w hs=>Xy hs results68 J) J trivial J Zj
theorem Zjz(x:Int)(hx:inI x):Cal prog 34 #[.int .i64 x] [] true (G:=Value) (fun r=>True) (fun r=> .agg #[.bool (decide (x<0)),r]) (fun r=>[d9p r (x).natAbs]):=by
 refine Yd func34 J ntmps34 J trivial ?_
 intro w0 sc hw hsc
 simp only [Zq,Zp]
 have hxa:=hx.1
 have hxb:=hx.2
 refine Yq (Nh 60 1 3 Cg)<|Yq (Pe 60 J J pN)<|Ze<|Zg<|tt (Zr (i:=1) J J zeroValue48 J J hw) fun b _=>Zf<|Za<|Ze<|Ze<|Zg<|mv J<|dt (Ke J J J)<|Zf<|Za<|Zs J (fun h147=>?_) (fun h147=>?_)
 ·obtain⟨m,rfl⟩:∃m:Nat,x=(m:Int):=⟨x.natAbs,by omega⟩
  have hbm:bl m≤64:=(Mp 64 m).2 (by omega)
  exact Ze<|Zg<|mv J<|dt (Zs3 (n:=1000000000) J J J (by omega))<|mv J<|dt (Zmc (n:=1000000000) J J J (by omega) (by omega))<|dt (Zs3 (n:=1000000000) J J J (by omega))<|mv J<|dt (Zmc (n:=1000000000) J J J (by omega) (by omega))<|dt (Zmc (n:=1000000000) J J J (by omega) (by omega))<|tt (Pm (i:=70) (ivs:=[(0,_),(1,_),(2,_)]) (enc:=Cg) [m%1000000000,m/1000000000%1000000000,m/1000000000/1000000000] J J K6 Me ti3 J J J J J pN.cells J J hw) fun v _=>tt (Zh (n:=1) (Kg _ _) J J J K1 call77 (Xr 70 J J pN Zd) J hw) fun _ _=>Oa (Zgf 70 J J pN)<|Oa (Zfy 70 (Zni (by omega)) J J)<|tt (Zh (n:=1) (Ae _ _ _ ((m:Int)) (by omega) (by simp [sg]) (by omega)) J J J K2 call78 (Xr 70 J J pN Zd) J hw) fun _ _=>tt (Zm (i:=1) J J J J J (by decide) J Qd J J ⟨Zb J,Zk (i:=70) J (Yt pN),trivial⟩ J hw trivial) fun _ _=>Zf<|Za<|Zw<|Xa<|Zy (.inl J) hsc _ _ (fun a w hs=>Xy hs results34 (Ys (i:=1) J J Mg Qd J)) J trivial J (Ob 70 J J pN (by rw [Int.natAbs_natCast]<;>rfl) Zj)
 ·obtain⟨m,rfl⟩:∃m:Nat,x=-(m:Int):=⟨x.natAbs,by omega⟩
  have hbm:bl m≤64:=(Mp 64 m).2 (by omega)
  refine Zl<|Za<|Ze<|Zg<|mv J<|dt (nn_rem (n:=1000000000) J J J (by omega))<|dt (n_neg J J (by omega))<|mv J<|dt (Zsx (n:=1000000000) J J J (by omega) (by omega))<|dt (nn_rem (n:=1000000000) J J J (by omega))<|dt (n_neg J J (by omega))<|mv J<|dt (Zsx (n:=1000000000) J J J (by omega) (by omega))<|dt (Zsx (n:=1000000000) J J J (by omega) (by omega))<|dt (n_neg J J (by omega))<|tt (Pm (i:=70) (ivs:=[(0,_),(1,_),(2,_)]) (enc:=Cg) [m%1000000000,m/1000000000%1000000000,m/1000000000/1000000000] J J K6 Me ti3 J J J J J pN.cells J J hw) fun v_2 _=>tt (Zh (n:=1) (Kg _ _) J J J K1 call77 (Xr 70 J J pN Zd) J hw) fun _ _=>Oa (Zgf 70 J J pN)<|Oa (Zfy 70 (Zni (by omega)) J J)<|Oa (Zfy 70 (ys:=dg 1000000000 (-(m:Int)).natAbs) (by rw [Int.natAbs_neg,Int.natAbs_natCast]) J J)<|Oa (Pe 70 J J pN)<|tt (Zh (n:=1) (Ae _ _ _ ((-(m:Int))) J (by simp [sg]) (by rw [Int.natAbs_neg,Int.natAbs_natCast];omega)) J J J K2 call78 (Zc 70 J J J Zd) J hw) fun _ _=>dt (Oc (ivs:=[]) J trivial (fun a w hs=>b48_)) ?_
  exact tt (Zh (n:=2) (Zjy _ _ (-(m:Int)) 0 (by rw [Int.natAbs_neg,Int.natAbs_natCast];omega) (by decide)) J J J K2 call87 (Zc 70 J J J (Zc 60 J J J Zd)) J hw) fun v_3 _=>tt (Zm (i:=1) J J J J J (by decide) J Qd J J ⟨Zb J,Zk (i:=2) J Zi,trivial⟩ J hw trivial) fun _ _=>Zf<|Za<|Zw<|Zy (.inl J) hsc _ _ (fun a w hs=>Xy hs results34 (Ys (i:=1) J J Mg Qd J)) (by rw [Int.sub_zero]<;>rfl) trivial J (Yp 2 J J J (by rw [Int.sub_zero]<;>rfl) Zj)
theorem Zc0(x:Int)(hx:bl x.natAbs≤2000000000:=by omega):Cal prog 30 #[wv x] [] true (G:=Value) (fun r=>True) (fun r=> .agg #[.bool (decide (x<0)),r]) (fun r=>[d9p r (x).natAbs]):=by
 refine Yd func30 J ntmps30 J trivial ?_
 intro w0 sc hw hsc
 simp only [Zq,Zp]
 obtain⟨n,hn⟩:∃n,n=x.natAbs:=⟨_,rfl⟩
 have hl8:=Za9 n
 have hxn:bl n≤2000000000:=by rw [hn];exact hx
 have hsz:(Xd x.natAbs).size=(dg 256 n).length:=by rw [←hn];exact Lc n
 refine Ze<|Zg<|tt (Yz (i:=1) J J J J J hw) fun b _=>tt (Zr (i:=2) J J zeroValue48 J J hw) fun b_2 _=>Zf<|Za<|Ze<|Zg<|as_ J<|Zf<|Za<|Ze<|Ze<|Zg<|as_ J<|Zf<|Za<|Zo<|Yq (Nh 70 1 3 Cg)<|Yq (Pe 70 J J pN)<|Nw [(1,_),(2,_)] [(0,_),(1,_),(2,_)] (fun(q:Nat×Value)=>[(4,.int .i64 (q.1:Int)),(3,q.2)]) (fun(q:Nat×Value)=>[(70,d9p q.2 (n/256^((dg 256 n).length-q.1)))]) (fun(q:Nat×Value)=>q.1≤(dg 256 n).length) (fun(q:Nat×Value)=>(dg 256 n).length-q.1) (0,.slice none 0 0) (by first | omega | (dsimp only<;>omega)) K4 ⟨by rw [Ztu];rfl,rfl,rfl,rfl,trivial⟩ ?_
 rintro⟨i,vd⟩ hi
 dsimp only at hi
 simp only [CA,NA]
 have hnb:bl (n/256^((dg 256 n).length-i))≤bl n:=Oz (Nat.div_le_self _ _)
 refine Ze<|Ze<|Zg<|mv J<|dt (Xu J J Zak J zT9 J J)<|dt (Ok (i:=1) J J J iA9 J)<|dt (Fl J J uT9)<|dt (Xv J J J)<|Zf<|Za<|Zs J (fun h157=>?_) (fun h157=>?_)
 ·have hby:((Xd x.natAbs).data.toList.getD i 0).toNat=n/256^((dg 256 n).length-1-i)%256:=by rw [←hn];exact Zd2 n i (by omega)
  refine Zl<|Za<|Ze<|Zo<|Gb (fun _=>False) [10]<|Zu (n:=5) [(0,0),(2,0),(3,0),(4,0),(5,0),(6,0)]<|r0' J J (st0 (Yr J J))<|r0' J J (st0 (Xu J J Zak J zT9 J J))<|r0' J J (st0 (Ok (i:=1) J J J iA9 J))<|r0' J J (st0 (Yr J J))<|r0' J J (st0 (Zqh (i:=i) J J J uT9 J))<|r0' J J (st0 (Ah J J uT5 uT3 ⟨by omega,by rw [hby];omega⟩))<|Yk<|Qp (n:=4) 1 7 ?_ ?_
  ·exact Yf J (Zh (n:=73) (Zh8 _ _ 256) J J J K2 call76 (Zc 70 J J J Zd) J hw) fun v _=>Zu (n:=2) [(7,1),(8,1)]<|r1' J (Pm (i:=72) (ivs:=[(0,_)]) (enc:=Cg) [((Xd x.natAbs).data.toList.getD i 0).toNat] J J K2 Me ti3 J J J J J pN.cells J J hw) fun v_2 _=>r1' J (Zh (n:=2) (Kg _ _) J J J K1 call77 (Xr 72 J J pN Zd) J hw) fun _ _=>Yk<|Zyu (Zgf 72 J J pN)<|Zyu (Zfy 72 (tz_one Ng (by rw [hby];omega)) J J)<|Zu (n:=0) [(9,1),(10,3)]<|r1' J (Zh (n:=74) (Zr7 _ _ _ _ (by have:=Zi4 (y:=(n/256^((dg 256 n).length-i))) (n:=256) (by omega);omega) (by rw [hby];exact Nat.le_trans (Zi5 _) (by omega))) J J J K2 call75 (Zc 73 J J J (Xr 72 J J pN Zd)) J hw) fun v_3 _=>r3' J (Pt (Oy J J) J) fun _ _=>Yk<|Yb<|Oe<|Za<|Zg<|mv J<|dt (Yy J J J ⟨by omega,by omega⟩)<|as_ J<|Zf<|Qy (Od 74 70 J J J)<|Xp (i+1,_) (by first | omega | (dsimp only<;>omega)) (by first | omega | (dsimp only<;>omega)) K4 ⟨by rw [hby,Zko (by omega)];rfl,rfl,rfl,rfl,trivial⟩
  ·exact Yf J (Pm (i:=72) (ivs:=[(0,_)]) (enc:=Cg) [((Xd x.natAbs).data.toList.getD i 0).toNat] J J K2 Me ti3 J J J J J pN.cells J J hw) fun v_4 _=>Zu (n:=2) [(1,1),(8,1)]<|r1' J (Zh (n:=73) (Zh8 _ _ 256) J J J K2 call76 (Zc 70 J J J Zd) J hw) fun v_5 _=>r1' J (Zh (n:=2) (Kg _ _) J J J K1 call77 (Xr 72 J J pN Zd) J hw) fun _ _=>Yk<|Zyu (Zgf 72 J J pN)<|Zyu (Zfy 72 (tz_one Ng (by rw [hby];omega)) J J)<|Zu (n:=0) [(9,1),(10,3)]<|r1' J (Zh (n:=74) (Zr7 _ _ _ _ (by have:=Zi4 (y:=(n/256^((dg 256 n).length-i))) (n:=256) (by omega);omega) (by rw [hby];exact Nat.le_trans (Zi5 _) (by omega))) J J J K2 call75 (Zc 73 J J J (Xr 72 J J pN Zd)) J hw) fun v_6 _=>r3' J (Pt (Oy J J) J) fun _ _=>Yk<|Yb<|Oe<|Za<|Zg<|mv J<|dt (Yy J J J ⟨by omega,by omega⟩)<|as_ J<|Zf<|Qy (Od 74 70 J J J)<|Xp (i+1,_) (by first | omega | (dsimp only<;>omega)) (by first | omega | (dsimp only<;>omega)) K4 ⟨by rw [hby,Zko (by omega)];rfl,rfl,rfl,rfl,trivial⟩
 ·refine Yw<|Zx<|Zx<|Na<|Za<|Ze ?_
  obtain rfl:i=(dg 256 n).length:=by omega
  rw [Nat.sub_self,Nat.pow_zero,Nat.div_one]
  exact Zg<|dt (Xu J J Zak J zT4 J J)<|dt (Ok (i:=1) J J J iA4 J)<|mv J<|tt (Zh (n:=2) (Ae _ _ _ (x) hn (Xo x) (by rw [hn];omega)) J J J K2 call78 (Zc 70 J J J Zd) J hw) fun _ _=>tt (Zm (i:=2) J J J J J (by decide) J Qd J J ⟨Zb J,Zk (i:=70) J Zi,trivial⟩ J hw trivial) fun _ _=>Zf<|Za<|Zw<|Zy (.inl J) hsc _ _ (fun a w hs=>Xy hs results30 (Ys (i:=2) J J Mg Qd J)) J trivial J (Yp 70 J J J (by rw [hn]<;>rfl) Zj)
set_option maxHeartbeats 4000000 in
theorem r_to(v:Value)(x:Int)(hx:bl x.natAbs≤4000000000:=by omega):Mb prog 53 #[.agg #[.bool (decide (x<0)),v]] [d9p v x.natAbs] (wv x):=by
 refine Yd func53 J ntmps53 J K1 ?_
 intro w0 sc hw hsc
 simp only [Zq,Zp]
 obtain⟨n,hn⟩:∃n,n=x.natAbs:=⟨_,rfl⟩
 have hxn:bl n≤4000000000:=by rw [hn];exact hx
 have hlx:=Kw x.natAbs
 refine Ze<|Zg<|tt (Yz (i:=2) J J J J J hw) fun b _=>tt (Zr (i:=3) J J zeroValue31 J J hw) fun b_2 _=>Zf<|Za<|Ze<|Zg<|as_ J<|Zf<|Za<|Ze<|Zg<|dt (Xu J J Zaj J Zja J J)<|dt (Ok (i:=2) J J J Zki J)<|Oa (Nh 81 1 3 Cg)<|tt (Iv (i:=81) (j:=1) (by_:=8) J J J J J J (by decide) J Zi Me ti3 J pN J J J (by simp;omega) (by decide) J hw) fun v _=>as_ J<|Zf<|Za<|Ze<|Zo<|Yq (Nh 80 1 5 Zvp)<|Nw [(1,_),(2,_)] [(0,_),(1,_),(2,_),(3,_)] (fun(q:Nat×List Nat×Value×Value)=>[(3,q.2.2.1),(4,q.2.2.2)]) (fun(q:Nat×List Nat×Value×Value)=>[(80,osl 1 5 Zvp q.2.2.1 q.2.1),(81,osl 1 3 Cg q.2.2.2 (dg 1000000000 q.1))]) (fun(q:Nat×List Nat×Value×Value)=>(val 256 q.2.1+256^q.2.1.length*q.1=n)∧(∀d∈q.2.1,d<256)∧(q.2.1.length=0∨256^(q.2.1.length-1)≤n)∧(bl q.1≤bl n)) (fun(q:Nat×List Nat×Value×Value)=>q.1) (n,[],.slice none 0 0,_) ⟨by simp [val],by simp,.inl rfl,Nat.le_refl _⟩ K4 ⟨J,by rw [hn];rfl,rfl,rfl,rfl,rfl,trivial⟩ ?_
 rintro⟨m,bs,vb,vd⟩ ⟨hv,hba,hge,hmn⟩
 dsimp only at hv hba hge hmn
 simp only [CA,NA]
 have hlm:=Kw m
 refine Ze<|Ze<|Zg<|mv J<|dt (Yh J J (i:=81) J (Yt pN) Me)<|dt (Of J J J)<|Zf<|Za<|Zs J (fun h167=>?_) (fun h167=>?_)
 ·have hm0:0<m:=Ziq (by omega)
  have hgn:=to_ge hv hm0
  have hbl:=to_len hgn
  refine Zl<|Za<|Zo<|Ze<|Zg<|as_ J<|Zf<|Za<|Ze<|Ze<|Zg<|mv J<|dt (Yh J J (i:=81) J (Yt pN) Me)<|dt (Qf J J J ⟨by omega,by omega⟩)<|as_ J<|Zf<|Za<|Zo<|Nw [(1,_),(2,_),(3,_),(4,_)] [(0,_),(80,_),(1,_),(2,_),(3,_)] (fun(q:Nat×List Nat×Nat)=>[(6,.int .i64 ((q.1:Int)-1)),(5,.int .i64 (q.2.2:Int))]) (fun(q:Nat×List Nat×Nat)=>[(81,osl 1 3 Cg vd q.2.1)]) (fun(q:Nat×List Nat×Nat)=>(q.1≤(dg 1000000000 m).length)∧(q.2.1.length=(dg 1000000000 m).length)∧(∀d∈q.2.1,d<1000000000)∧(∀j,j<q.1→q.2.1.getD j 0=(dg 1000000000 m).getD j 0)∧(q.2.2<256)∧(val 1000000000 (q.2.1.drop q.1)*256+q.2.2=val 1000000000 ((dg 1000000000 m).drop q.1))) (fun(q:Nat×List Nat×Nat)=>q.1) ((dg 1000000000 m).length,dg 1000000000 m,0) ⟨Nat.le_refl _,J,Lo Ng m,fun j _=>J,by first | omega | (dsimp only<;>omega),by simp [List.drop_length,val]⟩ K6 K6 ?_
  rintro⟨k,p,r⟩ ⟨hk,hpl,hpa,hpk,hr,hpv⟩
  dsimp only at hk hpl hpa hpk hr hpv
  simp only [CA,NA]
  have hda:=Qs Hx (Lo Ng m) (k-1)
  refine Ze<|Ze<|Zg<|mv J<|dt (Ke J J J)<|Zf<|Za<|Zs J (fun h169=>?_) (fun h169=>?_)
  ·exact Zl<|Za<|Ze<|Zo<|Ze<|Zg<|mv J<|dt (n_mul (n:=1000000000) J J J (by omega))<|mv J<|mv J<|dt (Xc (ii:=81) (i:=(k-1)) J J J J (Yt pN) Me zT3)<|dt (Xs (ii:=81) 0 J J J (Yt pN) pN)<|dt (Zil J J J (by have:=Qs Hx hpa (k-1);omega))<|as_ J<|Zf<|Za<|Ze<|Zg<|mv J<|mv J<|mv J<|dt (Zmc (n:=256) J J J (by have:=Qs Hx hpa (k-1);omega) (by omega))<|dt (Xc (ii:=81) (i:=(k-1)) J J J J (Yt pN) Me zT3)<|tt (Ij (i:=81) (enc:=Cg) _ J J J J J J pN J hw) fun _ _=>Zf<|Za<|Zg<|mv J<|dt (Zs3 (n:=256) J J J (by omega))<|as_ J<|Zf<|Oe<|Za<|Zg<|mv J<|dt (Qf J J J ⟨by omega,by omega⟩)<|as_ J<|Zf<|Xp (k-1,_,_) ⟨by first | omega | (dsimp only<;>omega),by simp [hpl],Lu hpa _ _ (Zvy hr (Qs Hx hpa _)),fun j hj=>by dsimp only at hj ⊢;rw [Nq _ _ _ _ _ (by omega),if_neg (by omega)];exact hpk j (by omega),Nat.mod_lt _ (by omega),by dsimp only;rw [hpk (k-1) (by omega)];exact to_step (by omega) (by omega) (by omega) hpv⟩ (by first | omega | (dsimp only<;>omega)) ⟨by rw [show(((k-1:Nat):Int)-1)=(k:Int)-1-1 by omega];rfl,rfl,rfl,rfl,rfl,rfl,trivial⟩ K6
  ·refine Yw<|Zx<|Zx<|Na<|Za<|Ze ?_
   obtain rfl:k=0:=by omega
   rw [List.drop_zero,List.drop_zero,Le Ng]at hpv
   have hmr:m%256=r%256:=by omega
   have hdm:dg 1000000000 (m/256)=tz p:=by rw [←Kr Ng p hpa];congr 1;omega
   exact Zg<|mv J<|mv J<|dt (Zf6 J J uT3 uT5)<|tt (Pm (i:=4) (ivs:=[(0,_)]) (enc:=Zvp) [r%256] J J K2 Zqo ti5 J J J J J pB.cells J J hw) fun v_2 _=>tt (Iv (i:=80) (j:=4) (by_:=1) J J J J J J (by decide) J (Yt pB) Zqo ti5 J pB J J J (by simp;omega) (by decide) J hw) fun v_3 _=>as_ J<|Zf<|Za<|Zg<|mv J<|tt (Zh (n:=4) (Kg _ _) J J J K1 call77 (Xr 81 J J pN Zd) J hw) fun _ _=>Oa (Zgf 81 J J pN)<|as_ J<|Zf<|Oe<|Xp (m/256,bs ++ [m%256],_,_) ⟨to_push hv,Zi7 hba (Nat.mod_lt _ (by omega)),.inr (by simpa using hgn),Nat.le_trans (Oz (Nat.div_le_self _ _)) hmn⟩ (Nat.div_lt_self hm0 (by omega)) K4 ⟨by rw [hmr];rfl,by rw [hdm];rfl,rfl,rfl,rfl,rfl,trivial⟩
 ·have hm0:m=0:=(Pn Ng m).1 (by omega)
  have hbs:bs=dg 256 n:=Zq8 (by omega) hba (by rw [hm0,Nat.mul_zero,Nat.add_zero]at hv;exact hv) hge
  have hlb:bs.length≤4000000000:=by rw [hbs,Za9];omega
  refine Yw<|Zx<|Zx<|Na<|Za<|Ze<|Zg<|as_ J<|Zf<|Za<|Ze<|Ze<|Zg<|mv J<|dt (Yh J J (i:=80) J (Yt pB) Zqo)<|dt (Qf J J J ⟨by omega,by omega⟩)<|as_ J<|Zf<|Za<|Zo<|Yq (Nh 82 1 5 Zvp)<|Nw [(1,_),(2,_),(3,_)] [(0,_),(80,_),(81,_),(1,_),(2,_),(3,_)] (fun(q:Nat×Value)=>[(8,.int .i64 ((q.1:Int)-1)),(7,q.2)]) (fun(q:Nat×Value)=>[(82,osl 1 5 Zvp q.2 (bs.drop q.1).reverse)]) (fun(q:Nat×Value)=>q.1≤bs.length) (fun(q:Nat×Value)=>q.1) (bs.length,.slice none 0 0) (Nat.le_refl _) K5 ⟨by rw [List.drop_length];rfl,rfl,rfl,rfl,rfl,rfl,rfl,trivial⟩ ?_
  rintro⟨k,vo⟩ hk
  dsimp only at hk
  simp only [CA,NA]
  have hdl:(bs.drop k).length=bs.length-k:=List.length_drop
  refine Ze<|Ze<|Zg<|mv J<|dt (Ke J J J)<|Zf<|Za<|Zs J (fun h178=>?_) (fun h178=>?_)
  ·exact Zl<|Za<|Ze<|Zo<|Zg<|mv J<|mv J<|mv J<|dt (Xc (ii:=80) (i:=(k-1)) J J J J (Yt pB) Zqo sizeOf5)<|dt (Xs (ii:=80) 0 J J J (Yt pB) pB)<|tt (Pm (i:=5) (ivs:=[(0,_)]) (enc:=Zvp) [bs.getD (k-1) 0] J J K2 Zqo ti5 J J J J J pB.cells J J hw) fun v_4 _=>tt (Iv (i:=82) (j:=5) (by_:=1) J J J J J J (by decide) J (Yt pB) Zqo ti5 J pB J J J (by simp;omega) (by decide) J hw) fun v_5 _=>as_ J<|Zf<|Oe<|Za<|Zg<|mv J<|dt (Qf J J J ⟨by omega,by omega⟩)<|as_ J<|Zf<|Xp (k-1,_) (by first | omega | (dsimp only<;>omega)) (by first | omega | (dsimp only<;>omega)) ⟨by rw [show(((k-1:Nat):Int)-1)=(k:Int)-1-1 by omega];rfl,rfl,rfl,rfl,rfl,trivial⟩ ⟨by rw [←Zyb (by omega) hk];rfl,rfl,rfl,rfl,rfl,rfl,rfl,trivial⟩
  ·refine Yw<|Zx<|Zx<|Na<|Za<|Ze<|Zg<|dt (Xu J J Zaj J zT4 J J)<|dt (Ok (i:=2) J J J iA4 J)<|mv J<|dt (d_b2s J J (i:=82) J (Yt pB) Zqo uT9 uT5)<|dt (Oc (ivs:=[(0,_),(1,_)]) J K4 (fun a w hs=>Zvf ((Zb J) a w hs) ((Zb J) a w hs)))<|tt (Zm (i:=3) J J J J J (by decide) J Yo J J ⟨Zb J,Zb J,trivial⟩ J hw trivial) fun _ _=>Zf<|Za<|Zw ?_
   obtain rfl:k=0:=by omega
   exact Zy (.inl J) hsc () _ (fun a w hs=>Xy hs results53 (Ys (i:=3) J J Qr Yo J)) (by rw [bstr_bs hbs,hn]<;>rfl) trivial J Zj
theorem r_bits(v:Value)(x:Int)(hx:bl x.natAbs≤4000000000:=by omega):Mb prog 97 #[.agg #[.bool (decide (x<0)),v]] [d9p v x.natAbs] (.int .i64 (bl x.natAbs:Int)):=by
 refine Yd func97 J ntmps97 J K1 ?_
 intro w0 sc hw hsc
 simp only [Zq,Zp]
 have hl8:=Za9 x.natAbs
 have hsz:=Lc x.natAbs
 refine Ze<|Zg<|tt (Yz (i:=2) J J J J J hw) fun b _=>as_ J<|Zf<|Za<|Ze<|Zg<|dt (Ya (i:=2) J J J Mg Qd J J)<|tt (Zh (n:=2) (r_to _ _ hx) J J J K1 call53 (Zc 1 J J J Zd) J hw) fun _ _=>dt (d_fld J J Zak J iA9 J)<|as_ J<|Zf<|Za<|Ze<|Ze<|Zg<|mv J<|dt (Fl J J uT9)<|dt (Pv J J J)<|Zf<|Za<|Zs J (fun h260=>?_) (fun h260=>?_)
 ·exact Ze<|Zg<|as_ J<|Zf<|Za<|Zw<|Xa<|Zy (.inl J) hsc () _ (fun a w hs=>Xy hs results97 J) (by have h1:x.natAbs=0:=(Pn (by omega:2≤256) x.natAbs).1 (by omega);rw [h1]<;>rfl) trivial J Zj
 ·have hn0:0<x.natAbs:=by rcases Nat.eq_zero_or_pos x.natAbs with h | h;(rw [h]at h260;simp [Lc,Ir]at h260);exact h
  obtain⟨htop,hlp⟩:=bl_top hn0
  have hby:((Xd x.natAbs).data.toList.getD 0 0).toNat=x.natAbs/256^((dg 256 x.natAbs).length-1)%256:=Zd2 x.natAbs 0 hlp
  refine Zl<|Za<|Ze<|Zg<|mv J<|dt (Fl J J uT9)<|dt (Qf J J J ⟨by omega,by omega⟩)<|dt (Cb J J J ⟨by omega,by omega⟩)<|as_ J<|Zf<|Za<|Ze<|Ze<|Zg<|mv J<|dt (Zqh (i:=0) J J J uT9 J)<|dt (Ah J J uT5 uT3 ⟨by omega,by rw [hby];omega⟩)<|as_ J<|Zf<|Za<|Zo<|Nw [] [(0,_),(1,_),(2,_)] (fun(q:Nat×Nat)=>[(4,.int .i64 (q.2:Int)),(5,.int .i64 (q.1:Int))]) (fun(q:Nat×Nat)=>[]) (fun(q:Nat×Nat)=>(q.2+bl q.1=bl x.natAbs)∧(q.1<256)) (fun(q:Nat×Nat)=>q.1) (x.natAbs/256^((dg 256 x.natAbs).length-1)%256,8*((dg 256 x.natAbs).length-1)) ⟨htop,Nat.mod_lt _ (by omega)⟩ ⟨by rw [hsz,show(8:Int)*(((dg 256 x.natAbs).length:Int)-1)=((8*((dg 256 x.natAbs).length-1):Nat):Int) by omega];rfl,by rw [hby];rfl,trivial⟩ K3 ?_
  rintro⟨k,c⟩ ⟨hkc,hk8⟩
  dsimp only at hkc hk8
  simp only [CA,NA]
  refine Ze<|Ze<|Zg<|mv J<|dt (Of J J J)<|Zf<|Za<|Zs J (fun h264=>?_) (fun h264=>?_)
  ·have hbh:=bl_half (k:=k) (by omega)
   exact Zl<|Za<|Ze<|Zo<|Zg<|mv J<|dt (Yy J J J ⟨by omega,by omega⟩)<|as_ J<|Zf<|Oe<|Za<|Zg<|mv J<|dt (Zkw J J J)<|as_ J<|Zf<|Xp (k/2,c+1) ⟨by dsimp only;omega,by first | omega | (dsimp only<;>omega)⟩ (by first | omega | (dsimp only<;>omega)) ⟨by rfl,by exact congrArg some (Ag (by omega)),trivial⟩ K3
  ·exact Yw<|Zx<|Zx<|Na<|Za<|Ze<|Zg<|mv J<|as_ J<|Zf<|Za<|Zw<|Zy (.inl J) hsc () _ (fun a w hs=>Xy hs results97 J) (by have h1:k=0:=(by omega);rw [←hkc,h1]<;>rfl) trivial J Zj
theorem r_big(v:Value)(x:Int)(hx:bl x.natAbs≤4000000000:=by omega):Mb prog 70 #[.agg #[.bool (decide (x<0)),v]] [d9p v x.natAbs] (.bool (decide ((65536:Int)<(bl x.natAbs:Int)))):=by
 refine Yd func70 J ntmps70 J K1 ?_
 intro w0 sc hw hsc
 simp only [Zq,Zp]
 exact Ze<|Zg<|tt (Yz (i:=2) J J J J J hw) fun b _=>as_ J<|Zf<|Za<|Ze<|Zg<|dt (Ya (i:=2) J J J Mg Qd J J)<|tt (Zh (n:=2) (r_bits _ _ hx) J J J K1 call97 (Zc 1 J J J Zd) J hw) fun _ _=>dt (Of J J J)<|as_ J<|Zf<|Za<|Zw<|Zy (.inl J) hsc () _ (fun a w hs=>Xy hs results70 J) J trivial J Zj
theorem r_gcd(v w:Value)(x y:Int)(hy:bl y.natAbs≤3000000000)(hx:bl x.natAbs≤3000000000:=by omega):Cal prog 71 #[.agg #[.bool (decide (x<0)),v],.agg #[.bool (decide (y<0)),w]] [d9p v x.natAbs,d9p w y.natAbs] true (G:=Value) (fun r=>True) (fun r=> .agg #[.bool (decide ((Int.gcd x y:Int)<0)),r]) (fun r=>[d9p r ((Int.gcd x y:Int)).natAbs]):=by
 refine Yd func71 J ntmps71 J K2 ?_
 intro w0 sc hw hsc
 simp only [Zq,Zp]
 refine Ze<|Zg<|tt (Yz (i:=3) J J J J J hw) fun b _=>tt (Yz (i:=4) J J J J J hw) fun b_2 _=>tt (Zr (i:=5) J J zeroValue48 J J hw) fun b_3 _=>Zf<|Za<|Ze<|Qo (fun _=>False) [(0,0),(1,0),(2,0),(3,0),(4,0),(5,3)] ?_ ?_
 ·kernel_rfl
 refine r0' J J (st0 (Xu J J Zaj J Zja J J))<|r0' J J (st0 (Ok (i:=3) J J J Zki J))<|r0' J J (st0 (Xu J J Zaj J Zja J J))<|r0' J J (st0 (Ok (i:=4) J J J Zki J))<|r0' J J (st0 (Oy J J))<|r3' J (Pt (Oy J J) J) fun _ _=>Oh<|Za<|Ze<|Zo<|Yq (Od 1 91 J J J)<|Yq (Od 2 92 J J J)<|Nw [(4,_)] [(0,_),(1,_),(2,_),(3,_),(4,_),(5,_)] (fun(q:Value×Value×Nat×Nat)=>[(5,q.1),(6,q.2.1)]) (fun(q:Value×Value×Nat×Nat)=>[(91,d9p q.1 q.2.2.1),(92,d9p q.2.1 q.2.2.2)]) (fun(q:Value×Value×Nat×Nat)=>(Nat.gcd q.2.2.1 q.2.2.2=Nat.gcd x.natAbs y.natAbs)∧(bl q.2.2.1≤3000000000)∧(bl q.2.2.2≤3000000000)) (fun(q:Value×Value×Nat×Nat)=>q.2.2.2) (v,w,x.natAbs,y.natAbs) ⟨J,hx,hy⟩ K3 K8 ?_
 rintro⟨va,vb,a,b⟩ ⟨hg,ha,hb⟩
 dsimp only at hg ha hb
 simp only [CA,NA]
 refine Ze<|Ze<|Zg<|mv J<|dt (Yh J J (i:=92) J Zi Me)<|dt (Of J J J)<|Zf<|Za<|Zs J (fun h238=>?_) (fun h238=>?_)
 ·have hb0:0<b:=Ziq (by omega)
  refine Zl<|Za<|Zo<|Ze<|Zg<|mv J<|mv J<|tt (Zh (n:=6) (r_over _ _ _ _ hb0) J J J K2 call124 (Zc 91 J J J (Zc 92 J J J Zd)) J hw) fun g _=>mv J<|dt (Yl J J J)<|dt (Yl J J J)<|as_ J<|as_ J<|Zf<|Za<|Zg<|mv J<|mv J<|as_ J<|as_ J<|Zf<|Oe ?_
  have hlt:a%b<b:=Nat.mod_lt _ hb0
  exact Qy (Od 92 91 J J J)<|Qy (Od 7 92 J J J)<|Xp (_,_,b,a%b) ⟨by dsimp only;rw [←hg,Nat.gcd_comm b,←Nat.gcd_rec,Nat.gcd_comm],hb,Nat.le_trans (Oz (Nat.le_of_lt hlt)) hb⟩ hlt K3 K8
 ·have hb0:b=0:=(Pn Ng b).1 (by omega)
  have ha0:a=Nat.gcd x.natAbs y.natAbs:=by rw [←hg,hb0,Nat.gcd_zero_right]
  exact Yw<|Zx<|Zx<|Na<|Za<|Ze<|Zg<|mv J<|tt (Zh (n:=7) (Ae _ _ _ ((Int.gcd x y:Int)) (by rw [ha0]<;>rfl) (by simp [sg]) (by omega)) J J J K2 call78 (Zc 91 J J J Zd) J hw) fun _ _=>tt (Zm (i:=5) J J J J J (by decide) J Qd J J ⟨Zb J,Zk (i:=91) J Zi,trivial⟩ J hw trivial) fun _ _=>Zf<|Za<|Zw<|Zy (.inl J) hsc _ _ (fun a w hs=>Xy hs results71 (Ys (i:=5) J J Mg Qd J)) J trivial J (Yp 91 J J J (by rw [ha0]<;>rfl) Zj)
set_option maxHeartbeats 4000000 in
theorem Gr(v w:Value)(x y:Int)(hx:bl x.natAbs≤500000000)(hy0:y≠0)(hy:bl y.natAbs≤500000000:=by omega):Cal prog 74 #[.agg #[.bool (decide (x<0)),v],.agg #[.bool (decide (y<0)),w]] [d9p v x.natAbs,d9p w y.natAbs] true (G:=Value×Value) (fun r=>True) (fun r=> .tuple #[.agg #[.bool (decide (x/y<0)),r.1],.agg #[.bool (decide (x%y<0)),r.2]]) (fun r=>[d9p r.1 (x/y).natAbs,d9p r.2 (x%y).natAbs]):=by
 refine Yd func74 J ntmps74 J K2 ?_
 intro w0 sc hw hsc
 simp only [Zq,Zp]
 have hyp:0<y.natAbs:=by omega
 have hb1:=bl_tdiv x y
 have hb2:=Zqj x y
 have hb3:=Fy x (x.tdiv y*y)
 have hsf:=sub_fix (x:=x) hy0
 have hb4:=Fy (x.tdiv y) 1
 have hb5:=Km (x.tdiv y) 1
 have hb6:bl (1:Int).natAbs≤1:=by decide
 have hb7:=Xw (x.tdiv y-1) y
 have hb8:=Xw (x.tdiv y+1) y
 refine Ze<|Zg<|tt (Yz (i:=3) J J J J J hw) fun b _=>tt (Yz (i:=4) J J J J J hw) fun b_2 _=>tt (Zr (i:=5) J J zeroValue48 J J hw) fun b_3 _=>tt (Zr (i:=6) J J zeroValue48 J J hw) fun b_4 _=>Zf<|Za<|Ze<|Zg<|dt (Xu J J Zaj J Zja J J)<|dt (Ok (i:=3) J J J Zki J)<|dt (Xu J J Zaj J Zja J J)<|dt (Ok (i:=4) J J J Zki J)<|tt (Zh (n:=70) (r_over _ _ _ _ hyp) J J J K2 call124 (Zc 1 J J J (Zc 2 J J J Zd)) J hw) fun g _=>mv J<|dt (Yl J J J)<|dt (Yl J J J)<|as_ J<|as_ J<|Zf<|Za<|Ze<|Zg<|dt (Xu J J Zaj J zT4 J J)<|dt (Ok (i:=3) J J J iA4 J)<|dt (Xu J J Zaj J zT4 J J)<|dt (Ok (i:=4) J J J iA4 J)<|dt (Zkx J J J uT4)<|mv J<|tt (Zh (n:=6) (Ae _ _ _ (x.tdiv y) (Zhj x y) (sg_tdiv x y) (by rw [Zhj];omega)) J J J K2 call78 (Zc 70 J J J Zd) J hw) fun _ _=>Oa (Gx 70 (congrArg (d9p _) (Zhj x y)) J J)<|tt (Zr (i:=97) J J zeroValue48 J J hw) fun b_5 _=>tt (Zm (i:=97) J J J J J (by decide) J Qd J J ⟨Zb J,Zk (i:=70) J Zi,trivial⟩ J hw trivial) fun _ _=>Zf<|Za ?_
 refine Da [(2,_),(3,_),(4,_),(5,_),(7,_),(8,_)] [(0,_),(1,_),(2,_),(3,_),(4,_),(5,_),(6,_),(70,_),(71,_),(97,_)] (fun(q:Value×Nat)=>[(9,.pointer (some ⟨q.2,0,none⟩))]) (fun(q:Value×Nat)=>[(72,d9p q.1 (x-x.tdiv y*y).natAbs),(98,box q.2 48 #[.bool (decide ((x-x.tdiv y*y)<0)),q.1])]) (fun(q:Value×Nat)=>True) K6 K10 ?_ ?_
 ·refine Gb (fun _=>False) [6]<|Zu (n:=4) [(0,0),(1,0),(2,0)]<|r0' J J (st0 (Ya (i:=3) J J J Mg Qd J J))<|r0' J J (st0 (Ya (i:=97) J J J Mg Qd J J))<|r0' J J (st0 (Ya (i:=4) J J J Mg Qd J J))<|Yk<|Qp (n:=3) 3 5 ?_ ?_
  ·refine Yf J (Zh (n:=73) (Bx _ _ _ _) J J J K2 Zld (Zc 70 J J J (Zc 2 J J J Zd)) J hw) fun v _=>Qp (n:=2) 4 5 ?_ ?_
   ·exact Yf J (Zh (n:=72) (Zjy _ _ _ _) J J J K2 call87 (Zc 1 J J J (Zc 73 J J J Zd)) J hw) fun v_2 _=>Zu (n:=0) [(5,1),(6,3)]<|r1' J (Zr (i:=98) J J zeroValue48 J J hw) fun b_6 _=>r3' J (Zm (i:=98) J J J J J (by decide) J Qd J J ⟨Zb J,Zk (i:=72) J Zi,trivial⟩ J hw trivial) fun _ _=>Yk<|Yb<|Ql (_,_) trivial K7 K12
   ·exact Yf J (Zr (i:=98) J J zeroValue48 J J hw) fun b_7 _=>Zu (n:=0) [(4,1),(6,3)]<|r1' J (Zh (n:=72) (Zjy _ _ _ _) J J J K2 call87 (Zc 1 J J J (Zc 73 J J J Zd)) J hw) fun v_3 _=>r3' J (Zm (i:=98) J J J J J (by decide) J Qd J J ⟨Zb J,Zk (i:=72) J Zi,trivial⟩ J hw trivial) fun _ _=>Yk<|Yb<|Ql (_,_) trivial K7 K12
  ·exact Yf J (Zr (i:=98) J J zeroValue48 J J hw) fun b_8 _=>Zu (n:=0) [(3,1),(4,1),(6,3)]<|r1' J (Zh (n:=73) (Bx _ _ _ _) J J J K2 Zld (Zc 70 J J J (Zc 2 J J J Zd)) J hw) fun v_4 _=>r1' J (Zh (n:=72) (Zjy _ _ _ _) J J J K2 call87 (Zc 1 J J J (Zc 73 J J J Zd)) J hw) fun v_5 _=>r3' J (Zm (i:=98) J J J J J (by decide) J Qd J J ⟨Zb J,Zk (i:=72) J Zi,trivial⟩ J hw trivial) fun _ _=>Yk<|Yb<|Ql (_,_) trivial K7 K12
 ·rintro⟨vr,b9⟩ -
  simp only [CA,NA]
  refine Da [(4,_),(5,_),(7,_),(8,_),(9,_)] [(0,_),(72,_),(1,_),(2,_),(3,_),(4,_),(5,_),(6,_),(70,_),(71,_)] (fun(q:Value×Value)=>[]) (fun(q:Value×Value)=>[(75,d9p q.1 (x/y).natAbs),(76,d9p q.2 (x%y).natAbs),(97,box b_5 48 #[.bool (decide (x/y<0)),q.1]),(98,box b9 48 #[.bool (decide (x%y<0)),q.2])]) (fun(q:Value×Value)=>True) K5 K10 ?_ ?_
  ·refine Ze<|Zg<|dt (Ya (i:=98) J J J Mg Qd J J)<|tt (Zh (n:=6) (Ce _ _) J J J K1 call72 (Zc 72 J J J Zd) J hw) fun _ _=>dt (Xv J J J)<|Zf<|Za<|Zs J (fun h223=>?_) (fun h223=>?_)
   ·have hrn:x.tmod y<0:=by rw [←hsf];exact(Qg _).1 h223
    refine Ze<|Ze<|Zg<|dt (Ya (i:=4) J J J Mg Qd J J)<|tt (Zh (n:=6) (Ce _ _) J J J K1 call72 (Zc 2 J J J Zd) J hw) fun _ _=>dt (Of J J J)<|Zf<|Za<|Zs J (fun h224=>?_) (fun h224=>?_)
    ·have hyp0:0<y:=by have h2:=decide_eq_decide.1 (Fd y);omega
     obtain⟨hq,hr⟩:=quo_pos hyp0 hrn
     refine Qo (fun _=>False) [(0,0),(1,1),(2,3),(3,3)] ?_ ?_
     ·kernel_rfl
     refine r0' J J (st0 (Ya (i:=97) J J J Mg Qd J J))<|r1' J (Zh (n:=7) (Zjz 1 ⟨by omega,by omega⟩) J J J K1 call34 Zd J hw) fun v_6 _=>r3' J (Zh (n:=8) (Zjy _ _ _ _) J J J K2 call87 (Zc 70 J J J (Zc 7 J J J Zd)) J hw) fun v_7 _=>r3' J (Zm (i:=97) J J J J J (by decide) J Qd J J ⟨Zb J,Zk (i:=8) J Zi,trivial⟩ J hw trivial) fun _ _=>Oh<|Za<|Qo (fun _=>False) [(0,0),(1,0),(2,0),(3,1),(4,1),(5,3)] ?_ ?_
     ·kernel_rfl
     exact r0' J J (st0 (Ya (i:=3) J J J Mg Qd J J))<|r0' J J (st0 (Ya (i:=97) J J J Mg Qd J J))<|r0' J J (st0 (Ya (i:=4) J J J Mg Qd J J))<|r1' J (Zh (n:=9) (Bx _ _ _ _) J J J K2 Zld (Zc 8 J J J (Zc 2 J J J Zd)) J hw) fun v_8 _=>r1' J (Zh (n:=10) (Zjy _ _ _ _) J J J K2 call87 (Zc 1 J J J (Zc 9 J J J Zd)) J hw) fun v_9 _=>r3' J (Zm (i:=98) J J J J J (by decide) J Qd J J ⟨Zb J,Zk (i:=10) J Zi,trivial⟩ J hw trivial) fun _ _=>Oh<|Qy (Od 8 75 J J J)<|Qy (Od 10 76 J J J)<|Ql (v_7,v_9) trivial K5 ⟨by rw [hq];rfl,by rw [hr];rfl,by rw [hq];rfl,by rw [hr];rfl,rfl,rfl,rfl,rfl,rfl,rfl,rfl,rfl,rfl,rfl,trivial⟩
    ·have hyn0:y<0:=by have h2:=decide_eq_decide.1 (Fd y);omega
     obtain⟨hq,hr⟩:=quo_neg hyn0 hrn
     refine Qo (fun _=>False) [(0,0),(1,1),(2,3),(3,3)] ?_ ?_
     ·kernel_rfl
     refine r0' J J (st0 (Ya (i:=97) J J J Mg Qd J J))<|r1' J (Zh (n:=11) (Zjz 1 ⟨by omega,by omega⟩) J J J K1 call34 Zd J hw) fun v_10 _=>r3' J (Zh (n:=12) (Zr9 _ _ _ _) J J J K2 call37 (Zc 70 J J J (Zc 11 J J J Zd)) J hw) fun v_11 _=>r3' J (Zm (i:=97) J J J J J (by decide) J Qd J J ⟨Zb J,Zk (i:=12) J Zi,trivial⟩ J hw trivial) fun _ _=>Oh<|Za<|Qo (fun _=>False) [(0,0),(1,0),(2,0),(3,1),(4,1),(5,3)] ?_ ?_
     ·kernel_rfl
     exact r0' J J (st0 (Ya (i:=3) J J J Mg Qd J J))<|r0' J J (st0 (Ya (i:=97) J J J Mg Qd J J))<|r0' J J (st0 (Ya (i:=4) J J J Mg Qd J J))<|r1' J (Zh (n:=13) (Bx _ _ _ _) J J J K2 Zld (Zc 12 J J J (Zc 2 J J J Zd)) J hw) fun v_12 _=>r1' J (Zh (n:=14) (Zjy _ _ _ _) J J J K2 call87 (Zc 1 J J J (Zc 13 J J J Zd)) J hw) fun v_13 _=>r3' J (Zm (i:=98) J J J J J (by decide) J Qd J J ⟨Zb J,Zk (i:=14) J Zi,trivial⟩ J hw trivial) fun _ _=>Oh<|Qy (Od 12 75 J J J)<|Qy (Od 14 76 J J J)<|Ql (v_11,v_13) trivial K5 ⟨by rw [hq];rfl,by rw [hr];rfl,by rw [hq];rfl,by rw [hr];rfl,rfl,rfl,rfl,rfl,rfl,rfl,rfl,rfl,rfl,rfl,trivial⟩
   ·have hrn:¬x.tmod y<0:=by rw [←hsf];exact fun h=>h223 ((Qg _).2 h)
    obtain⟨hq,hr⟩:=Zw3 hy0 hrn
    rw [←hsf]at hr
    exact Zl<|Qy (Od 70 75 J J J)<|Qy (Od 72 76 J J J)<|Ql (g.1,vr) trivial K5 ⟨by rw [hq];rfl,by rw [hr];rfl,by rw [hq];rfl,by rw [hr];rfl,rfl,rfl,rfl,rfl,rfl,rfl,rfl,rfl,rfl,rfl,trivial⟩
  ·rintro⟨v8,v9⟩ -
   simp only [CA,NA]
   exact Ze<|Zg<|mv J<|Zf<|Za<|Ze<|Oj [97,98] [3]<|Zu (n:=0) [(0,0),(1,0),(2,1),(3,3)]<|r0' J J (stf (Ya (i:=97) J J J Mg Qd J J) K2)<|r0' J J (stf (Ya (i:=98) J J J Mg Qd J J) K2)<|r1' J (Zee 5 J J K2 (fun ob=>(Zm (i:=5) J J J J J (by decide) J Qd J J ⟨Zb J,Zk (i:=75) J Zi,trivial⟩ J hw ob))) fun _ _=>r3' J (Zm (i:=6) J J J J J (by decide) J Qd J J ⟨Zb J,Zk (i:=76) J Zi,trivial⟩ J hw trivial) fun _ _=>Yk<|Yb<|Za<|Zw<|Zy (.inl J) hsc (_,_) _ (fun a w hs=>Nr hs results74 (Ys (i:=5) J J Mg Qd J) (Ys (i:=6) J J Mg Qd J)) J trivial J (Xb 75 J J J (Xb 76 J J J Zj))
theorem Hq(b:Bool)(s:ByteArray)(c:Bool)(t:ByteArray):Mb prog 25 #[.agg #[.bool b,.string s,.bool c,.string t]] [] (.bool (okR b s c t)):=by
 refine Yd func25 J ntmps25 J trivial ?_
 intro w0 sc hw hsc
 simp only [Zq,Zp]
 refine Ze<|Zg<|tt (Yz (i:=1) J J J J J hw) fun b _=>as_ J<|Zf<|Za<|Ze<|Zg<|dt (Xu J J Di J Yo J J)<|dt (Ya (i:=1) J J J Qr Yo J J)<|tt (Zh (n:=1) (Zlw _ _) J J J K1 call35 Zd J hw) fun _ _=>mv J<|Ly (d:=6) J (fun s332=>?_) (fun s332=>?_)
 ·refine gdt (Xu J J Di J Yo J J) J J<|gdt (Ya (i:=1) J J J Qr Yo J J) J J<|gtt (Zh (n:=1) (Zlw _ _) J J J K1 call35 Zd J hw) J J J fun _ _=>dt (Yu J J J)<|mv J<|Ly (d:=11) J (fun s332_2=>?_) (fun s332_2=>?_)
  ·refine gdt (Xu J J Di J Yo J J) J J<|gdt (Xu J J Zak J zT4 J J) J J<|gdt (Ok (i:=1) J J J iA4 J) J J<|gdt (Xh J J) J J<|dt (Yu J J J)<|mv J<|Ly (d:=17) J (fun s332_3=>?_) (fun s332_3=>?_)
   ·exact gdt (Xu J J Di J Yo J J) J J<|gdt (Xu J J Zak J zT9 J J) J J<|gdt (Ok (i:=1) J J J iA9 J) J J<|gdt (Fl J J uT9) J J<|gdt (Of J J J) J J<|dt (Yu J J J)<|as_ J<|Zf<|Za<|Zw<|Zy (.inl J) hsc () _ (fun a w hs=>Xy hs results25 J) (by unfold okR;simp_all) trivial J Zj
   ·exact gsk J J J<|gsk J J J<|gsk J J J<|gsk J J J<|gsk J J J<|dt (Yg J J J)<|as_ J<|Zf<|Za<|Zw<|Zy (.inl J) hsc () _ (fun a w hs=>Xy hs results25 J) (by unfold okR;simp_all) trivial J Zj
  ·exact gsk J J J<|gsk J J J<|gsk J J J<|gsk J J J<|dt (Yg J J J)<|mv J<|gsk J J J<|gsk J J J<|gsk J J J<|gsk J J J<|gsk J J J<|dt (Yg J J J)<|as_ J<|Zf<|Za<|Zw<|Zy (.inl J) hsc () _ (fun a w hs=>Xy hs results25 J) (by unfold okR;simp_all) trivial J Zj
 ·exact gsk J J J<|gsk J J J<|gsk J J J<|dt (Yg J J J)<|mv J<|gsk J J J<|gsk J J J<|gsk J J J<|gsk J J J<|dt (Yg J J J)<|mv J<|gsk J J J<|gsk J J J<|gsk J J J<|gsk J J J<|gsk J J J<|dt (Yg J J J)<|as_ J<|Zf<|Za<|Zw<|Zy (.inl J) hsc () _ (fun a w hs=>Xy hs results25 J) (by unfold okR;simp_all) trivial J Zj
theorem Ye(x y:Int)(hx:bl x.natAbs≤2000000000:=by omega)(hy:bl y.natAbs≤2000000000:=by omega):Cal prog 23 #[.agg #[.bool (decide (x<0)),.string (Xd x.natAbs),.bool (decide (y<0)),.string (Xd y.natAbs)]] [] true (G:=Value×Value) (fun r=>True) (fun r=> .agg #[.bool (decide (x<0)),r.1,.bool (decide (y<0)),r.2]) (fun r=>[d9p r.1 (x).natAbs,d9p r.2 (y).natAbs]):=by
 refine Yd func23 J ntmps23 J trivial ?_
 intro w0 sc hw hsc
 simp only [Zq,Zp]
 refine Ze<|Zg<|tt (Yz (i:=1) J J J J J hw) fun b _=>tt (Zr (i:=2) J J zeroValue50 J J hw) fun b_2 _=>Zf<|Za<|Ze<|Qo (fun _=>False) [(0,0),(1,0),(3,0),(4,0),(2,1),(5,1),(6,0),(7,3)] ?_ ?_
 ·kernel_rfl
 exact r0' J J (st0 (Xu J J Di J Yo J J))<|r0' J J (st0 (Ya (i:=1) J J J Qr Yo J J))<|r0' J J (st0 (Xu J J Di J Yo J J))<|r0' J J (st0 (Ya (i:=1) J J J Qr Yo J J))<|r1' J (Zh (n:=3) (Zc0 _) J J J K1 call30 Zd J hw) fun v _=>r1' J (Zh (n:=4) (Zc0 _) J J J K1 call30 Zd J hw) fun v_2 _=>r0' J J (st0 (Oc (ivs:=[(0,_),(1,_)]) J K4 (fun a w hs=>b50_01)))<|r3' J (Zm (i:=2) J J J J J (by decide) J Nf J J ⟨Zb J,Zk (i:=3) J Zi,Zb J,Zk (i:=4) J Zi,trivial⟩ J hw trivial) fun _ _=>Oh<|Za<|Zw<|Zy (.inl J) hsc (_,_) _ (fun a w hs=>Xy hs results23 (Ys (i:=2) J J Zbx Nf J)) J trivial J (Xb 3 J J J (Xb 4 J J J Zj))
theorem Zdn(v w:Value)(x y:Int)(hx:bl x.natAbs≤400000000:=by omega)(hy:bl y.natAbs≤400000000:=by omega)(hy0:y≠0:=by omega):Cal prog 29 #[.agg #[.bool (decide (x<0)),v],.agg #[.bool (decide (y<0)),w]] [d9p v x.natAbs,d9p w y.natAbs] true (G:=Value×Value) (fun r=>True) (fun r=> .agg #[.bool (decide (x/Mc x y<0)),r.1,.bool (decide (y/Mc x y<0)),r.2]) (fun r=>[d9p r.1 (x/Mc x y).natAbs,d9p r.2 (y/Mc x y).natAbs]):=by
 refine Yd func29 J ntmps29 J K2 ?_
 intro w0 sc hw hsc
 simp only [Zq,Zp]
 have hgb:=bl_igcd x y
 have hg0:Mc x y≠0:=Ztf hy0
 have hgl:bl (Mc x y).natAbs≤400000000:=by rw [Bn];have:=Zk8 x.natAbs y.natAbs;omega
 refine Ze<|Zg<|tt (Yz (i:=3) J J J J J hw) fun b _=>tt (Yz (i:=4) J J J J J hw) fun b_2 _=>tt (Zr (i:=5) J J zeroValue50 J J hw) fun b_3 _=>Zf<|Za<|Ze<|Zg<|dt (Ya (i:=3) J J J Mg Qd J J)<|dt (Ya (i:=4) J J J Mg Qd J J)<|tt (Zh (n:=6) (r_gcd _ _ _ _ (by omega)) J J J K2 call71 (Zc 1 J J J (Zc 2 J J J Zd)) J hw) fun v _=>tt (Zr (i:=97) J J zeroValue48 J J hw) fun b_4 _=>tt (Zm (i:=97) J J J J J (by decide) J Qd J J ⟨Zb J,Zk (i:=6) J Zi,trivial⟩ J hw trivial) fun _ _=>Zf<|Za<|Da [(2,_),(3,_),(4,_),(5,_)] [(0,_),(1,_),(2,_),(3,_),(4,_),(5,_),(6,_)] (fun(vg:Value)=>[]) (fun(vg:Value)=>[(70,d9p vg (Mc x y).natAbs),(97,box b_4 48 #[.bool (decide (Mc x y<0)),vg])]) (fun(vg:Value)=>True) K4 K7 ?_ ?_
 ·refine Ze<|Zg<|dt (Ya (i:=4) J J J Mg Qd J J)<|tt (Zh (n:=6) (Ce _ _) J J J K1 call72 (Zc 2 J J J Zd) J hw) fun _ _=>dt (Xv J J J)<|Zf<|Za<|Zs J (fun h341=>?_) (fun h341=>?_)
  ·have hl:Mc x y=-(Int.gcd x y:Int):=lgcd_lt ((Qg _).1 h341)
   exact Zg<|dt (Ya (i:=97) J J J Mg Qd J J)<|tt (Zh (n:=7) (Zp5 _ _ (by omega)) J J J K1 call73 (Zc 6 J J J Zd) J hw) fun v_2 _=>tt (Zm (i:=97) J J J J J (by decide) J Qd J J ⟨Zb J,Zk (i:=7) J Zi,trivial⟩ J hw trivial) fun _ _=>Zf<|Qy (Od 7 70 J J J)<|Ql v_2 trivial K4 ⟨by rw [hl];rfl,by rw [hl];rfl,rfl,rfl,rfl,rfl,rfl,rfl,rfl,trivial⟩
  ·have hl:Mc x y=(Int.gcd x y:Int):=Ztg (fun h=>h341 ((Qg _).2 h))
   exact Zl<|Qy (Od 6 70 J J J)<|Ql v trivial K4 ⟨by rw [hl];rfl,by rw [hl];rfl,rfl,rfl,rfl,rfl,rfl,rfl,rfl,trivial⟩
 ·rintro vg -
  simp only [CA,NA]
  refine Ze<|Zg<|dt (Ya (i:=3) J J J Mg Qd J J)<|dt (Ya (i:=97) J J J Mg Qd J J)<|tt (Zh (n:=8) (Gr _ _ x (Mc x y) (by omega) hg0) J J J K2 Zfn (Zc 1 J J J (Zc 70 J J J Zd)) J hw) fun g _=>mv J<|dt (Yl J J J)<|dt (Yl J J J)<|tt (Zr (i:=10) J J zeroValue48 J J hw) fun b_5 _=>tt (Zr (i:=11) J J zeroValue48 J J hw) fun b_6 _=>tt (Zm (i:=10) J J J J J (by decide) J Qd J J ⟨Zb J,Zk (i:=8) J Zi,trivial⟩ J hw trivial) fun _ _=>tt (Zm (i:=11) J J J J J (by decide) J Qd J J ⟨Zb J,Zk (i:=9) J Zi,trivial⟩ J hw trivial) fun _ _=>Zf<|Za<|Ze<|Zg<|dt (Ya (i:=4) J J J Mg Qd J J)<|dt (Ya (i:=97) J J J Mg Qd J J)<|tt (Zh (n:=12) (Gr _ _ y (Mc x y) (by omega) hg0) J J J K2 Zfn (Zc 2 J J J (Zc 70 J J J Zd)) J hw) fun g_2 _=>mv J<|dt (Yl J J J)<|dt (Yl J J J)<|tt (Zr (i:=14) J J zeroValue48 J J hw) fun b_7 _=>tt (Zr (i:=15) J J zeroValue48 J J hw) fun b_8 _=>tt (Zm (i:=14) J J J J J (by decide) J Qd J J ⟨Zb J,Zk (i:=12) J Zi,trivial⟩ J hw trivial) fun _ _=>tt (Zm (i:=15) J J J J J (by decide) J Qd J J ⟨Zb J,Zk (i:=13) J Zi,trivial⟩ J hw trivial) fun _ _=>Zf<|Za<|Ze ?_
  exact Zg<|dt (Ya (i:=10) J J J Mg Qd J J)<|dt (Ya (i:=14) J J J Mg Qd J J)<|dt (Oc (ivs:=[(0,_),(1,_)]) J K4 (fun a w hs=>b50_01))<|tt (Zm (i:=5) J J J J J (by decide) J Nf J J ⟨Zb J,Zk (i:=8) J Zi,Zb J,Zk (i:=12) J Zi,trivial⟩ J hw trivial) fun _ _=>Zf<|Za<|Zw<|Zy (.inl J) hsc (_,_) _ (fun a w hs=>Xy hs results29 (Ys (i:=5) J J Zbx Nf J)) J trivial J (Xb 8 J J J (Xb 12 J J J Zj))
theorem Em(v w:Value)(x y:Int)(hx:bl x.natAbs≤4000000000)(hy:bl y.natAbs≤4000000000):Mb prog 28 #[.agg #[.bool (decide (x<0)),v,.bool (decide (y<0)),w]] [d9p v x.natAbs,d9p w y.natAbs] (.tuple #[.agg #[.bool (decide (qn x y<0)),.string (Xd (qn x y).natAbs),.bool (decide (qd x y<0)),.string (Xd (qd x y).natAbs)],.int .i64 (qe x y)]):=by
 refine Yd func28 J ntmps28 J K2 ?_
 intro w0 sc hw hsc
 simp only [Zq,Zp]
 refine Ze<|Zg<|tt (Yz (i:=3) J J J J J hw) fun b _=>tt (Zr (i:=4) J J zeroValue41 J J hw) fun b_2 _=>as_ J<|Zf<|Za<|Ze<|Ze<|Zg<|dt (Xu J J Zvn J Qd J J)<|dt (Ya (i:=3) J J J Mg Qd J J)<|tt (Zh (n:=4) (r_big _ _) J J J K1 call70 (Zc 1 J J J Zd) J hw) fun _ _=>mv J<|Pa (d:=7) J (fun s351=>?_) (fun s351=>?_)
 ·exact gsk J J J<|gsk J J J<|gsk J J J<|dt (Yu J J J)<|Zf<|Za<|Pu J<|Ze<|Zg<|dt (Oc (ivs:=[]) J trivial (fun a w hs=>Zqs))<|tt (Zm (i:=4) J J J J J (by decide) J Xg J J ⟨Zb J,Zb J,Zb J,Zb J,trivial⟩ J hw trivial) fun _ _=>as_ J<|Zf<|Za<|Zw<|Xa<|Zy (.inl J) hsc () _ (fun a w hs=>Nr hs results28 (Ys (i:=4) J J Qi Xg J) J) (by have hf:Zcc x y:=(by unfold Zcc;omega);unfold qn qd qe;rw [if_pos hf,if_pos hf,if_pos hf]<;>rfl) trivial J Zj
 ·refine gdt (Xu J J Zvn J Qd J J) J J<|gdt (Ya (i:=3) J J J Mg Qd J J) J J<|gtt (Zh (n:=4) (r_big _ _) J J J K1 call70 (Zc 2 J J J Zd) J hw) J J J fun _ _=>dt (Yg J J J)<|Zf<|Za<|Zs J (fun h351=>?_) (fun h351=>?_)
  ·exact Ze<|Zg<|dt (Oc (ivs:=[]) J trivial (fun a w hs=>Zqs))<|tt (Zm (i:=4) J J J J J (by decide) J Xg J J ⟨Zb J,Zb J,Zb J,Zb J,trivial⟩ J hw trivial) fun _ _=>as_ J<|Zf<|Za<|Zw<|Xa<|Zy (.inl J) hsc () _ (fun a w hs=>Nr hs results28 (Ys (i:=4) J J Qi Xg J) J) (by have hf:Zcc x y:=(by unfold Zcc;omega);unfold qn qd qe;rw [if_pos hf,if_pos hf,if_pos hf]<;>rfl) trivial J Zj
  ·refine Zl<|Za<|Ze<|Qo (fun _=>False) [(0,0),(1,0),(3,0),(4,0),(2,1),(5,1),(6,0),(7,3),(8,3)] ?_ ?_
   ·kernel_rfl
   exact r0' J J (st0 (Xu J J Zvn J Qd J J))<|r0' J J (st0 (Ya (i:=3) J J J Mg Qd J J))<|r0' J J (st0 (Xu J J Zvn J Qd J J))<|r0' J J (st0 (Ya (i:=3) J J J Mg Qd J J))<|r1' J (Zh (n:=4) (r_to _ _) J J J K1 call53 (Zc 1 J J J Zd) J hw) fun _ _=>r1' J (Zh (n:=4) (r_to _ _) J J J K1 call53 (Zc 2 J J J Zd) J hw) fun _ _=>r0' J J (st0 (Oc (ivs:=[(0,_),(1,_)]) J K4 (fun a w hs=>Zc7)))<|r3' J (Zm (i:=4) J J J J J (by decide) J Xg J J ⟨Zb J,Zb J,Zb J,Zb J,trivial⟩ J hw trivial) fun _ _=>r3' J (Pt (Oy J J) J) fun _ _=>Oh<|Za<|Zw<|Zy (.inl J) hsc () _ (fun a w hs=>Nr hs results28 (Ys (i:=4) J J Qi Xg J) J) (by have hf:¬Zcc x y:=(by unfold Zcc;omega);unfold qn qd qe;rw [if_neg hf,if_neg hf,if_neg hf]<;>rfl) trivial J Zj
theorem Bi(v w v2 w2:Value)(x y x2 y2:Int)(h0:bl x.natAbs≤100000000:=by omega)(h1:bl y.natAbs≤100000000:=by omega)(h2:bl x2.natAbs≤100000000:=by omega)(h3:bl y2.natAbs≤100000000:=by omega):Mb prog 27 #[.agg #[.bool (decide (x<0)),v,.bool (decide (y<0)),w],.agg #[.bool (decide (x2<0)),v2,.bool (decide (y2<0)),w2]] [d9p v x.natAbs,d9p w y.natAbs,d9p v2 x2.natAbs,d9p w2 y2.natAbs] (.int .i64 (x*y2-x2*y).sign):=by
 refine Yd func27 J ntmps27 J K4 ?_
 intro w0 sc hw hsc
 simp only [Zq,Zp]
 have b1:=Xw x y2
 have b2:=Xw x2 y
 have b3:=Xw y y2
 have b4:=Xw x x2
 have b5:=Km (x*y2) (x2*y)
 refine Ze<|Zg<|tt (Yz (i:=5) J J J J J hw) fun b _=>tt (Yz (i:=6) J J J J J hw) fun b_2 _=>as_ J<|Zf<|Za<|Ze<|Qo (fun _=>False) [(0,0),(1,0),(2,0),(3,0),(5,0),(6,0),(7,0),(8,0),(4,1),(9,1),(10,1),(11,3)] ?_ ?_
 ·kernel_rfl
 exact r0' J J (st0 (Xu J J Zvn J Qd J J))<|r0' J J (st0 (Ya (i:=5) J J J Mg Qd J J))<|r0' J J (st0 (Xu J J Zvn J Qd J J))<|r0' J J (st0 (Ya (i:=6) J J J Mg Qd J J))<|r0' J J (st0 (Xu J J Zvn J Qd J J))<|r0' J J (st0 (Ya (i:=6) J J J Mg Qd J J))<|r0' J J (st0 (Xu J J Zvn J Qd J J))<|r0' J J (st0 (Ya (i:=5) J J J Mg Qd J J))<|r1' J (Zh (n:=7) (Bx _ _ _ _) J J J K2 Zld (Zc 1 J J J (Zc 4 J J J Zd)) J hw) fun v _=>r1' J (Zh (n:=8) (Bx _ _ _ _) J J J K2 Zld (Zc 3 J J J (Zc 2 J J J Zd)) J hw) fun v_2 _=>r1' J (Zh (n:=8) (Zr8 _ _ _ _ (by omega) (by omega)) J J J K2 call68 (Zc 7 J J J (Zc 8 J J J Zd)) J hw) fun _ _=>r3' J (Pt (Oy J J) J) fun _ _=>Oh<|Za<|Zw<|Zy (.inl J) hsc () _ (fun a w hs=>Xy hs results27 J) J trivial J Zj
end Go.Sky

