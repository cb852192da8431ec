/- rules, arithmetic and contracts: part 9
   Proved without conditions of its own: each theorem bears its own. -/
import Derived.Test.YtcmiiammekgooaaGreatSl03
import Derived.Test.YtcmiiammekgooaaGreatSl02
import Derived.Test.YtcmiiammekgooaaGreatSl01
import Derived.Test.YtcmiiammekgooaaGreatSl07
set_option linter.all false
namespace Go.Sky
open Go.Proofs.Tryz
open Go.Proofs
set_option maxRecDepth 20000
set_option maxHeartbeats 4000000
set_option linter.unusedSimpArgs false
theorem Zro(b:Bool)(s:ByteArray):Ml prog 35 #[.agg #[.bool b,.string s]] [] (.bool (okW b s)):=by
 refine Ya func35 J ntmps35 J trivial ?_
 intro w0 sc hw hsc
 simp only [Zp,Zn]
 refine Zc<|Zg<|tt (Xe (i:=1) J J J J J hw) fun b _=>as_ J<|Zf<|Za<|Zc<|Zc<|Zg<|dt (Xx J J Zcw J zT9 J J)<|dt (Ok (i:=1) J J J iA9 J)<|dt (Cp J J uT9)<|dt (Pm J J J)<|Zf<|Za<|Zq J (fun h25=>?_) (fun h25=>?_)
 ·exact Zc<|Zg<|dt (Xx J J Zcw J zT4 J J)<|dt (Ok (i:=1) J J J iA4 J)<|dt (Xp J J)<|as_ J<|Zf<|Za<|Zv<|Xc<|xU hsc results35 J J (by unfold okW;rw [if_pos (by omega)])
 ·refine Zj<|Za<|Zc<|Zg<|dt (Xx J J Zcw J zT9 J J)<|dt (Ok (i:=1) J J J iA9 J)<|dt (Cp J J uT9)<|dt (Co J J J)<|mv J<|Qu (d:=14) J (fun s28=>?_) (fun s28=>?_)
  ·exact gdt (Xx J J Zcw J zT9 J J) J J<|gdt (Ok (i:=1) J J J iA9 J) J J<|gdt (Zp2 (i:=0) J J J uT9 J) J J<|gdt (Qb J J J) J J<|dt (Xh J J J)<|as_ J<|Zf<|Za<|Zv<|xU hsc results35 J J (by unfold okW;rw [if_neg (by omega)];simp_all<;>omega)
  ·exact gsk J J J<|gsk J J J<|gsk J J J<|gsk J J J<|dt (Yh J J J)<|as_ J<|Zf<|Za<|Zv<|xU hsc results35 J J (by unfold okW;rw [if_neg (by omega)];simp_all<;>omega)
theorem r_trim(v:Value)(xs:List Nat):Cal prog 77 #[v] [slp 1 Ds v xs] true (G:=Unit) (fun _=>True) (fun _=>Fs v (tz xs).length) (fun _=>[slp 1 Ds (Fs v (tz xs).length) (tz xs)]):=by
 refine Ya func77 J ntmps77 J K1 ?_
 intro w0 sc hw hsc
 simp only [Zp,Zn]
 refine Mc (Zti (i:=1) J Zi) fun hself=>Mc (Gj (i:=1) J Zi) fun hlen=>Zc<|Zg<|as_ J<|Zf<|Za<|Zc<|Zl<|Nt [] [(0,_)] (fun(k:Nat)=>[(0,Fs v k)]) (fun(k:Nat)=>[(1,slp 1 Ds (Fs v k) (xs.take k))]) (fun(k:Nat)=>(k≤xs.length)∧(tz (xs.take k)=tz xs)) (fun(k:Nat)=>k) xs.length ⟨Nat.le_refl _,by rw [List.take_length]⟩ ⟨by rw [hself];rfl,trivial⟩ ⟨by rw [hself,List.take_length];rfl,rfl,trivial⟩ ?_
 rintro k ⟨hk,ht⟩
 simp only [CA,NA]
 have hl:(xs.take k).length=k:=by rw [List.length_take];omega
 refine Zc<|Zc<|Zg<|mv J<|dt (Yb J J (i:=1) J Zi Ny)<|dt (Oq J J J)<|mv J<|Qu (d:=6) J (fun s33=>?_) (fun s33=>?_)
 ·refine gdt (Ym J J) J J<|gdt (Ym J J) J J<|gdt (Yb J J (i:=1) J Zi Ny) J J<|gdt (Qa J J J ⟨by omega,by omega⟩) J J<|gdt (Yw (ii:=1) (i:=k-1) J J J J Zi Ny zT3) J J<|gdt (Xm (ii:=1) 0 J J J Zi pN) J J<|gdt (Pm J J J) J J<|dt (Xh J J J)<|Zf<|Za<|Zq J (fun h33=>?_) (fun h33=>?_)
  ·have hstep:=Zqq hk (by omega) (by omega:(xs.take k).getD (k-1) 0=0)
   exact Zj<|Za<|Zl<|Zg<|mv J<|mv J<|dt (Yb J J (i:=1) J Zi Ny)<|dt (Qa J J J ⟨by omega,by omega⟩)<|dt (Zx3 (ii:=1) (i:=k-1) J J J J Zi Ny zT3)<|as_ J<|Zf<|Oa<|Qv (s_pre 1 1 (k-1) J J)<|Xk (k-1) ⟨by first | omega | (dsimp only<;>omega),by rw [←ht,←hstep]⟩ (by first | omega | (dsimp only<;>omega)) ⟨by rw [←Hi v k (k-1)];rfl,trivial⟩ ⟨by rw [Hi,List.take_take,Nat.min_eq_left (by omega)];rfl,rfl,trivial⟩
  ·refine Yu<|Zu<|Zu<|Ox<|Za<|Zc<|Zg<|mv J<|as_ J<|Zf<|Za<|Zv ?_
   have hx:tz xs=xs.take k:=by rw [←ht];exact Zd1 hk (by omega)
   exact Yn (.inl J) hsc () _ (fun a w hs=>Nn hs results77 J) (by rw [hx,hl]) trivial J (Yk 1 J J J (by rw [hx,hl]) Zk)
 ·refine gsk J J J<|gsk J J J<|gsk J J J<|gsk J J J<|gsk J J J<|gsk J J J<|gsk J J J<|dt (Yh J J J)<|Zf<|Za<|Ye J<|Yu<|Zu<|Zu<|Ox<|Za<|Zc<|Zg<|mv J<|as_ J<|Zf<|Za<|Zv ?_
  have hx:tz xs=xs.take k:=by rw [←ht];exact Zd1 hk (by omega)
  exact Yn (.inl J) hsc () _ (fun a w hs=>Nn hs results77 J) (by rw [hx,hl]) trivial J (Yk 1 J J J (by rw [hx,hl]) Zk)
theorem Lz(v:Value)(xs:List Nat):Cal prog 77 #[v] [slp 1 Ds v xs] false (G:=Unit) (fun _=>True) (fun _=>Fs v (tz xs).length) (fun _=>[]):=(r_trim v xs).bare
theorem Zld(v w:Value)(x y:Nat)(hx:bl x≤4294967296:=by omega)(hy:bl y≤4294967296:=by omega):Ml prog 90 #[v,w] [d9p v x,d9p w y] (.int .i64 (Zqb x y)):=by
 refine Ya func90 J ntmps90 J K2 ?_
 intro w0 sc hw hsc
 simp only [Zp,Zn]
 have hX:=Ko x
 have hY:=Ko y
 refine Zc<|Zg<|as_ J<|Zf<|Za<|Zc<|Zc<|Zg<|mv J<|dt (Yb J J (i:=1) J Zi Ny)<|mv J<|dt (Yb J J (i:=2) J Zi Ny)<|dt (Qb J J J)<|Zf<|Za<|Zq J (fun h41=>?_) (fun h41=>?_)
 ·refine Zc<|Zc<|Zg<|mv J<|dt (Yb J J (i:=1) J Zi Ny)<|mv J<|dt (Yb J J (i:=2) J Zi Ny)<|dt (Xu J J J)<|Zf<|Za<|Zq J (fun h42=>?_) (fun h42=>?_)
  ·have hlt:x<y:=Cn Nd (by omega)
   exact Zc<|Zg<|as_ J<|Zf<|Za<|Zv<|Xc<|Xc<|xU hsc results90 J J (by unfold Zqb;rw [if_pos hlt])
  ·have hlt:y<x:=Cn Nd (by omega)
   exact Zj<|Za<|Zc<|Zg<|as_ J<|Zf<|Za<|Zv<|Xc<|xU hsc results90 J J (by unfold Zqb;rw [if_neg (by omega),if_pos hlt])
 ·have hlen:(dg 1000000000 x).length=(dg 1000000000 y).length:=by omega
  refine Zj<|Za<|Zc<|Zc<|Zg<|mv J<|dt (Yb J J (i:=1) J Zi Ny)<|dt (Qa J J J ⟨by omega,by omega⟩)<|as_ J<|Zf<|Za<|Zl<|Nt [(0,_),(1,_)] [(0,_),(1,_),(2,_)] (fun(k:Nat)=>[(5,.int .i64 ((k:Int)-1))]) (fun(k:Nat)=>[]) (fun(k:Nat)=>(k≤(dg 1000000000 x).length)∧((dg 1000000000 x).drop k=(dg 1000000000 y).drop k)) (fun(k:Nat)=>k) (dg 1000000000 x).length ⟨by first | omega | (dsimp only<;>omega),by rw [List.drop_length,hlen,List.drop_length]⟩ K3 K3 ?_
  rintro k ⟨hk,hd⟩
  simp only [CA,NA]
  refine Zc<|Zc<|Zg<|mv J<|dt (Lx J J J)<|Zf<|Za<|Zq J (fun h47=>?_) (fun h47=>?_)
  ·refine Zj<|Za<|Zc<|Zl<|Zc<|Zc<|Ql (fun _=>False) [(0,0),(1,0),(2,0),(3,0),(4,0),(5,0),(6,0),(7,0),(8,0)] ?_ ?_
   ·kernel_rfl
   refine r0' J J (st0 (Ym J J))<|r0' J J (st0 (Ym J J))<|r0' J J (st0 (Yw (ii:=1) (i:=k-1) J J J J Zi Ny zT3))<|r0' J J (st0 (Xm (ii:=1) 0 J J J Zi pN (by first | omega | (simp only [List.length_set];omega))))<|r0' J J (st0 (Ym J J))<|r0' J J (st0 (Ym J J))<|r0' J J (st0 (Yw (ii:=2) (i:=k-1) J J J J Zi Ny zT3))<|r0' J J (st0 (Xm (ii:=2) 0 J J J Zi pN (by first | omega | (simp only [List.length_set];omega))))<|r0' J J (st0 (Xu J J J))<|Og<|Za<|Zq J (fun h48=>?_) (fun h48=>?_)
   ·have hlt:=Zot Ho (xs:=(dg 1000000000 x)) (ys:=(dg 1000000000 y)) (Li Nd x) (k:=k-1) (by omega) (by omega) (by rw [show k-1+1=k by omega];exact hd) (by omega)
    rw [My Nd,My Nd]at hlt
    exact Zc<|Zg<|as_ J<|Zf<|Za<|Zv<|Xc<|Hf<|Xc<|Xc<|Hf<|Xc<|xU hsc results90 J J (by unfold Zqb;rw [if_pos hlt])
   ·refine Zj<|Za<|Zc<|Ql (fun _=>False) [(0,0),(1,0),(2,0),(3,0),(4,0),(5,0),(6,0),(7,0),(8,0)] ?_ ?_
    ·kernel_rfl
    refine r0' J J (st0 (Ym J J))<|r0' J J (st0 (Ym J J))<|r0' J J (st0 (Yw (ii:=1) (i:=k-1) J J J J Zi Ny zT3))<|r0' J J (st0 (Xm (ii:=1) 0 J J J Zi pN (by first | omega | (simp only [List.length_set];omega))))<|r0' J J (st0 (Ym J J))<|r0' J J (st0 (Ym J J))<|r0' J J (st0 (Yw (ii:=2) (i:=k-1) J J J J Zi Ny zT3))<|r0' J J (st0 (Xm (ii:=2) 0 J J J Zi pN (by first | omega | (simp only [List.length_set];omega))))<|r0' J J (st0 (Oq J J J))<|Og<|Za<|Zq J (fun h51=>?_) (fun h51=>?_)
    ·have hlt:=Zot Ho (xs:=(dg 1000000000 y)) (ys:=(dg 1000000000 x)) (Li Nd y) (k:=k-1) (by omega) (by omega) (by rw [show k-1+1=k by omega];exact hd.symm) (by omega)
     rw [My Nd,My Nd]at hlt
     exact Zc<|Zg<|as_ J<|Zf<|Za<|Zv<|Hf<|Xc<|Xc<|Hf<|Xc<|xU hsc results90 J J (by unfold Zqb;rw [if_neg (by omega),if_pos hlt])
    ·exact Zj<|Oa<|Za<|Zg<|mv J<|dt (Qa J J J ⟨by omega,by omega⟩)<|as_ J<|Zf<|Xk (k-1) ⟨by first | omega | (dsimp only<;>omega),by have:=Zcs (xs:=(dg 1000000000 x)) (ys:=(dg 1000000000 y)) (k:=k-1) (by omega) (by omega) (by rw [show k-1+1=k by omega];exact hd) (by omega);exact this⟩ (by first | omega | (dsimp only<;>omega)) ⟨by rw [show(((k-1:Nat):Int)-1)=(k:Int)-1-1 by omega];rfl,rfl,rfl,trivial⟩ K3
  ·refine Yu<|Zu<|Zu<|Ox<|Za<|Zc<|Zg<|as_ J<|Zf<|Za<|Zv ?_
   obtain rfl:k=0:=by omega
   have heq:x=y:=(Ze5 Nd).1 (by simpa using hd)
   exact xU hsc results90 J J (by unfold Zqb;rw [if_neg (by omega),if_neg (by omega)])
theorem Zrq(v w:Value)(x y:Nat)(hx:bl x≤4294967296)(hy:bl y≤4294967296):Cal prog 75 #[v,w] [d9p v x,d9p w y] false (G:=Value) (fun r=>True) (fun r=>r) (fun r=>[d9p r (x+y)]):=by
 refine Ya func75 J ntmps75 J K2 ?_
 intro w0 sc hw hsc
 simp only [Zp,Zn]
 have hX:=Ko x
 have hY:=Ko y
 refine Zc<|Zg<|as_ J<|Zf<|Za<|Zc<|Zg<|as_ J<|Zf<|Za<|Zc<|Zg<|as_ J<|Zf<|Za<|Zc<|Zc<|Zg<|as_ J<|Zf<|Za<|Zl<|Yl (Nj 70 1 3 Ds)<|Nt [(0,_),(1,_)] [(0,_),(1,_),(2,_)] (fun(q:Nat×List Nat×Nat×Value)=>[(7,.int .i64 (q.1:Int)),(6,.int .i64 (q.2.2.1:Int)),(5,q.2.2.2)]) (fun(q:Nat×List Nat×Nat×Value)=>[(70,osl 1 3 Ds q.2.2.2 q.2.1)]) (fun(q:Nat×List Nat×Nat×Value)=>(q.1≤max (dg 1000000000 x).length (dg 1000000000 y).length+1∧(q.1=max (dg 1000000000 x).length (dg 1000000000 y).length+1→q.2.2.1=0))∧(q.2.1.length=q.1)∧(∀d∈q.2.1,d<1000000000)∧(q.2.2.1≤1)∧(val 1000000000 q.2.1+q.2.2.1*1000000000^q.1=val 1000000000 ((dg 1000000000 x).take q.1)+val 1000000000 ((dg 1000000000 y).take q.1))∧(q.1=0∨1000000000^(q.1-1)≤x+y)) (fun(q:Nat×List Nat×Nat×Value)=>max (dg 1000000000 x).length (dg 1000000000 y).length+1-q.1) (0,[],0,.slice none 0 0) ⟨⟨by omega,by omega⟩,J,by simp,by first | omega | (dsimp only<;>omega),by simp [val],.inl rfl⟩ K5 K4 ?_
 rintro⟨i,o,c,vo⟩ ⟨hi,hol,hoa,hc,hv,hge⟩
 dsimp only at hi hol hoa hc hv hge
 simp only [CA,NA]
 refine Zc<|Dj [(0,_),(1,_),(5,_),(6,_),(7,_)] [(0,_),(70,_),(1,_),(2,_)] (fun(_:Unit)=>[(21,.bool (decide (i<(dg 1000000000 x).length∨i<(dg 1000000000 y).length∨0<c)))]) (fun(_:Unit)=>[]) (fun(_:Unit)=>True) K5 K4 ?_ ?_
 ·refine Zg<|mv J<|mv J<|dt (Yb J J (i:=1) J Zi Ny)<|dt (Xu J J J)<|mv J<|Qu (d:=12) J (fun s62=>?_) (fun s62=>?_)
  ·exact gsk J J J<|gsk J J J<|gsk J J J<|gsk J J J<|dt (Xh J J J)<|mv J<|gsk J J J<|gsk J J J<|dt (Xh J J J)<|Zf<|Qy () trivial ⟨by first | exact congrArg some (congrArg Value.bool (decide_eq_decide.2 (by omega))) | exact congrArg some (congrArg Value.bool (decide_eq_true (by omega)).symm),rfl,rfl,rfl,rfl,rfl,trivial⟩ K4
  ·refine gdt (Ym J J) J J<|gdt (Ym J J) J J<|gdt (Yb J J (i:=2) J Zi Ny) J J<|gdt (Xu J J J) J J<|dt (Yh J J J)<|mv J<|Qu (d:=18) J (fun s62_2=>?_) (fun s62_2=>?_)
   ·exact gsk J J J<|gsk J J J<|dt (Xh J J J)<|Zf<|Qy () trivial ⟨by first | exact congrArg some (congrArg Value.bool (decide_eq_decide.2 (by omega))) | exact congrArg some (congrArg Value.bool (decide_eq_true (by omega)).symm),rfl,rfl,rfl,rfl,rfl,trivial⟩ K4
   ·exact gdt (Ym J J) J J<|gdt (Oq J J J) J J<|dt (Yh J J J)<|Zf<|Qy () trivial ⟨by first | exact congrArg some (congrArg Value.bool (decide_eq_decide.2 (by omega))) | exact congrArg some (congrArg Value.bool (decide_eq_true (by omega)).symm),rfl,rfl,rfl,rfl,rfl,trivial⟩ K4
 ·rintro _ -
  simp only [CA,NA]
  refine Zq J (fun h62=>?_) (fun h62=>?_)
  ·have hgn:1000000000^i≤x+y:=by
    rcases h62 with h1 | h1 | h1
    ·have:=Ce Nd h1;omega
    ·have:=Ce Nd h1;omega
    ·by_cases h2:i<(dg 1000000000 x).length
     ·have:=Ce Nd h2;omega
     ·by_cases h3:i<(dg 1000000000 y).length
      ·have:=Ce Nd h3;omega
      ·rw [Iq Nd (by omega),Iq Nd (by omega)]at hv
       have:1000000000^i≤c*1000000000^i:=Nat.le_mul_of_pos_left _ h1
       omega
   refine Zj<|Za<|Zc<|Zl<|Dj [(0,_),(1,_),(5,_),(7,_)] [(0,_),(70,_),(1,_),(2,_)] (fun(_:Unit)=>[(6,.int .i64 ((c+(dg 1000000000 x).getD i 0:Nat):Int))]) (fun(_:Unit)=>[]) (fun(_:Unit)=>True) K4 K4 ?_ ?_
   ·refine Zc<|Zg<|mv J<|mv J<|dt (Yb J J (i:=1) J Zi Ny)<|dt (Xu J J J)<|Zf<|Za<|Zq J (fun h63=>?_) (fun h63=>?_)
    ·refine Zg<|mv J<|mv J<|mv J<|dt (Yw (ii:=1) J J J J Zi Ny zT3 J (by first | omega | (simp only [List.length_set];omega)))<|dt (Xm (ii:=1) 0 J J J Zi pN (by first | omega | (simp only [List.length_set];omega)))<|dt (Zh5 J J J (by have h1:=(Qm Ho (Li Nd x) i);omega))<|as_ J<|Zf ?_
     try (have hz:(dg 1000000000 x).getD i 0=0:=by simp [List.getD,List.getElem?_eq_none (by omega:(dg 1000000000 x).length≤i)])
     exact Qy () trivial ⟨by first | rfl | (rw [hz];rfl),rfl,rfl,rfl,rfl,trivial⟩ K4
    ·refine Zj ?_
     try (have hz:(dg 1000000000 x).getD i 0=0:=by simp [List.getD,List.getElem?_eq_none (by omega:(dg 1000000000 x).length≤i)])
     exact Qy () trivial ⟨by first | rfl | (rw [hz];rfl),rfl,rfl,rfl,rfl,trivial⟩ K4
   ·rintro _ -
    simp only [CA,NA]
    refine Dj [(0,_),(1,_),(5,_),(7,_)] [(0,_),(70,_),(1,_),(2,_)] (fun(_:Unit)=>[(6,.int .i64 ((c+(dg 1000000000 x).getD i 0+(dg 1000000000 y).getD i 0:Nat):Int))]) (fun(_:Unit)=>[]) (fun(_:Unit)=>True) K4 K4 ?_ ?_
    ·refine Zc<|Zg<|mv J<|mv J<|dt (Yb J J (i:=2) J Zi Ny)<|dt (Xu J J J)<|Zf<|Za<|Zq J (fun h66=>?_) (fun h66=>?_)
     ·refine Zg<|mv J<|mv J<|mv J<|dt (Yw (ii:=2) J J J J Zi Ny zT3 J (by first | omega | (simp only [List.length_set];omega)))<|dt (Xm (ii:=2) 0 J J J Zi pN (by first | omega | (simp only [List.length_set];omega)))<|dt (Zh5 J J J (by have h1:=(Qm Ho (Li Nd x) i);have h2:=(Qm Ho (Li Nd y) i);omega))<|as_ J<|Zf ?_
      try (have hz:(dg 1000000000 y).getD i 0=0:=by simp [List.getD,List.getElem?_eq_none (by omega:(dg 1000000000 y).length≤i)])
      exact Qy () trivial ⟨by first | rfl | (rw [hz];rfl),rfl,rfl,rfl,rfl,trivial⟩ K4
     ·refine Zj ?_
      try (have hz:(dg 1000000000 y).getD i 0=0:=by simp [List.getD,List.getElem?_eq_none (by omega:(dg 1000000000 y).length≤i)])
      exact Qy () trivial ⟨by first | rfl | (rw [hz];rfl),rfl,rfl,rfl,rfl,trivial⟩ K4
    ·rintro _ -
     simp only [CA,NA]
     exact Zc<|Zg<|mv J<|mv J<|dt (Zso (n:=1000000000) J J J (by omega))<|tt (Pn (i:=3) (ivs:=[(0,_)]) (enc:=Ds) [(c+(dg 1000000000 x).getD i 0+(dg 1000000000 y).getD i 0)%1000000000] J J K2 Ny ti3 J J J J J pN.cells J J hw) fun v _=>tt (Im (i:=70) (j:=3) (by_:=8) J J J J J J (by decide) J (Yq pN) Ny ti3 J pN J J J (by simp;omega) (by decide) J hw) fun v_2 _=>as_ J<|Zf<|Za<|Zg<|mv J<|dt (Zlt (n:=1000000000) J J J (by have h1:=(Qm Ho (Li Nd x) i);have h2:=(Qm Ho (Li Nd y) i);omega) (by omega))<|as_ J<|Zf<|Oa<|Za<|Zg<|mv J<|dt (Ys J J J ⟨by omega,by omega⟩)<|as_ J<|Zf<|Xk (i+1,o ++ [(c+(dg 1000000000 x).getD i 0+(dg 1000000000 y).getD i 0)%1000000000],(c+(dg 1000000000 x).getD i 0+(dg 1000000000 y).getD i 0)/1000000000,_) ⟨⟨by dsimp only;omega,fun h=>by dsimp only at h ⊢;rw [Zbd (by omega:(dg 1000000000 x).length≤i),Zbd (by omega:(dg 1000000000 y).length≤i)];omega⟩,by simp [hol],Ziu hoa (Nat.mod_lt _ Ho),by have h1:=(Qm Ho (Li Nd x) i);have h2:=(Qm Ho (Li Nd y) i);dsimp only;omega,Zr6 hol hv,.inr hgn⟩ (by first | omega | (dsimp only<;>omega)) K5 K4
  ·refine Yu<|Zu<|Zu<|Ox<|Za<|Zc<|Zg<|mv J<|as_ J<|Zf<|Za<|Zv ?_
   have hc0:c=0:=by omega
   have hv2:val 1000000000 o=x+y:=by
    rw [Iq Nd (by omega),Iq Nd (by omega),hc0,Nat.zero_mul,Nat.add_zero]at hv
    exact hv
   have hx:o=dg 1000000000 (x+y):=Zqr Nd hoa hv2 (by rw [hol];exact hge)
   exact Yn (.inl J) hsc _ _ (fun a w hs=>Nn hs results75 J) J trivial J (Py 70 J J pN (by rw [←hx]<;>rfl) Zk)
theorem Zle(v w:Value)(x y:Nat)(hxy:y≤x)(hx:bl x≤4294967296:=by omega):Cal prog 91 #[v,w] [d9p v x,d9p w y] false (G:=Value) (fun r=>True) (fun r=>r) (fun r=>[d9p r (x-y)]):=by
 refine Ya func91 J ntmps91 J K2 ?_
 intro w0 sc hw hsc
 simp only [Zp,Zn]
 have hX:=Ko x
 have hm:=Ow hxy
 have hY:=Ko y
 have hly:(dg 1000000000 y).length≤(dg 1000000000 x).length:=Zmb Nd hxy
 refine Zc<|Zg<|as_ J<|Zf<|Za<|Zc<|Zg<|as_ J<|Zf<|Za<|Zc<|Zg<|as_ J<|Zf<|Za<|Zc<|Zc<|Zg<|as_ J<|Zf<|Za<|Zl<|Yl (Nj 70 1 3 Ds)<|Nt [(0,_),(1,_)] [(0,_),(1,_),(2,_)] (fun(q:Nat×List Nat×Nat×Value)=>[(7,.int .i64 (q.1:Int)),(6,.int .i64 (q.2.2.1:Int)),(5,q.2.2.2)]) (fun(q:Nat×List Nat×Nat×Value)=>[(70,osl 1 3 Ds q.2.2.2 q.2.1)]) (fun(q:Nat×List Nat×Nat×Value)=>(q.1≤(dg 1000000000 x).length)∧(q.2.1.length=q.1)∧(∀d∈q.2.1,d<1000000000)∧(q.2.2.1≤1)∧(val 1000000000 q.2.1+val 1000000000 ((dg 1000000000 y).take q.1)=val 1000000000 ((dg 1000000000 x).take q.1)+q.2.2.1*1000000000^q.1)) (fun(q:Nat×List Nat×Nat×Value)=>(dg 1000000000 x).length-q.1) (0,[],0,.slice none 0 0) ⟨by first | omega | (dsimp only<;>omega),rfl,by simp,by first | omega | (dsimp only<;>omega),by simp [val]⟩ K5 K4 ?_
 rintro⟨i,o,c,vo⟩ ⟨hi,hol,hoa,hc,hv⟩
 dsimp only at hi hol hoa hc hv
 simp only [CA,NA]
 have hda:=(Qm Ho (Li Nd x) i)
 have hdb:=(Qm Ho (Li Nd y) i)
 refine Zc<|Zc<|Zg<|mv J<|mv J<|dt (Yb J J (i:=1) J Zi Ny)<|dt (Xu J J J)<|Zf<|Za<|Zq J (fun h79=>?_) (fun h79=>?_)
 ·refine Zj<|Za<|Zc<|Zl<|Zc<|Zg<|mv J<|mv J<|dt (Yw (ii:=1) J J J J Zi Ny zT3 J (by first | omega | (simp only [List.length_set];omega)))<|dt (Xm (ii:=1) 0 J J J Zi pN (by first | omega | (simp only [List.length_set];omega)))<|mv J<|dt (Qa J J J ⟨by omega,by omega⟩)<|as_ J<|Zf<|Za<|Dj [(0,_),(1,_),(5,_),(7,_)] [(0,_),(70,_),(1,_),(2,_)] (fun(_:Unit)=>[(8,.int .i64 (((dg 1000000000 x).getD i 0:Int)-(c:Int)-((dg 1000000000 y).getD i 0:Int)))]) (fun(_:Unit)=>[]) (fun(_:Unit)=>True) K4 K4 ?_ ?_
  ·refine Zc<|Zg<|mv J<|mv J<|dt (Yb J J (i:=2) J Zi Ny)<|dt (Xu J J J)<|Zf<|Za<|Zq J (fun h81=>?_) (fun h81=>?_)
   ·refine Zg<|mv J<|mv J<|mv J<|dt (Yw (ii:=2) J J J J Zi Ny zT3 J (by first | omega | (simp only [List.length_set];omega)))<|dt (Xm (ii:=2) 0 J J J Zi pN (by first | omega | (simp only [List.length_set];omega)))<|dt (Qa J J J ⟨by omega,by omega⟩)<|as_ J<|Zf ?_
    try (have hz:(dg 1000000000 y).getD i 0=0:=by simp [List.getD,List.getElem?_eq_none (by omega:(dg 1000000000 y).length≤i)])
    exact Qy () trivial ⟨by first | rfl | (rw [hz];exact congrArg some (Dr (by omega))),rfl,rfl,rfl,rfl,trivial⟩ K4
   ·refine Zj ?_
    try (have hz:(dg 1000000000 y).getD i 0=0:=by simp [List.getD,List.getElem?_eq_none (by omega:(dg 1000000000 y).length≤i)])
    exact Qy () trivial ⟨by first | rfl | (rw [hz];exact congrArg some (Dr (by omega))),rfl,rfl,rfl,rfl,trivial⟩ K4
  ·rintro _ -
   simp only [CA,NA]
   refine Zc<|Zg<|as_ J<|Zf<|Za<|Dj [(0,_),(1,_),(5,_),(7,_)] [(0,_),(70,_),(1,_),(2,_)] (fun(_:Unit)=>[(8,.int .i64 ((d9s ((dg 1000000000 x).getD i 0) ((dg 1000000000 y).getD i 0) c:Nat):Int)),(6,.int .i64 ((brw ((dg 1000000000 x).getD i 0) ((dg 1000000000 y).getD i 0) c:Nat):Int))]) (fun(_:Unit)=>[]) (fun(_:Unit)=>True) K4 K4 ?_ ?_
   ·refine Zc<|Zg<|mv J<|dt (Xu J J J)<|Zf<|Za<|Zq J (fun h85=>?_) (fun h85=>?_)
    ·exact Zg<|mv J<|dt (Ys J J J ⟨by omega,by omega⟩)<|as_ J<|as_ J<|Zf<|Qy () trivial ⟨by exact congrArg some (Dr (by unfold d9s;split<;>omega)),by exact congrArg some (Dr (by unfold brw;split<;>omega)),rfl,rfl,rfl,rfl,trivial⟩ K4
    ·exact Zj<|Qy () trivial ⟨by exact congrArg some (Dr (by unfold d9s;split<;>omega)),by exact congrArg some (Dr (by unfold brw;split<;>omega)),rfl,rfl,rfl,rfl,trivial⟩ K4
   ·rintro _ -
    simp only [CA,NA]
    exact Zg<|mv J<|mv J<|tt (Pn (i:=3) (ivs:=[(0,_)]) (enc:=Ds) [d9s ((dg 1000000000 x).getD i 0) ((dg 1000000000 y).getD i 0) c] J J K2 Ny ti3 J J J J J pN.cells J J hw) fun v _=>tt (Im (i:=70) (j:=3) (by_:=8) J J J J J J (by decide) J (Yq pN) Ny ti3 J pN J J J (by simp;omega) (by decide) J hw) fun v_2 _=>as_ J<|Zf<|Oa<|Za<|Zg<|mv J<|dt (Ys J J J ⟨by omega,by omega⟩)<|as_ J<|Zf<|Xk (i+1,o ++ [d9s ((dg 1000000000 x).getD i 0) ((dg 1000000000 y).getD i 0) c],brw ((dg 1000000000 x).getD i 0) ((dg 1000000000 y).getD i 0) c,_) ⟨by first | omega | (dsimp only<;>omega),by simp [hol],Ziu hoa (Zt8 hda hdb hc).1,brw_le _ _ _,Zpw hc hda hdb hol hv⟩ (by first | omega | (dsimp only<;>omega)) K5 K4
 ·refine Yu<|Zu<|Zu<|Ox<|Za<|Zc<|Zg<|mv J<|tt (Zh (n:=3) (Lz _ _) J J J K1 call77 (Xw 70 J J pN Ze) J hw) fun _ _=>Pr (Zf1 70 J J pN)<|as_ J<|Zf<|Za<|Zv ?_
  obtain rfl:i=(dg 1000000000 x).length:=by omega
  have hx:tz o=dg 1000000000 (x-y):=by
   rw [←Kk Nd _ hoa]
   congr 1
   rw [Nr _ (dg 1000000000 y) _ hly,Nr _ (dg 1000000000 x) _ (Nat.le_refl _),My Nd,My Nd]at hv
   have h1:=Zfv Ho o hoa
   rw [hol]at h1
   have h0:c=0∨c=1:=by omega
   rcases h0 with rfl | rfl<;>omega
  exact Yn (.inl J) hsc _ _ (fun a w hs=>Nn hs results91 J) J trivial J (Py 70 J J pN (by rw [hx]<;>rfl) Zk)
set_option maxHeartbeats 4000000 in
theorem Zrp(v w:Value)(x y:Nat)(hx:bl x≤4294967296)(hy:bl y≤4294967296):Cal prog 123 #[v,w] [d9p v x,d9p w y] false (G:=Value) (fun r=>True) (fun r=>r) (fun r=>[d9p r (x*y)]):=by
 refine Ya func123 J ntmps123 J K2 ?_
 intro w0 sc hw hsc
 simp only [Zp,Zn]
 have hX:=Ko x
 have hY:=Ko y
 refine Zc<|Zg<|as_ J<|Zf<|Za<|Zc<|Zg<|mv J<|dt (Yb J J (i:=1) J Zi Ny)<|mv J<|dt (Yb J J (i:=2) J Zi Ny)<|dt (Ys J J J ⟨by omega,by omega⟩)<|tt (Hr (i:=3) (n:=((dg 1000000000 x).length+(dg 1000000000 y).length)) (by_:=8) (enc:=Ds) 0 J J J J Ny ti3 J pN.cells pN.pos J J J hw) fun v _=>as_ J<|Zf<|Za<|Zc<|Zc<|Zg<|as_ J<|Zf<|Za<|Zl<|Nt [(0,_),(1,_),(5,_)] [(0,_),(1,_),(2,_)] (fun(q:Nat×List Nat)=>[(6,.int .i64 (q.1:Int))]) (fun(q:Nat×List Nat)=>[(3,osl 1 3 Ds v q.2)]) (fun(q:Nat×List Nat)=>(q.1≤(dg 1000000000 x).length)∧(q.2.length=((dg 1000000000 x).length+(dg 1000000000 y).length))∧(∀d∈q.2,d<1000000000)∧(∀j,q.1+(dg 1000000000 y).length≤j→q.2.getD j 0=0)∧(val 1000000000 q.2=val 1000000000 ((dg 1000000000 x).take q.1)*y)) (fun(q:Nat×List Nat)=>(dg 1000000000 x).length-q.1) (0,List.replicate ((dg 1000000000 x).length+(dg 1000000000 y).length) 0) ⟨by first | omega | (dsimp only<;>omega),by simp,Nf _ Ho,fun j _=>Lk _ j,by simp [val,Ia]⟩ K4 K4 ?_
 rintro⟨i,o⟩ ⟨hi,hol,hoa,hz0,hv⟩
 dsimp only at hi hol hoa hz0 hv
 simp only [CA,NA]
 refine Zc<|Zc<|Zg<|mv J<|mv J<|dt (Yb J J (i:=1) J Zi Ny)<|dt (Xu J J J)<|Zf<|Za<|Zq J (fun h96=>?_) (fun h96=>?_)
 ·refine Zj<|Za<|Zc<|Zl<|Zc<|Zg<|as_ J<|Zf<|Za<|Zc<|Zg<|as_ J<|Zf<|Za<|Zl<|Nt [(0,_),(1,_),(5,_),(6,_)] [(0,_),(1,_),(2,_)] (fun(q:Nat×List Nat×Nat)=>[(8,.int .i64 (q.1:Int)),(7,.int .i64 (q.2.2:Int))]) (fun(q:Nat×List Nat×Nat)=>[(3,osl 1 3 Ds v q.2.1)]) (fun(q:Nat×List Nat×Nat)=>(q.1≤(dg 1000000000 y).length+1∧(q.1=(dg 1000000000 y).length+1→q.2.2=0))∧(q.2.1.length=((dg 1000000000 x).length+(dg 1000000000 y).length))∧(∀d∈q.2.1,d<1000000000)∧(∀j,i+q.1≤j→i+(dg 1000000000 y).length≤j→q.2.1.getD j 0=0)∧(q.2.2<1000000000)∧(val 1000000000 q.2.1+q.2.2*1000000000^(i+q.1)=val 1000000000 ((dg 1000000000 x).take i)*y+(dg 1000000000 x).getD i 0*1000000000^i*val 1000000000 ((dg 1000000000 y).take q.1))) (fun(q:Nat×List Nat×Nat)=>(dg 1000000000 y).length+1-q.1) (0,o,0) ⟨⟨by omega,by omega⟩,hol,hoa,fun j _ h=>hz0 j h,by first | omega | (dsimp only<;>omega),by rw [hv];simp [val]⟩ K6 K4 ?_
  rintro⟨k,p,c⟩ ⟨hk,hpl,hpa,hpz,hcU,hpv⟩
  dsimp only at hk hpl hpa hpz hcU hpv
  simp only [CA,NA]
  have hdig:=Zkz (Qm Ho (Li Nd x) i) (Qm Ho (Li Nd y) k) (Qm Ho hpa (i+k)) hcU
  refine Zc<|Dj [(0,_),(1,_),(5,_),(6,_),(7,_),(8,_)] [(0,_),(3,_),(1,_),(2,_)] (fun(_:Unit)=>[(29,.bool (decide (k<(dg 1000000000 y).length∨0<c)))]) (fun(_:Unit)=>[]) (fun(_:Unit)=>True) K6 K4 ?_ ?_
  ·refine Zg<|mv J<|mv J<|dt (Yb J J (i:=2) J Zi Ny)<|dt (Xu J J J)<|mv J<|Qu (d:=26) J (fun s98=>?_) (fun s98=>?_)
   ·exact gsk J J J<|gsk J J J<|dt (Xh J J J)<|Zf<|Qy () trivial ⟨by first | exact congrArg some (congrArg Value.bool (decide_eq_decide.2 (by omega))) | exact congrArg some (congrArg Value.bool (decide_eq_true (by omega)).symm),rfl,rfl,rfl,rfl,rfl,rfl,trivial⟩ K4
   ·exact gdt (Ym J J) J J<|gdt (Oq J J J) J J<|dt (Yh J J J)<|Zf<|Qy () trivial ⟨by first | exact congrArg some (congrArg Value.bool (decide_eq_decide.2 (by omega))) | exact congrArg some (congrArg Value.bool (decide_eq_true (by omega)).symm),rfl,rfl,rfl,rfl,rfl,rfl,trivial⟩ K4
  ·rintro _ -
   simp only [CA,NA]
   refine Zq J (fun h98=>?_) (fun h98=>?_)
   ·refine Zj<|Za<|Zc<|Zl<|Zc<|Zg<|mv J<|mv J<|mv J<|dt (Zh5 J J J (by omega))<|dt (Yw (ii:=3) (i:=(i+k)) J J J J (Yq pN) Ny zT3)<|dt (Xm (ii:=3) 0 J J J (Yq pN) pN)<|mv J<|dt (Zh5 J J J (by have h1:=Qm Ho hpa (i+k);omega))<|as_ J<|Zf<|Za<|Dj [(0,_),(1,_),(5,_),(6,_),(8,_)] [(0,_),(3,_),(1,_),(2,_)] (fun(_:Unit)=>[(9,.int .i64 ((p.getD (i+k) 0+c+(dg 1000000000 x).getD i 0*(dg 1000000000 y).getD k 0:Nat):Int))]) (fun(_:Unit)=>[]) (fun(_:Unit)=>True) K5 K4 ?_ ?_
    ·refine Zc<|Zg<|mv J<|mv J<|dt (Yb J J (i:=2) J Zi Ny)<|dt (Xu J J J)<|Zf<|Za<|Zq J (fun h100=>?_) (fun h100=>?_)
     ·refine Ql (fun _=>False) [(0,0),(1,0),(2,0),(3,0),(4,0),(5,0),(6,0),(7,0),(8,0),(9,0),(10,0),(11,3)] ?_ ?_
      ·kernel_rfl
      refine r0' J J (st0 (Ym J J))<|r0' J J (st0 (Ym J J))<|r0' J J (st0 (Ym J J))<|r0' J J (st0 (Yw (ii:=1) J J J J Zi Ny zT3 J (by first | omega | (simp only [List.length_set];omega))))<|r0' J J (st0 (Xm (ii:=1) 0 J J J Zi pN (by first | omega | (simp only [List.length_set];omega))))<|r0' J J (st0 (Ym J J))<|r0' J J (st0 (Ym J J))<|r0' J J (st0 (Yw (ii:=2) J J J J Zi Ny zT3 J (by first | omega | (simp only [List.length_set];omega))))<|r0' J J (st0 (Xm (ii:=2) 0 J J J Zi pN (by first | omega | (simp only [List.length_set];omega))))<|r0' J J (st0 (n_mul J J J (by have h1:=hdig.2;omega)))<|r0' J J (st0 (Zh5 J J J hdig.2))<|r3' J (Px (Lq J J) J) fun _ _=>Og ?_
      try (have hz:(dg 1000000000 y).getD k 0=0:=Zbd (by omega))
      exact Qy () trivial ⟨by first | rfl | (rw [hz,Nat.mul_zero];rfl),rfl,rfl,rfl,rfl,rfl,trivial⟩ K4
     ·refine Zj ?_
      try (have hz:(dg 1000000000 y).getD k 0=0:=Zbd (by omega))
      exact Qy () trivial ⟨by first | rfl | (rw [hz,Nat.mul_zero];rfl),rfl,rfl,rfl,rfl,rfl,trivial⟩ K4
    ·rintro _ -
     simp only [CA,NA]
     exact Zc<|Zg<|mv J<|mv J<|mv J<|dt (Zh5 J J J (by omega))<|mv J<|dt (Zso (n:=1000000000) J J J (by omega))<|dt (Yw (ii:=3) (i:=(i+k)) J J J J (Yq pN) Ny zT3)<|tt (Kz (i:=3) (enc:=Ds) _ J J J J J J pN J hw) fun _ _=>Zf<|Za<|Zg<|mv J<|dt (Zlt (n:=1000000000) J J J hdig.2 (by omega))<|as_ J<|Zf<|Oa<|Za<|Zg<|mv J<|dt (Ys J J J ⟨by omega,by omega⟩)<|as_ J<|Zf<|Xk (k+1,_,_) ⟨⟨by dsimp only;omega,fun h=>by dsimp only at h ⊢;rw [Zbd (by omega:(dg 1000000000 y).length≤k),hpz (i+k) (by omega) (by omega),Nat.mul_zero];omega⟩,by simp;omega,Ln hpa _ _ (Nat.mod_lt _ Ho),fun j hj hj2=>by dsimp only at hj ⊢;rw [Nm _ _ _ _ _ (by omega),if_neg (by omega)];exact hpz j (by omega) hj2,hdig.1,Zpd hpv (by omega)⟩ (by first | omega | (dsimp only<;>omega)) K6 K4
   ·refine Yu<|Zu<|Zu<|Ox<|Oa<|Za<|Zg<|mv J<|dt (Ys J J J ⟨by omega,by omega⟩)<|as_ J<|Zf ?_
    have hc0:c=0:=by omega
    have hvf:=hpv
    rw [hc0,Nat.zero_mul,Nat.add_zero,Iq (x:=y) (k:=k) Nd (by omega)]at hvf
    exact Xk (i+1,_) ⟨by first | omega | (dsimp only<;>omega),hpl,hpa,fun j hj=>hpz j (by dsimp only at hj;omega) (by dsimp only at hj;omega),by dsimp only;rw [hvf,Qs,Nat.add_mul]⟩ (by first | omega | (dsimp only<;>omega)) K4 K4
 ·refine Yu<|Zu<|Zu<|Ox<|Za<|Zc<|Zg<|mv J<|tt (Zh (n:=3) (Lz _ _) J J J K1 call77 (Xw 3 J J pN Ze) J hw) fun _ _=>Pr (Zf1 3 J J pN)<|as_ J<|Zf<|Za<|Zv ?_
  obtain rfl:i=(dg 1000000000 x).length:=by omega
  have hx:tz o=dg 1000000000 (x*y):=by
   rw [←Kk Nd _ hoa,hv,Iq Nd (Nat.le_refl _)]
  exact Yn (.inl J) hsc _ _ (fun a w hs=>Nn hs results123 J) J trivial J (Py 3 J J pN (by rw [hx]<;>rfl) Zk)
theorem Zhs(v:Value)(x n:Nat)(hx:bl x≤4294967296:=by omega)(hn:n<1000000000:=by omega):Cal prog 76 #[v,.int .i64 (n:Int)] [d9p v x] true (G:=Value) (fun r=>True) (fun r=>r) (fun r=>[d9p r (x*n)]):=by
 refine Ya func76 J ntmps76 J K1 ?_
 intro w0 sc hw hsc
 simp only [Zp,Zn]
 refine Zc<|Zg<|as_ J<|Zf<|Za<|Zc<|Zc<|Zg<|mv J<|dt (Pm J J J)<|Zf<|Za<|Zq J (fun h112=>?_) (fun h112=>?_)
 ·exact Zc<|Zg<|as_ J<|Zf<|Za<|Zv<|Xc<|Qv (Nj 9 1 3 Ds)<|Yn (.inl J) hsc (.slice none 0 0) _ (fun a w hs=>Nn hs results76 J) J trivial J (Py 9 J J pN (by rw [show n=0 by omega,Nat.mul_zero]<;>rfl) Zk)
 ·have hn0:n≠0:=by omega
  exact Zj<|Za<|Zc<|Zg<|mv J<|mv J<|tt (Pn (i:=70) (ivs:=[(0,_)]) (enc:=Ds) [n] J J K2 Ny ti3 J J J J J pN.cells J J hw) fun v _=>Pr (Zcx 70 (Zx2 Nd hn hn0).symm J J)<|tt (Zh (n:=2) (Zrp _ _ _ n hx (by have:=(Me 30 n).2 (by omega);omega)) J J J K2 call123 (Zb 1 J J J (Xw 70 J J pN Ze)) J hw) fun v_2 _=>as_ J<|Zf<|Za<|Zv<|Yn (.inl J) hsc _ _ (fun a w hs=>Nn hs results76 J) J trivial J (Xa 2 J J J Zk)
set_option maxHeartbeats 4000000 in
theorem r_over(v w:Value)(x y:Nat)(hy0:0<y)(hx:bl x≤4000000000:=by omega)(hy:bl y≤4000000000:=by omega):Cal prog 124 #[v,w] [d9p v x,d9p w y] true (G:=Value×Value) (fun r=>True) (fun r=> .tuple #[r.1,r.2]) (fun r=>[d9p r.1 (x/y),d9p r.2 (x%y)]):=by
 refine Ya func124 J ntmps124 J K2 ?_
 intro w0 sc hw hsc
 simp only [Zp,Zn]
 have hX:=Ko x
 have hY:=Ko y
 refine Zc<|Zg<|as_ J<|as_ J<|Zf<|Za<|Zc<|Zg<|mv J<|dt (Yb J J (i:=1) J Zi Ny)<|tt (Hr (i:=3) (n:=(dg 1000000000 x).length) (by_:=8) (enc:=Ds) 0 J J J J Ny ti3 J pN.cells pN.pos J J J hw) fun v _=>as_ J<|Zf<|Za<|Zc<|Zg<|as_ J<|Zf<|Za<|Zc<|Zc<|Zg<|mv J<|dt (Yb J J (i:=1) J Zi Ny)<|dt (Qa J J J ⟨by omega,by omega⟩)<|as_ J<|Zf<|Za<|Zl<|Yl (Nj 71 1 3 Ds)<|Yl (Qz 71 J J pN) ?_
 refine Nt [(0,_),(1,_),(6,_)] [(0,_),(1,_),(2,_)] (fun(q:Nat×List Nat×Nat×Value)=>[(8,.int .i64 ((q.1:Int)-1)),(7,q.2.2.2)]) (fun(q:Nat×List Nat×Nat×Value)=>[(3,osl 1 3 Ds v q.2.1),(71,d9p q.2.2.2 q.2.2.1)]) (fun(q:Nat×List Nat×Nat×Value)=>(q.1≤(dg 1000000000 x).length)∧(q.2.1.length=(dg 1000000000 x).length)∧(∀d∈q.2.1,d<1000000000)∧(∀j,j<q.1→q.2.1.getD j 0=0)∧(val 1000000000 (q.2.1.drop q.1)*y+q.2.2.1=x/1000000000^q.1)∧(q.2.2.1<y)) (fun(q:Nat×List Nat×Nat×Value)=>q.1) ((dg 1000000000 x).length,List.replicate (dg 1000000000 x).length 0,0,.slice none 0 0) ⟨Nat.le_refl _,by simp,Nf _ Ho,fun j _=>Lk _ j,by dsimp only;rw [Nat.div_eq_of_lt ((Xo Nd _ x).1 (Nat.le_refl _))];simp [val],hy0⟩ K5 K5 ?_
 rintro⟨k,q,r,vr⟩ ⟨hk,hql,hqa,hqz,hv,hr⟩
 dsimp only at hk hql hqa hqz hv hr
 simp only [CA,NA]
 refine Zc<|Zc<|Zg<|mv J<|dt (Lx J J J)<|Zf<|Za<|Zq J (fun h122=>?_) (fun h122=>?_)
 ·have hk0:0<k:=by omega
  have ha9:=Qm Ho (Li Nd x) (k-1)
  have hdig:x/1000000000^(k-1)=x/1000000000^k*1000000000+(dg 1000000000 x).getD (k-1) 0:=by rw [Ij Nd];exact(Zpu hk0).symm
  rw [←hv,Nat.add_mul]at hdig
  have hrb:=bl_over hr ha9
  have hQ9:=over_Q hr ha9
  refine Zj<|Za<|Zc<|Zl<|Zc<|Zg<|mv J<|mv J<|dt (Yw (ii:=1) (i:=(k-1)) J J J J Zi Ny zT3)<|dt (Xm (ii:=1) 0 J J J Zi pN)<|tt (Pn (i:=72) (ivs:=[(0,_)]) (enc:=Ds) [(dg 1000000000 x).getD (k-1) 0] J J K2 Ny ti3 J J J J J pN.cells J J hw) fun v_2 _=>mv J<|tt (Im (i:=72) (j:=71) (by_:=8) J J J J J J (by decide) J Zi Ny ti3 J pN J J J (by have h8:=Ko r;have h9:=Ow (Nat.le_of_lt hr);simp;omega) (by decide) J hw) fun v_3 _=>tt (Zh (n:=3) (Lz _ _) J J J K1 call77 (Xw 72 J J pN Ze) J hw) fun _ _=>Pr (Zf1 72 J J pN)<|Pr (Zcx 72 (tz_cons Nd ha9) J J)<|Pr (Qz 72 J J pN)<|as_ J<|Zf<|Za<|Zc<|Zc<|Zg<|mv J<|mv J<|tt (Zh (n:=3) (Zld _ _ _ _) J J J K2 call90 (Zb 72 J J J (Zb 2 J J J Ze)) J hw) fun _ _=>dt (Xu J J J)<|Zf<|Za<|Zq J (fun h124=>?_) (fun h124=>?_)
  ·have hlt:(r*1000000000+(dg 1000000000 x).getD (k-1) 0)<y:=Zou.1 h124
   refine Yu<|Zu<|Ox<|Za<|Zg<|mv J<|dt (Qa J J J ⟨by omega,by omega⟩)<|as_ J<|Zf<|Qv (Oc 72 71 J J J) ?_
   have h2:=Ztx hk0 (by omega:k≤q.length) (hqz (k-1) (by omega))
   exact Xk (k-1,q,r*1000000000+(dg 1000000000 x).getD (k-1) 0,_) ⟨by first | omega | (dsimp only<;>omega),by first | omega | (dsimp only<;>omega),by first | omega | (dsimp only<;>omega),fun j hj=>hqz j (by dsimp only at hj;omega),by have h9:1000000000*val 1000000000 (q.drop k)*y=val 1000000000 (q.drop k)*y*1000000000:=(by rw [Nat.mul_assoc,Nat.mul_comm]);dsimp only;rw [h2,hdig,h9];omega,hlt⟩ (by first | omega | (dsimp only<;>omega)) ⟨by rw [show(((k-1:Nat):Int)-1)=(k:Int)-1-1 by omega];rfl,rfl,rfl,rfl,rfl,trivial⟩ K5
  ·have hge:y≤(r*1000000000+(dg 1000000000 x).getD (k-1) 0):=by have:=mt Zou.2 h124;omega
   refine Zj<|Za<|Zc<|Zg<|as_ J<|as_ J<|Zf<|Za<|Zc<|Zl<|Nt [(0,_),(1,_),(6,_),(7,_),(8,_)] [(0,_),(3,_),(71,_),(1,_),(2,_),(72,_)] (fun(q:Nat×Nat)=>[(9,.int .i64 (q.1:Int)),(10,.int .i64 (q.2:Int))]) (fun(q:Nat×Nat)=>[]) (fun(q:Nat×Nat)=>(q.1≤(r*1000000000+(dg 1000000000 x).getD (k-1) 0)/y)∧((r*1000000000+(dg 1000000000 x).getD (k-1) 0)/y≤q.2)∧(q.2<1000000000)) (fun(q:Nat×Nat)=>q.2-q.1) (0,999999999) ⟨Nat.zero_le _,by omega,by first | omega | (dsimp only<;>omega)⟩ K7 K6 ?_
   rintro⟨lo,hi⟩ ⟨hlo,hhi,hh9⟩
   dsimp only at hlo hhi hh9
   simp only [CA,NA]
   have hmid:(lo+hi+1)/2<1000000000:=by omega
   refine Zc<|Zc<|Zg<|mv J<|mv J<|dt (Xu J J J)<|Zf<|Za<|Zq J (fun h128=>?_) (fun h128=>?_)
   ·refine Zj<|Za<|Zl<|Zc<|Zg<|mv J<|mv J<|dt (Zh5 J J J (by omega))<|dt (Zh5 (n:=1) J J J (by omega))<|dt (Zlt (n:=2) J J J (by omega) (by omega))<|as_ J<|Zf<|Za<|Zc<|Zg<|mv J<|mv J<|tt (Zh (n:=4) (Zhs _ _ _) J J J K2 call76 (Zb 2 J J J Ze) J hw) fun v_4 _=>mv J<|tt (Zh (n:=4) (Zld _ _ _ _ (by have:=Zir (y:=y) hmid;omega)) J J J K2 call90 (Zb 4 J J J (Zb 72 J J J Ze)) J hw) fun _ _=>dt (Co J J J)<|Zf<|Za<|Zq J (fun h130=>?_) (fun h130=>?_)
    ·have hcm:y*((lo+hi+1)/2)≤(r*1000000000+(dg 1000000000 x).getD (k-1) 0):=Zuf.1 h130
     exact Zg<|mv J<|as_ J<|Zf<|Oa<|Xk ((lo+hi+1)/2,hi) ⟨(Nat.le_div_iff_mul_le hy0).2 (by rw [Nat.mul_comm];exact hcm),by first | omega | (dsimp only<;>omega),by first | omega | (dsimp only<;>omega)⟩ (by first | omega | (dsimp only<;>omega)) K7 K6
    ·have hcm:(r*1000000000+(dg 1000000000 x).getD (k-1) 0)<y*((lo+hi+1)/2):=by have:=mt Zuf.2 h130;omega
     exact Zg<|mv J<|dt (Qa J J J ⟨by omega,by omega⟩)<|as_ J<|Zf<|Oa<|Xk (lo,(lo+hi+1)/2-1) ⟨by first | omega | (dsimp only<;>omega),by have h7:=(Nat.div_lt_iff_lt_mul hy0).2 (show(r*1000000000+(dg 1000000000 x).getD (k-1) 0)<(lo+hi+1)/2*y by have h6:=Nat.mul_comm ((lo+hi+1)/2) y;omega);dsimp only;omega,by first | omega | (dsimp only<;>omega)⟩ (by first | omega | (dsimp only<;>omega)) ⟨J,by rw [show(((lo+hi+1)/2-1:Nat):Int)=(((lo+hi+1)/2:Nat):Int)-1 by omega];rfl,rfl,rfl,rfl,rfl,rfl,trivial⟩ K6
   ·have hloQ:lo=(r*1000000000+(dg 1000000000 x).getD (k-1) 0)/y:=by omega
    refine Yu<|Zu<|Zu<|Ox<|Za<|Zc<|Zg<|mv J<|mv J<|mv J<|dt (Yw (ii:=3) (i:=(k-1)) J J J J (Yq pN) Ny zT3)<|tt (Kz (i:=3) (enc:=Ds) _ J J J J J J pN J hw) fun _ _=>Zf<|Za<|Zg<|mv J<|mv J<|mv J<|tt (Zh (n:=5) (Zhs _ _ _) J J J K2 call76 (Zb 2 J J J Ze) J hw) fun v_5 _=>tt (Zh (n:=6) (Zle _ _ _ _ (by rw [hloQ];exact Nat.mul_div_le _ _)) J J J K2 call91 (Zb 72 J J J (Zb 5 J J J Ze)) J hw) fun v_6 _=>as_ J<|Zf<|Oa<|Za<|Zg<|mv J<|dt (Qa J J J ⟨by omega,by omega⟩)<|as_ J<|Zf<|Qv (Oc 6 71 J J J) ?_
    have h2:=Zcr (d:=lo) hk0 (by omega:k≤q.length)
    have h16:y*lo≤(r*1000000000+(dg 1000000000 x).getD (k-1) 0):=by rw [hloQ];exact Nat.mul_div_le _ _
    exact Xk (k-1,_,(r*1000000000+(dg 1000000000 x).getD (k-1) 0)-y*lo,_) ⟨by first | omega | (dsimp only<;>omega),by simp [hql],Ln hqa _ _ (by omega),fun j hj=>by dsimp only at hj ⊢;rw [Nm _ _ _ _ _ (by omega),if_neg (by omega)];exact hqz j (by omega),by have h9:1000000000*val 1000000000 (q.drop k)*y=val 1000000000 (q.drop k)*y*1000000000:=(by rw [Nat.mul_assoc,Nat.mul_comm]);dsimp only;rw [h2,hdig,Nat.add_mul,h9];have h5:lo*y=y*lo:=Nat.mul_comm _ _;omega,by dsimp only;rw [hloQ];have h5:=Nat.div_add_mod (r*1000000000+(dg 1000000000 x).getD (k-1) 0) y;have h6:=Nat.mod_lt (r*1000000000+(dg 1000000000 x).getD (k-1) 0) hy0;omega⟩ (by first | omega | (dsimp only<;>omega)) ⟨by rw [show(((k-1:Nat):Int)-1)=(k:Int)-1-1 by omega];rfl,rfl,rfl,rfl,rfl,trivial⟩ K5
 ·refine Yu<|Zu<|Zu<|Ox<|Za<|Zc<|Zg<|mv J<|tt (Zh (n:=6) (Lz _ _) J J J K1 call77 (Xw 3 J J pN Ze) J hw) fun _ _=>Pr (Zf1 3 J J pN)<|mv J<|as_ J<|as_ J<|Zf<|Za<|Zv ?_
  obtain rfl:k=0:=by omega
  rw [List.drop_zero,Nat.pow_zero,Nat.div_one]at hv
  have hq:val 1000000000 q=x/y:=by rw [←hv,Nat.mul_comm,Nat.mul_add_div hy0,Nat.div_eq_of_lt hr,Nat.add_zero]
  have hr2:r=x%y:=by rw [←hv,Nat.mul_comm,Nat.mul_add_mod,Nat.mod_eq_of_lt hr]
  have hx:tz q=dg 1000000000 (x/y):=by rw [←Kk Nd _ hqa,hq]
  exact Yn (.inl J) hsc (_,_) _ (fun a w hs=>Np hs results124 J J) J trivial J (Py 3 J J pN (by rw [hx]<;>rfl) (Yk 71 J J J (by rw [hr2]<;>rfl) Zk))
theorem Bw(s:Bool)(v:Value)(n:Nat)(z:Int)(hn:n=z.natAbs)(hs:sg s z)(hb:bl n≤4294967296):Ml prog 78 #[.bool s,v] [d9p v n] (.agg #[.bool (decide (z<0)),v]):=by
 refine Ya func78 J ntmps78 J K1 ?_
 intro w0 sc hw hsc
 simp only [Zp,Zn]
 have hl9:=Ko n
 refine Zc<|Zg<|tt (Zo (i:=2) J J zeroValue48 J J hw) fun b _=>Zf<|Za<|Zc<|Zg<|mv J<|mv J<|Za5 (d:=6) J (fun s143=>?_) (fun s143=>?_)
 ·exact gdt (Ym J J) J J<|gdt (Yb J J (i:=1) J Zi Ny) J J<|gdt (Oq J J J) J J<|dt (Xh J J J)<|mv J<|dt (Pz (ivs:=[(0,_),(1,_)]) J K4 (fun a w hs=>b48_01 ((Zd J) a w hs) ((Zt (i:=1) J Zi) a w hs)))<|tt (Zm (i:=2) J J J J J (by decide) J Qe J J ⟨Zd J,Zt (i:=1) J Zi,trivial⟩ J hw trivial) fun _ _=>Zf<|Za<|Zv<|Yn (.inl J) hsc () _ (fun a w hs=>Nn hs results78 (Yr (i:=2) J J Lg Qe J)) (by rw [←made_b hn hs,←Zn6];simp_all) trivial J Zk
 ·exact gsk J J J<|gsk J J J<|gsk J J J<|dt (Yh J J J)<|mv J<|dt (Pz (ivs:=[(0,_),(1,_)]) J K4 (fun a w hs=>b48_01 ((Zd J) a w hs) ((Zt (i:=1) J Zi) a w hs)))<|tt (Zm (i:=2) J J J J J (by decide) J Qe J J ⟨Zd J,Zt (i:=1) J Zi,trivial⟩ J hw trivial) fun _ _=>Zf<|Za<|Zv<|Yn (.inl J) hsc () _ (fun a w hs=>Nn hs results78 (Yr (i:=2) J J Lg Qe J)) (by rw [←made_b hn hs,←Zn6];simp_all) trivial J Zk
theorem Zrr(v:Value)(x:Int)(hx:bl x.natAbs≤3000000000):Cal prog 73 #[.agg #[.bool (decide (x<0)),v]] [d9p v x.natAbs] true (G:=Value) (fun r=>True) (fun r=> .agg #[.bool (decide (-x<0)),r]) (fun r=>[d9p r (-x).natAbs]):=by
 refine Ya func73 J ntmps73 J K1 ?_
 intro w0 sc hw hsc
 simp only [Zp,Zn]
 exact Zc<|Zg<|tt (Xe (i:=2) J J J J J hw) fun b _=>tt (Zo (i:=3) J J zeroValue48 J J hw) fun b_2 _=>Zf<|Za<|Zc<|Zg<|dt (Xx J J Zab J zT4 J J)<|dt (Ok (i:=2) J J J iA4 J)<|dt (Xp J J)<|dt (Xx J J Zab J Zix J J)<|dt (Ok (i:=2) J J J Zj1 J)<|tt (Zh (n:=3) (Bw _ _ _ (-x) (Int.natAbs_neg x).symm (sg_neg (Xl x)) (by omega)) J J J K2 call78 (Zb 1 J J J Ze) J hw) fun _ _=>tt (Zm (i:=3) J J J J J (by decide) J Qe J J ⟨Zd J,Zt (i:=1) J Zi,trivial⟩ J hw trivial) fun _ _=>Zf<|Za<|Zv<|Yn (.inl J) hsc _ _ (fun a w hs=>Nn hs results73 (Yr (i:=3) J J Lg Qe J)) J trivial J (Yk 1 J J J (by rw [Int.natAbs_neg]<;>rfl) Zk)
theorem Zpp(v w:Value)(x y:Int)(hx:bl x.natAbs≤3000000000:=by omega)(hy:bl y.natAbs≤3000000000:=by omega):Cal prog 37 #[.agg #[.bool (decide (x<0)),v],.agg #[.bool (decide (y<0)),w]] [d9p v x.natAbs,d9p w y.natAbs] true (G:=Value) (fun r=>True) (fun r=> .agg #[.bool (decide (x+y<0)),r]) (fun r=>[d9p r (x+y).natAbs]):=by
 refine Ya func37 J ntmps37 J K2 ?_
 intro w0 sc hw hsc
 simp only [Zp,Zn]
 have hb:=Kf x y
 refine Zc<|Zg<|tt (Xe (i:=3) J J J J J hw) fun b _=>tt (Xe (i:=4) J J J J J hw) fun b_2 _=>tt (Zo (i:=5) J J zeroValue48 J J hw) fun b_3 _=>Zf<|Za<|Zc<|Zc<|Zg<|dt (Xx J J Zab J zT4 J J)<|dt (Ok (i:=3) J J J iA4 J)<|dt (Xx J J Zab J zT4 J J)<|dt (Ok (i:=4) J J J iA4 J)<|dt (d_eqb J J J uT4)<|Zf<|Za<|Lm J (fun h189=>?_) (fun h189=>?_)
 ·replace h189:=beq_dec h189
  refine Zc<|Ql (fun _=>False) [(0,0),(1,0),(2,0),(3,0),(4,0),(5,0),(6,1),(7,1),(8,3)] ?_ ?_
  ·kernel_rfl
  exact r0' J J (st0 (Xx J J Zab J zT4 J J))<|r0' J J (st0 (Ok (i:=3) J J J iA4 J))<|r0' J J (st0 (Xx J J Zab J Zix J J))<|r0' J J (st0 (Ok (i:=3) J J J Zj1 J))<|r0' J J (st0 (Xx J J Zab J Zix J J))<|r0' J J (st0 (Ok (i:=4) J J J Zj1 J))<|r1' J (Zh (n:=6) (Zrq _ _ _ _ (by omega) (by omega)) J J J K2 call75 (Zb 1 J J J (Zb 2 J J J Ze)) J hw) fun v _=>r1' J (Zh (n:=6) (Bw _ _ _ (x+y) (Zdu (Xl x) (h189▸Xl y)).symm (Zra (Xl x) (h189▸Xl y)) (by rw [←Zdu (Xl x) (h189▸Xl y)];omega)) J J J K2 call78 (Zb 6 J J J Ze) J hw) fun _ _=>r3' J (Zm (i:=5) J J J J J (by decide) J Qe J J ⟨Zd J,Zt (i:=6) J Zi,trivial⟩ J hw trivial) fun _ _=>Og<|Za<|Zv<|Xc<|Yn (.inl J) hsc _ _ (fun a w hs=>Nn hs results37 (Yr (i:=5) J J Lg Qe J)) J trivial J (Yk 6 J J J (by rw [Zdu (Xl x) (h189▸Xl y)]<;>rfl) Zk)
 ·have hne:decide (x<0)≠decide (y<0):=by simpa using h189
  refine Zj<|Za<|Zc<|Zc<|Zg<|dt (Xx J J Zab J Zix J J)<|dt (Ok (i:=3) J J J Zj1 J)<|dt (Xx J J Zab J Zix J J)<|dt (Ok (i:=4) J J J Zj1 J)<|tt (Zh (n:=6) (Zld _ _ _ _) J J J K2 call90 (Zb 1 J J J (Zb 2 J J J Ze)) J hw) fun _ _=>dt (Lx J J J)<|Zf<|Za<|Zq J (fun h192=>?_) (fun h192=>?_)
  ·have hge:y.natAbs≤x.natAbs:=Zug.1 h192
   refine Zc<|Ql (fun _=>False) [(0,0),(1,0),(2,0),(3,0),(4,0),(5,0),(6,1),(7,1),(8,3)] ?_ ?_
   ·kernel_rfl
   exact r0' J J (st0 (Xx J J Zab J zT4 J J))<|r0' J J (st0 (Ok (i:=3) J J J iA4 J))<|r0' J J (st0 (Xx J J Zab J Zix J J))<|r0' J J (st0 (Ok (i:=3) J J J Zj1 J))<|r0' J J (st0 (Xx J J Zab J Zix J J))<|r0' J J (st0 (Ok (i:=4) J J J Zj1 J))<|r1' J (Zh (n:=7) (Zle _ _ _ _ hge) J J J K2 call91 (Zb 1 J J J (Zb 2 J J J Ze)) J hw) fun v_2 _=>r1' J (Zh (n:=7) (Bw _ _ _ (x+y) (Bk (Xl x) (Xl y) hne hge).symm (Zhh (Xl x) (Xl y) hne hge) (by have:=Ow (Nat.sub_le x.natAbs y.natAbs);omega)) J J J K2 call78 (Zb 7 J J J Ze) J hw) fun _ _=>r3' J (Zm (i:=5) J J J J J (by decide) J Qe J J ⟨Zd J,Zt (i:=7) J Zi,trivial⟩ J hw trivial) fun _ _=>Og<|Za<|Zv<|Xc<|Yn (.inl J) hsc _ _ (fun a w hs=>Nn hs results37 (Yr (i:=5) J J Lg Qe J)) J trivial J (Yk 7 J J J (by rw [Bk (Xl x) (Xl y) hne hge]<;>rfl) Zk)
  ·have hge:x.natAbs≤y.natAbs:=by have:=mt Zug.2 h192;omega
   refine Zj<|Za<|Zc<|Ql (fun _=>False) [(0,0),(1,0),(2,0),(3,0),(4,0),(5,0),(6,1),(7,1),(8,3)] ?_ ?_
   ·kernel_rfl
   exact r0' J J (st0 (Xx J J Zab J zT4 J J))<|r0' J J (st0 (Ok (i:=4) J J J iA4 J))<|r0' J J (st0 (Xx J J Zab J Zix J J))<|r0' J J (st0 (Ok (i:=4) J J J Zj1 J))<|r0' J J (st0 (Xx J J Zab J Zix J J))<|r0' J J (st0 (Ok (i:=3) J J J Zj1 J))<|r1' J (Zh (n:=8) (Zle _ _ _ _ hge) J J J K2 call91 (Zb 2 J J J (Zb 1 J J J Ze)) J hw) fun v_3 _=>r1' J (Zh (n:=8) (Bw _ _ _ (x+y) (by rw [Int.add_comm x];exact(Bk (Xl y) (Xl x) (Ne.symm hne) hge).symm) (by rw [Int.add_comm x];exact Zhh (Xl y) (Xl x) (Ne.symm hne) hge) (by have:=Ow (Nat.sub_le y.natAbs x.natAbs);omega)) J J J K2 call78 (Zb 8 J J J Ze) J hw) fun _ _=>r3' J (Zm (i:=5) J J J J J (by decide) J Qe J J ⟨Zd J,Zt (i:=8) J Zi,trivial⟩ J hw trivial) fun _ _=>Og<|Za<|Zv<|Yn (.inl J) hsc _ _ (fun a w hs=>Nn hs results37 (Yr (i:=5) J J Lg Qe J)) J trivial J (Yk 8 J J J (by rw [Int.add_comm x,Bk (Xl y) (Xl x) (Ne.symm hne) hge]<;>rfl) Zk)
theorem Zjm(v w:Value)(x y:Int)(hx:bl x.natAbs≤3000000000:=by omega)(hy:bl y.natAbs≤3000000000:=by omega):Cal prog 87 #[.agg #[.bool (decide (x<0)),v],.agg #[.bool (decide (y<0)),w]] [d9p v x.natAbs,d9p w y.natAbs] true (G:=Value) (fun r=>True) (fun r=> .agg #[.bool (decide (x-y<0)),r]) (fun r=>[d9p r (x-y).natAbs]):=by
 refine Ya func87 J ntmps87 J K2 ?_
 intro w0 sc hw hsc
 simp only [Zp,Zn]
 have hb:=Fp x y
 have hn:=Zkn y
 refine Zc<|Zg<|tt (Xe (i:=3) J J J J J hw) fun b _=>tt (Xe (i:=4) J J J J J hw) fun b_2 _=>tt (Zo (i:=5) J J zeroValue48 J J hw) fun b_3 _=>Zf<|Za<|Zc<|Ql (fun _=>False) [(0,0),(1,0),(2,1),(3,1),(4,3)] ?_ ?_
 ·kernel_rfl
 exact r0' J J (st0 (Zz (i:=3) J J J Lg Qe J J))<|r0' J J (st0 (Zz (i:=4) J J J Lg Qe J J))<|r1' J (Zh (n:=6) (Zrr _ _ (by omega)) J J J K1 call73 (Zb 2 J J J Ze) J hw) fun v _=>r1' J (Zh (n:=7) (Zpp _ _ _ _) J J J K2 call37 (Zb 1 J J J (Zb 6 J J J Ze)) J hw) fun v_2 _=>r3' J (Zm (i:=5) J J J J J (by decide) J Qe J J ⟨Zd J,Zt (i:=7) J Zi,trivial⟩ J hw trivial) fun _ _=>Og<|Za<|Zv<|Yn (.inl J) hsc _ _ (fun a w hs=>Nn hs results87 (Yr (i:=5) J J Lg Qe J)) (by rw [Int.sub_eq_add_neg]<;>rfl) trivial J (Yk 7 J J J (by rw [Int.sub_eq_add_neg]<;>rfl) Zk)
theorem Bo(v w:Value)(x y:Int)(hx:bl x.natAbs≤1000000000:=by omega)(hy:bl y.natAbs≤1000000000:=by omega):Cal prog 69 #[.agg #[.bool (decide (x<0)),v],.agg #[.bool (decide (y<0)),w]] [d9p v x.natAbs,d9p w y.natAbs] true (G:=Value) (fun r=>True) (fun r=> .agg #[.bool (decide (x*y<0)),r]) (fun r=>[d9p r (x*y).natAbs]):=by
 refine Ya func69 J ntmps69 J K2 ?_
 intro w0 sc hw hsc
 simp only [Zp,Zn]
 have hb:=Xs x y
 refine Zc<|Zg<|tt (Xe (i:=3) J J J J J hw) fun b _=>tt (Xe (i:=4) J J J J J hw) fun b_2 _=>tt (Zo (i:=5) J J zeroValue48 J J hw) fun b_3 _=>Zf<|Za<|Zc<|Ql (fun _=>False) [(0,0),(1,0),(2,0),(3,0),(4,0),(5,0),(6,0),(7,0),(8,0),(9,1),(10,1),(11,3)] ?_ ?_
 ·kernel_rfl
 exact r0' J J (st0 (Xx J J Zab J zT4 J J))<|r0' J J (st0 (Ok (i:=3) J J J iA4 J))<|r0' J J (st0 (Xx J J Zab J zT4 J J))<|r0' J J (st0 (Ok (i:=4) J J J iA4 J))<|r0' J J (st0 (Zp1 J J J uT4))<|r0' J J (st0 (Xx J J Zab J Zix J J))<|r0' J J (st0 (Ok (i:=3) J J J Zj1 J))<|r0' J J (st0 (Xx J J Zab J Zix J J))<|r0' J J (st0 (Ok (i:=4) J J J Zj1 J))<|r1' J (Zh (n:=6) (Zrp _ _ _ _ (by omega) (by omega)) J J J K2 call123 (Zb 1 J J J (Zb 2 J J J Ze)) J hw) fun v _=>r1' J (Zh (n:=6) (Bw _ _ _ (x*y) (Int.natAbs_mul x y).symm (sg_mul (Xl x) (Xl y)) (by rw [←Int.natAbs_mul];omega)) J J J K2 call78 (Zb 6 J J J Ze) J hw) fun _ _=>r3' J (Zm (i:=5) J J J J J (by decide) J Qe J J ⟨Zd J,Zt (i:=6) J Zi,trivial⟩ J hw trivial) fun _ _=>Og<|Za<|Zv<|Yn (.inl J) hsc _ _ (fun a w hs=>Nn hs results69 (Yr (i:=5) J J Lg Qe J)) J trivial J (Yk 6 J J J (by rw [Int.natAbs_mul]<;>rfl) Zk)
theorem Cc(v:Value)(x:Int)(hx:bl x.natAbs≤3000000000:=by omega):Ml prog 72 #[.agg #[.bool (decide (x<0)),v]] [d9p v x.natAbs] (.int .i64 x.sign):=by
 refine Ya func72 J ntmps72 J K1 ?_
 intro w0 sc hw hsc
 simp only [Zp,Zn]
 have hl9:=Ko x.natAbs
 refine Zc<|Zg<|tt (Xe (i:=2) J J J J J hw) fun b _=>as_ J<|Zf<|Za<|Zc<|Zc<|Zg<|dt (Xx J J Zab J Zix J J)<|dt (Ok (i:=2) J J J Zj1 J)<|dt (Yb J J (i:=1) J Zi Ny)<|dt (Pm J J J)<|Zf<|Za<|Zq J (fun h206=>?_) (fun h206=>?_)
 ·exact Zc<|Zg<|as_ J<|Zf<|Za<|Zv<|Xc<|xU hsc results72 J J (sign9 h206)
 ·refine Zj<|Za<|Zc<|Zc<|Zg<|dt (Xx J J Zab J zT4 J J)<|dt (Ok (i:=2) J J J iA4 J)<|Zf<|Za<|Lm J (fun h209=>?_) (fun h209=>?_)
  ·exact Zc<|Zg<|as_ J<|Zf<|Za<|Zv<|Xc<|xU hsc results72 J J (by rw [Int.sign_eq_neg_one_of_neg (by simpa using h209)])
  ·exact Zj<|Za<|Zc<|Zg<|as_ J<|Zf<|Za<|Zv<|xU hsc results72 J J (by have h3:=Zia h206;have h4:¬x<0:=(by simpa using h209);rw [Int.sign_eq_one_of_pos (by omega)])
theorem Zrs(v w:Value)(x y:Int)(hx:bl x.natAbs≤2000000000)(hy:bl y.natAbs≤2000000000):Ml prog 68 #[.agg #[.bool (decide (x<0)),v],.agg #[.bool (decide (y<0)),w]] [d9p v x.natAbs,d9p w y.natAbs] (.int .i64 (x-y).sign):=by
 refine Ya func68 J ntmps68 J K2 ?_
 intro w0 sc hw hsc
 simp only [Zp,Zn]
 have hb:=Fp x y
 exact Zc<|Zg<|tt (Xe (i:=3) J J J J J hw) fun b _=>tt (Xe (i:=4) J J J J J hw) fun b_2 _=>as_ J<|Zf<|Za<|Zc<|Zg<|dt (Zz (i:=3) J J J Lg Qe J J)<|dt (Zz (i:=4) J J J Lg Qe J J)<|tt (Zh (n:=5) (Zjm _ _ _ _) J J J K2 call87 (Zb 1 J J J (Zb 2 J J J Ze)) J hw) fun v _=>tt (Zh (n:=5) (Cc _ _) J J J K1 call72 (Zb 5 J J J Ze) J hw) fun _ _=>as_ J<|Zf<|Za<|Zv<|xU hsc results68 J J J
theorem Cd(x:Int)(hx:inI x):Cal prog 34 #[.int .i64 x] [] true (G:=Value) (fun r=>True) (fun r=> .agg #[.bool (decide (x<0)),r]) (fun r=>[d9p r (x).natAbs]):=by
 refine Ya func34 J ntmps34 J trivial ?_
 intro w0 sc hw hsc
 simp only [Zp,Zn]
 have hxa:=hx.1
 have hxb:=hx.2
 refine Yl (Nj 60 1 3 Ds)<|Yl (Qz 60 J J pN)<|Zc<|Zg<|tt (Zo (i:=1) J J zeroValue48 J J hw) fun b _=>Zf<|Za<|Zc<|Zc<|Zg<|mv J<|dt (Lx J J J)<|Zf<|Za<|Zq J (fun h147=>?_) (fun h147=>?_)
 ·obtain⟨m,rfl⟩:∃m:Nat,x=(m:Int):=⟨x.natAbs,by omega⟩
  have hbm:bl m≤64:=(Me 64 m).2 (by omega)
  exact Zc<|Zg<|mv J<|dt (Zso (n:=1000000000) J J J (by omega))<|mv J<|dt (Zlt (n:=1000000000) J J J (by omega) (by omega))<|dt (Zso (n:=1000000000) J J J (by omega))<|mv J<|dt (Zlt (n:=1000000000) J J J (by omega) (by omega))<|dt (Zlt (n:=1000000000) J J J (by omega) (by omega))<|tt (Pn (i:=70) (ivs:=[(0,_),(1,_),(2,_)]) (enc:=Ds) [m%1000000000,m/1000000000%1000000000,m/1000000000/1000000000] J J K6 Ny ti3 J J J J J pN.cells J J hw) fun v _=>tt (Zh (n:=1) (Lz _ _) J J J K1 call77 (Xw 70 J J pN Ze) J hw) fun _ _=>Pr (Zf1 70 J J pN)<|Pr (Zcx 70 (Zmy (by omega)) J J)<|tt (Zh (n:=1) (Bw _ _ _ ((m:Int)) (by omega) (by simp [sg]) (by omega)) J J J K2 call78 (Xw 70 J J pN Ze) J hw) fun _ _=>tt (Zm (i:=1) J J J J J (by decide) J Qe J J ⟨Zd J,Zt (i:=70) J (Yq pN),trivial⟩ J hw trivial) fun _ _=>Zf<|Za<|Zv<|Xc<|Yn (.inl J) hsc _ _ (fun a w hs=>Nn hs results34 (Yr (i:=1) J J Lg Qe J)) J trivial J (Py 70 J J pN (by rw [Int.natAbs_natCast]<;>rfl) Zk)
 ·obtain⟨m,rfl⟩:∃m:Nat,x=-(m:Int):=⟨x.natAbs,by omega⟩
  have hbm:bl m≤64:=(Me 64 m).2 (by omega)
  refine Zj<|Za<|Zc<|Zg<|mv J<|dt (nn_rem (n:=1000000000) J J J (by omega))<|dt (n_neg J J (by omega))<|mv J<|dt (Zsi (n:=1000000000) J J J (by omega) (by omega))<|dt (nn_rem (n:=1000000000) J J J (by omega))<|dt (n_neg J J (by omega))<|mv J<|dt (Zsi (n:=1000000000) J J J (by omega) (by omega))<|dt (Zsi (n:=1000000000) J J J (by omega) (by omega))<|dt (n_neg J J (by omega))<|tt (Pn (i:=70) (ivs:=[(0,_),(1,_),(2,_)]) (enc:=Ds) [m%1000000000,m/1000000000%1000000000,m/1000000000/1000000000] J J K6 Ny ti3 J J J J J pN.cells J J hw) fun v_2 _=>tt (Zh (n:=1) (Lz _ _) J J J K1 call77 (Xw 70 J J pN Ze) J hw) fun _ _=>Pr (Zf1 70 J J pN)<|Pr (Zcx 70 (Zmy (by omega)) J J)<|Pr (Zcx 70 (ys:=dg 1000000000 (-(m:Int)).natAbs) (by rw [Int.natAbs_neg,Int.natAbs_natCast]) J J)<|Pr (Qz 70 J J pN)<|tt (Zh (n:=1) (Bw _ _ _ ((-(m:Int))) J (by simp [sg]) (by rw [Int.natAbs_neg,Int.natAbs_natCast];omega)) J J J K2 call78 (Zb 70 J J J Ze) J hw) fun _ _=>dt (Pz (ivs:=[]) J trivial (fun a w hs=>b48_)) ?_
  exact tt (Zh (n:=2) (Zjm _ _ (-(m:Int)) 0 (by rw [Int.natAbs_neg,Int.natAbs_natCast];omega) (by decide)) J J J K2 call87 (Zb 70 J J J (Zb 60 J J J Ze)) J hw) fun v_3 _=>tt (Zm (i:=1) J J J J J (by decide) J Qe J J ⟨Zd J,Zt (i:=2) J Zi,trivial⟩ J hw trivial) fun _ _=>Zf<|Za<|Zv<|Yn (.inl J) hsc _ _ (fun a w hs=>Nn hs results34 (Yr (i:=1) J J Lg Qe J)) (by rw [Int.sub_zero]<;>rfl) trivial J (Yk 2 J J J (by rw [Int.sub_zero]<;>rfl) Zk)
theorem Znj(x:Int)(hx:bl x.natAbs≤2000000000:=by omega):Cal prog 30 #[wv x] [] true (G:=Value) (fun r=>True) (fun r=> .agg #[.bool (decide (x<0)),r]) (fun r=>[d9p r (x).natAbs]):=by
 refine Ya func30 J ntmps30 J trivial ?_
 intro w0 sc hw hsc
 simp only [Zp,Zn]
 obtain⟨n,hn⟩:∃n,n=x.natAbs:=⟨_,rfl⟩
 have hl8:=Za2 n
 have hxn:bl n≤2000000000:=by rw [hn];exact hx
 have hsz:(Qq x.natAbs).size=(dg 256 n).length:=by rw [←hn];exact Mw n
 refine Zc<|Zg<|tt (Xe (i:=1) J J J J J hw) fun b _=>tt (Zo (i:=2) J J zeroValue48 J J hw) fun b_2 _=>Zf<|Za<|Zc<|Zg<|as_ J<|Zf<|Za<|Zc<|Zc<|Zg<|as_ J<|Zf<|Za<|Zl<|Yl (Nj 70 1 3 Ds)<|Yl (Qz 70 J J pN)<|Nt [(1,_),(2,_)] [(0,_),(1,_),(2,_)] (fun(q:Nat×Value)=>[(4,.int .i64 (q.1:Int)),(3,q.2)]) (fun(q:Nat×Value)=>[(70,d9p q.2 (n/256^((dg 256 n).length-q.1)))]) (fun(q:Nat×Value)=>q.1≤(dg 256 n).length) (fun(q:Nat×Value)=>(dg 256 n).length-q.1) (0,.slice none 0 0) (by first | omega | (dsimp only<;>omega)) K4 ⟨by rw [Zte];rfl,rfl,rfl,rfl,trivial⟩ ?_
 rintro⟨i,vd⟩ hi
 dsimp only at hi
 simp only [CA,NA]
 have hnb:bl (n/256^((dg 256 n).length-i))≤bl n:=Ow (Nat.div_le_self _ _)
 refine Zc<|Zc<|Zg<|mv J<|dt (Xx J J Zcw J zT9 J J)<|dt (Ok (i:=1) J J J iA9 J)<|dt (Cp J J uT9)<|dt (Xu J J J)<|Zf<|Za<|Zq J (fun h157=>?_) (fun h157=>?_)
 ·have hby:((Qq x.natAbs).data.toList.getD i 0).toNat=n/256^((dg 256 n).length-1-i)%256:=by rw [←hn];exact Zds n i (by omega)
  refine Zj<|Za<|Zc<|Zl<|Hb (fun _=>False) [10]<|Zy (n:=5) [(0,0),(2,0),(3,0),(4,0),(5,0),(6,0)]<|r0' J J (st0 (Ym J J))<|r0' J J (st0 (Xx J J Zcw J zT9 J J))<|r0' J J (st0 (Ok (i:=1) J J J iA9 J))<|r0' J J (st0 (Ym J J))<|r0' J J (st0 (Zp2 (i:=i) J J J uT9 J))<|r0' J J (st0 (Aa J J uT5 uT3 ⟨by omega,by rw [hby];omega⟩))<|Yo<|Pu (n:=4) 1 7 ?_ ?_
  ·exact Yp J (Zh (n:=73) (Zhs _ _ 256) J J J K2 call76 (Zb 70 J J J Ze) J hw) fun v _=>Zy (n:=2) [(7,1),(8,1)]<|r1' J (Pn (i:=72) (ivs:=[(0,_)]) (enc:=Ds) [((Qq x.natAbs).data.toList.getD i 0).toNat] J J K2 Ny ti3 J J J J J pN.cells J J hw) fun v_2 _=>r1' J (Zh (n:=2) (Lz _ _) J J J K1 call77 (Xw 72 J J pN Ze) J hw) fun _ _=>Yo<|Zyi (Zf1 72 J J pN)<|Zyi (Zcx 72 (tz_one Nd (by rw [hby];omega)) J J)<|Zy (n:=0) [(9,1),(10,3)]<|r1' J (Zh (n:=74) (Zrq _ _ _ _ (by have:=Zir (y:=(n/256^((dg 256 n).length-i))) (n:=256) (by omega);omega) (by rw [hby];exact Nat.le_trans (Zis _) (by omega))) J J J K2 call75 (Zb 73 J J J (Xw 72 J J pN Ze)) J hw) fun v_3 _=>r3' J (Px (Lq J J) J) fun _ _=>Yo<|Yg<|Oa<|Za<|Zg<|mv J<|dt (Ys J J J ⟨by omega,by omega⟩)<|as_ J<|Zf<|Qv (Oc 74 70 J J J)<|Xk (i+1,_) (by first | omega | (dsimp only<;>omega)) (by first | omega | (dsimp only<;>omega)) K4 ⟨by rw [hby,Zj7 (by omega)];rfl,rfl,rfl,rfl,trivial⟩
  ·exact Yp J (Pn (i:=72) (ivs:=[(0,_)]) (enc:=Ds) [((Qq x.natAbs).data.toList.getD i 0).toNat] J J K2 Ny ti3 J J J J J pN.cells J J hw) fun v_4 _=>Zy (n:=2) [(1,1),(8,1)]<|r1' J (Zh (n:=73) (Zhs _ _ 256) J J J K2 call76 (Zb 70 J J J Ze) J hw) fun v_5 _=>r1' J (Zh (n:=2) (Lz _ _) J J J K1 call77 (Xw 72 J J pN Ze) J hw) fun _ _=>Yo<|Zyi (Zf1 72 J J pN)<|Zyi (Zcx 72 (tz_one Nd (by rw [hby];omega)) J J)<|Zy (n:=0) [(9,1),(10,3)]<|r1' J (Zh (n:=74) (Zrq _ _ _ _ (by have:=Zir (y:=(n/256^((dg 256 n).length-i))) (n:=256) (by omega);omega) (by rw [hby];exact Nat.le_trans (Zis _) (by omega))) J J J K2 call75 (Zb 73 J J J (Xw 72 J J pN Ze)) J hw) fun v_6 _=>r3' J (Px (Lq J J) J) fun _ _=>Yo<|Yg<|Oa<|Za<|Zg<|mv J<|dt (Ys J J J ⟨by omega,by omega⟩)<|as_ J<|Zf<|Qv (Oc 74 70 J J J)<|Xk (i+1,_) (by first | omega | (dsimp only<;>omega)) (by first | omega | (dsimp only<;>omega)) K4 ⟨by rw [hby,Zj7 (by omega)];rfl,rfl,rfl,rfl,trivial⟩
 ·refine Yu<|Zu<|Zu<|Ox<|Za<|Zc ?_
  obtain rfl:i=(dg 256 n).length:=by omega
  rw [Nat.sub_self,Nat.pow_zero,Nat.div_one]
  exact Zg<|dt (Xx J J Zcw J zT4 J J)<|dt (Ok (i:=1) J J J iA4 J)<|mv J<|tt (Zh (n:=2) (Bw _ _ _ (x) hn (Xl x) (by rw [hn];omega)) J J J K2 call78 (Zb 70 J J J Ze) J hw) fun _ _=>tt (Zm (i:=2) J J J J J (by decide) J Qe J J ⟨Zd J,Zt (i:=70) J Zi,trivial⟩ J hw trivial) fun _ _=>Zf<|Za<|Zv<|Yn (.inl J) hsc _ _ (fun a w hs=>Nn hs results30 (Yr (i:=2) J J Lg Qe J)) J trivial J (Yk 70 J J J (by rw [hn]<;>rfl) Zk)
set_option maxHeartbeats 4000000 in
theorem r_to(v:Value)(x:Int)(hx:bl x.natAbs≤4000000000:=by omega):Ml prog 53 #[.agg #[.bool (decide (x<0)),v]] [d9p v x.natAbs] (wv x):=by
 refine Ya func53 J ntmps53 J K1 ?_
 intro w0 sc hw hsc
 simp only [Zp,Zn]
 obtain⟨n,hn⟩:∃n,n=x.natAbs:=⟨_,rfl⟩
 have hxn:bl n≤4000000000:=by rw [hn];exact hx
 have hlx:=Ko x.natAbs
 refine Zc<|Zg<|tt (Xe (i:=2) J J J J J hw) fun b _=>tt (Zo (i:=3) J J zeroValue31 J J hw) fun b_2 _=>Zf<|Za<|Zc<|Zg<|as_ J<|Zf<|Za<|Zc<|Zg<|dt (Xx J J Zab J Zix J J)<|dt (Ok (i:=2) J J J Zj1 J)<|Pr (Nj 81 1 3 Ds)<|tt (Im (i:=81) (j:=1) (by_:=8) J J J J J J (by decide) J Zi Ny ti3 J pN J J J (by simp;omega) (by decide) J hw) fun v _=>as_ J<|Zf<|Za<|Zc<|Zl<|Yl (Nj 80 1 5 Zqa)<|Nt [(1,_),(2,_)] [(0,_),(1,_),(2,_),(3,_)] (fun(q:Nat×List Nat×Value×Value)=>[(3,q.2.2.1),(4,q.2.2.2)]) (fun(q:Nat×List Nat×Value×Value)=>[(80,osl 1 5 Zqa q.2.2.1 q.2.1),(81,osl 1 3 Ds q.2.2.2 (dg 1000000000 q.1))]) (fun(q:Nat×List Nat×Value×Value)=>(val 256 q.2.1+256^q.2.1.length*q.1=n)∧(∀d∈q.2.1,d<256)∧(q.2.1.length=0∨256^(q.2.1.length-1)≤n)∧(bl q.1≤bl n)) (fun(q:Nat×List Nat×Value×Value)=>q.1) (n,[],.slice none 0 0,_) ⟨by simp [val],by simp,.inl rfl,Nat.le_refl _⟩ K4 ⟨J,by rw [hn];rfl,rfl,rfl,rfl,rfl,trivial⟩ ?_
 rintro⟨m,bs,vb,vd⟩ ⟨hv,hba,hge,hmn⟩
 dsimp only at hv hba hge hmn
 simp only [CA,NA]
 have hlm:=Ko m
 refine Zc<|Zc<|Zg<|mv J<|dt (Yb J J (i:=81) J (Yq pN) Ny)<|dt (Oq J J J)<|Zf<|Za<|Zq J (fun h167=>?_) (fun h167=>?_)
 ·have hm0:0<m:=Zia (by omega)
  have hgn:=to_ge hv hm0
  have hbl:=to_len hgn
  refine Zj<|Za<|Zl<|Zc<|Zg<|as_ J<|Zf<|Za<|Zc<|Zc<|Zg<|mv J<|dt (Yb J J (i:=81) J (Yq pN) Ny)<|dt (Qa J J J ⟨by omega,by omega⟩)<|as_ J<|Zf<|Za<|Zl<|Nt [(1,_),(2,_),(3,_),(4,_)] [(0,_),(80,_),(1,_),(2,_),(3,_)] (fun(q:Nat×List Nat×Nat)=>[(6,.int .i64 ((q.1:Int)-1)),(5,.int .i64 (q.2.2:Int))]) (fun(q:Nat×List Nat×Nat)=>[(81,osl 1 3 Ds vd q.2.1)]) (fun(q:Nat×List Nat×Nat)=>(q.1≤(dg 1000000000 m).length)∧(q.2.1.length=(dg 1000000000 m).length)∧(∀d∈q.2.1,d<1000000000)∧(∀j,j<q.1→q.2.1.getD j 0=(dg 1000000000 m).getD j 0)∧(q.2.2<256)∧(val 1000000000 (q.2.1.drop q.1)*256+q.2.2=val 1000000000 ((dg 1000000000 m).drop q.1))) (fun(q:Nat×List Nat×Nat)=>q.1) ((dg 1000000000 m).length,dg 1000000000 m,0) ⟨Nat.le_refl _,J,Li Nd m,fun j _=>J,by first | omega | (dsimp only<;>omega),by simp [List.drop_length,val]⟩ K6 K6 ?_
  rintro⟨k,p,r⟩ ⟨hk,hpl,hpa,hpk,hr,hpv⟩
  dsimp only at hk hpl hpa hpk hr hpv
  simp only [CA,NA]
  have hda:=Qm Ho (Li Nd m) (k-1)
  refine Zc<|Zc<|Zg<|mv J<|dt (Lx J J J)<|Zf<|Za<|Zq J (fun h169=>?_) (fun h169=>?_)
  ·exact Zj<|Za<|Zc<|Zl<|Zc<|Zg<|mv J<|dt (n_mul (n:=1000000000) J J J (by omega))<|mv J<|mv J<|dt (Yw (ii:=81) (i:=(k-1)) J J J J (Yq pN) Ny zT3)<|dt (Xm (ii:=81) 0 J J J (Yq pN) pN)<|dt (Zh5 J J J (by have:=Qm Ho hpa (k-1);omega))<|as_ J<|Zf<|Za<|Zc<|Zg<|mv J<|mv J<|mv J<|dt (Zlt (n:=256) J J J (by have:=Qm Ho hpa (k-1);omega) (by omega))<|dt (Yw (ii:=81) (i:=(k-1)) J J J J (Yq pN) Ny zT3)<|tt (Kz (i:=81) (enc:=Ds) _ J J J J J J pN J hw) fun _ _=>Zf<|Za<|Zg<|mv J<|dt (Zso (n:=256) J J J (by omega))<|as_ J<|Zf<|Oa<|Za<|Zg<|mv J<|dt (Qa J J J ⟨by omega,by omega⟩)<|as_ J<|Zf<|Xk (k-1,_,_) ⟨by first | omega | (dsimp only<;>omega),by simp [hpl],Ln hpa _ _ (Zvj hr (Qm Ho hpa _)),fun j hj=>by dsimp only at hj ⊢;rw [Nm _ _ _ _ _ (by omega),if_neg (by omega)];exact hpk j (by omega),Nat.mod_lt _ (by omega),by dsimp only;rw [hpk (k-1) (by omega)];exact to_step (by omega) (by omega) (by omega) hpv⟩ (by first | omega | (dsimp only<;>omega)) ⟨by rw [show(((k-1:Nat):Int)-1)=(k:Int)-1-1 by omega];rfl,rfl,rfl,rfl,rfl,rfl,trivial⟩ K6
  ·refine Yu<|Zu<|Zu<|Ox<|Za<|Zc ?_
   obtain rfl:k=0:=by omega
   rw [List.drop_zero,List.drop_zero,My Nd]at hpv
   have hmr:m%256=r%256:=by omega
   have hdm:dg 1000000000 (m/256)=tz p:=by rw [←Kk Nd p hpa];congr 1;omega
   exact Zg<|mv J<|mv J<|dt (Zfr J J uT3 uT5)<|tt (Pn (i:=4) (ivs:=[(0,_)]) (enc:=Zqa) [r%256] J J K2 Zkv ti5 J J J J J pB.cells J J hw) fun v_2 _=>tt (Im (i:=80) (j:=4) (by_:=1) J J J J J J (by decide) J (Yq pB) Zkv ti5 J pB J J J (by simp;omega) (by decide) J hw) fun v_3 _=>as_ J<|Zf<|Za<|Zg<|mv J<|tt (Zh (n:=4) (Lz _ _) J J J K1 call77 (Xw 81 J J pN Ze) J hw) fun _ _=>Pr (Zf1 81 J J pN)<|as_ J<|Zf<|Oa<|Xk (m/256,bs ++ [m%256],_,_) ⟨to_push hv,Ziu hba (Nat.mod_lt _ (by omega)),.inr (by simpa using hgn),Nat.le_trans (Ow (Nat.div_le_self _ _)) hmn⟩ (Nat.div_lt_self hm0 (by omega)) K4 ⟨by rw [hmr];rfl,by rw [hdm];rfl,rfl,rfl,rfl,rfl,trivial⟩
 ·have hm0:m=0:=(Ph Nd m).1 (by omega)
  have hbs:bs=dg 256 n:=Zqr (by omega) hba (by rw [hm0,Nat.mul_zero,Nat.add_zero]at hv;exact hv) hge
  have hlb:bs.length≤4000000000:=by rw [hbs,Za2];omega
  refine Yu<|Zu<|Zu<|Ox<|Za<|Zc<|Zg<|as_ J<|Zf<|Za<|Zc<|Zc<|Zg<|mv J<|dt (Yb J J (i:=80) J (Yq pB) Zkv)<|dt (Qa J J J ⟨by omega,by omega⟩)<|as_ J<|Zf<|Za<|Zl<|Yl (Nj 82 1 5 Zqa)<|Nt [(1,_),(2,_),(3,_)] [(0,_),(80,_),(81,_),(1,_),(2,_),(3,_)] (fun(q:Nat×Value)=>[(8,.int .i64 ((q.1:Int)-1)),(7,q.2)]) (fun(q:Nat×Value)=>[(82,osl 1 5 Zqa q.2 (bs.drop q.1).reverse)]) (fun(q:Nat×Value)=>q.1≤bs.length) (fun(q:Nat×Value)=>q.1) (bs.length,.slice none 0 0) (Nat.le_refl _) K5 ⟨by rw [List.drop_length];rfl,rfl,rfl,rfl,rfl,rfl,rfl,trivial⟩ ?_
  rintro⟨k,vo⟩ hk
  dsimp only at hk
  simp only [CA,NA]
  have hdl:(bs.drop k).length=bs.length-k:=List.length_drop
  refine Zc<|Zc<|Zg<|mv J<|dt (Lx J J J)<|Zf<|Za<|Zq J (fun h178=>?_) (fun h178=>?_)
  ·exact Zj<|Za<|Zc<|Zl<|Zg<|mv J<|mv J<|mv J<|dt (Yw (ii:=80) (i:=(k-1)) J J J J (Yq pB) Zkv sizeOf5)<|dt (Xm (ii:=80) 0 J J J (Yq pB) pB)<|tt (Pn (i:=5) (ivs:=[(0,_)]) (enc:=Zqa) [bs.getD (k-1) 0] J J K2 Zkv ti5 J J J J J pB.cells J J hw) fun v_4 _=>tt (Im (i:=82) (j:=5) (by_:=1) J J J J J J (by decide) J (Yq pB) Zkv ti5 J pB J J J (by simp;omega) (by decide) J hw) fun v_5 _=>as_ J<|Zf<|Oa<|Za<|Zg<|mv J<|dt (Qa J J J ⟨by omega,by omega⟩)<|as_ J<|Zf<|Xk (k-1,_) (by first | omega | (dsimp only<;>omega)) (by first | omega | (dsimp only<;>omega)) ⟨by rw [show(((k-1:Nat):Int)-1)=(k:Int)-1-1 by omega];rfl,rfl,rfl,rfl,rfl,trivial⟩ ⟨by rw [←Zxy (by omega) hk];rfl,rfl,rfl,rfl,rfl,rfl,rfl,trivial⟩
  ·refine Yu<|Zu<|Zu<|Ox<|Za<|Zc<|Zg<|dt (Xx J J Zab J zT4 J J)<|dt (Ok (i:=2) J J J iA4 J)<|mv J<|dt (d_b2s J J (i:=82) J (Yq pB) Zkv uT9 uT5)<|dt (Pz (ivs:=[(0,_),(1,_)]) J K4 (fun a w hs=>Zu2 ((Zd J) a w hs) ((Zd J) a w hs)))<|tt (Zm (i:=3) J J J J J (by decide) J Yj J J ⟨Zd J,Zd J,trivial⟩ J hw trivial) fun _ _=>Zf<|Za<|Zv ?_
   obtain rfl:k=0:=by omega
   exact Yn (.inl J) hsc () _ (fun a w hs=>Nn hs results53 (Yr (i:=3) J J Qj Yj J)) (by rw [bstr_bs hbs,hn]<;>rfl) trivial J Zk
theorem r_bits(v:Value)(x:Int)(hx:bl x.natAbs≤4000000000:=by omega):Ml prog 97 #[.agg #[.bool (decide (x<0)),v]] [d9p v x.natAbs] (.int .i64 (bl x.natAbs:Int)):=by
 refine Ya func97 J ntmps97 J K1 ?_
 intro w0 sc hw hsc
 simp only [Zp,Zn]
 have hl8:=Za2 x.natAbs
 have hsz:=Mw x.natAbs
 refine Zc<|Zg<|tt (Xe (i:=2) J J J J J hw) fun b _=>as_ J<|Zf<|Za<|Zc<|Zg<|dt (Zz (i:=2) J J J Lg Qe J J)<|tt (Zh (n:=2) (r_to _ _ hx) J J J K1 call53 (Zb 1 J J J Ze) J hw) fun _ _=>dt (d_fld J J Zcw J iA9 J)<|as_ J<|Zf<|Za<|Zc<|Zc<|Zg<|mv J<|dt (Cp J J uT9)<|dt (Pm J J J)<|Zf<|Za<|Zq J (fun h260=>?_) (fun h260=>?_)
 ·exact Zc<|Zg<|as_ J<|Zf<|Za<|Zv<|Xc<|xU hsc results97 J J (by have h1:x.natAbs=0:=(Ph (by omega:2≤256) x.natAbs).1 (by omega);rw [h1]<;>rfl)
 ·have hn0:0<x.natAbs:=by rcases Nat.eq_zero_or_pos x.natAbs with h | h;(rw [h]at h260;simp [Mw,Ii]at h260);exact h
  obtain⟨htop,hlp⟩:=bl_top hn0
  have hby:((Qq x.natAbs).data.toList.getD 0 0).toNat=x.natAbs/256^((dg 256 x.natAbs).length-1)%256:=Zds x.natAbs 0 hlp
  refine Zj<|Za<|Zc<|Zg<|mv J<|dt (Cp J J uT9)<|dt (Qa J J J ⟨by omega,by omega⟩)<|dt (Gq J J J ⟨by omega,by omega⟩)<|as_ J<|Zf<|Za<|Zc<|Zc<|Zg<|mv J<|dt (Zp2 (i:=0) J J J uT9 J)<|dt (Aa J J uT5 uT3 ⟨by omega,by rw [hby];omega⟩)<|as_ J<|Zf<|Za<|Zl<|Nt [] [(0,_),(1,_),(2,_)] (fun(q:Nat×Nat)=>[(4,.int .i64 (q.2:Int)),(5,.int .i64 (q.1:Int))]) (fun(q:Nat×Nat)=>[]) (fun(q:Nat×Nat)=>(q.2+bl q.1=bl x.natAbs)∧(q.1<256)) (fun(q:Nat×Nat)=>q.1) (x.natAbs/256^((dg 256 x.natAbs).length-1)%256,8*((dg 256 x.natAbs).length-1)) ⟨htop,Nat.mod_lt _ (by omega)⟩ ⟨by rw [hsz,show(8:Int)*(((dg 256 x.natAbs).length:Int)-1)=((8*((dg 256 x.natAbs).length-1):Nat):Int) by omega];rfl,by rw [hby];rfl,trivial⟩ K3 ?_
  rintro⟨k,c⟩ ⟨hkc,hk8⟩
  dsimp only at hkc hk8
  simp only [CA,NA]
  refine Zc<|Zc<|Zg<|mv J<|dt (Oq J J J)<|Zf<|Za<|Zq J (fun h264=>?_) (fun h264=>?_)
  ·have hbh:=bl_half (k:=k) (by omega)
   exact Zj<|Za<|Zc<|Zl<|Zg<|mv J<|dt (Ys J J J ⟨by omega,by omega⟩)<|as_ J<|Zf<|Oa<|Za<|Zg<|mv J<|dt (Zih J J J)<|as_ J<|Zf<|Xk (k/2,c+1) ⟨by dsimp only;omega,by first | omega | (dsimp only<;>omega)⟩ (by first | omega | (dsimp only<;>omega)) ⟨by rfl,by exact congrArg some (Dr (by omega)),trivial⟩ K3
  ·exact Yu<|Zu<|Zu<|Ox<|Za<|Zc<|Zg<|mv J<|as_ J<|Zf<|Za<|Zv<|xU hsc results97 J J (by have h1:k=0:=(by omega);rw [←hkc,h1]<;>rfl)
theorem r_gcd(v w:Value)(x y:Int)(hy:bl y.natAbs≤3000000000)(hx:bl x.natAbs≤3000000000:=by omega):Cal prog 71 #[.agg #[.bool (decide (x<0)),v],.agg #[.bool (decide (y<0)),w]] [d9p v x.natAbs,d9p w y.natAbs] true (G:=Value) (fun r=>True) (fun r=> .agg #[.bool (decide ((Int.gcd x y:Int)<0)),r]) (fun r=>[d9p r ((Int.gcd x y:Int)).natAbs]):=by
 refine Ya func71 J ntmps71 J K2 ?_
 intro w0 sc hw hsc
 simp only [Zp,Zn]
 refine Zc<|Zg<|tt (Xe (i:=3) J J J J J hw) fun b _=>tt (Xe (i:=4) J J J J J hw) fun b_2 _=>tt (Zo (i:=5) J J zeroValue48 J J hw) fun b_3 _=>Zf<|Za<|Zc<|Ql (fun _=>False) [(0,0),(1,0),(2,0),(3,0),(4,0),(5,3)] ?_ ?_
 ·kernel_rfl
 refine r0' J J (st0 (Xx J J Zab J Zix J J))<|r0' J J (st0 (Ok (i:=3) J J J Zj1 J))<|r0' J J (st0 (Xx J J Zab J Zix J J))<|r0' J J (st0 (Ok (i:=4) J J J Zj1 J))<|r0' J J (st0 (Lq J J))<|r3' J (Px (Lq J J) J) fun _ _=>Og<|Za<|Zc<|Zl<|Yl (Oc 1 91 J J J)<|Yl (Oc 2 92 J J J)<|Nt [(4,_)] [(0,_),(1,_),(2,_),(3,_),(4,_),(5,_)] (fun(q:Value×Value×Nat×Nat)=>[(5,q.1),(6,q.2.1)]) (fun(q:Value×Value×Nat×Nat)=>[(91,d9p q.1 q.2.2.1),(92,d9p q.2.1 q.2.2.2)]) (fun(q:Value×Value×Nat×Nat)=>(Nat.gcd q.2.2.1 q.2.2.2=Nat.gcd x.natAbs y.natAbs)∧(bl q.2.2.1≤3000000000)∧(bl q.2.2.2≤3000000000)) (fun(q:Value×Value×Nat×Nat)=>q.2.2.2) (v,w,x.natAbs,y.natAbs) ⟨J,hx,hy⟩ K3 K8 ?_
 rintro⟨va,vb,a,b⟩ ⟨hg,ha,hb⟩
 dsimp only at hg ha hb
 simp only [CA,NA]
 refine Zc<|Zc<|Zg<|mv J<|dt (Yb J J (i:=92) J Zi Ny)<|dt (Oq J J J)<|Zf<|Za<|Zq J (fun h238=>?_) (fun h238=>?_)
 ·have hb0:0<b:=Zia (by omega)
  refine Zj<|Za<|Zl<|Zc<|Zg<|mv J<|mv J<|tt (Zh (n:=6) (r_over _ _ _ _ hb0) J J J K2 call124 (Zb 91 J J J (Zb 92 J J J Ze)) J hw) fun g _=>mv J<|dt (Yf J J J)<|dt (Yf J J J)<|as_ J<|as_ J<|Zf<|Za<|Zg<|mv J<|mv J<|as_ J<|as_ J<|Zf<|Oa ?_
  have hlt:a%b<b:=Nat.mod_lt _ hb0
  exact Qv (Oc 92 91 J J J)<|Qv (Oc 7 92 J J J)<|Xk (_,_,b,a%b) ⟨by dsimp only;rw [←hg,Nat.gcd_comm b,←Nat.gcd_rec,Nat.gcd_comm],hb,Nat.le_trans (Ow (Nat.le_of_lt hlt)) hb⟩ hlt K3 K8
 ·have hb0:b=0:=(Ph Nd b).1 (by omega)
  have ha0:a=Nat.gcd x.natAbs y.natAbs:=by rw [←hg,hb0,Nat.gcd_zero_right]
  exact Yu<|Zu<|Zu<|Ox<|Za<|Zc<|Zg<|mv J<|tt (Zh (n:=7) (Bw _ _ _ ((Int.gcd x y:Int)) (by rw [ha0]<;>rfl) (by simp [sg]) (by omega)) J J J K2 call78 (Zb 91 J J J Ze) J hw) fun _ _=>tt (Zm (i:=5) J J J J J (by decide) J Qe J J ⟨Zd J,Zt (i:=91) J Zi,trivial⟩ J hw trivial) fun _ _=>Zf<|Za<|Zv<|Yn (.inl J) hsc _ _ (fun a w hs=>Nn hs results71 (Yr (i:=5) J J Lg Qe J)) J trivial J (Yk 91 J J J (by rw [ha0]<;>rfl) Zk)
set_option maxHeartbeats 4000000 in
theorem Fj(v w:Value)(x y:Int)(hx:bl x.natAbs≤500000000)(hy0:y≠0)(hy:bl y.natAbs≤500000000:=by omega):Cal prog 74 #[.agg #[.bool (decide (x<0)),v],.agg #[.bool (decide (y<0)),w]] [d9p v x.natAbs,d9p w y.natAbs] true (G:=Value×Value) (fun r=>True) (fun r=> .tuple #[.agg #[.bool (decide (x/y<0)),r.1],.agg #[.bool (decide (x%y<0)),r.2]]) (fun r=>[d9p r.1 (x/y).natAbs,d9p r.2 (x%y).natAbs]):=by
 refine Ya func74 J ntmps74 J K2 ?_
 intro w0 sc hw hsc
 simp only [Zp,Zn]
 have hyp:0<y.natAbs:=by omega
 have hb1:=bl_tdiv x y
 have hb2:=Zp4 x y
 have hb3:=Fp x (x.tdiv y*y)
 have hsf:=sub_fix (x:=x) hy0
 have hb4:=Fp (x.tdiv y) 1
 have hb5:=Kf (x.tdiv y) 1
 have hb6:bl (1:Int).natAbs≤1:=by decide
 have hb7:=Xs (x.tdiv y-1) y
 have hb8:=Xs (x.tdiv y+1) y
 refine Zc<|Zg<|tt (Xe (i:=3) J J J J J hw) fun b _=>tt (Xe (i:=4) J J J J J hw) fun b_2 _=>tt (Zo (i:=5) J J zeroValue48 J J hw) fun b_3 _=>tt (Zo (i:=6) J J zeroValue48 J J hw) fun b_4 _=>Zf<|Za<|Zc<|Zg<|dt (Xx J J Zab J Zix J J)<|dt (Ok (i:=3) J J J Zj1 J)<|dt (Xx J J Zab J Zix J J)<|dt (Ok (i:=4) J J J Zj1 J)<|tt (Zh (n:=70) (r_over _ _ _ _ hyp) J J J K2 call124 (Zb 1 J J J (Zb 2 J J J Ze)) J hw) fun g _=>mv J<|dt (Yf J J J)<|dt (Yf J J J)<|as_ J<|as_ J<|Zf<|Za<|Zc<|Zg<|dt (Xx J J Zab J zT4 J J)<|dt (Ok (i:=3) J J J iA4 J)<|dt (Xx J J Zab J zT4 J J)<|dt (Ok (i:=4) J J J iA4 J)<|dt (Zp1 J J J uT4)<|mv J<|tt (Zh (n:=6) (Bw _ _ _ (x.tdiv y) (Zg3 x y) (sg_tdiv x y) (by rw [Zg3];omega)) J J J K2 call78 (Zb 70 J J J Ze) J hw) fun _ _=>Pr (Gp 70 (congrArg (d9p _) (Zg3 x y)) J J)<|tt (Zo (i:=97) J J zeroValue48 J J hw) fun b_5 _=>tt (Zm (i:=97) J J J J J (by decide) J Qe J J ⟨Zd J,Zt (i:=70) J Zi,trivial⟩ J hw trivial) fun _ _=>Zf<|Za ?_
 refine Dj [(2,_),(3,_),(4,_),(5,_),(7,_),(8,_)] [(0,_),(1,_),(2,_),(3,_),(4,_),(5,_),(6,_),(70,_),(71,_),(97,_)] (fun(q:Value×Nat)=>[(9,.pointer (some ⟨q.2,0,none⟩))]) (fun(q:Value×Nat)=>[(72,d9p q.1 (x-x.tdiv y*y).natAbs),(98,box q.2 48 #[.bool (decide ((x-x.tdiv y*y)<0)),q.1])]) (fun(q:Value×Nat)=>True) K6 K10 ?_ ?_
 ·refine Hb (fun _=>False) [6]<|Zy (n:=4) [(0,0),(1,0),(2,0)]<|r0' J J (st0 (Zz (i:=3) J J J Lg Qe J J))<|r0' J J (st0 (Zz (i:=97) J J J Lg Qe J J))<|r0' J J (st0 (Zz (i:=4) J J J Lg Qe J J))<|Yo<|Pu (n:=3) 3 5 ?_ ?_
  ·refine Yp J (Zh (n:=73) (Bo _ _ _ _) J J J K2 Zkt (Zb 70 J J J (Zb 2 J J J Ze)) J hw) fun v _=>Pu (n:=2) 4 5 ?_ ?_
   ·exact Yp J (Zh (n:=72) (Zjm _ _ _ _) J J J K2 call87 (Zb 1 J J J (Zb 73 J J J Ze)) J hw) fun v_2 _=>Zy (n:=0) [(5,1),(6,3)]<|r1' J (Zo (i:=98) J J zeroValue48 J J hw) fun b_6 _=>r3' J (Zm (i:=98) J J J J J (by decide) J Qe J J ⟨Zd J,Zt (i:=72) J Zi,trivial⟩ J hw trivial) fun _ _=>Yo<|Yg<|Qy (_,_) trivial K7 K12
   ·exact Yp J (Zo (i:=98) J J zeroValue48 J J hw) fun b_7 _=>Zy (n:=0) [(4,1),(6,3)]<|r1' J (Zh (n:=72) (Zjm _ _ _ _) J J J K2 call87 (Zb 1 J J J (Zb 73 J J J Ze)) J hw) fun v_3 _=>r3' J (Zm (i:=98) J J J J J (by decide) J Qe J J ⟨Zd J,Zt (i:=72) J Zi,trivial⟩ J hw trivial) fun _ _=>Yo<|Yg<|Qy (_,_) trivial K7 K12
  ·exact Yp J (Zo (i:=98) J J zeroValue48 J J hw) fun b_8 _=>Zy (n:=0) [(3,1),(4,1),(6,3)]<|r1' J (Zh (n:=73) (Bo _ _ _ _) J J J K2 Zkt (Zb 70 J J J (Zb 2 J J J Ze)) J hw) fun v_4 _=>r1' J (Zh (n:=72) (Zjm _ _ _ _) J J J K2 call87 (Zb 1 J J J (Zb 73 J J J Ze)) J hw) fun v_5 _=>r3' J (Zm (i:=98) J J J J J (by decide) J Qe J J ⟨Zd J,Zt (i:=72) J Zi,trivial⟩ J hw trivial) fun _ _=>Yo<|Yg<|Qy (_,_) trivial K7 K12
 ·rintro⟨vr,b9⟩ -
  simp only [CA,NA]
  refine Dj [(4,_),(5,_),(7,_),(8,_),(9,_)] [(0,_),(72,_),(1,_),(2,_),(3,_),(4,_),(5,_),(6,_),(70,_),(71,_)] (fun(q:Value×Value)=>[]) (fun(q:Value×Value)=>[(75,d9p q.1 (x/y).natAbs),(76,d9p q.2 (x%y).natAbs),(97,box b_5 48 #[.bool (decide (x/y<0)),q.1]),(98,box b9 48 #[.bool (decide (x%y<0)),q.2])]) (fun(q:Value×Value)=>True) K5 K10 ?_ ?_
  ·refine Zc<|Zg<|dt (Zz (i:=98) J J J Lg Qe J J)<|tt (Zh (n:=6) (Cc _ _) J J J K1 call72 (Zb 72 J J J Ze) J hw) fun _ _=>dt (Xu J J J)<|Zf<|Za<|Zq J (fun h223=>?_) (fun h223=>?_)
   ·have hrn:x.tmod y<0:=by rw [←hsf];exact(Qk _).1 h223
    refine Zc<|Zc<|Zg<|dt (Zz (i:=4) J J J Lg Qe J J)<|tt (Zh (n:=6) (Cc _ _) J J J K1 call72 (Zb 2 J J J Ze) J hw) fun _ _=>dt (Oq J J J)<|Zf<|Za<|Zq J (fun h224=>?_) (fun h224=>?_)
    ·have hyp0:0<y:=by have h2:=decide_eq_decide.1 (Gw y);omega
     obtain⟨hq,hr⟩:=quo_pos hyp0 hrn
     refine Ql (fun _=>False) [(0,0),(1,1),(2,3),(3,3)] ?_ ?_
     ·kernel_rfl
     refine r0' J J (st0 (Zz (i:=97) J J J Lg Qe J J))<|r1' J (Zh (n:=7) (Cd 1 ⟨by omega,by omega⟩) J J J K1 call34 Ze J hw) fun v_6 _=>r3' J (Zh (n:=8) (Zjm _ _ _ _) J J J K2 call87 (Zb 70 J J J (Zb 7 J J J Ze)) J hw) fun v_7 _=>r3' J (Zm (i:=97) J J J J J (by decide) J Qe J J ⟨Zd J,Zt (i:=8) J Zi,trivial⟩ J hw trivial) fun _ _=>Og<|Za<|Ql (fun _=>False) [(0,0),(1,0),(2,0),(3,1),(4,1),(5,3)] ?_ ?_
     ·kernel_rfl
     exact r0' J J (st0 (Zz (i:=3) J J J Lg Qe J J))<|r0' J J (st0 (Zz (i:=97) J J J Lg Qe J J))<|r0' J J (st0 (Zz (i:=4) J J J Lg Qe J J))<|r1' J (Zh (n:=9) (Bo _ _ _ _) J J J K2 Zkt (Zb 8 J J J (Zb 2 J J J Ze)) J hw) fun v_8 _=>r1' J (Zh (n:=10) (Zjm _ _ _ _) J J J K2 call87 (Zb 1 J J J (Zb 9 J J J Ze)) J hw) fun v_9 _=>r3' J (Zm (i:=98) J J J J J (by decide) J Qe J J ⟨Zd J,Zt (i:=10) J Zi,trivial⟩ J hw trivial) fun _ _=>Og<|Qv (Oc 8 75 J J J)<|Qv (Oc 10 76 J J J)<|Qy (v_7,v_9) trivial K5 ⟨by rw [hq];rfl,by rw [hr];rfl,by rw [hq];rfl,by rw [hr];rfl,rfl,rfl,rfl,rfl,rfl,rfl,rfl,rfl,rfl,rfl,trivial⟩
    ·have hyn0:y<0:=by have h2:=decide_eq_decide.1 (Gw y);omega
     obtain⟨hq,hr⟩:=quo_neg hyn0 hrn
     refine Ql (fun _=>False) [(0,0),(1,1),(2,3),(3,3)] ?_ ?_
     ·kernel_rfl
     refine r0' J J (st0 (Zz (i:=97) J J J Lg Qe J J))<|r1' J (Zh (n:=11) (Cd 1 ⟨by omega,by omega⟩) J J J K1 call34 Ze J hw) fun v_10 _=>r3' J (Zh (n:=12) (Zpp _ _ _ _) J J J K2 call37 (Zb 70 J J J (Zb 11 J J J Ze)) J hw) fun v_11 _=>r3' J (Zm (i:=97) J J J J J (by decide) J Qe J J ⟨Zd J,Zt (i:=12) J Zi,trivial⟩ J hw trivial) fun _ _=>Og<|Za<|Ql (fun _=>False) [(0,0),(1,0),(2,0),(3,1),(4,1),(5,3)] ?_ ?_
     ·kernel_rfl
     exact r0' J J (st0 (Zz (i:=3) J J J Lg Qe J J))<|r0' J J (st0 (Zz (i:=97) J J J Lg Qe J J))<|r0' J J (st0 (Zz (i:=4) J J J Lg Qe J J))<|r1' J (Zh (n:=13) (Bo _ _ _ _) J J J K2 Zkt (Zb 12 J J J (Zb 2 J J J Ze)) J hw) fun v_12 _=>r1' J (Zh (n:=14) (Zjm _ _ _ _) J J J K2 call87 (Zb 1 J J J (Zb 13 J J J Ze)) J hw) fun v_13 _=>r3' J (Zm (i:=98) J J J J J (by decide) J Qe J J ⟨Zd J,Zt (i:=14) J Zi,trivial⟩ J hw trivial) fun _ _=>Og<|Qv (Oc 12 75 J J J)<|Qv (Oc 14 76 J J J)<|Qy (v_11,v_13) trivial K5 ⟨by rw [hq];rfl,by rw [hr];rfl,by rw [hq];rfl,by rw [hr];rfl,rfl,rfl,rfl,rfl,rfl,rfl,rfl,rfl,rfl,rfl,trivial⟩
   ·have hrn:¬x.tmod y<0:=by rw [←hsf];exact fun h=>h223 ((Qk _).2 h)
    obtain⟨hq,hr⟩:=Zwo hy0 hrn
    rw [←hsf]at hr
    exact Zj<|Qv (Oc 70 75 J J J)<|Qv (Oc 72 76 J J J)<|Qy (g.1,vr) trivial K5 ⟨by rw [hq];rfl,by rw [hr];rfl,by rw [hq];rfl,by rw [hr];rfl,rfl,rfl,rfl,rfl,rfl,rfl,rfl,rfl,rfl,rfl,trivial⟩
  ·rintro⟨v8,v9⟩ -
   simp only [CA,NA]
   exact Zc<|Zg<|mv J<|Zf<|Za<|Zc<|Oo [97,98] [3]<|Zy (n:=0) [(0,0),(1,0),(2,1),(3,3)]<|r0' J J (stf (Zz (i:=97) J J J Lg Qe J J) K2)<|r0' J J (stf (Zz (i:=98) J J J Lg Qe J J) K2)<|r1' J (Zd4 5 J J K2 (fun ob=>(Zm (i:=5) J J J J J (by decide) J Qe J J ⟨Zd J,Zt (i:=75) J Zi,trivial⟩ J hw ob))) fun _ _=>r3' J (Zm (i:=6) J J J J J (by decide) J Qe J J ⟨Zd J,Zt (i:=76) J Zi,trivial⟩ J hw trivial) fun _ _=>Yo<|Yg<|Za<|Zv<|Yn (.inl J) hsc (_,_) _ (fun a w hs=>Np hs results74 (Yr (i:=5) J J Lg Qe J) (Yr (i:=6) J J Lg Qe J)) J trivial J (Xa 75 J J J (Xa 76 J J J Zk))
theorem Zpo(v w v2 w2:Value)(x y x2 y2:Int)(h0:bl x.natAbs≤100000000:=by omega)(h1:bl y.natAbs≤100000000:=by omega)(h2:bl x2.natAbs≤100000000:=by omega)(h3:bl y2.natAbs≤100000000:=by omega):Ml prog 27 #[.agg #[.bool (decide (x<0)),v,.bool (decide (y<0)),w],.agg #[.bool (decide (x2<0)),v2,.bool (decide (y2<0)),w2]] [d9p v x.natAbs,d9p w y.natAbs,d9p v2 x2.natAbs,d9p w2 y2.natAbs] (.int .i64 (x*y2-x2*y).sign):=by
 refine Ya func27 J ntmps27 J K4 ?_
 intro w0 sc hw hsc
 simp only [Zp,Zn]
 have b1:=Xs x y2
 have b2:=Xs x2 y
 have b3:=Xs y y2
 have b4:=Xs x x2
 have b5:=Kf (x*y2) (x2*y)
 refine Zc<|Zg<|tt (Xe (i:=5) J J J J J hw) fun b _=>tt (Xe (i:=6) J J J J J hw) fun b_2 _=>as_ J<|Zf<|Za<|Zc<|Ql (fun _=>False) [(0,0),(1,0),(2,0),(3,0),(5,0),(6,0),(7,0),(8,0),(4,1),(9,1),(10,1),(11,3)] ?_ ?_
 ·kernel_rfl
 exact r0' J J (st0 (Xx J J uT50 J Qe J J))<|r0' J J (st0 (Zz (i:=5) J J J Lg Qe J J))<|r0' J J (st0 (Xx J J uT50 J Qe J J))<|r0' J J (st0 (Zz (i:=6) J J J Lg Qe J J))<|r0' J J (st0 (Xx J J uT50 J Qe J J))<|r0' J J (st0 (Zz (i:=6) J J J Lg Qe J J))<|r0' J J (st0 (Xx J J uT50 J Qe J J))<|r0' J J (st0 (Zz (i:=5) J J J Lg Qe J J))<|r1' J (Zh (n:=7) (Bo _ _ _ _) J J J K2 Zkt (Zb 1 J J J (Zb 4 J J J Ze)) J hw) fun v _=>r1' J (Zh (n:=8) (Bo _ _ _ _) J J J K2 Zkt (Zb 3 J J J (Zb 2 J J J Ze)) J hw) fun v_2 _=>r1' J (Zh (n:=8) (Zrs _ _ _ _ (by omega) (by omega)) J J J K2 call68 (Zb 7 J J J (Zb 8 J J J Ze)) J hw) fun _ _=>r3' J (Px (Lq J J) J) fun _ _=>Og<|Za<|Zv<|xU hsc results27 J J J
end Go.Sky

