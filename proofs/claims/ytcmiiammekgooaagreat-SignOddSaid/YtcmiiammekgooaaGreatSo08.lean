/- rules, arithmetic and contracts: part 9
   Proved without conditions of its own: each theorem bears its own. -/
import Derived.Test.YtcmiiammekgooaaGreatSo03
import Derived.Test.YtcmiiammekgooaaGreatSo02
import Derived.Test.YtcmiiammekgooaaGreatSo01
import Derived.Test.YtcmiiammekgooaaGreatSo07
set_option linter.all false
namespace Go.Sky
open Go.Proofs
set_option maxRecDepth 20000
set_option maxHeartbeats 4000000
set_option linter.unusedSimpArgs false
theorem r_valid(b:Bool)(s:ByteArray):Cal Tryz.prog 35 #[.agg #[.bool b,.string s]] [] false (G:=Unit) (fun _=>True) (fun _=> .bool (okW b s)) (fun _=>[]):=by
 refine Yd Tryz.func35 J Tryz.ntmps35 J trivial ?_
 intro w0 sc hw hsc
 simp only [Zp,Zn]
 refine Zb<|Zg<|tt (Xl (i:=1) J J J J J J hw) J fun b _=>as_ J J<|Zf<|Za<|Zb<|Zb<|Zg<|dt (Xy J J Zca J zT9 J J) J<|dt (Oa (i:=1) J J J iA9 J) J<|dt (Ca J J uT9) J<|dt (Pi J J J) J<|Zf<|Za<|Zq J (fun h25=>?_) (fun h25=>?_)
 ·exact Zb<|Zg<|dt (Xy J J Zca J zT4 J J) J<|dt (Oa (i:=1) J J J iA4 J) J<|dt (Xo J J) J<|as_ J J<|Zf<|Za<|Zu<|Xe<|Zv (.inl J) hsc () _ (fun a w hs=>Qj hs Tryz.results35 J) (by unfold okW;rw [if_pos (by omega)]) trivial J Zj
 ·refine Zk<|Za<|Zb<|Zg<|dt (Xy J J Zca J zT9 J J) J<|dt (Oa (i:=1) J J J iA9 J) J<|dt (Ca J J uT9) J<|dt (De J J J) J<|mv J J<|Qx (d:=14) J (fun s28=>?_) (fun s28=>?_)
  ·exact gdt (Xy J J Zca J zT9 J J) J J J J<|gdt (Oa (i:=1) J J J iA9 J) J J J J<|gdt (Zpb (i:=0) J J J uT9 J (by omega)) J J J J<|gdt (Qd J J J) J J J J<|dt (Xh J J J) J<|as_ J J<|Zf<|Za<|Zu<|Zv (.inl J) hsc () _ (fun a w hs=>Qj hs Tryz.results35 J) (by unfold okW;rw [if_neg (by omega)];simp_all<;>omega) trivial J Zj
  ·exact gsk J J J J J<|gsk J J J J J<|gsk J J J J J<|gsk J J J J J<|dt (Yh J J J) J<|as_ J J<|Zf<|Za<|Zu<|Zv (.inl J) hsc () _ (fun a w hs=>Qj hs Tryz.results35 J) (by unfold okW;rw [if_neg (by omega)];simp_all<;>omega) trivial J Zj
theorem r_trim(v:Value)(xs:List Nat):Cal Tryz.prog 77 #[v] [slp 1 Dc v xs] true (G:=Unit) (fun _=>True) (fun _=>Fe v (tz xs).length) (fun _=>[slp 1 Dc (Fe v (tz xs).length) (tz xs)]):=by
 refine Yd Tryz.func77 J Tryz.ntmps77 J K1 ?_
 intro w0 sc hw hsc
 simp only [Zp,Zn]
 refine Nw (Zsp (i:=1) J Zi) fun hself=>Nw (Hz (i:=1) J Zi) fun hlen=>Zb<|Zg<|as_ J J<|Zf<|Za<|Zb<|Zl<|Nt [] [(0,_)] (fun(k:Nat)=>[(0,Fe v k)]) (fun(k:Nat)=>[(1,slp 1 Dc (Fe v k) (xs.take k))]) (fun(k:Nat)=>(k≤xs.length)∧(tz (xs.take k)=tz xs)) (fun(k:Nat)=>k) xs.length ⟨Nat.le_refl _,by rw [List.take_length]⟩ ⟨by rw [hself];rfl,trivial⟩ ⟨by rw [hself,List.take_length];rfl,rfl,trivial⟩ ?_
 rintro k ⟨hk,ht⟩
 simp only [List.cons_append,List.nil_append]
 have hl:(xs.take k).length=k:=by rw [List.length_take];omega
 refine Zb<|Zb<|Zg<|mv J J<|dt (Zy J J (i:=1) J Zi Mi) J<|dt (On J J J) J<|mv J J<|Qx (d:=6) J (fun s33=>?_) (fun s33=>?_)
 ·refine gdt (Ym J J) J J J J<|gdt (Ym J J) J J J J<|gdt (Zy J J (i:=1) J Zi Mi) J J J J<|gdt (Qg J J J ⟨by omega,by omega⟩) J J J J<|gdt (Yz (ii:=1) (i:=k-1) J J J J Zi Mi zT3 (by omega) (by omega)) J J J J<|gdt (Xs (ii:=1) 0 J J J Zi pN (by omega)) J J J J<|gdt (Pi J J J) J J J J<|dt (Xh J J J) J<|Zf<|Za<|Zq J (fun h33=>?_) (fun h33=>?_)
  ·have hstep:=Zp1 hk (by omega) (by omega:(xs.take k).getD (k-1) 0=0)
   exact Zk<|Za<|Zl<|Zg<|mv J J<|mv J J<|dt (Zy J J (i:=1) J Zi Mi) J<|dt (Qg J J J ⟨by omega,by omega⟩) J<|dt (Zw1 (ii:=1) (i:=k-1) J J J J Zi Mi zT3 (by omega) (by omega)) J<|as_ J J<|Zf<|Ob<|Pr (s_pre 1 1 (k-1) J J (by omega))<|Xq (k-1) ⟨by first | omega | (dsimp only<;>omega),by rw [←ht,←hstep]⟩ (by first | omega | (dsimp only<;>omega)) ⟨by rw [←Ha v k (k-1)];rfl,trivial⟩ ⟨by rw [Ha,List.take_take,Nat.min_eq_left (by omega)];rfl,rfl,trivial⟩
  ·refine Yu<|Zs<|Zs<|Ox<|Za<|Zb<|Zg<|mv J J<|as_ J J<|Zf<|Za<|Zu ?_
   have hx:tz xs=xs.take k:=by rw [←ht];exact Zdd hk (by omega)
   exact Zv (.inl J) hsc () _ (fun a w hs=>Qj hs Tryz.results77 J) (by rw [hx,hl]) trivial J (Yj 1 J J J (by rw [hx,hl]) Zj)
 ·refine gsk J J J J J<|gsk J J J J J<|gsk J J J J J<|gsk J J J J J<|gsk J J J J J<|gsk J J J J J<|gsk J J J J J<|dt (Yh J J J) J<|Zf<|Za<|Yf J<|Yu<|Zs<|Zs<|Ox<|Za<|Zb<|Zg<|mv J J<|as_ J J<|Zf<|Za<|Zu ?_
  have hx:tz xs=xs.take k:=by rw [←ht];exact Zdd hk (by omega)
  exact Zv (.inl J) hsc () _ (fun a w hs=>Qj hs Tryz.results77 J) (by rw [hx,hl]) trivial J (Yj 1 J J J (by rw [hx,hl]) Zj)
theorem Lv(v:Value)(xs:List Nat):Cal Tryz.prog 77 #[v] [slp 1 Dc v xs] false (G:=Unit) (fun _=>True) (fun _=>Fe v (tz xs).length) (fun _=>[]):=(r_trim v xs).bare
theorem Zks(v w:Value)(x y:Nat)(hx:bl x≤4294967296)(hy:bl y≤4294967296):Cal Tryz.prog 90 #[v,w] [d9p v x,d9p w y] false (G:=Unit) (fun _=>True) (fun _=> .int .i64 (Zpm x y)) (fun _=>[]):=by
 refine Yd Tryz.func90 J Tryz.ntmps90 J K2 ?_
 intro w0 sc hw hsc
 simp only [Zp,Zn]
 have hX:=Kj x
 have hY:=Kj y
 refine Zb<|Zg<|as_ J J<|Zf<|Za<|Zb<|Zb<|Zg<|mv J J<|dt (Zy J J (i:=1) J Zi Mi) J<|mv J J<|dt (Zy J J (i:=2) J Zi Mi) J<|dt (Qd J J J) J<|Zf<|Za<|Zq J (fun h41=>?_) (fun h41=>?_)
 ·refine Zb<|Zb<|Zg<|mv J J<|dt (Zy J J (i:=1) J Zi Mi) J<|mv J J<|dt (Zy J J (i:=2) J Zi Mi) J<|dt (Qb J J J) J<|Zf<|Za<|Zq J (fun h42=>?_) (fun h42=>?_)
  ·have hlt:x<y:=Dz Ov (by omega)
   exact Zb<|Zg<|as_ J J<|Zf<|Za<|Zu<|Xe<|Xe<|Zv (.inl J) hsc () _ (fun a w hs=>Qj hs Tryz.results90 J) (by unfold Zpm;rw [if_pos hlt]) trivial J Zj
  ·have hlt:y<x:=Dz Ov (by omega)
   exact Zk<|Za<|Zb<|Zg<|as_ J J<|Zf<|Za<|Zu<|Xe<|Zv (.inl J) hsc () _ (fun a w hs=>Qj hs Tryz.results90 J) (by unfold Zpm;rw [if_neg (by omega),if_pos hlt]) trivial J Zj
 ·have hlen:(dg 1000000000 x).length=(dg 1000000000 y).length:=by omega
  refine Zk<|Za<|Zb<|Zb<|Zg<|mv J J<|dt (Zy J J (i:=1) J Zi Mi) J<|dt (Qg J J J ⟨by omega,by omega⟩) J<|as_ J J<|Zf<|Za<|Zl<|Nt [(0,_),(1,_)] [(0,_),(1,_),(2,_)] (fun(k:Nat)=>[(5,.int .i64 ((k:Int)-1))]) (fun(k:Nat)=>[]) (fun(k:Nat)=>(k≤(dg 1000000000 x).length)∧((dg 1000000000 x).drop k=(dg 1000000000 y).drop k)) (fun(k:Nat)=>k) (dg 1000000000 x).length ⟨by first | omega | (dsimp only<;>omega),by rw [List.drop_length,hlen,List.drop_length]⟩ K3 K3 ?_
  rintro k ⟨hk,hd⟩
  simp only [List.cons_append,List.nil_append]
  refine Zb<|Zb<|Zg<|mv J J<|dt (Lq J J J) J<|Zf<|Za<|Zq J (fun h47=>?_) (fun h47=>?_)
  ·refine Zk<|Za<|Zb<|Zl<|Zb<|Zb<|Qs (fun _=>False) [(0,0),(1,0),(2,0),(3,0),(4,0),(5,0),(6,0),(7,0),(8,0)] (by kernel_rfl) ?_ ?_
   ·kernel_rfl
   refine r0' J J J J (st0 (Ym J J))<|r0' J J J J (st0 (Ym J J))<|r0' J J J J (st0 (Yz (ii:=1) (i:=k-1) J J J J Zi Mi zT3 (by omega) (by omega)))<|r0' J J J J (st0 (Xs (ii:=1) 0 J J J Zi pN (by first | omega | (simp only [List.length_set];omega))))<|r0' J J J J (st0 (Ym J J))<|r0' J J J J (st0 (Ym J J))<|r0' J J J J (st0 (Yz (ii:=2) (i:=k-1) J J J J Zi Mi zT3 (by omega) (by omega)))<|r0' J J J J (st0 (Xs (ii:=2) 0 J J J Zi pN (by first | omega | (simp only [List.length_set];omega))))<|r0' J J J J (st0 (Qb J J J))<|Og<|Za<|Zq J (fun h48=>?_) (fun h48=>?_)
   ·have hlt:=Zn9 Hg (xs:=(dg 1000000000 x)) (ys:=(dg 1000000000 y)) (Le Ov x) (k:=k-1) (by omega) (by omega) (by rw [show k-1+1=k by omega];exact hd) (by omega)
    rw [Mu Ov,Mu Ov]at hlt
    exact Zb<|Zg<|as_ J J<|Zf<|Za<|Zu<|Xe<|Iw<|Xe<|Xe<|Iw<|Xe<|Zv (.inl J) hsc () _ (fun a w hs=>Qj hs Tryz.results90 J) (by unfold Zpm;rw [if_pos hlt]) trivial J Zj
   ·refine Zk<|Za<|Zb<|Qs (fun _=>False) [(0,0),(1,0),(2,0),(3,0),(4,0),(5,0),(6,0),(7,0),(8,0)] (by kernel_rfl) ?_ ?_
    ·kernel_rfl
    refine r0' J J J J (st0 (Ym J J))<|r0' J J J J (st0 (Ym J J))<|r0' J J J J (st0 (Yz (ii:=1) (i:=k-1) J J J J Zi Mi zT3 (by omega) (by omega)))<|r0' J J J J (st0 (Xs (ii:=1) 0 J J J Zi pN (by first | omega | (simp only [List.length_set];omega))))<|r0' J J J J (st0 (Ym J J))<|r0' J J J J (st0 (Ym J J))<|r0' J J J J (st0 (Yz (ii:=2) (i:=k-1) J J J J Zi Mi zT3 (by omega) (by omega)))<|r0' J J J J (st0 (Xs (ii:=2) 0 J J J Zi pN (by first | omega | (simp only [List.length_set];omega))))<|r0' J J J J (st0 (On J J J))<|Og<|Za<|Zq J (fun h51=>?_) (fun h51=>?_)
    ·have hlt:=Zn9 Hg (xs:=(dg 1000000000 y)) (ys:=(dg 1000000000 x)) (Le Ov y) (k:=k-1) (by omega) (by omega) (by rw [show k-1+1=k by omega];exact hd.symm) (by omega)
     rw [Mu Ov,Mu Ov]at hlt
     exact Zb<|Zg<|as_ J J<|Zf<|Za<|Zu<|Iw<|Xe<|Xe<|Iw<|Xe<|Zv (.inl J) hsc () _ (fun a w hs=>Qj hs Tryz.results90 J) (by unfold Zpm;rw [if_neg (by omega),if_pos hlt]) trivial J Zj
    ·exact Zk<|Ob<|Za<|Zg<|mv J J<|dt (Qg J J J ⟨by omega,by omega⟩) J<|as_ J J<|Zf<|Xq (k-1) ⟨by first | omega | (dsimp only<;>omega),by have:=Zb6 (xs:=(dg 1000000000 x)) (ys:=(dg 1000000000 y)) (k:=k-1) (by omega) (by omega) (by rw [show k-1+1=k by omega];exact hd) (by omega);exact this⟩ (by first | omega | (dsimp only<;>omega)) ⟨by rw [show(((k-1:Nat):Int)-1)=(k:Int)-1-1 by omega];rfl,rfl,rfl,trivial⟩ K3
  ·refine Yu<|Zs<|Zs<|Ox<|Za<|Zb<|Zg<|as_ J J<|Zf<|Za<|Zu ?_
   obtain rfl:k=0:=by omega
   have heq:x=y:=(Zeg Ov).1 (by simpa using hd)
   exact Zv (.inl J) hsc () _ (fun a w hs=>Qj hs Tryz.results90 J) (by unfold Zpm;rw [if_neg (by omega),if_neg (by omega)]) trivial J Zj
theorem Zq3(v w:Value)(x y:Nat)(hx:bl x≤4294967296)(hy:bl y≤4294967296):Cal Tryz.prog 75 #[v,w] [d9p v x,d9p w y] false (G:=Value) (fun r=>True) (fun r=>r) (fun r=>[d9p r (x+y)]):=by
 refine Yd Tryz.func75 J Tryz.ntmps75 J K2 ?_
 intro w0 sc hw hsc
 simp only [Zp,Zn]
 have hX:=Kj x
 have hY:=Kj y
 refine Zb<|Zg<|as_ J J<|Zf<|Za<|Zb<|Zg<|as_ J J<|Zf<|Za<|Zb<|Zg<|as_ J J<|Zf<|Za<|Zb<|Zb<|Zg<|as_ J J<|Zf<|Za<|Zl<|Ys (Nj 70 1 3 Dc)<|Nt [(0,_),(1,_)] [(0,_),(1,_),(2,_)] (fun(q:Nat×List Nat×Nat×Value)=>[(7,.int .i64 (q.1:Int)),(6,.int .i64 (q.2.2.1:Int)),(5,q.2.2.2)]) (fun(q:Nat×List Nat×Nat×Value)=>[(70,osl 1 3 Dc q.2.2.2 q.2.1)]) (fun(q:Nat×List Nat×Nat×Value)=>(q.1≤max (dg 1000000000 x).length (dg 1000000000 y).length+1∧(q.1=max (dg 1000000000 x).length (dg 1000000000 y).length+1→q.2.2.1=0))∧(q.2.1.length=q.1)∧(∀d∈q.2.1,d<1000000000)∧(q.2.2.1≤1)∧(val 1000000000 q.2.1+q.2.2.1*1000000000^q.1=val 1000000000 ((dg 1000000000 x).take q.1)+val 1000000000 ((dg 1000000000 y).take q.1))∧(q.1=0∨1000000000^(q.1-1)≤x+y)) (fun(q:Nat×List Nat×Nat×Value)=>max (dg 1000000000 x).length (dg 1000000000 y).length+1-q.1) (0,[],0,.slice none 0 0) ⟨⟨by omega,by omega⟩,J,by simp,by first | omega | (dsimp only<;>omega),by simp [val],.inl rfl⟩ K5 K4 ?_
 rintro⟨i,o,c,vo⟩ ⟨hi,hol,hoa,hc,hv,hge⟩
 dsimp only at hi hol hoa hc hv hge
 simp only [List.cons_append,List.nil_append]
 refine Zb<|Dd [(0,_),(1,_),(5,_),(6,_),(7,_)] [(0,_),(70,_),(1,_),(2,_)] (fun(_:Unit)=>[(21,.bool (decide (i<(dg 1000000000 x).length∨i<(dg 1000000000 y).length∨0<c)))]) (fun(_:Unit)=>[]) (fun(_:Unit)=>True) K5 K4 ?_ ?_
 ·refine Zg<|mv J J<|mv J J<|dt (Zy J J (i:=1) J Zi Mi) J<|dt (Qb J J J) J<|mv J J<|Qx (d:=12) J (fun s62=>?_) (fun s62=>?_)
  ·exact gsk J J J J J<|gsk J J J J J<|gsk J J J J J<|gsk J J J J J<|dt (Xh J J J) J<|mv J J<|gsk J J J J J<|gsk J J J J J<|dt (Xh J J J) J<|Zf<|Qv () trivial ⟨by first | exact congrArg some (congrArg Value.bool (decide_eq_decide.2 (by omega))) | exact congrArg some (congrArg Value.bool (decide_eq_true (by omega)).symm),rfl,rfl,rfl,rfl,rfl,trivial⟩ K4
  ·refine gdt (Ym J J) J J J J<|gdt (Ym J J) J J J J<|gdt (Zy J J (i:=2) J Zi Mi) J J J J<|gdt (Qb J J J) J J J J<|dt (Yh J J J) J<|mv J J<|Qx (d:=18) J (fun s62_2=>?_) (fun s62_2=>?_)
   ·exact gsk J J J J J<|gsk J J J J J<|dt (Xh J J J) J<|Zf<|Qv () trivial ⟨by first | exact congrArg some (congrArg Value.bool (decide_eq_decide.2 (by omega))) | exact congrArg some (congrArg Value.bool (decide_eq_true (by omega)).symm),rfl,rfl,rfl,rfl,rfl,trivial⟩ K4
   ·exact gdt (Ym J J) J J J J<|gdt (On J J J) J J J J<|dt (Yh J J J) J<|Zf<|Qv () trivial ⟨by first | exact congrArg some (congrArg Value.bool (decide_eq_decide.2 (by omega))) | exact congrArg some (congrArg Value.bool (decide_eq_true (by omega)).symm),rfl,rfl,rfl,rfl,rfl,trivial⟩ K4
 ·rintro _ -
  simp only [List.cons_append,List.nil_append]
  refine Zq J (fun h62=>?_) (fun h62=>?_)
  ·have hgn:1000000000^i≤x+y:=by
    rcases h62 with h1 | h1 | h1
    ·have:=Dm Ov h1;omega
    ·have:=Dm Ov h1;omega
    ·by_cases h2:i<(dg 1000000000 x).length
     ·have:=Dm Ov h2;omega
     ·by_cases h3:i<(dg 1000000000 y).length
      ·have:=Dm Ov h3;omega
      ·rw [Ie Ov (by omega),Ie Ov (by omega)]at hv
       have:1000000000^i≤c*1000000000^i:=Nat.le_mul_of_pos_left _ h1
       omega
   refine Zk<|Za<|Zb<|Zl<|Dd [(0,_),(1,_),(5,_),(7,_)] [(0,_),(70,_),(1,_),(2,_)] (fun(_:Unit)=>[(6,.int .i64 ((c+(dg 1000000000 x).getD i 0:Nat):Int))]) (fun(_:Unit)=>[]) (fun(_:Unit)=>True) K4 K4 ?_ ?_
   ·refine Zb<|Zg<|mv J J<|mv J J<|dt (Zy J J (i:=1) J Zi Mi) J<|dt (Qb J J J) J<|Zf<|Za<|Zq J (fun h63=>?_) (fun h63=>?_)
    ·refine Zg<|mv J J<|mv J J<|mv J J<|dt (Yz (ii:=1) J J J J Zi Mi zT3 J (by first | omega | (simp only [List.length_set];omega))) J<|dt (Xs (ii:=1) 0 J J J Zi pN (by first | omega | (simp only [List.length_set];omega))) J<|dt (Zho J J J (by have h1:=(Ql Hg (Le Ov x) i);omega)) J<|as_ J J<|Zf ?_
     try (have hz:(dg 1000000000 x).getD i 0=0:=by simp [List.getD,List.getElem?_eq_none (by omega:(dg 1000000000 x).length≤i)])
     exact Qv () trivial ⟨by first | rfl | (rw [hz];rfl),rfl,rfl,rfl,rfl,trivial⟩ K4
    ·refine Zk ?_
     try (have hz:(dg 1000000000 x).getD i 0=0:=by simp [List.getD,List.getElem?_eq_none (by omega:(dg 1000000000 x).length≤i)])
     exact Qv () trivial ⟨by first | rfl | (rw [hz];rfl),rfl,rfl,rfl,rfl,trivial⟩ K4
   ·rintro _ -
    simp only [List.cons_append,List.nil_append]
    refine Dd [(0,_),(1,_),(5,_),(7,_)] [(0,_),(70,_),(1,_),(2,_)] (fun(_:Unit)=>[(6,.int .i64 ((c+(dg 1000000000 x).getD i 0+(dg 1000000000 y).getD i 0:Nat):Int))]) (fun(_:Unit)=>[]) (fun(_:Unit)=>True) K4 K4 ?_ ?_
    ·refine Zb<|Zg<|mv J J<|mv J J<|dt (Zy J J (i:=2) J Zi Mi) J<|dt (Qb J J J) J<|Zf<|Za<|Zq J (fun h66=>?_) (fun h66=>?_)
     ·refine Zg<|mv J J<|mv J J<|mv J J<|dt (Yz (ii:=2) J J J J Zi Mi zT3 J (by first | omega | (simp only [List.length_set];omega))) J<|dt (Xs (ii:=2) 0 J J J Zi pN (by first | omega | (simp only [List.length_set];omega))) J<|dt (Zho J J J (by have h1:=(Ql Hg (Le Ov x) i);have h2:=(Ql Hg (Le Ov y) i);omega)) J<|as_ J J<|Zf ?_
      try (have hz:(dg 1000000000 y).getD i 0=0:=by simp [List.getD,List.getElem?_eq_none (by omega:(dg 1000000000 y).length≤i)])
      exact Qv () trivial ⟨by first | rfl | (rw [hz];rfl),rfl,rfl,rfl,rfl,trivial⟩ K4
     ·refine Zk ?_
      try (have hz:(dg 1000000000 y).getD i 0=0:=by simp [List.getD,List.getElem?_eq_none (by omega:(dg 1000000000 y).length≤i)])
      exact Qv () trivial ⟨by first | rfl | (rw [hz];rfl),rfl,rfl,rfl,rfl,trivial⟩ K4
    ·rintro _ -
     simp only [List.cons_append,List.nil_append]
     exact Zb<|Zg<|mv J J<|mv J J<|dt (Zry (n:=1000000000) J J J (by omega)) J<|tt (Pt (i:=3) (ivs:=[(0,_)]) (enc:=Dc) [(c+(dg 1000000000 x).getD i 0+(dg 1000000000 y).getD i 0)%1000000000] J J J K2 Mi Tryz.ti3 J J J J J J pN.cells J J hw) J fun v _=>tt (Kt (i:=70) (j:=3) (by_:=8) J J J J J J (by decide) J (Yn pN) Mi Tryz.ti3 J pN J J J (by simp;omega) (by decide) J hw) J fun v_2 _=>as_ J J<|Zf<|Za<|Zg<|mv J J<|dt (Zk9 (n:=1000000000) J J J (by have h1:=(Ql Hg (Le Ov x) i);have h2:=(Ql Hg (Le Ov y) i);omega) (by omega)) J<|as_ J J<|Zf<|Ob<|Za<|Zg<|mv J J<|dt (Yt J J J ⟨by omega,by omega⟩) J<|as_ J J<|Zf<|Xq (i+1,o ++ [(c+(dg 1000000000 x).getD i 0+(dg 1000000000 y).getD i 0)%1000000000],(c+(dg 1000000000 x).getD i 0+(dg 1000000000 y).getD i 0)/1000000000,_) ⟨⟨by dsimp only;omega,fun h=>by dsimp only at h ⊢;rw [Zal (by omega:(dg 1000000000 x).length≤i),Zal (by omega:(dg 1000000000 y).length≤i)];omega⟩,by simp [hol],Zid hoa (Nat.mod_lt _ Hg),by have h1:=(Ql Hg (Le Ov x) i);have h2:=(Ql Hg (Le Ov y) i);dsimp only;omega,Zre hol hv,.inr hgn⟩ (by first | omega | (dsimp only<;>omega)) K5 K4
  ·refine Yu<|Zs<|Zs<|Ox<|Za<|Zb<|Zg<|mv J J<|as_ J J<|Zf<|Za<|Zu ?_
   have hc0:c=0:=by omega
   have hv2:val 1000000000 o=x+y:=by
    rw [Ie Ov (by omega),Ie Ov (by omega),hc0,Nat.zero_mul,Nat.add_zero]at hv
    exact hv
   have hx:o=dg 1000000000 (x+y):=Zp2 Ov hoa hv2 (by rw [hol];exact hge)
   exact Zv (.inl J) hsc _ _ (fun a w hs=>Qj hs Tryz.results75 J) J trivial J (Ps 70 J J pN (by rw [←hx]<;>rfl) Zj)
theorem Zkt(v w:Value)(x y:Nat)(hx:bl x≤4294967296)(hxy:y≤x):Cal Tryz.prog 91 #[v,w] [d9p v x,d9p w y] false (G:=Value) (fun r=>True) (fun r=>r) (fun r=>[d9p r (x-y)]):=by
 refine Yd Tryz.func91 J Tryz.ntmps91 J K2 ?_
 intro w0 sc hw hsc
 simp only [Zp,Zn]
 have hX:=Kj x
 have hm:=Ok hxy
 have hY:=Kj y
 have hly:(dg 1000000000 y).length≤(dg 1000000000 x).length:=Zls Ov hxy
 refine Zb<|Zg<|as_ J J<|Zf<|Za<|Zb<|Zg<|as_ J J<|Zf<|Za<|Zb<|Zg<|as_ J J<|Zf<|Za<|Zb<|Zb<|Zg<|as_ J J<|Zf<|Za<|Zl<|Ys (Nj 70 1 3 Dc)<|Nt [(0,_),(1,_)] [(0,_),(1,_),(2,_)] (fun(q:Nat×List Nat×Nat×Value)=>[(7,.int .i64 (q.1:Int)),(6,.int .i64 (q.2.2.1:Int)),(5,q.2.2.2)]) (fun(q:Nat×List Nat×Nat×Value)=>[(70,osl 1 3 Dc q.2.2.2 q.2.1)]) (fun(q:Nat×List Nat×Nat×Value)=>(q.1≤(dg 1000000000 x).length)∧(q.2.1.length=q.1)∧(∀d∈q.2.1,d<1000000000)∧(q.2.2.1≤1)∧(val 1000000000 q.2.1+val 1000000000 ((dg 1000000000 y).take q.1)=val 1000000000 ((dg 1000000000 x).take q.1)+q.2.2.1*1000000000^q.1)) (fun(q:Nat×List Nat×Nat×Value)=>(dg 1000000000 x).length-q.1) (0,[],0,.slice none 0 0) ⟨by first | omega | (dsimp only<;>omega),rfl,by simp,by first | omega | (dsimp only<;>omega),by simp [val]⟩ K5 K4 ?_
 rintro⟨i,o,c,vo⟩ ⟨hi,hol,hoa,hc,hv⟩
 dsimp only at hi hol hoa hc hv
 simp only [List.cons_append,List.nil_append]
 have hda:=(Ql Hg (Le Ov x) i)
 have hdb:=(Ql Hg (Le Ov y) i)
 refine Zb<|Zb<|Zg<|mv J J<|mv J J<|dt (Zy J J (i:=1) J Zi Mi) J<|dt (Qb J J J) J<|Zf<|Za<|Zq J (fun h79=>?_) (fun h79=>?_)
 ·refine Zk<|Za<|Zb<|Zl<|Zb<|Zg<|mv J J<|mv J J<|dt (Yz (ii:=1) J J J J Zi Mi zT3 J (by first | omega | (simp only [List.length_set];omega))) J<|dt (Xs (ii:=1) 0 J J J Zi pN (by first | omega | (simp only [List.length_set];omega))) J<|mv J J<|dt (Qg J J J ⟨by omega,by omega⟩) J<|as_ J J<|Zf<|Za<|Dd [(0,_),(1,_),(5,_),(7,_)] [(0,_),(70,_),(1,_),(2,_)] (fun(_:Unit)=>[(8,.int .i64 (((dg 1000000000 x).getD i 0:Int)-(c:Int)-((dg 1000000000 y).getD i 0:Int)))]) (fun(_:Unit)=>[]) (fun(_:Unit)=>True) K4 K4 ?_ ?_
  ·refine Zb<|Zg<|mv J J<|mv J J<|dt (Zy J J (i:=2) J Zi Mi) J<|dt (Qb J J J) J<|Zf<|Za<|Zq J (fun h81=>?_) (fun h81=>?_)
   ·refine Zg<|mv J J<|mv J J<|mv J J<|dt (Yz (ii:=2) J J J J Zi Mi zT3 J (by first | omega | (simp only [List.length_set];omega))) J<|dt (Xs (ii:=2) 0 J J J Zi pN (by first | omega | (simp only [List.length_set];omega))) J<|dt (Qg J J J ⟨by omega,by omega⟩) J<|as_ J J<|Zf ?_
    try (have hz:(dg 1000000000 y).getD i 0=0:=by simp [List.getD,List.getElem?_eq_none (by omega:(dg 1000000000 y).length≤i)])
    exact Qv () trivial ⟨by first | rfl | (rw [hz];exact congrArg some (Db (by omega))),rfl,rfl,rfl,rfl,trivial⟩ K4
   ·refine Zk ?_
    try (have hz:(dg 1000000000 y).getD i 0=0:=by simp [List.getD,List.getElem?_eq_none (by omega:(dg 1000000000 y).length≤i)])
    exact Qv () trivial ⟨by first | rfl | (rw [hz];exact congrArg some (Db (by omega))),rfl,rfl,rfl,rfl,trivial⟩ K4
  ·rintro _ -
   simp only [List.cons_append,List.nil_append]
   refine Zb<|Zg<|as_ J J<|Zf<|Za<|Dd [(0,_),(1,_),(5,_),(7,_)] [(0,_),(70,_),(1,_),(2,_)] (fun(_:Unit)=>[(8,.int .i64 ((d9s ((dg 1000000000 x).getD i 0) ((dg 1000000000 y).getD i 0) c:Nat):Int)),(6,.int .i64 ((brw ((dg 1000000000 x).getD i 0) ((dg 1000000000 y).getD i 0) c:Nat):Int))]) (fun(_:Unit)=>[]) (fun(_:Unit)=>True) K4 K4 ?_ ?_
   ·refine Zb<|Zg<|mv J J<|dt (Qb J J J) J<|Zf<|Za<|Zq J (fun h85=>?_) (fun h85=>?_)
    ·exact Zg<|mv J J<|dt (Yt J J J ⟨by omega,by omega⟩) J<|as_ J J<|as_ J J<|Zf<|Qv () trivial ⟨by exact congrArg some (Db (by unfold d9s;split<;>omega)),by exact congrArg some (Db (by unfold brw;split<;>omega)),rfl,rfl,rfl,rfl,trivial⟩ K4
    ·exact Zk<|Qv () trivial ⟨by exact congrArg some (Db (by unfold d9s;split<;>omega)),by exact congrArg some (Db (by unfold brw;split<;>omega)),rfl,rfl,rfl,rfl,trivial⟩ K4
   ·rintro _ -
    simp only [List.cons_append,List.nil_append]
    exact Zg<|mv J J<|mv J J<|tt (Pt (i:=3) (ivs:=[(0,_)]) (enc:=Dc) [d9s ((dg 1000000000 x).getD i 0) ((dg 1000000000 y).getD i 0) c] J J J K2 Mi Tryz.ti3 J J J J J J pN.cells J J hw) J fun v _=>tt (Kt (i:=70) (j:=3) (by_:=8) J J J J J J (by decide) J (Yn pN) Mi Tryz.ti3 J pN J J J (by simp;omega) (by decide) J hw) J fun v_2 _=>as_ J J<|Zf<|Ob<|Za<|Zg<|mv J J<|dt (Yt J J J ⟨by omega,by omega⟩) J<|as_ J J<|Zf<|Xq (i+1,o ++ [d9s ((dg 1000000000 x).getD i 0) ((dg 1000000000 y).getD i 0) c],brw ((dg 1000000000 x).getD i 0) ((dg 1000000000 y).getD i 0) c,_) ⟨by first | omega | (dsimp only<;>omega),by simp [hol],Zid hoa (Ztg hda hdb hc).1,brw_le _ _ _,Zo6 hc hda hdb hol hv⟩ (by first | omega | (dsimp only<;>omega)) K5 K4
 ·refine Yu<|Zs<|Zs<|Ox<|Za<|Zb<|Zg<|mv J J<|tt (Zh (n:=3) (Lv _ _) J J J K1 Zw9 (Xu 70 J J pN Ze) J hw) J fun _ _=>Pq (Zff 70 J J pN)<|as_ J J<|Zf<|Za<|Zu ?_
  obtain rfl:i=(dg 1000000000 x).length:=by omega
  have hx:tz o=dg 1000000000 (x-y):=by
   rw [←Kf Ov _ hoa]
   congr 1
   rw [Nn _ (dg 1000000000 y) _ hly,Nn _ (dg 1000000000 x) _ (Nat.le_refl _),Mu Ov,Mu Ov]at hv
   have h1:=Ze9 Hg o hoa
   rw [hol]at h1
   have h0:c=0∨c=1:=by omega
   rcases h0 with rfl | rfl<;>omega
  exact Zv (.inl J) hsc _ _ (fun a w hs=>Qj hs Tryz.results91 J) J trivial J (Ps 70 J J pN (by rw [hx]<;>rfl) Zj)
set_option maxHeartbeats 4000000 in
theorem Zq2(v w:Value)(x y:Nat)(hx:bl x≤4294967296)(hy:bl y≤4294967296):Cal Tryz.prog 123 #[v,w] [d9p v x,d9p w y] false (G:=Value) (fun r=>True) (fun r=>r) (fun r=>[d9p r (x*y)]):=by
 refine Yd Tryz.func123 J Tryz.ntmps123 J K2 ?_
 intro w0 sc hw hsc
 simp only [Zp,Zn]
 have hX:=Kj x
 have hY:=Kj y
 refine Zb<|Zg<|as_ J J<|Zf<|Za<|Zb<|Zg<|mv J J<|dt (Zy J J (i:=1) J Zi Mi) J<|mv J J<|dt (Zy J J (i:=2) J Zi Mi) J<|dt (Yt J J J ⟨by omega,by omega⟩) J<|tt (Hw (i:=3) (n:=((dg 1000000000 x).length+(dg 1000000000 y).length)) (by_:=8) (enc:=Dc) 0 J J J J J (by omega) Mi Tryz.ti3 J pN.cells pN.pos J J (by omega) (by decide) J hw) J fun v _=>as_ J J<|Zf<|Za<|Zb<|Zb<|Zg<|as_ J J<|Zf<|Za<|Zl<|Nt [(0,_),(1,_),(5,_)] [(0,_),(1,_),(2,_)] (fun(q:Nat×List Nat)=>[(6,.int .i64 (q.1:Int))]) (fun(q:Nat×List Nat)=>[(3,osl 1 3 Dc v q.2)]) (fun(q:Nat×List Nat)=>(q.1≤(dg 1000000000 x).length)∧(q.2.length=((dg 1000000000 x).length+(dg 1000000000 y).length))∧(∀d∈q.2,d<1000000000)∧(∀j,q.1+(dg 1000000000 y).length≤j→q.2.getD j 0=0)∧(val 1000000000 q.2=val 1000000000 ((dg 1000000000 x).take q.1)*y)) (fun(q:Nat×List Nat)=>(dg 1000000000 x).length-q.1) (0,List.replicate ((dg 1000000000 x).length+(dg 1000000000 y).length) 0) ⟨by first | omega | (dsimp only<;>omega),by simp,Ow _ Hg,fun j _=>Lh _ j,by simp [val,Ks]⟩ K4 K4 ?_
 rintro⟨i,o⟩ ⟨hi,hol,hoa,hz0,hv⟩
 dsimp only at hi hol hoa hz0 hv
 simp only [List.cons_append,List.nil_append]
 refine Zb<|Zb<|Zg<|mv J J<|mv J J<|dt (Zy J J (i:=1) J Zi Mi) J<|dt (Qb J J J) J<|Zf<|Za<|Zq J (fun h96=>?_) (fun h96=>?_)
 ·refine Zk<|Za<|Zb<|Zl<|Zb<|Zg<|as_ J J<|Zf<|Za<|Zb<|Zg<|as_ J J<|Zf<|Za<|Zl<|Nt [(0,_),(1,_),(5,_),(6,_)] [(0,_),(1,_),(2,_)] (fun(q:Nat×List Nat×Nat)=>[(8,.int .i64 (q.1:Int)),(7,.int .i64 (q.2.2:Int))]) (fun(q:Nat×List Nat×Nat)=>[(3,osl 1 3 Dc v q.2.1)]) (fun(q:Nat×List Nat×Nat)=>(q.1≤(dg 1000000000 y).length+1∧(q.1=(dg 1000000000 y).length+1→q.2.2=0))∧(q.2.1.length=((dg 1000000000 x).length+(dg 1000000000 y).length))∧(∀d∈q.2.1,d<1000000000)∧(∀j,i+q.1≤j→i+(dg 1000000000 y).length≤j→q.2.1.getD j 0=0)∧(q.2.2<1000000000)∧(val 1000000000 q.2.1+q.2.2*1000000000^(i+q.1)=val 1000000000 ((dg 1000000000 x).take i)*y+(dg 1000000000 x).getD i 0*1000000000^i*val 1000000000 ((dg 1000000000 y).take q.1))) (fun(q:Nat×List Nat×Nat)=>(dg 1000000000 y).length+1-q.1) (0,o,0) ⟨⟨by omega,by omega⟩,hol,hoa,fun j _ h=>hz0 j h,by first | omega | (dsimp only<;>omega),by rw [hv];simp [val]⟩ K6 K4 ?_
  rintro⟨k,p,c⟩ ⟨hk,hpl,hpa,hpz,hcU,hpv⟩
  dsimp only at hk hpl hpa hpz hcU hpv
  simp only [List.cons_append,List.nil_append]
  have hdig:=Zkc (Ql Hg (Le Ov x) i) (Ql Hg (Le Ov y) k) (Ql Hg hpa (i+k)) hcU
  refine Zb<|Dd [(0,_),(1,_),(5,_),(6,_),(7,_),(8,_)] [(0,_),(3,_),(1,_),(2,_)] (fun(_:Unit)=>[(29,.bool (decide (k<(dg 1000000000 y).length∨0<c)))]) (fun(_:Unit)=>[]) (fun(_:Unit)=>True) K6 K4 ?_ ?_
  ·refine Zg<|mv J J<|mv J J<|dt (Zy J J (i:=2) J Zi Mi) J<|dt (Qb J J J) J<|mv J J<|Qx (d:=26) J (fun s98=>?_) (fun s98=>?_)
   ·exact gsk J J J J J<|gsk J J J J J<|dt (Xh J J J) J<|Zf<|Qv () trivial ⟨by first | exact congrArg some (congrArg Value.bool (decide_eq_decide.2 (by omega))) | exact congrArg some (congrArg Value.bool (decide_eq_true (by omega)).symm),rfl,rfl,rfl,rfl,rfl,rfl,trivial⟩ K4
   ·exact gdt (Ym J J) J J J J<|gdt (On J J J) J J J J<|dt (Yh J J J) J<|Zf<|Qv () trivial ⟨by first | exact congrArg some (congrArg Value.bool (decide_eq_decide.2 (by omega))) | exact congrArg some (congrArg Value.bool (decide_eq_true (by omega)).symm),rfl,rfl,rfl,rfl,rfl,rfl,trivial⟩ K4
  ·rintro _ -
   simp only [List.cons_append,List.nil_append]
   refine Zq J (fun h98=>?_) (fun h98=>?_)
   ·refine Zk<|Za<|Zb<|Zl<|Zb<|Zg<|mv J J<|mv J J<|mv J J<|dt (Zho J J J (by omega)) J<|dt (Yz (ii:=3) (i:=(i+k)) J J J J (Yn pN) Mi zT3 (by omega) (by omega)) J<|dt (Xs (ii:=3) 0 J J J (Yn pN) pN (by omega)) J<|mv J J<|dt (Zho J J J (by have h1:=Ql Hg hpa (i+k);omega)) J<|as_ J J<|Zf<|Za<|Dd [(0,_),(1,_),(5,_),(6,_),(8,_)] [(0,_),(3,_),(1,_),(2,_)] (fun(_:Unit)=>[(9,.int .i64 ((p.getD (i+k) 0+c+(dg 1000000000 x).getD i 0*(dg 1000000000 y).getD k 0:Nat):Int))]) (fun(_:Unit)=>[]) (fun(_:Unit)=>True) K5 K4 ?_ ?_
    ·refine Zb<|Zg<|mv J J<|mv J J<|dt (Zy J J (i:=2) J Zi Mi) J<|dt (Qb J J J) J<|Zf<|Za<|Zq J (fun h100=>?_) (fun h100=>?_)
     ·refine Qs (fun _=>False) [(0,0),(1,0),(2,0),(3,0),(4,0),(5,0),(6,0),(7,0),(8,0),(9,0),(10,0),(11,3)] (by kernel_rfl) ?_ ?_
      ·kernel_rfl
      refine r0' J J J J (st0 (Ym J J))<|r0' J J J J (st0 (Ym J J))<|r0' J J J J (st0 (Ym J J))<|r0' J J J J (st0 (Yz (ii:=1) J J J J Zi Mi zT3 J (by first | omega | (simp only [List.length_set];omega))))<|r0' J J J J (st0 (Xs (ii:=1) 0 J J J Zi pN (by first | omega | (simp only [List.length_set];omega))))<|r0' J J J J (st0 (Ym J J))<|r0' J J J J (st0 (Ym J J))<|r0' J J J J (st0 (Yz (ii:=2) J J J J Zi Mi zT3 J (by first | omega | (simp only [List.length_set];omega))))<|r0' J J J J (st0 (Xs (ii:=2) 0 J J J Zi pN (by first | omega | (simp only [List.length_set];omega))))<|r0' J J J J (st0 (n_mul J J J (by have h1:=hdig.2;omega)))<|r0' J J J J (st0 (Zho J J J hdig.2))<|r3' J J (Od (Kk J J) J J) fun _ _=>Og ?_
      try (have hz:(dg 1000000000 y).getD k 0=0:=Zal (by omega))
      exact Qv () trivial ⟨by first | rfl | (rw [hz,Nat.mul_zero];rfl),rfl,rfl,rfl,rfl,rfl,trivial⟩ K4
     ·refine Zk ?_
      try (have hz:(dg 1000000000 y).getD k 0=0:=Zal (by omega))
      exact Qv () trivial ⟨by first | rfl | (rw [hz,Nat.mul_zero];rfl),rfl,rfl,rfl,rfl,rfl,trivial⟩ K4
    ·rintro _ -
     simp only [List.cons_append,List.nil_append]
     exact Zb<|Zg<|mv J J<|mv J J<|mv J J<|dt (Zho J J J (by omega)) J<|mv J J<|dt (Zry (n:=1000000000) J J J (by omega)) J<|dt (Yz (ii:=3) (i:=(i+k)) J J J J (Yn pN) Mi zT3 (by omega) (by omega)) J<|tt (Kr (i:=3) (enc:=Dc) _ J J J J J J (by decide) pN (by omega) J hw) J fun _ _=>Zf<|Za<|Zg<|mv J J<|dt (Zk9 (n:=1000000000) J J J hdig.2 (by omega)) J<|as_ J J<|Zf<|Ob<|Za<|Zg<|mv J J<|dt (Yt J J J ⟨by omega,by omega⟩) J<|as_ J J<|Zf<|Xq (k+1,_,_) ⟨⟨by dsimp only;omega,fun h=>by dsimp only at h ⊢;rw [Zal (by omega:(dg 1000000000 y).length≤k),hpz (i+k) (by omega) (by omega),Nat.mul_zero];omega⟩,by simp;omega,Lk hpa _ _ (Nat.mod_lt _ Hg),fun j hj hj2=>by dsimp only at hj ⊢;rw [Nd _ _ _ _ _ (by omega),if_neg (by omega)];exact hpz j (by omega) hj2,hdig.1,Zop hpv (by omega)⟩ (by first | omega | (dsimp only<;>omega)) K6 K4
   ·refine Yu<|Zs<|Zs<|Ox<|Ob<|Za<|Zg<|mv J J<|dt (Yt J J J ⟨by omega,by omega⟩) J<|as_ J J<|Zf ?_
    have hc0:c=0:=by omega
    have hvf:=hpv
    rw [hc0,Nat.zero_mul,Nat.add_zero,Ie (x:=y) (k:=k) Ov (by omega)]at hvf
    exact Xq (i+1,_) ⟨by first | omega | (dsimp only<;>omega),hpl,hpa,fun j hj=>hpz j (by dsimp only at hj;omega) (by dsimp only at hj;omega),by dsimp only;rw [hvf,Qr,Nat.add_mul]⟩ (by first | omega | (dsimp only<;>omega)) K4 K4
 ·refine Yu<|Zs<|Zs<|Ox<|Za<|Zb<|Zg<|mv J J<|tt (Zh (n:=3) (Lv _ _) J J J K1 Zw9 (Xu 3 J J pN Ze) J hw) J fun _ _=>Pq (Zff 3 J J pN)<|as_ J J<|Zf<|Za<|Zu ?_
  obtain rfl:i=(dg 1000000000 x).length:=by omega
  have hx:tz o=dg 1000000000 (x*y):=by
   rw [←Kf Ov _ hoa,hv,Ie Ov (Nat.le_refl _)]
  exact Zv (.inl J) hsc _ _ (fun a w hs=>Qj hs Tryz.results123 J) J trivial J (Ps 3 J J pN (by rw [hx]<;>rfl) Zj)
theorem Zhc(v:Value)(x n:Nat)(hx:bl x≤4294967296)(hn:n<1000000000):Cal Tryz.prog 76 #[v,.int .i64 (n:Int)] [d9p v x] true (G:=Value) (fun r=>True) (fun r=>r) (fun r=>[d9p r (x*n)]):=by
 refine Yd Tryz.func76 J Tryz.ntmps76 J K1 ?_
 intro w0 sc hw hsc
 simp only [Zp,Zn]
 refine Zb<|Zg<|as_ J J<|Zf<|Za<|Zb<|Zb<|Zg<|mv J J<|dt (Pi J J J) J<|Zf<|Za<|Zq J (fun h112=>?_) (fun h112=>?_)
 ·exact Zb<|Zg<|as_ J J<|Zf<|Za<|Zu<|Xe<|Pr (Nj 9 1 3 Dc)<|Zv (.inl J) hsc (.slice none 0 0) _ (fun a w hs=>Qj hs Tryz.results76 J) J trivial J (Ps 9 J J pN (by rw [show n=0 by omega,Nat.mul_zero]<;>rfl) Zj)
 ·have hn0:n≠0:=by omega
  exact Zk<|Za<|Zb<|Zg<|mv J J<|mv J J<|tt (Pt (i:=70) (ivs:=[(0,_)]) (enc:=Dc) [n] J J J K2 Mi Tryz.ti3 J J J J J J pN.cells J J hw) J fun v _=>Pq (Zdt 70 (Zw0 Ov hn hn0).symm J J)<|tt (Zh (n:=2) (Zq2 _ _ _ n hx (by have:=(Mf 30 n).2 (by omega);omega)) J J J K2 cF123 (Zd 1 J J J (Xu 70 J J pN Ze)) J hw) J fun v_2 _=>as_ J J<|Zf<|Za<|Zu<|Zv (.inl J) hsc _ _ (fun a w hs=>Qj hs Tryz.results76 J) J trivial J (Xb 2 J J J Zj)
set_option maxHeartbeats 4000000 in
theorem r_over(v w:Value)(x y:Nat)(hx:bl x≤4000000000)(hy:bl y≤4000000000)(hy0:0<y):Cal Tryz.prog 124 #[v,w] [d9p v x,d9p w y] true (G:=Value×Value) (fun r=>True) (fun r=> .tuple #[r.1,r.2]) (fun r=>[d9p r.1 (x/y),d9p r.2 (x%y)]):=by
 refine Yd Tryz.func124 J Tryz.ntmps124 J K2 ?_
 intro w0 sc hw hsc
 simp only [Zp,Zn]
 have hX:=Kj x
 have hY:=Kj y
 refine Zb<|Zg<|as_ J J<|as_ J J<|Zf<|Za<|Zb<|Zg<|mv J J<|dt (Zy J J (i:=1) J Zi Mi) J<|tt (Hw (i:=3) (n:=(dg 1000000000 x).length) (by_:=8) (enc:=Dc) 0 J J J J J (by omega) Mi Tryz.ti3 J pN.cells pN.pos J J (by omega) (by decide) J hw) J fun v _=>as_ J J<|Zf<|Za<|Zb<|Zg<|as_ J J<|Zf<|Za<|Zb<|Zb<|Zg<|mv J J<|dt (Zy J J (i:=1) J Zi Mi) J<|dt (Qg J J J ⟨by omega,by omega⟩) J<|as_ J J<|Zf<|Za<|Zl<|Ys (Nj 71 1 3 Dc)<|Ys (Po 71 J J pN) ?_
 refine Nt [(0,_),(1,_),(6,_)] [(0,_),(1,_),(2,_)] (fun(q:Nat×List Nat×Nat×Value)=>[(8,.int .i64 ((q.1:Int)-1)),(7,q.2.2.2)]) (fun(q:Nat×List Nat×Nat×Value)=>[(3,osl 1 3 Dc v q.2.1),(71,d9p q.2.2.2 q.2.2.1)]) (fun(q:Nat×List Nat×Nat×Value)=>(q.1≤(dg 1000000000 x).length)∧(q.2.1.length=(dg 1000000000 x).length)∧(∀d∈q.2.1,d<1000000000)∧(∀j,j<q.1→q.2.1.getD j 0=0)∧(val 1000000000 (q.2.1.drop q.1)*y+q.2.2.1=x/1000000000^q.1)∧(q.2.2.1<y)) (fun(q:Nat×List Nat×Nat×Value)=>q.1) ((dg 1000000000 x).length,List.replicate (dg 1000000000 x).length 0,0,.slice none 0 0) ⟨Nat.le_refl _,by simp,Ow _ Hg,fun j _=>Lh _ j,by dsimp only;rw [Nat.div_eq_of_lt ((Xr Ov _ x).1 (Nat.le_refl _))];simp [val],hy0⟩ K5 K5 ?_
 rintro⟨k,q,r,vr⟩ ⟨hk,hql,hqa,hqz,hv,hr⟩
 dsimp only at hk hql hqa hqz hv hr
 simp only [List.cons_append,List.nil_append]
 refine Zb<|Zb<|Zg<|mv J J<|dt (Lq J J J) J<|Zf<|Za<|Zq J (fun h122=>?_) (fun h122=>?_)
 ·have hk0:0<k:=by omega
  have ha9:=Ql Hg (Le Ov x) (k-1)
  have hdig:x/1000000000^(k-1)=x/1000000000^k*1000000000+(dg 1000000000 x).getD (k-1) 0:=by rw [It Ov];exact(Zo4 hk0).symm
  rw [←hv,Nat.add_mul]at hdig
  have hrb:=bl_over hr ha9
  have hQ9:=over_Q hr ha9
  refine Zk<|Za<|Zb<|Zl<|Zb<|Zg<|mv J J<|mv J J<|dt (Yz (ii:=1) (i:=(k-1)) J J J J Zi Mi zT3 (by omega) (by omega)) J<|dt (Xs (ii:=1) 0 J J J Zi pN (by omega)) J<|tt (Pt (i:=72) (ivs:=[(0,_)]) (enc:=Dc) [(dg 1000000000 x).getD (k-1) 0] J J J K2 Mi Tryz.ti3 J J J J J J pN.cells J J hw) J fun v_2 _=>mv J J<|tt (Kt (i:=72) (j:=71) (by_:=8) J J J J J J (by decide) J Zi Mi Tryz.ti3 J pN J J J (by have h8:=Kj r;have h9:=Ok (Nat.le_of_lt hr);simp;omega) (by decide) J hw) J fun v_3 _=>tt (Zh (n:=3) (Lv _ _) J J J K1 Zw9 (Xu 72 J J pN Ze) J hw) J fun _ _=>Pq (Zff 72 J J pN)<|Pq (Zdt 72 (tz_cons Ov ha9) J J)<|Pq (Po 72 J J pN)<|as_ J J<|Zf<|Za<|Zb<|Zb<|Zg<|mv J J<|mv J J<|tt (Zh (n:=3) (Zks _ _ _ _ (by omega) (by omega)) J J J K2 cF90 (Zd 72 J J J (Zd 2 J J J Ze)) J hw) J fun _ _=>dt (Qb J J J) J<|Zf<|Za<|Zq J (fun h124=>?_) (fun h124=>?_)
  ·have hlt:(r*1000000000+(dg 1000000000 x).getD (k-1) 0)<y:=Zoa.1 h124
   refine Yu<|Zs<|Ox<|Za<|Zg<|mv J J<|dt (Qg J J J ⟨by omega,by omega⟩) J<|as_ J J<|Zf<|Pr (Nk 72 71 J J J) ?_
   have h2:=Zs4 hk0 (by omega:k≤q.length) (hqz (k-1) (by omega))
   exact Xq (k-1,q,r*1000000000+(dg 1000000000 x).getD (k-1) 0,_) ⟨by first | omega | (dsimp only<;>omega),by first | omega | (dsimp only<;>omega),by first | omega | (dsimp only<;>omega),fun j hj=>hqz j (by dsimp only at hj;omega),by have h9:1000000000*val 1000000000 (q.drop k)*y=val 1000000000 (q.drop k)*y*1000000000:=(by rw [Nat.mul_assoc,Nat.mul_comm]);dsimp only;rw [h2,hdig,h9];omega,hlt⟩ (by first | omega | (dsimp only<;>omega)) ⟨by rw [show(((k-1:Nat):Int)-1)=(k:Int)-1-1 by omega];rfl,rfl,rfl,rfl,rfl,trivial⟩ K5
  ·have hge:y≤(r*1000000000+(dg 1000000000 x).getD (k-1) 0):=by have:=mt Zoa.2 h124;omega
   refine Zk<|Za<|Zb<|Zg<|as_ J J<|as_ J J<|Zf<|Za<|Zb<|Zl<|Nt [(0,_),(1,_),(6,_),(7,_),(8,_)] [(0,_),(3,_),(71,_),(1,_),(2,_),(72,_)] (fun(q:Nat×Nat)=>[(9,.int .i64 (q.1:Int)),(10,.int .i64 (q.2:Int))]) (fun(q:Nat×Nat)=>[]) (fun(q:Nat×Nat)=>(q.1≤(r*1000000000+(dg 1000000000 x).getD (k-1) 0)/y)∧((r*1000000000+(dg 1000000000 x).getD (k-1) 0)/y≤q.2)∧(q.2<1000000000)) (fun(q:Nat×Nat)=>q.2-q.1) (0,999999999) ⟨Nat.zero_le _,by omega,by first | omega | (dsimp only<;>omega)⟩ K7 K6 ?_
   rintro⟨lo,hi⟩ ⟨hlo,hhi,hh9⟩
   dsimp only at hlo hhi hh9
   simp only [List.cons_append,List.nil_append]
   have hmid:(lo+hi+1)/2<1000000000:=by omega
   refine Zb<|Zb<|Zg<|mv J J<|mv J J<|dt (Qb J J J) J<|Zf<|Za<|Zq J (fun h128=>?_) (fun h128=>?_)
   ·refine Zk<|Za<|Zl<|Zb<|Zg<|mv J J<|mv J J<|dt (Zho J J J (by omega)) J<|dt (Zho (n:=1) J J J (by omega)) J<|dt (Zk9 (n:=2) J J J (by omega) (by omega)) J<|as_ J J<|Zf<|Za<|Zb<|Zg<|mv J J<|mv J J<|tt (Zh (n:=4) (Zhc _ _ _ (by omega) (by omega)) J J J K2 cF76 (Zd 2 J J J Ze) J hw) J fun v_4 _=>mv J J<|tt (Zh (n:=4) (Zks _ _ _ _ (by have:=Zia (y:=y) hmid;omega) (by omega)) J J J K2 cF90 (Zd 4 J J J (Zd 72 J J J Ze)) J hw) J fun _ _=>dt (De J J J) J<|Zf<|Za<|Zq J (fun h130=>?_) (fun h130=>?_)
    ·have hcm:y*((lo+hi+1)/2)≤(r*1000000000+(dg 1000000000 x).getD (k-1) 0):=Ztm.1 h130
     exact Zg<|mv J J<|as_ J J<|Zf<|Ob<|Xq ((lo+hi+1)/2,hi) ⟨(Nat.le_div_iff_mul_le hy0).2 (by rw [Nat.mul_comm];exact hcm),by first | omega | (dsimp only<;>omega),by first | omega | (dsimp only<;>omega)⟩ (by first | omega | (dsimp only<;>omega)) K7 K6
    ·have hcm:(r*1000000000+(dg 1000000000 x).getD (k-1) 0)<y*((lo+hi+1)/2):=by have:=mt Ztm.2 h130;omega
     exact Zg<|mv J J<|dt (Qg J J J ⟨by omega,by omega⟩) J<|as_ J J<|Zf<|Ob<|Xq (lo,(lo+hi+1)/2-1) ⟨by first | omega | (dsimp only<;>omega),by have h7:=(Nat.div_lt_iff_lt_mul hy0).2 (show(r*1000000000+(dg 1000000000 x).getD (k-1) 0)<(lo+hi+1)/2*y by have h6:=Nat.mul_comm ((lo+hi+1)/2) y;omega);dsimp only;omega,by first | omega | (dsimp only<;>omega)⟩ (by first | omega | (dsimp only<;>omega)) ⟨J,by rw [show(((lo+hi+1)/2-1:Nat):Int)=(((lo+hi+1)/2:Nat):Int)-1 by omega];rfl,rfl,rfl,rfl,rfl,rfl,trivial⟩ K6
   ·have hloQ:lo=(r*1000000000+(dg 1000000000 x).getD (k-1) 0)/y:=by omega
    refine Yu<|Zs<|Zs<|Ox<|Za<|Zb<|Zg<|mv J J<|mv J J<|mv J J<|dt (Yz (ii:=3) (i:=(k-1)) J J J J (Yn pN) Mi zT3 (by omega) (by omega)) J<|tt (Kr (i:=3) (enc:=Dc) _ J J J J J J (by decide) pN (by omega) J hw) J fun _ _=>Zf<|Za<|Zg<|mv J J<|mv J J<|mv J J<|tt (Zh (n:=5) (Zhc _ _ _ (by omega) (by omega)) J J J K2 cF76 (Zd 2 J J J Ze) J hw) J fun v_5 _=>tt (Zh (n:=6) (Zkt _ _ _ _ (by omega) (by rw [hloQ];exact Nat.mul_div_le _ _)) J J J K2 cF91 (Zd 72 J J J (Zd 5 J J J Ze)) J hw) J fun v_6 _=>as_ J J<|Zf<|Ob<|Za<|Zg<|mv J J<|dt (Qg J J J ⟨by omega,by omega⟩) J<|as_ J J<|Zf<|Pr (Nk 6 71 J J J) ?_
    have h2:=Zb5 (d:=lo) hk0 (by omega:k≤q.length)
    have h16:y*lo≤(r*1000000000+(dg 1000000000 x).getD (k-1) 0):=by rw [hloQ];exact Nat.mul_div_le _ _
    exact Xq (k-1,_,(r*1000000000+(dg 1000000000 x).getD (k-1) 0)-y*lo,_) ⟨by first | omega | (dsimp only<;>omega),by simp [hql],Lk hqa _ _ (by omega),fun j hj=>by dsimp only at hj ⊢;rw [Nd _ _ _ _ _ (by omega),if_neg (by omega)];exact hqz j (by omega),by have h9:1000000000*val 1000000000 (q.drop k)*y=val 1000000000 (q.drop k)*y*1000000000:=(by rw [Nat.mul_assoc,Nat.mul_comm]);dsimp only;rw [h2,hdig,Nat.add_mul,h9];have h5:lo*y=y*lo:=Nat.mul_comm _ _;omega,by dsimp only;rw [hloQ];have h5:=Nat.div_add_mod (r*1000000000+(dg 1000000000 x).getD (k-1) 0) y;have h6:=Nat.mod_lt (r*1000000000+(dg 1000000000 x).getD (k-1) 0) hy0;omega⟩ (by first | omega | (dsimp only<;>omega)) ⟨by rw [show(((k-1:Nat):Int)-1)=(k:Int)-1-1 by omega];rfl,rfl,rfl,rfl,rfl,trivial⟩ K5
 ·refine Yu<|Zs<|Zs<|Ox<|Za<|Zb<|Zg<|mv J J<|tt (Zh (n:=6) (Lv _ _) J J J K1 Zw9 (Xu 3 J J pN Ze) J hw) J fun _ _=>Pq (Zff 3 J J pN)<|mv J J<|as_ J J<|as_ J J<|Zf<|Za<|Zu ?_
  obtain rfl:k=0:=by omega
  rw [List.drop_zero,Nat.pow_zero,Nat.div_one]at hv
  have hq:val 1000000000 q=x/y:=by rw [←hv,Nat.mul_comm,Nat.mul_add_div hy0,Nat.div_eq_of_lt hr,Nat.add_zero]
  have hr2:r=x%y:=by rw [←hv,Nat.mul_comm,Nat.mul_add_mod,Nat.mod_eq_of_lt hr]
  have hx:tz q=dg 1000000000 (x/y):=by rw [←Kf Ov _ hqa,hq]
  exact Zv (.inl J) hsc (_,_) _ (fun a w hs=>Ni hs Tryz.results124 J J) J trivial J (Ps 3 J J pN (by rw [hx]<;>rfl) (Yj 71 J J J (by rw [hr2]<;>rfl) Zj))
theorem Bd(s:Bool)(v:Value)(n:Nat)(z:Int)(hn:n=z.natAbs)(hs:sg s z)(hb:bl n≤4294967296):Cal Tryz.prog 78 #[.bool s,v] [d9p v n] false (G:=Unit) (fun _=>True) (fun _=> .agg #[.bool (decide (z<0)),v]) (fun _=>[]):=by
 refine Yd Tryz.func78 J Tryz.ntmps78 J K1 ?_
 intro w0 sc hw hsc
 simp only [Zp,Zn]
 have hl9:=Kj n
 refine Zb<|Zg<|tt (Zo (i:=2) J J J Tryz.zeroValue48 J J hw) J fun b _=>Zf<|Za<|Zb<|Zg<|mv J J<|mv J J<|Es (d:=6) J (fun s143=>?_) (fun s143=>?_)
 ·exact gdt (Ym J J) J J J J<|gdt (Zy J J (i:=1) J Zi Mi) J J J J<|gdt (On J J J) J J J J<|dt (Xh J J J) J<|mv J J<|dt (Oh (ivs:=[(0,_),(1,_)]) J K4 (fun a w hs=>b48_01 ((Zc J) a w hs) ((Zr (i:=1) J Zi) a w hs))) J<|tt (Zm (i:=2) J J J J J (by decide) J Pf J J ⟨Zc J,Zr (i:=1) J Zi,trivial⟩ J hw trivial) J fun _ _=>Zf<|Za<|Zu<|Zv (.inl J) hsc () _ (fun a w hs=>Qj hs Tryz.results78 (Yp (i:=2) J J Hh Pf J)) (by rw [←made_b hn hs,←Znm];simp_all) trivial J Zj
 ·exact gsk J J J J J<|gsk J J J J J<|gsk J J J J J<|dt (Yh J J J) J<|mv J J<|dt (Oh (ivs:=[(0,_),(1,_)]) J K4 (fun a w hs=>b48_01 ((Zc J) a w hs) ((Zr (i:=1) J Zi) a w hs))) J<|tt (Zm (i:=2) J J J J J (by decide) J Pf J J ⟨Zc J,Zr (i:=1) J Zi,trivial⟩ J hw trivial) J fun _ _=>Zf<|Za<|Zu<|Zv (.inl J) hsc () _ (fun a w hs=>Qj hs Tryz.results78 (Yp (i:=2) J J Hh Pf J)) (by rw [←made_b hn hs,←Znm];simp_all) trivial J Zj
theorem r_neg(v:Value)(x:Int)(hx:bl x.natAbs≤3000000000):Cal Tryz.prog 73 #[.agg #[.bool (decide (x<0)),v]] [d9p v x.natAbs] true (G:=Value) (fun r=>True) (fun r=> .agg #[.bool (decide (-x<0)),r]) (fun r=>[d9p r (-x).natAbs]):=by
 refine Yd Tryz.func73 J Tryz.ntmps73 J K1 ?_
 intro w0 sc hw hsc
 simp only [Zp,Zn]
 exact Zb<|Zg<|tt (Xl (i:=2) J J J J J J hw) J fun b _=>tt (Zo (i:=3) J J J Tryz.zeroValue48 J J hw) J fun b_2 _=>Zf<|Za<|Zb<|Zg<|dt (Xy J J Aa J zT4 J J) J<|dt (Oa (i:=2) J J J iA4 J) J<|dt (Xo J J) J<|dt (Xy J J Aa J Zig J J) J<|dt (Oa (i:=2) J J J Zjh J) J<|tt (Zh (n:=3) (Bd _ _ _ (-x) (Int.natAbs_neg x).symm (sg_neg (Xj x)) (by omega)) J J J K2 Zuj (Zd 1 J J J Ze) J hw) J fun _ _=>tt (Zm (i:=3) J J J J J (by decide) J Pf J J ⟨Zc J,Zr (i:=1) J Zi,trivial⟩ J hw trivial) J fun _ _=>Zf<|Za<|Zu<|Zv (.inl J) hsc _ _ (fun a w hs=>Qj hs Tryz.results73 (Yp (i:=3) J J Hh Pf J)) J trivial J (Yj 1 J J J (by rw [Int.natAbs_neg]<;>rfl) Zj)
theorem Zvp(v w:Value)(x y:Int)(hx:bl x.natAbs≤3000000000)(hy:bl y.natAbs≤3000000000):Cal Tryz.prog 37 #[.agg #[.bool (decide (x<0)),v],.agg #[.bool (decide (y<0)),w]] [d9p v x.natAbs,d9p w y.natAbs] true (G:=Value) (fun r=>True) (fun r=> .agg #[.bool (decide (x+y<0)),r]) (fun r=>[d9p r (x+y).natAbs]):=by
 refine Yd Tryz.func37 J Tryz.ntmps37 J K2 ?_
 intro w0 sc hw hsc
 simp only [Zp,Zn]
 have hb:=Km x y
 refine Zb<|Zg<|tt (Xl (i:=3) J J J J J J hw) J fun b _=>tt (Xl (i:=4) J J J J J J hw) J fun b_2 _=>tt (Zo (i:=5) J J J Tryz.zeroValue48 J J hw) J fun b_3 _=>Zf<|Za<|Zb<|Zb<|Zg<|dt (Xy J J Aa J zT4 J J) J<|dt (Oa (i:=3) J J J iA4 J) J<|dt (Xy J J Aa J zT4 J J) J<|dt (Oa (i:=4) J J J iA4 J) J<|dt (d_eqb J J J uT4) J<|Zf<|Za<|Mq J (fun h189=>?_) (fun h189=>?_)
 ·replace h189:=beq_dec h189
  refine Zb<|Qs (fun _=>False) [(0,0),(1,0),(2,0),(3,0),(4,0),(5,0),(6,1),(7,1),(8,3)] (by kernel_rfl) ?_ ?_
  ·kernel_rfl
  exact r0' J J J J (st0 (Xy J J Aa J zT4 J J))<|r0' J J J J (st0 (Oa (i:=3) J J J iA4 J))<|r0' J J J J (st0 (Xy J J Aa J Zig J J))<|r0' J J J J (st0 (Oa (i:=3) J J J Zjh J))<|r0' J J J J (st0 (Xy J J Aa J Zig J J))<|r0' J J J J (st0 (Oa (i:=4) J J J Zjh J))<|r1' J J (Zh (n:=6) (Zq3 _ _ _ _ (by omega) (by omega)) J J J K2 cF75 (Zd 1 J J J (Zd 2 J J J Ze)) J hw) fun v _=>r1' J J (Zh (n:=6) (Bd _ _ _ (x+y) (Zc6 (Xj x) (h189▸Xj y)).symm (Zqo (Xj x) (h189▸Xj y)) (by rw [←Zc6 (Xj x) (h189▸Xj y)];omega)) J J J K2 Zuj (Zd 6 J J J Ze) J hw) fun _ _=>r3' J J (Zm (i:=5) J J J J J (by decide) J Pf J J ⟨Zc J,Zr (i:=6) J Zi,trivial⟩ J hw trivial) fun _ _=>Og<|Za<|Zu<|Xe<|Zv (.inl J) hsc _ _ (fun a w hs=>Qj hs Tryz.results37 (Yp (i:=5) J J Hh Pf J)) J trivial J (Yj 6 J J J (by rw [Zc6 (Xj x) (h189▸Xj y)]<;>rfl) Zj)
 ·have hne:decide (x<0)≠decide (y<0):=by simpa using h189
  refine Zk<|Za<|Zb<|Zb<|Zg<|dt (Xy J J Aa J Zig J J) J<|dt (Oa (i:=3) J J J Zjh J) J<|dt (Xy J J Aa J Zig J J) J<|dt (Oa (i:=4) J J J Zjh J) J<|tt (Zh (n:=6) (Zks _ _ _ _ (by omega) (by omega)) J J J K2 cF90 (Zd 1 J J J (Zd 2 J J J Ze)) J hw) J fun _ _=>dt (Lq J J J) J<|Zf<|Za<|Zq J (fun h192=>?_) (fun h192=>?_)
  ·have hge:y.natAbs≤x.natAbs:=Ztn.1 h192
   refine Zb<|Qs (fun _=>False) [(0,0),(1,0),(2,0),(3,0),(4,0),(5,0),(6,1),(7,1),(8,3)] (by kernel_rfl) ?_ ?_
   ·kernel_rfl
   exact r0' J J J J (st0 (Xy J J Aa J zT4 J J))<|r0' J J J J (st0 (Oa (i:=3) J J J iA4 J))<|r0' J J J J (st0 (Xy J J Aa J Zig J J))<|r0' J J J J (st0 (Oa (i:=3) J J J Zjh J))<|r0' J J J J (st0 (Xy J J Aa J Zig J J))<|r0' J J J J (st0 (Oa (i:=4) J J J Zjh J))<|r1' J J (Zh (n:=7) (Zkt _ _ _ _ (by omega) hge) J J J K2 cF91 (Zd 1 J J J (Zd 2 J J J Ze)) J hw) fun v_2 _=>r1' J J (Zh (n:=7) (Bd _ _ _ (x+y) (Cv (Xj x) (Xj y) hne hge).symm (Zg0 (Xj x) (Xj y) hne hge) (by have:=Ok (Nat.sub_le x.natAbs y.natAbs);omega)) J J J K2 Zuj (Zd 7 J J J Ze) J hw) fun _ _=>r3' J J (Zm (i:=5) J J J J J (by decide) J Pf J J ⟨Zc J,Zr (i:=7) J Zi,trivial⟩ J hw trivial) fun _ _=>Og<|Za<|Zu<|Xe<|Zv (.inl J) hsc _ _ (fun a w hs=>Qj hs Tryz.results37 (Yp (i:=5) J J Hh Pf J)) J trivial J (Yj 7 J J J (by rw [Cv (Xj x) (Xj y) hne hge]<;>rfl) Zj)
  ·have hge:x.natAbs≤y.natAbs:=by have:=mt Ztn.2 h192;omega
   refine Zk<|Za<|Zb<|Qs (fun _=>False) [(0,0),(1,0),(2,0),(3,0),(4,0),(5,0),(6,1),(7,1),(8,3)] (by kernel_rfl) ?_ ?_
   ·kernel_rfl
   exact r0' J J J J (st0 (Xy J J Aa J zT4 J J))<|r0' J J J J (st0 (Oa (i:=4) J J J iA4 J))<|r0' J J J J (st0 (Xy J J Aa J Zig J J))<|r0' J J J J (st0 (Oa (i:=4) J J J Zjh J))<|r0' J J J J (st0 (Xy J J Aa J Zig J J))<|r0' J J J J (st0 (Oa (i:=3) J J J Zjh J))<|r1' J J (Zh (n:=8) (Zkt _ _ _ _ (by omega) hge) J J J K2 cF91 (Zd 2 J J J (Zd 1 J J J Ze)) J hw) fun v_3 _=>r1' J J (Zh (n:=8) (Bd _ _ _ (x+y) (by rw [Int.add_comm x];exact(Cv (Xj y) (Xj x) (Ne.symm hne) hge).symm) (by rw [Int.add_comm x];exact Zg0 (Xj y) (Xj x) (Ne.symm hne) hge) (by have:=Ok (Nat.sub_le y.natAbs x.natAbs);omega)) J J J K2 Zuj (Zd 8 J J J Ze) J hw) fun _ _=>r3' J J (Zm (i:=5) J J J J J (by decide) J Pf J J ⟨Zc J,Zr (i:=8) J Zi,trivial⟩ J hw trivial) fun _ _=>Og<|Za<|Zu<|Zv (.inl J) hsc _ _ (fun a w hs=>Qj hs Tryz.results37 (Yp (i:=5) J J Hh Pf J)) J trivial J (Yj 8 J J J (by rw [Int.add_comm x,Cv (Xj y) (Xj x) (Ne.symm hne) hge]<;>rfl) Zj)
theorem Zkr(v w:Value)(x y:Int)(hx:bl x.natAbs≤3000000000)(hy:bl y.natAbs≤3000000000):Cal Tryz.prog 87 #[.agg #[.bool (decide (x<0)),v],.agg #[.bool (decide (y<0)),w]] [d9p v x.natAbs,d9p w y.natAbs] true (G:=Value) (fun r=>True) (fun r=> .agg #[.bool (decide (x-y<0)),r]) (fun r=>[d9p r (x-y).natAbs]):=by
 refine Yd Tryz.func87 J Tryz.ntmps87 J K2 ?_
 intro w0 sc hw hsc
 simp only [Zp,Zn]
 have hb:=Cd x y
 have hn:=Zj2 y
 refine Zb<|Zg<|tt (Xl (i:=3) J J J J J J hw) J fun b _=>tt (Xl (i:=4) J J J J J J hw) J fun b_2 _=>tt (Zo (i:=5) J J J Tryz.zeroValue48 J J hw) J fun b_3 _=>Zf<|Za<|Zb<|Qs (fun _=>False) [(0,0),(1,0),(2,1),(3,1),(4,3)] (by kernel_rfl) ?_ ?_
 ·kernel_rfl
 exact r0' J J J J (st0 (Yc (i:=3) J J J Hh Pf J J))<|r0' J J J J (st0 (Yc (i:=4) J J J Hh Pf J J))<|r1' J J (Zh (n:=6) (r_neg _ _ (by omega)) J J J K1 cF73 (Zd 2 J J J Ze) J hw) fun v _=>r1' J J (Zh (n:=7) (Zvp _ _ _ _ (by omega) (by omega)) J J J K2 cF37 (Zd 1 J J J (Zd 6 J J J Ze)) J hw) fun v_2 _=>r3' J J (Zm (i:=5) J J J J J (by decide) J Pf J J ⟨Zc J,Zr (i:=7) J Zi,trivial⟩ J hw trivial) fun _ _=>Og<|Za<|Zu<|Zv (.inl J) hsc _ _ (fun a w hs=>Qj hs Tryz.results87 (Yp (i:=5) J J Hh Pf J)) (by rw [Int.sub_eq_add_neg]<;>rfl) trivial J (Yj 7 J J J (by rw [Int.sub_eq_add_neg]<;>rfl) Zj)
theorem Zez(v w:Value)(x y:Int)(hx:bl x.natAbs≤1000000000)(hy:bl y.natAbs≤1000000000):Cal Tryz.prog 69 #[.agg #[.bool (decide (x<0)),v],.agg #[.bool (decide (y<0)),w]] [d9p v x.natAbs,d9p w y.natAbs] true (G:=Value) (fun r=>True) (fun r=> .agg #[.bool (decide (x*y<0)),r]) (fun r=>[d9p r (x*y).natAbs]):=by
 refine Yd Tryz.func69 J Tryz.ntmps69 J K2 ?_
 intro w0 sc hw hsc
 simp only [Zp,Zn]
 have hb:=Qh x y
 refine Zb<|Zg<|tt (Xl (i:=3) J J J J J J hw) J fun b _=>tt (Xl (i:=4) J J J J J J hw) J fun b_2 _=>tt (Zo (i:=5) J J J Tryz.zeroValue48 J J hw) J fun b_3 _=>Zf<|Za<|Zb<|Qs (fun _=>False) [(0,0),(1,0),(2,0),(3,0),(4,0),(5,0),(6,0),(7,0),(8,0),(9,1),(10,1),(11,3)] (by kernel_rfl) ?_ ?_
 ·kernel_rfl
 exact r0' J J J J (st0 (Xy J J Aa J zT4 J J))<|r0' J J J J (st0 (Oa (i:=3) J J J iA4 J))<|r0' J J J J (st0 (Xy J J Aa J zT4 J J))<|r0' J J J J (st0 (Oa (i:=4) J J J iA4 J))<|r0' J J J J (st0 (Zlu J J J uT4))<|r0' J J J J (st0 (Xy J J Aa J Zig J J))<|r0' J J J J (st0 (Oa (i:=3) J J J Zjh J))<|r0' J J J J (st0 (Xy J J Aa J Zig J J))<|r0' J J J J (st0 (Oa (i:=4) J J J Zjh J))<|r1' J J (Zh (n:=6) (Zq2 _ _ _ _ (by omega) (by omega)) J J J K2 cF123 (Zd 1 J J J (Zd 2 J J J Ze)) J hw) fun v _=>r1' J J (Zh (n:=6) (Bd _ _ _ (x*y) (Int.natAbs_mul x y).symm (sg_mul (Xj x) (Xj y)) (by rw [←Int.natAbs_mul];omega)) J J J K2 Zuj (Zd 6 J J J Ze) J hw) fun _ _=>r3' J J (Zm (i:=5) J J J J J (by decide) J Pf J J ⟨Zc J,Zr (i:=6) J Zi,trivial⟩ J hw trivial) fun _ _=>Og<|Za<|Zu<|Zv (.inl J) hsc _ _ (fun a w hs=>Qj hs Tryz.results69 (Yp (i:=5) J J Hh Pf J)) J trivial J (Yj 6 J J J (by rw [Int.natAbs_mul]<;>rfl) Zj)
theorem Zfk(v:Value)(x:Int)(hx:bl x.natAbs≤3000000000):Cal Tryz.prog 72 #[.agg #[.bool (decide (x<0)),v]] [d9p v x.natAbs] false (G:=Unit) (fun _=>True) (fun _=> .int .i64 x.sign) (fun _=>[]):=by
 refine Yd Tryz.func72 J Tryz.ntmps72 J K1 ?_
 intro w0 sc hw hsc
 simp only [Zp,Zn]
 have hl9:=Kj x.natAbs
 refine Zb<|Zg<|tt (Xl (i:=2) J J J J J J hw) J fun b _=>as_ J J<|Zf<|Za<|Zb<|Zb<|Zg<|dt (Xy J J Aa J Zig J J) J<|dt (Oa (i:=2) J J J Zjh J) J<|dt (Zy J J (i:=1) J Zi Mi) J<|dt (Pi J J J) J<|Zf<|Za<|Zq J (fun h206=>?_) (fun h206=>?_)
 ·exact Zb<|Zg<|as_ J J<|Zf<|Za<|Zu<|Xe<|Zv (.inl J) hsc () _ (fun a w hs=>Qj hs Tryz.results72 J) (sign9 h206) trivial J Zj
 ·refine Zk<|Za<|Zb<|Zb<|Zg<|dt (Xy J J Aa J zT4 J J) J<|dt (Oa (i:=2) J J J iA4 J) J<|Zf<|Za<|Mq J (fun h209=>?_) (fun h209=>?_)
  ·exact Zb<|Zg<|as_ J J<|Zf<|Za<|Zu<|Xe<|Zv (.inl J) hsc () _ (fun a w hs=>Qj hs Tryz.results72 J) (by rw [Int.sign_eq_neg_one_of_neg (by simpa using h209)]) trivial J Zj
  ·exact Zk<|Za<|Zb<|Zg<|as_ J J<|Zf<|Za<|Zu<|Zv (.inl J) hsc () _ (fun a w hs=>Qj hs Tryz.results72 J) (by have h3:=Zht h206;have h4:¬x<0:=(by simpa using h209);rw [Int.sign_eq_one_of_pos (by omega)]) trivial J Zj
theorem Zi2(x:Int)(hx:inI x):Cal Tryz.prog 34 #[.int .i64 x] [] true (G:=Value) (fun r=>True) (fun r=> .agg #[.bool (decide (x<0)),r]) (fun r=>[d9p r (x).natAbs]):=by
 refine Yd Tryz.func34 J Tryz.ntmps34 J trivial ?_
 intro w0 sc hw hsc
 simp only [Zp,Zn]
 have hxa:=hx.1
 have hxb:=hx.2
 refine Ys (Nj 60 1 3 Dc)<|Ys (Po 60 J J pN)<|Zb<|Zg<|tt (Zo (i:=1) J J J Tryz.zeroValue48 J J hw) J fun b _=>Zf<|Za<|Zb<|Zb<|Zg<|mv J J<|dt (Lq J J J) J<|Zf<|Za<|Zq J (fun h147=>?_) (fun h147=>?_)
 ·obtain⟨m,rfl⟩:∃m:Nat,x=(m:Int):=⟨x.natAbs,by omega⟩
  have hbm:bl m≤64:=(Mf 64 m).2 (by omega)
  exact Zb<|Zg<|mv J J<|dt (Zry (n:=1000000000) J J J (by omega)) J<|mv J J<|dt (Zk9 (n:=1000000000) J J J (by omega) (by omega)) J<|dt (Zry (n:=1000000000) J J J (by omega)) J<|mv J J<|dt (Zk9 (n:=1000000000) J J J (by omega) (by omega)) J<|dt (Zk9 (n:=1000000000) J J J (by omega) (by omega)) J<|tt (Pt (i:=70) (ivs:=[(0,_),(1,_),(2,_)]) (enc:=Dc) [m%1000000000,m/1000000000%1000000000,m/1000000000/1000000000] J J J K6 Mi Tryz.ti3 J J J J J J pN.cells J J hw) J fun v _=>tt (Zh (n:=1) (Lv _ _) J J J K1 Zw9 (Xu 70 J J pN Ze) J hw) J fun _ _=>Pq (Zff 70 J J pN)<|Pq (Zdt 70 (Zmk (by omega)) J J)<|tt (Zh (n:=1) (Bd _ _ _ ((m:Int)) (by omega) (by simp [sg]) (by omega)) J J J K2 Zuj (Xu 70 J J pN Ze) J hw) J fun _ _=>tt (Zm (i:=1) J J J J J (by decide) J Pf J J ⟨Zc J,Zr (i:=70) J (Yn pN),trivial⟩ J hw trivial) J fun _ _=>Zf<|Za<|Zu<|Xe<|Zv (.inl J) hsc _ _ (fun a w hs=>Qj hs Tryz.results34 (Yp (i:=1) J J Hh Pf J)) J trivial J (Ps 70 J J pN (by rw [Int.natAbs_natCast]<;>rfl) Zj)
 ·obtain⟨m,rfl⟩:∃m:Nat,x=-(m:Int):=⟨x.natAbs,by omega⟩
  have hbm:bl m≤64:=(Mf 64 m).2 (by omega)
  refine Zk<|Za<|Zb<|Zg<|mv J J<|dt (nn_rem (n:=1000000000) J J J (by omega)) J<|dt (n_neg J J (by omega)) J<|mv J J<|dt (Zrs (n:=1000000000) J J J (by omega) (by omega)) J<|dt (nn_rem (n:=1000000000) J J J (by omega)) J<|dt (n_neg J J (by omega)) J<|mv J J<|dt (Zrs (n:=1000000000) J J J (by omega) (by omega)) J<|dt (Zrs (n:=1000000000) J J J (by omega) (by omega)) J<|dt (n_neg J J (by omega)) J<|tt (Pt (i:=70) (ivs:=[(0,_),(1,_),(2,_)]) (enc:=Dc) [m%1000000000,m/1000000000%1000000000,m/1000000000/1000000000] J J J K6 Mi Tryz.ti3 J J J J J J pN.cells J J hw) J fun v_2 _=>tt (Zh (n:=1) (Lv _ _) J J J K1 Zw9 (Xu 70 J J pN Ze) J hw) J fun _ _=>Pq (Zff 70 J J pN)<|Pq (Zdt 70 (Zmk (by omega)) J J)<|Pq (Zdt 70 (ys:=dg 1000000000 (-(m:Int)).natAbs) (by rw [Int.natAbs_neg,Int.natAbs_natCast]) J J)<|Pq (Po 70 J J pN)<|tt (Zh (n:=1) (Bd _ _ _ ((-(m:Int))) J (by simp [sg]) (by rw [Int.natAbs_neg,Int.natAbs_natCast];omega)) J J J K2 Zuj (Zd 70 J J J Ze) J hw) J fun _ _=>dt (Oh (ivs:=[]) J trivial (fun a w hs=>b48_)) J ?_
  exact tt (Zh (n:=2) (Zkr _ _ (-(m:Int)) 0 (by rw [Int.natAbs_neg,Int.natAbs_natCast];omega) (by decide)) J J J K2 cF87 (Zd 70 J J J (Zd 60 J J J Ze)) J hw) J fun v_3 _=>tt (Zm (i:=1) J J J J J (by decide) J Pf J J ⟨Zc J,Zr (i:=2) J Zi,trivial⟩ J hw trivial) J fun _ _=>Zf<|Za<|Zu<|Zv (.inl J) hsc _ _ (fun a w hs=>Qj hs Tryz.results34 (Yp (i:=1) J J Hh Pf J)) (by rw [Int.sub_zero]<;>rfl) trivial J (Yj 2 J J J (by rw [Int.sub_zero]<;>rfl) Zj)
theorem r_from(x:Int)(hx:bl x.natAbs≤2000000000):Cal Tryz.prog 30 #[wv x] [] true (G:=Value) (fun r=>True) (fun r=> .agg #[.bool (decide (x<0)),r]) (fun r=>[d9p r (x).natAbs]):=by
 refine Yd Tryz.func30 J Tryz.ntmps30 J trivial ?_
 intro w0 sc hw hsc
 simp only [Zp,Zn]
 obtain⟨n,hn⟩:∃n,n=x.natAbs:=⟨_,rfl⟩
 have hl8:=Zab n
 have hxn:bl n≤2000000000:=by rw [hn];exact hx
 have hsz:(Xd x.natAbs).size=(dg 256 n).length:=by rw [←hn];exact Ms n
 refine Zb<|Zg<|tt (Xl (i:=1) J J J J J J hw) J fun b _=>tt (Zo (i:=2) J J J Tryz.zeroValue48 J J hw) J fun b_2 _=>Zf<|Za<|Zb<|Zg<|as_ J J<|Zf<|Za<|Zb<|Zb<|Zg<|as_ J J<|Zf<|Za<|Zl<|Ys (Nj 70 1 3 Dc)<|Ys (Po 70 J J pN)<|Nt [(1,_),(2,_)] [(0,_),(1,_),(2,_)] (fun(q:Nat×Value)=>[(4,.int .i64 (q.1:Int)),(3,q.2)]) (fun(q:Nat×Value)=>[(70,d9p q.2 (n/256^((dg 256 n).length-q.1)))]) (fun(q:Nat×Value)=>q.1≤(dg 256 n).length) (fun(q:Nat×Value)=>(dg 256 n).length-q.1) (0,.slice none 0 0) (by first | omega | (dsimp only<;>omega)) K4 ⟨by rw [Zsm];rfl,rfl,rfl,rfl,trivial⟩ ?_
 rintro⟨i,vd⟩ hi
 dsimp only at hi
 simp only [List.cons_append,List.nil_append]
 have hnb:bl (n/256^((dg 256 n).length-i))≤bl n:=Ok (Nat.div_le_self _ _)
 refine Zb<|Zb<|Zg<|mv J J<|dt (Xy J J Zca J zT9 J J) J<|dt (Oa (i:=1) J J J iA9 J) J<|dt (Ca J J uT9) J<|dt (Qb J J J) J<|Zf<|Za<|Zq J (fun h157=>?_) (fun h157=>?_)
 ·have hby:((Xd x.natAbs).data.toList.getD i 0).toNat=n/256^((dg 256 n).length-1-i)%256:=by rw [←hn];exact Zc4 n i (by omega)
  refine Zk<|Za<|Zb<|Zl<|Ga (fun _=>False) [10] (by kernel_rfl)<|Zx (n:=5) [(0,0),(2,0),(3,0),(4,0),(5,0),(6,0)] (by kernel_rfl)<|r0' J J J J (st0 (Ym J J))<|r0' J J J J (st0 (Xy J J Zca J zT9 J J))<|r0' J J J J (st0 (Oa (i:=1) J J J iA9 J))<|r0' J J J J (st0 (Ym J J))<|r0' J J J J (st0 (Zpb (i:=i) J J J uT9 J (by omega)))<|r0' J J J J (st0 (Bf J J uT5 uT3 ⟨by omega,by rw [hby];omega⟩))<|Yr<|Pu (n:=4) 1 7 (by kernel_rfl) ?_ ?_
  ·exact Yo J J (Zh (n:=73) (Zhc _ _ 256 (by omega) (by omega)) J J J K2 cF76 (Zd 70 J J J Ze) J hw) fun v _=>Zx (n:=2) [(7,1),(8,1)] (by kernel_rfl)<|r1' J J (Pt (i:=72) (ivs:=[(0,_)]) (enc:=Dc) [((Xd x.natAbs).data.toList.getD i 0).toNat] J J J K2 Mi Tryz.ti3 J J J J J J pN.cells J J hw) fun v_2 _=>r1' J J (Zh (n:=2) (Lv _ _) J J J K1 Zw9 (Xu 72 J J pN Ze) J hw) fun _ _=>Yr<|Zxm (Zff 72 J J pN)<|Zxm (Zdt 72 (tz_one Ov (by rw [hby];omega)) J J)<|Zx (n:=0) [(9,1),(10,3)] (by kernel_rfl)<|r1' J J (Zh (n:=74) (Zq3 _ _ _ _ (by have:=Zia (y:=(n/256^((dg 256 n).length-i))) (n:=256) (by omega);omega) (by rw [hby];exact Nat.le_trans (Zib _) (by omega))) J J J K2 cF75 (Zd 73 J J J (Xu 72 J J pN Ze)) J hw) fun v_3 _=>r3' J J (Od (Kk J J) J J) fun _ _=>Yr<|Yl (by kernel_rfl)<|Ob<|Za<|Zg<|mv J J<|dt (Yt J J J ⟨by omega,by omega⟩) J<|as_ J J<|Zf<|Pr (Nk 74 70 J J J)<|Xq (i+1,_) (by first | omega | (dsimp only<;>omega)) (by first | omega | (dsimp only<;>omega)) K4 ⟨by rw [hby,Zjm (by omega)];rfl,rfl,rfl,rfl,trivial⟩
  ·exact Yo J J (Pt (i:=72) (ivs:=[(0,_)]) (enc:=Dc) [((Xd x.natAbs).data.toList.getD i 0).toNat] J J J K2 Mi Tryz.ti3 J J J J J J pN.cells J J hw) fun v_4 _=>Zx (n:=2) [(1,1),(8,1)] (by kernel_rfl)<|r1' J J (Zh (n:=73) (Zhc _ _ 256 (by omega) (by omega)) J J J K2 cF76 (Zd 70 J J J Ze) J hw) fun v_5 _=>r1' J J (Zh (n:=2) (Lv _ _) J J J K1 Zw9 (Xu 72 J J pN Ze) J hw) fun _ _=>Yr<|Zxm (Zff 72 J J pN)<|Zxm (Zdt 72 (tz_one Ov (by rw [hby];omega)) J J)<|Zx (n:=0) [(9,1),(10,3)] (by kernel_rfl)<|r1' J J (Zh (n:=74) (Zq3 _ _ _ _ (by have:=Zia (y:=(n/256^((dg 256 n).length-i))) (n:=256) (by omega);omega) (by rw [hby];exact Nat.le_trans (Zib _) (by omega))) J J J K2 cF75 (Zd 73 J J J (Xu 72 J J pN Ze)) J hw) fun v_6 _=>r3' J J (Od (Kk J J) J J) fun _ _=>Yr<|Yl (by kernel_rfl)<|Ob<|Za<|Zg<|mv J J<|dt (Yt J J J ⟨by omega,by omega⟩) J<|as_ J J<|Zf<|Pr (Nk 74 70 J J J)<|Xq (i+1,_) (by first | omega | (dsimp only<;>omega)) (by first | omega | (dsimp only<;>omega)) K4 ⟨by rw [hby,Zjm (by omega)];rfl,rfl,rfl,rfl,trivial⟩
 ·refine Yu<|Zs<|Zs<|Ox<|Za<|Zb ?_
  obtain rfl:i=(dg 256 n).length:=by omega
  rw [Nat.sub_self,Nat.pow_zero,Nat.div_one]
  exact Zg<|dt (Xy J J Zca J zT4 J J) J<|dt (Oa (i:=1) J J J iA4 J) J<|mv J J<|tt (Zh (n:=2) (Bd _ _ _ (x) hn (Xj x) (by rw [hn];omega)) J J J K2 Zuj (Zd 70 J J J Ze) J hw) J fun _ _=>tt (Zm (i:=2) J J J J J (by decide) J Pf J J ⟨Zc J,Zr (i:=70) J Zi,trivial⟩ J hw trivial) J fun _ _=>Zf<|Za<|Zu<|Zv (.inl J) hsc _ _ (fun a w hs=>Qj hs Tryz.results30 (Yp (i:=2) J J Hh Pf J)) J trivial J (Yj 70 J J J (by rw [hn]<;>rfl) Zj)
set_option maxHeartbeats 4000000 in
theorem r_to(v:Value)(x:Int)(hx:bl x.natAbs≤4000000000):Cal Tryz.prog 53 #[.agg #[.bool (decide (x<0)),v]] [d9p v x.natAbs] false (G:=Unit) (fun _=>True) (fun _=>wv x) (fun _=>[]):=by
 refine Yd Tryz.func53 J Tryz.ntmps53 J K1 ?_
 intro w0 sc hw hsc
 simp only [Zp,Zn]
 obtain⟨n,hn⟩:∃n,n=x.natAbs:=⟨_,rfl⟩
 have hxn:bl n≤4000000000:=by rw [hn];exact hx
 have hlx:=Kj x.natAbs
 refine Zb<|Zg<|tt (Xl (i:=2) J J J J J J hw) J fun b _=>tt (Zo (i:=3) J J J Tryz.zeroValue31 J J hw) J fun b_2 _=>Zf<|Za<|Zb<|Zg<|as_ J J<|Zf<|Za<|Zb<|Zg<|dt (Xy J J Aa J Zig J J) J<|dt (Oa (i:=2) J J J Zjh J) J<|Pq (Nj 81 1 3 Dc)<|tt (Kt (i:=81) (j:=1) (by_:=8) J J J J J J (by decide) J Zi Mi Tryz.ti3 J pN J J J (by simp;omega) (by decide) J hw) J fun v _=>as_ J J<|Zf<|Za<|Zb<|Zl<|Ys (Nj 80 1 5 Zpl)<|Nt [(1,_),(2,_)] [(0,_),(1,_),(2,_),(3,_)] (fun(q:Nat×List Nat×Value×Value)=>[(3,q.2.2.1),(4,q.2.2.2)]) (fun(q:Nat×List Nat×Value×Value)=>[(80,osl 1 5 Zpl q.2.2.1 q.2.1),(81,osl 1 3 Dc q.2.2.2 (dg 1000000000 q.1))]) (fun(q:Nat×List Nat×Value×Value)=>(val 256 q.2.1+256^q.2.1.length*q.1=n)∧(∀d∈q.2.1,d<256)∧(q.2.1.length=0∨256^(q.2.1.length-1)≤n)∧(bl q.1≤bl n)) (fun(q:Nat×List Nat×Value×Value)=>q.1) (n,[],.slice none 0 0,_) ⟨by simp [val],by simp,.inl rfl,Nat.le_refl _⟩ K4 ⟨J,by rw [hn];rfl,rfl,rfl,rfl,rfl,trivial⟩ ?_
 rintro⟨m,bs,vb,vd⟩ ⟨hv,hba,hge,hmn⟩
 dsimp only at hv hba hge hmn
 simp only [List.cons_append,List.nil_append]
 have hlm:=Kj m
 refine Zb<|Zb<|Zg<|mv J J<|dt (Zy J J (i:=81) J (Yn pN) Mi) J<|dt (On J J J) J<|Zf<|Za<|Zq J (fun h167=>?_) (fun h167=>?_)
 ·have hm0:0<m:=Zht (by omega)
  have hgn:=to_ge hv hm0
  have hbl:=to_len hgn
  refine Zk<|Za<|Zl<|Zb<|Zg<|as_ J J<|Zf<|Za<|Zb<|Zb<|Zg<|mv J J<|dt (Zy J J (i:=81) J (Yn pN) Mi) J<|dt (Qg J J J ⟨by omega,by omega⟩) J<|as_ J J<|Zf<|Za<|Zl<|Nt [(1,_),(2,_),(3,_),(4,_)] [(0,_),(80,_),(1,_),(2,_),(3,_)] (fun(q:Nat×List Nat×Nat)=>[(6,.int .i64 ((q.1:Int)-1)),(5,.int .i64 (q.2.2:Int))]) (fun(q:Nat×List Nat×Nat)=>[(81,osl 1 3 Dc vd q.2.1)]) (fun(q:Nat×List Nat×Nat)=>(q.1≤(dg 1000000000 m).length)∧(q.2.1.length=(dg 1000000000 m).length)∧(∀d∈q.2.1,d<1000000000)∧(∀j,j<q.1→q.2.1.getD j 0=(dg 1000000000 m).getD j 0)∧(q.2.2<256)∧(val 1000000000 (q.2.1.drop q.1)*256+q.2.2=val 1000000000 ((dg 1000000000 m).drop q.1))) (fun(q:Nat×List Nat×Nat)=>q.1) ((dg 1000000000 m).length,dg 1000000000 m,0) ⟨Nat.le_refl _,J,Le Ov m,fun j _=>J,by first | omega | (dsimp only<;>omega),by simp [List.drop_length,val]⟩ K6 K6 ?_
  rintro⟨k,p,r⟩ ⟨hk,hpl,hpa,hpk,hr,hpv⟩
  dsimp only at hk hpl hpa hpk hr hpv
  simp only [List.cons_append,List.nil_append]
  have hda:=Ql Hg (Le Ov m) (k-1)
  refine Zb<|Zb<|Zg<|mv J J<|dt (Lq J J J) J<|Zf<|Za<|Zq J (fun h169=>?_) (fun h169=>?_)
  ·refine Zk<|Za<|Zb<|Zl<|Zb<|Zg<|mv J J<|dt (n_mul (n:=1000000000) J J J (by omega)) J<|mv J J<|mv J J<|dt (Yz (ii:=81) (i:=(k-1)) J J J J (Yn pN) Mi zT3 (by omega) (by omega)) J<|dt (Xs (ii:=81) 0 J J J (Yn pN) pN (by omega)) J<|dt (Zho J J J (by have:=Ql Hg hpa (k-1);omega)) J<|as_ J J<|Zf<|Za<|Zb<|Zg<|mv J J<|mv J J<|mv J J<|dt (Zk9 (n:=256) J J J (by have:=Ql Hg hpa (k-1);omega) (by omega)) J<|dt (Yz (ii:=81) (i:=(k-1)) J J J J (Yn pN) Mi zT3 (by omega) (by omega)) J<|tt (Kr (i:=81) (enc:=Dc) _ J J J J J J (by decide) pN (by omega) J hw) J fun _ _=>Zf<|Za<|Zg<|mv J J<|dt (Zry (n:=256) J J J (by omega)) J<|as_ J J<|Zf<|Ob<|Za<|Zg<|mv J J<|dt (Qg J J J ⟨by omega,by omega⟩) J<|as_ J J<|Zf ?_
   exact Xq (k-1,_,_) ⟨by first | omega | (dsimp only<;>omega),by simp [hpl],Lk hpa _ _ (Zut hr (Ql Hg hpa _)),fun j hj=>by dsimp only at hj ⊢;rw [Nd _ _ _ _ _ (by omega),if_neg (by omega)];exact hpk j (by omega),Nat.mod_lt _ (by omega),by dsimp only;rw [hpk (k-1) (by omega)];exact to_step (by omega) (by omega) (by omega) hpv⟩ (by first | omega | (dsimp only<;>omega)) ⟨by rw [show(((k-1:Nat):Int)-1)=(k:Int)-1-1 by omega];rfl,rfl,rfl,rfl,rfl,rfl,trivial⟩ K6
  ·refine Yu<|Zs<|Zs<|Ox<|Za<|Zb ?_
   obtain rfl:k=0:=by omega
   rw [List.drop_zero,List.drop_zero,Mu Ov]at hpv
   have hmr:m%256=r%256:=by omega
   have hdm:dg 1000000000 (m/256)=tz p:=by rw [←Kf Ov p hpa];congr 1;omega
   exact Zg<|mv J J<|mv J J<|dt (Ze5 J J uT3 uT5) J<|tt (Pt (i:=4) (ivs:=[(0,_)]) (enc:=Zpl) [r%256] J J J K2 Zj8 Tryz.ti5 J J J J J J pB.cells J J hw) J fun v_2 _=>tt (Kt (i:=80) (j:=4) (by_:=1) J J J J J J (by decide) J (Yn pB) Zj8 Tryz.ti5 J pB J J J (by simp;omega) (by decide) J hw) J fun v_3 _=>as_ J J<|Zf<|Za<|Zg<|mv J J<|tt (Zh (n:=4) (Lv _ _) J J J K1 Zw9 (Xu 81 J J pN Ze) J hw) J fun _ _=>Pq (Zff 81 J J pN)<|as_ J J<|Zf<|Ob<|Xq (m/256,bs ++ [m%256],_,_) ⟨to_push hv,Zid hba (Nat.mod_lt _ (by omega)),.inr (by simpa using hgn),Nat.le_trans (Ok (Nat.div_le_self _ _)) hmn⟩ (Nat.div_lt_self hm0 (by omega)) K4 ⟨by rw [hmr];rfl,by rw [hdm];rfl,rfl,rfl,rfl,rfl,trivial⟩
 ·have hm0:m=0:=(Pe Ov m).1 (by omega)
  have hbs:bs=dg 256 n:=Zp2 (by omega) hba (by rw [hm0,Nat.mul_zero,Nat.add_zero]at hv;exact hv) hge
  have hlb:bs.length≤4000000000:=by rw [hbs,Zab];omega
  refine Yu<|Zs<|Zs<|Ox<|Za<|Zb<|Zg<|as_ J J<|Zf<|Za<|Zb<|Zb<|Zg<|mv J J<|dt (Zy J J (i:=80) J (Yn pB) Zj8) J<|dt (Qg J J J ⟨by omega,by omega⟩) J<|as_ J J<|Zf<|Za<|Zl<|Ys (Nj 82 1 5 Zpl)<|Nt [(1,_),(2,_),(3,_)] [(0,_),(80,_),(81,_),(1,_),(2,_),(3,_)] (fun(q:Nat×Value)=>[(8,.int .i64 ((q.1:Int)-1)),(7,q.2)]) (fun(q:Nat×Value)=>[(82,osl 1 5 Zpl q.2 (bs.drop q.1).reverse)]) (fun(q:Nat×Value)=>q.1≤bs.length) (fun(q:Nat×Value)=>q.1) (bs.length,.slice none 0 0) (Nat.le_refl _) K5 ⟨by rw [List.drop_length];rfl,rfl,rfl,rfl,rfl,rfl,rfl,trivial⟩ ?_
  rintro⟨k,vo⟩ hk
  dsimp only at hk
  simp only [List.cons_append,List.nil_append]
  have hdl:(bs.drop k).length=bs.length-k:=List.length_drop
  refine Zb<|Zb<|Zg<|mv J J<|dt (Lq J J J) J<|Zf<|Za<|Zq J (fun h178=>?_) (fun h178=>?_)
  ·exact Zk<|Za<|Zb<|Zl<|Zg<|mv J J<|mv J J<|mv J J<|dt (Yz (ii:=80) (i:=(k-1)) J J J J (Yn pB) Zj8 zT5 (by omega) (by omega)) J<|dt (Xs (ii:=80) 0 J J J (Yn pB) pB (by omega)) J<|tt (Pt (i:=5) (ivs:=[(0,_)]) (enc:=Zpl) [bs.getD (k-1) 0] J J J K2 Zj8 Tryz.ti5 J J J J J J pB.cells J J hw) J fun v_4 _=>tt (Kt (i:=82) (j:=5) (by_:=1) J J J J J J (by decide) J (Yn pB) Zj8 Tryz.ti5 J pB J J J (by simp;omega) (by decide) J hw) J fun v_5 _=>as_ J J<|Zf<|Ob<|Za<|Zg<|mv J J<|dt (Qg J J J ⟨by omega,by omega⟩) J<|as_ J J<|Zf<|Xq (k-1,_) (by first | omega | (dsimp only<;>omega)) (by first | omega | (dsimp only<;>omega)) ⟨by rw [show(((k-1:Nat):Int)-1)=(k:Int)-1-1 by omega];rfl,rfl,rfl,rfl,rfl,trivial⟩ ⟨by rw [←Zww (by omega) hk];rfl,rfl,rfl,rfl,rfl,rfl,rfl,trivial⟩
  ·refine Yu<|Zs<|Zs<|Ox<|Za<|Zb<|Zg<|dt (Xy J J Aa J zT4 J J) J<|dt (Oa (i:=2) J J J iA4 J) J<|mv J J<|dt (d_b2s J J (i:=82) J (Yn pB) Zj8 uT9 uT5) J<|dt (Oh (ivs:=[(0,_),(1,_)]) J K4 (fun a w hs=>Zt9 ((Zc J) a w hs) ((Zc J) a w hs))) J<|tt (Zm (i:=3) J J J J J (by decide) J Yk J J ⟨Zc J,Zc J,trivial⟩ J hw trivial) J fun _ _=>Zf<|Za<|Zu ?_
   obtain rfl:k=0:=by omega
   exact Zv (.inl J) hsc () _ (fun a w hs=>Qj hs Tryz.results53 (Yp (i:=3) J J Qo Yk J)) (by rw [bstr_bs hbs,hn]<;>rfl) trivial J Zj
theorem r_bits(v:Value)(x:Int)(hx:bl x.natAbs≤4000000000):Cal Tryz.prog 97 #[.agg #[.bool (decide (x<0)),v]] [d9p v x.natAbs] false (G:=Unit) (fun _=>True) (fun _=> .int .i64 (bl x.natAbs:Int)) (fun _=>[]):=by
 refine Yd Tryz.func97 J Tryz.ntmps97 J K1 ?_
 intro w0 sc hw hsc
 simp only [Zp,Zn]
 have hl8:=Zab x.natAbs
 have hsz:=Ms x.natAbs
 refine Zb<|Zg<|tt (Xl (i:=2) J J J J J J hw) J fun b _=>as_ J J<|Zf<|Za<|Zb<|Zg<|dt (Yc (i:=2) J J J Hh Pf J J) J<|tt (Zh (n:=2) (r_to _ _ hx) J J J K1 cF53 (Zd 1 J J J Ze) J hw) J fun _ _=>dt (d_fld J J Zca J iA9 J) J<|as_ J J<|Zf<|Za<|Zb<|Zb<|Zg<|mv J J<|dt (Ca J J uT9) J<|dt (Pi J J J) J<|Zf<|Za<|Zq J (fun h260=>?_) (fun h260=>?_)
 ·exact Zb<|Zg<|as_ J J<|Zf<|Za<|Zu<|Xe<|Zv (.inl J) hsc () _ (fun a w hs=>Qj hs Tryz.results97 J) (by have h1:x.natAbs=0:=(Pe (by omega:2≤256) x.natAbs).1 (by omega);rw [h1]<;>rfl) trivial J Zj
 ·have hn0:0<x.natAbs:=by rcases Nat.eq_zero_or_pos x.natAbs with h | h;(rw [h]at h260;simp [Ms,Ky]at h260);exact h
  obtain⟨htop,hlp⟩:=bl_top hn0
  have hby:((Xd x.natAbs).data.toList.getD 0 0).toNat=x.natAbs/256^((dg 256 x.natAbs).length-1)%256:=Zc4 x.natAbs 0 hlp
  refine Zk<|Za<|Zb<|Zg<|mv J J<|dt (Ca J J uT9) J<|dt (Qg J J J ⟨by omega,by omega⟩) J<|dt (Gz J J J ⟨by omega,by omega⟩) J<|as_ J J<|Zf<|Za<|Zb<|Zb<|Zg<|mv J J<|dt (Zpb (i:=0) J J J uT9 J (by omega)) J<|dt (Bf J J uT5 uT3 ⟨by omega,by rw [hby];omega⟩) J<|as_ J J<|Zf<|Za<|Zl<|Nt [] [(0,_),(1,_),(2,_)] (fun(q:Nat×Nat)=>[(4,.int .i64 (q.2:Int)),(5,.int .i64 (q.1:Int))]) (fun(q:Nat×Nat)=>[]) (fun(q:Nat×Nat)=>(q.2+bl q.1=bl x.natAbs)∧(q.1<256)) (fun(q:Nat×Nat)=>q.1) (x.natAbs/256^((dg 256 x.natAbs).length-1)%256,8*((dg 256 x.natAbs).length-1)) ⟨htop,Nat.mod_lt _ (by omega)⟩ ⟨by rw [hsz,show(8:Int)*(((dg 256 x.natAbs).length:Int)-1)=((8*((dg 256 x.natAbs).length-1):Nat):Int) by omega];rfl,by rw [hby];rfl,trivial⟩ K3 ?_
  rintro⟨k,c⟩ ⟨hkc,hk8⟩
  dsimp only at hkc hk8
  simp only [List.cons_append,List.nil_append]
  refine Zb<|Zb<|Zg<|mv J J<|dt (On J J J) J<|Zf<|Za<|Zq J (fun h264=>?_) (fun h264=>?_)
  ·have hbh:=bl_half (k:=k) (by omega)
   exact Zk<|Za<|Zb<|Zl<|Zg<|mv J J<|dt (Yt J J J ⟨by omega,by omega⟩) J<|as_ J J<|Zf<|Ob<|Za<|Zg<|mv J J<|dt (Zhz J J J (by omega) (by omega) (by omega)) J<|as_ J J<|Zf<|Xq (k/2,c+1) ⟨by dsimp only;omega,by first | omega | (dsimp only<;>omega)⟩ (by first | omega | (dsimp only<;>omega)) ⟨by rfl,by exact congrArg some (Db (by omega)),trivial⟩ K3
  ·exact Yu<|Zs<|Zs<|Ox<|Za<|Zb<|Zg<|mv J J<|as_ J J<|Zf<|Za<|Zu<|Zv (.inl J) hsc () _ (fun a w hs=>Qj hs Tryz.results97 J) (by have h1:k=0:=(by omega);rw [←hkc,h1]<;>rfl) trivial J Zj
theorem r_gcd(v w:Value)(x y:Int)(hx:bl x.natAbs≤3000000000)(hy:bl y.natAbs≤3000000000):Cal Tryz.prog 71 #[.agg #[.bool (decide (x<0)),v],.agg #[.bool (decide (y<0)),w]] [d9p v x.natAbs,d9p w y.natAbs] true (G:=Value) (fun r=>True) (fun r=> .agg #[.bool (decide ((Int.gcd x y:Int)<0)),r]) (fun r=>[d9p r ((Int.gcd x y:Int)).natAbs]):=by
 refine Yd Tryz.func71 J Tryz.ntmps71 J K2 ?_
 intro w0 sc hw hsc
 simp only [Zp,Zn]
 refine Zb<|Zg<|tt (Xl (i:=3) J J J J J J hw) J fun b _=>tt (Xl (i:=4) J J J J J J hw) J fun b_2 _=>tt (Zo (i:=5) J J J Tryz.zeroValue48 J J hw) J fun b_3 _=>Zf<|Za<|Zb<|Qs (fun _=>False) [(0,0),(1,0),(2,0),(3,0),(4,0),(5,3)] (by kernel_rfl) ?_ ?_
 ·kernel_rfl
 refine r0' J J J J (st0 (Xy J J Aa J Zig J J))<|r0' J J J J (st0 (Oa (i:=3) J J J Zjh J))<|r0' J J J J (st0 (Xy J J Aa J Zig J J))<|r0' J J J J (st0 (Oa (i:=4) J J J Zjh J))<|r0' J J J J (st0 (Kk J J))<|r3' J J (Od (Kk J J) J J) fun _ _=>Og<|Za<|Zb<|Zl<|Ys (Nk 1 91 J J J)<|Ys (Nk 2 92 J J J)<|Nt [(4,_)] [(0,_),(1,_),(2,_),(3,_),(4,_),(5,_)] (fun(q:Value×Value×Nat×Nat)=>[(5,q.1),(6,q.2.1)]) (fun(q:Value×Value×Nat×Nat)=>[(91,d9p q.1 q.2.2.1),(92,d9p q.2.1 q.2.2.2)]) (fun(q:Value×Value×Nat×Nat)=>(Nat.gcd q.2.2.1 q.2.2.2=Nat.gcd x.natAbs y.natAbs)∧(bl q.2.2.1≤3000000000)∧(bl q.2.2.2≤3000000000)) (fun(q:Value×Value×Nat×Nat)=>q.2.2.2) (v,w,x.natAbs,y.natAbs) ⟨J,hx,hy⟩ K3 K8 ?_
 rintro⟨va,vb,a,b⟩ ⟨hg,ha,hb⟩
 dsimp only at hg ha hb
 simp only [List.cons_append,List.nil_append]
 refine Zb<|Zb<|Zg<|mv J J<|dt (Zy J J (i:=92) J Zi Mi) J<|dt (On J J J) J<|Zf<|Za<|Zq J (fun h238=>?_) (fun h238=>?_)
 ·have hb0:0<b:=Zht (by omega)
  refine Zk<|Za<|Zl<|Zb<|Zg<|mv J J<|mv J J<|tt (Zh (n:=6) (r_over _ _ _ _ (by omega) (by omega) hb0) J J J K2 cF124 (Zd 91 J J J (Zd 92 J J J Ze)) J hw) J fun g _=>mv J J<|dt (Yg J J J) J<|dt (Yg J J J) J<|as_ J J<|as_ J J<|Zf<|Za<|Zg<|mv J J<|mv J J<|as_ J J<|as_ J J<|Zf<|Ob ?_
  have hlt:a%b<b:=Nat.mod_lt _ hb0
  exact Pr (Nk 92 91 J J J)<|Pr (Nk 7 92 J J J)<|Xq (_,_,b,a%b) ⟨by dsimp only;rw [←hg,Nat.gcd_comm b,←Nat.gcd_rec,Nat.gcd_comm],hb,Nat.le_trans (Ok (Nat.le_of_lt hlt)) hb⟩ hlt K3 K8
 ·have hb0:b=0:=(Pe Ov b).1 (by omega)
  have ha0:a=Nat.gcd x.natAbs y.natAbs:=by rw [←hg,hb0,Nat.gcd_zero_right]
  exact Yu<|Zs<|Zs<|Ox<|Za<|Zb<|Zg<|mv J J<|tt (Zh (n:=7) (Bd _ _ _ ((Int.gcd x y:Int)) (by rw [ha0]<;>rfl) (by simp [sg]) (by omega)) J J J K2 Zuj (Zd 91 J J J Ze) J hw) J fun _ _=>tt (Zm (i:=5) J J J J J (by decide) J Pf J J ⟨Zc J,Zr (i:=91) J Zi,trivial⟩ J hw trivial) J fun _ _=>Zf<|Za<|Zu<|Zv (.inl J) hsc _ _ (fun a w hs=>Qj hs Tryz.results71 (Yp (i:=5) J J Hh Pf J)) J trivial J (Yj 91 J J J (by rw [ha0]<;>rfl) Zj)
set_option maxHeartbeats 4000000 in
theorem Gw(v w:Value)(x y:Int)(hx:bl x.natAbs≤500000000)(hy:bl y.natAbs≤500000000)(hy0:y≠0):Cal Tryz.prog 74 #[.agg #[.bool (decide (x<0)),v],.agg #[.bool (decide (y<0)),w]] [d9p v x.natAbs,d9p w y.natAbs] true (G:=Value×Value) (fun r=>True) (fun r=> .tuple #[.agg #[.bool (decide (x/y<0)),r.1],.agg #[.bool (decide (x%y<0)),r.2]]) (fun r=>[d9p r.1 (x/y).natAbs,d9p r.2 (x%y).natAbs]):=by
 refine Yd Tryz.func74 J Tryz.ntmps74 J K2 ?_
 intro w0 sc hw hsc
 simp only [Zp,Zn]
 have hyp:0<y.natAbs:=by omega
 have hb1:=bl_tdiv x y
 have hb2:=Zpg x y
 have hb3:=Cd x (x.tdiv y*y)
 have hsf:=sub_fix (x:=x) hy0
 have hb4:=Cd (x.tdiv y) 1
 have hb5:=Km (x.tdiv y) 1
 have hb6:bl (1:Int).natAbs≤1:=by decide
 have hb7:=Qh (x.tdiv y-1) y
 have hb8:=Qh (x.tdiv y+1) y
 refine Zb<|Zg<|tt (Xl (i:=3) J J J J J J hw) J fun b _=>tt (Xl (i:=4) J J J J J J hw) J fun b_2 _=>tt (Zo (i:=5) J J J Tryz.zeroValue48 J J hw) J fun b_3 _=>tt (Zo (i:=6) J J J Tryz.zeroValue48 J J hw) J fun b_4 _=>Zf<|Za<|Zb<|Zg<|dt (Xy J J Aa J Zig J J) J<|dt (Oa (i:=3) J J J Zjh J) J<|dt (Xy J J Aa J Zig J J) J<|dt (Oa (i:=4) J J J Zjh J) J<|tt (Zh (n:=70) (r_over _ _ _ _ (by omega) (by omega) hyp) J J J K2 cF124 (Zd 1 J J J (Zd 2 J J J Ze)) J hw) J fun g _=>mv J J<|dt (Yg J J J) J<|dt (Yg J J J) J<|as_ J J<|as_ J J<|Zf<|Za<|Zb<|Zg<|dt (Xy J J Aa J zT4 J J) J<|dt (Oa (i:=3) J J J iA4 J) J<|dt (Xy J J Aa J zT4 J J) J<|dt (Oa (i:=4) J J J iA4 J) J<|dt (Zlu J J J uT4) J<|mv J J<|tt (Zh (n:=6) (Bd _ _ _ (x.tdiv y) (Zgi x y) (sg_tdiv x y) (by rw [Zgi];omega)) J J J K2 Zuj (Zd 70 J J J Ze) J hw) J fun _ _=>Pq (Gf 70 (congrArg (d9p _) (Zgi x y)) J J)<|tt (Zo (i:=97) J J J Tryz.zeroValue48 J J hw) J fun b_5 _=>tt (Zm (i:=97) J J J J J (by decide) J Pf J J ⟨Zc J,Zr (i:=70) J Zi,trivial⟩ J hw trivial) J fun _ _=>Zf<|Za ?_
 refine Dd [(2,_),(3,_),(4,_),(5,_),(7,_),(8,_)] [(0,_),(1,_),(2,_),(3,_),(4,_),(5,_),(6,_),(70,_),(71,_),(97,_)] (fun(q:Value×Nat)=>[(9,.pointer (some ⟨q.2,0,none⟩))]) (fun(q:Value×Nat)=>[(72,d9p q.1 (x-x.tdiv y*y).natAbs),(98,box q.2 48 #[.bool (decide ((x-x.tdiv y*y)<0)),q.1])]) (fun(q:Value×Nat)=>True) K6 K10 ?_ ?_
 ·refine Ga (fun _=>False) [6] (by kernel_rfl)<|Zx (n:=4) [(0,0),(1,0),(2,0)] (by kernel_rfl)<|r0' J J J J (st0 (Yc (i:=3) J J J Hh Pf J J))<|r0' J J J J (st0 (Yc (i:=97) J J J Hh Pf J J))<|r0' J J J J (st0 (Yc (i:=4) J J J Hh Pf J J))<|Yr<|Pu (n:=3) 3 5 (by kernel_rfl) ?_ ?_
  ·refine Yo J J (Zh (n:=73) (Zez _ _ _ _ (by omega) (by omega)) J J J K2 Zuk (Zd 70 J J J (Zd 2 J J J Ze)) J hw) fun v _=>Pu (n:=2) 4 5 (by kernel_rfl) ?_ ?_
   ·exact Yo J J (Zh (n:=72) (Zkr _ _ _ _ (by omega) (by omega)) J J J K2 cF87 (Zd 1 J J J (Zd 73 J J J Ze)) J hw) fun v_2 _=>Zx (n:=0) [(5,1),(6,3)] (by kernel_rfl)<|r1' J J (Zo (i:=98) J J J Tryz.zeroValue48 J J hw) fun b_6 _=>r3' J J (Zm (i:=98) J J J J J (by decide) J Pf J J ⟨Zc J,Zr (i:=72) J Zi,trivial⟩ J hw trivial) fun _ _=>Yr<|Yl (by kernel_rfl)<|Qv (_,_) trivial K7 K12
   ·exact Yo J J (Zo (i:=98) J J J Tryz.zeroValue48 J J hw) fun b_7 _=>Zx (n:=0) [(4,1),(6,3)] (by kernel_rfl)<|r1' J J (Zh (n:=72) (Zkr _ _ _ _ (by omega) (by omega)) J J J K2 cF87 (Zd 1 J J J (Zd 73 J J J Ze)) J hw) fun v_3 _=>r3' J J (Zm (i:=98) J J J J J (by decide) J Pf J J ⟨Zc J,Zr (i:=72) J Zi,trivial⟩ J hw trivial) fun _ _=>Yr<|Yl (by kernel_rfl)<|Qv (_,_) trivial K7 K12
  ·exact Yo J J (Zo (i:=98) J J J Tryz.zeroValue48 J J hw) fun b_8 _=>Zx (n:=0) [(3,1),(4,1),(6,3)] (by kernel_rfl)<|r1' J J (Zh (n:=73) (Zez _ _ _ _ (by omega) (by omega)) J J J K2 Zuk (Zd 70 J J J (Zd 2 J J J Ze)) J hw) fun v_4 _=>r1' J J (Zh (n:=72) (Zkr _ _ _ _ (by omega) (by omega)) J J J K2 cF87 (Zd 1 J J J (Zd 73 J J J Ze)) J hw) fun v_5 _=>r3' J J (Zm (i:=98) J J J J J (by decide) J Pf J J ⟨Zc J,Zr (i:=72) J Zi,trivial⟩ J hw trivial) fun _ _=>Yr<|Yl (by kernel_rfl)<|Qv (_,_) trivial K7 K12
 ·rintro⟨vr,b9⟩ -
  simp only [List.cons_append,List.nil_append]
  refine Dd [(4,_),(5,_),(7,_),(8,_),(9,_)] [(0,_),(72,_),(1,_),(2,_),(3,_),(4,_),(5,_),(6,_),(70,_),(71,_)] (fun(q:Value×Value)=>[]) (fun(q:Value×Value)=>[(75,d9p q.1 (x/y).natAbs),(76,d9p q.2 (x%y).natAbs),(97,box b_5 48 #[.bool (decide (x/y<0)),q.1]),(98,box b9 48 #[.bool (decide (x%y<0)),q.2])]) (fun(q:Value×Value)=>True) K5 K10 ?_ ?_
  ·refine Zb<|Zg<|dt (Yc (i:=98) J J J Hh Pf J J) J<|tt (Zh (n:=6) (Zfk _ _ (by omega)) J J J K1 cF72 (Zd 72 J J J Ze) J hw) J fun _ _=>dt (Qb J J J) J<|Zf<|Za<|Zq J (fun h223=>?_) (fun h223=>?_)
   ·have hrn:x.tmod y<0:=by rw [←hsf];exact(Qk _).1 h223
    refine Zb<|Zb<|Zg<|dt (Yc (i:=4) J J J Hh Pf J J) J<|tt (Zh (n:=6) (Zfk _ _ (by omega)) J J J K1 cF72 (Zd 2 J J J Ze) J hw) J fun _ _=>dt (On J J J) J<|Zf<|Za<|Zq J (fun h224=>?_) (fun h224=>?_)
    ·have hyp0:0<y:=by have h2:=decide_eq_decide.1 (Gl y);omega
     obtain⟨hq,hr⟩:=quo_pos hyp0 hrn
     refine Qs (fun _=>False) [(0,0),(1,1),(2,3),(3,3)] (by kernel_rfl) ?_ ?_
     ·kernel_rfl
     refine r0' J J J J (st0 (Yc (i:=97) J J J Hh Pf J J))<|r1' J J (Zh (n:=7) (Zi2 1 ⟨by omega,by omega⟩) J J J K1 cF34 Ze J hw) fun v_6 _=>r3' J J (Zh (n:=8) (Zkr _ _ _ _ (by omega) (by omega)) J J J K2 cF87 (Zd 70 J J J (Zd 7 J J J Ze)) J hw) fun v_7 _=>r3' J J (Zm (i:=97) J J J J J (by decide) J Pf J J ⟨Zc J,Zr (i:=8) J Zi,trivial⟩ J hw trivial) fun _ _=>Og<|Za<|Qs (fun _=>False) [(0,0),(1,0),(2,0),(3,1),(4,1),(5,3)] (by kernel_rfl) ?_ ?_
     ·kernel_rfl
     exact r0' J J J J (st0 (Yc (i:=3) J J J Hh Pf J J))<|r0' J J J J (st0 (Yc (i:=97) J J J Hh Pf J J))<|r0' J J J J (st0 (Yc (i:=4) J J J Hh Pf J J))<|r1' J J (Zh (n:=9) (Zez _ _ _ _ (by omega) (by omega)) J J J K2 Zuk (Zd 8 J J J (Zd 2 J J J Ze)) J hw) fun v_8 _=>r1' J J (Zh (n:=10) (Zkr _ _ _ _ (by omega) (by omega)) J J J K2 cF87 (Zd 1 J J J (Zd 9 J J J Ze)) J hw) fun v_9 _=>r3' J J (Zm (i:=98) J J J J J (by decide) J Pf J J ⟨Zc J,Zr (i:=10) J Zi,trivial⟩ J hw trivial) fun _ _=>Og<|Pr (Nk 8 75 J J J)<|Pr (Nk 10 76 J J J)<|Qv (v_7,v_9) trivial K5 ⟨by rw [hq];rfl,by rw [hr];rfl,by rw [hq];rfl,by rw [hr];rfl,rfl,rfl,rfl,rfl,rfl,rfl,rfl,rfl,rfl,rfl,trivial⟩
    ·have hyn0:y<0:=by have h2:=decide_eq_decide.1 (Gl y);omega
     obtain⟨hq,hr⟩:=quo_neg hyn0 hrn
     refine Qs (fun _=>False) [(0,0),(1,1),(2,3),(3,3)] (by kernel_rfl) ?_ ?_
     ·kernel_rfl
     refine r0' J J J J (st0 (Yc (i:=97) J J J Hh Pf J J))<|r1' J J (Zh (n:=11) (Zi2 1 ⟨by omega,by omega⟩) J J J K1 cF34 Ze J hw) fun v_10 _=>r3' J J (Zh (n:=12) (Zvp _ _ _ _ (by omega) (by omega)) J J J K2 cF37 (Zd 70 J J J (Zd 11 J J J Ze)) J hw) fun v_11 _=>r3' J J (Zm (i:=97) J J J J J (by decide) J Pf J J ⟨Zc J,Zr (i:=12) J Zi,trivial⟩ J hw trivial) fun _ _=>Og<|Za<|Qs (fun _=>False) [(0,0),(1,0),(2,0),(3,1),(4,1),(5,3)] (by kernel_rfl) ?_ ?_
     ·kernel_rfl
     exact r0' J J J J (st0 (Yc (i:=3) J J J Hh Pf J J))<|r0' J J J J (st0 (Yc (i:=97) J J J Hh Pf J J))<|r0' J J J J (st0 (Yc (i:=4) J J J Hh Pf J J))<|r1' J J (Zh (n:=13) (Zez _ _ _ _ (by omega) (by omega)) J J J K2 Zuk (Zd 12 J J J (Zd 2 J J J Ze)) J hw) fun v_12 _=>r1' J J (Zh (n:=14) (Zkr _ _ _ _ (by omega) (by omega)) J J J K2 cF87 (Zd 1 J J J (Zd 13 J J J Ze)) J hw) fun v_13 _=>r3' J J (Zm (i:=98) J J J J J (by decide) J Pf J J ⟨Zc J,Zr (i:=14) J Zi,trivial⟩ J hw trivial) fun _ _=>Og<|Pr (Nk 12 75 J J J)<|Pr (Nk 14 76 J J J)<|Qv (v_11,v_13) trivial K5 ⟨by rw [hq];rfl,by rw [hr];rfl,by rw [hq];rfl,by rw [hr];rfl,rfl,rfl,rfl,rfl,rfl,rfl,rfl,rfl,rfl,rfl,trivial⟩
   ·have hrn:¬x.tmod y<0:=by rw [←hsf];exact fun h=>h223 ((Qk _).2 h)
    obtain⟨hq,hr⟩:=Zvr hy0 hrn
    rw [←hsf]at hr
    exact Zk<|Pr (Nk 70 75 J J J)<|Pr (Nk 72 76 J J J)<|Qv (g.1,vr) trivial K5 ⟨by rw [hq];rfl,by rw [hr];rfl,by rw [hq];rfl,by rw [hr];rfl,rfl,rfl,rfl,rfl,rfl,rfl,rfl,rfl,rfl,rfl,trivial⟩
  ·rintro⟨v8,v9⟩ -
   simp only [List.cons_append,List.nil_append]
   exact Zb<|Zg<|mv J J<|Zf<|Za<|Zb<|Nr [97,98] [3] (by kernel_rfl)<|Zx (n:=0) [(0,0),(1,0),(2,1),(3,3)] (by kernel_rfl)<|r0' J J J J (stf (Yc (i:=97) J J J Hh Pf J J) K2)<|r0' J J J J (stf (Yc (i:=98) J J J Hh Pf J J) K2)<|r1' J J (Zgl 5 J J K2 (fun ob=>(Zm (i:=5) J J J J J (by decide) J Pf J J ⟨Zc J,Zr (i:=75) J Zi,trivial⟩ J hw ob))) fun _ _=>r3' J J (Zm (i:=6) J J J J J (by decide) J Pf J J ⟨Zc J,Zr (i:=76) J Zi,trivial⟩ J hw trivial) fun _ _=>Yr<|Yl (by kernel_rfl)<|Za<|Zu<|Zv (.inl J) hsc (_,_) _ (fun a w hs=>Ni hs Tryz.results74 (Yp (i:=5) J J Hh Pf J) (Yp (i:=6) J J Hh Pf J)) J trivial J (Xb 75 J J J (Xb 76 J J J Zj))
end Go.Sky

