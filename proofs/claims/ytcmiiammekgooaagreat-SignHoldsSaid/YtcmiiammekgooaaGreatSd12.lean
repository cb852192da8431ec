/- rules, arithmetic and contracts: part 13
   Proved without conditions of its own: each theorem bears its own. -/
import Derived.Test.YtcmiiammekgooaaGreatSd03
import Derived.Test.YtcmiiammekgooaaGreatSd02
import Derived.Test.YtcmiiammekgooaaGreatSd01
import Derived.Test.YtcmiiammekgooaaGreatSd11
set_option linter.all false
namespace Go.Sky
open Go.Proofs.Tryz
open Go.Proofs
set_option maxRecDepth 20000
set_option maxHeartbeats 4000000
set_option linter.unusedSimpArgs false
theorem Zj5(b:Bool)(s:ByteArray):Mv prog 35 #[.agg #[.bool b,.string s]] [] (.bool (okW b s)):=by
 refine Yd func35 J ntmps35 J trivial ?_
 intro w0 sc hw hsc
 simp only [Zq,Zp]
 refine Zc<|Zg<|tt (Xa (i:=1) J J J J J hw) J fun b _=>as_ J<|Zf<|Za<|Zc<|Zc<|Zg<|dt (Xk J J Cm J zT9 J J)<|dt (Pr (i:=1) J J J iA9 J)<|dt (Ie J J uT9)<|dt (Pg J J J)<|Zf<|Za<|Zr J (fun h25=>?_) (fun h25=>?_)
 ·exact Zc<|Zg<|dt (Xk J J Cm J zT4 J J)<|dt (Pr (i:=1) J J J iA4 J)<|dt (Yr J J)<|as_ J<|Zf<|Za<|Zt<|Ys<|xU hsc results35 J J (by unfold okW;rw [if_pos (by omega)])
 ·refine Zj<|Za<|Zc<|Zg<|dt (Xk J J Cm J zT9 J J)<|dt (Pr (i:=1) J J J iA9 J)<|dt (Ie J J uT9)<|dt (Ac J J J)<|mv J<|Qp (d:=14) J (fun s28=>?_) (fun s28=>?_)
  ·exact gdt (Xk J J Cm J zT9 J J) J J<|gdt (Pr (i:=1) J J J iA9 J) J J<|gdt (Zsx (i:=0) J J J uT9 J) J J<|gdt (Xo J J J) J J<|dt (Yi J J J)<|as_ J<|Zf<|Za<|Zt<|xU hsc results35 J J (by unfold okW;rw [if_neg (by omega)];simp_all<;>omega)
  ·exact gsk J J J<|gsk J J J<|gsk J J J<|gsk J J J<|dt (Zo J J J)<|as_ J<|Zf<|Za<|Zt<|xU hsc results35 J J (by unfold okW;rw [if_neg (by omega)];simp_all<;>omega)
theorem r_trim(v:Value)(xs:List Nat):Cal prog 77 #[v] [slp 1 Ab v xs] true (G:=Unit) (fun _=>True) (fun _=>Fl v (tz xs).length) (fun _=>[slp 1 Ab (Fl v (tz xs).length) (tz xs)]):=by
 refine Yd func77 J ntmps77 J K1 ?_
 intro w0 sc hw hsc
 simp only [Zq,Zp]
 refine Oe (Zr6 (i:=1) J Zi) fun hself=>Oe (Lu (i:=1) J Zi) fun hlen=>Zc<|Zg<|as_ J<|Zf<|Za<|Zc<|Zm<|Mm [] [(0,_)] (fun(k:Nat)=>[(0,Fl v k)]) (fun(k:Nat)=>[(1,slp 1 Ab (Fl v k) (xs.take k))]) (fun(k:Nat)=>(k≤xs.length)∧(tz (xs.take k)=tz xs)) (fun(k:Nat)=>k) xs.length ⟨Nat.le_refl _,by rw [List.take_length]⟩ ⟨by rw [hself];rfl,trivial⟩ ⟨by rw [hself,List.take_length];rfl,rfl,trivial⟩ ?_
 rintro k ⟨hk,ht⟩
 simp only [CA,NA]
 have hl:(xs.take k).length=k:=by rw [List.length_take];omega
 refine Zc<|Zc<|Zg<|mv J<|dt (Yc J J (i:=1) J Zi Lc)<|dt (Qr J J J)<|mv J<|Qp (d:=6) J (fun s33=>?_) (fun s33=>?_)
 ·refine gdt (Yf J J) J J<|gdt (Yf J J) J J<|gdt (Yc J J (i:=1) J Zi Lc) J J<|gdt (Qo J J J ⟨by omega,by omega⟩) J J<|gdt (Xf (ii:=1) (i:=k-1) J J J J Zi Lc zT3) J J<|gdt (Xx (ii:=1) 0 J J J Zi pN) J J<|gdt (Pg J J J) J J<|dt (Yi J J J)<|Zf<|Za<|Zr J (fun h33=>?_) (fun h33=>?_)
  ·have hstep:=Zph hk (by omega) (by omega:(xs.take k).getD (k-1) 0=0)
   exact Zj<|Za<|Zm<|Zg<|mv J<|mv J<|dt (Yc J J (i:=1) J Zi Lc)<|dt (Qo J J J ⟨by omega,by omega⟩)<|dt (Zwf (ii:=1) (i:=k-1) J J J J Zi Lc zT3)<|as_ J<|Zf<|Og<|Nq (s_pre 1 1 (k-1) J J)<|Xq (k-1) ⟨by first | omega | (dsimp only<;>omega),by rw [←ht,←hstep]⟩ (by first | omega | (dsimp only<;>omega)) ⟨by rw [←Ha v k (k-1)];rfl,trivial⟩ ⟨by rw [Ha,List.take_take,Nat.min_eq_left (by omega)];rfl,rfl,trivial⟩
  ·refine Yx<|Zu<|Zu<|Nc<|Za<|Zc<|Zg<|mv J<|as_ J<|Zf<|Za<|Zt ?_
   have hx:tz xs=xs.take k:=by rw [←ht];exact Zc9 hk (by omega)
   exact Yl (.inl J) hsc () _ (fun a w hs=>Np hs results77 J) (by rw [hx,hl]) trivial J (Yh 1 J J J (by rw [hx,hl]) Zk)
 ·refine gsk J J J<|gsk J J J<|gsk J J J<|gsk J J J<|gsk J J J<|gsk J J J<|gsk J J J<|dt (Zo J J J)<|Zf<|Za<|Zw J<|Yx<|Zu<|Zu<|Nc<|Za<|Zc<|Zg<|mv J<|as_ J<|Zf<|Za<|Zt ?_
  have hx:tz xs=xs.take k:=by rw [←ht];exact Zc9 hk (by omega)
  exact Yl (.inl J) hsc () _ (fun a w hs=>Np hs results77 J) (by rw [hx,hl]) trivial J (Yh 1 J J J (by rw [hx,hl]) Zk)
theorem Im(v:Value)(xs:List Nat):Cal prog 77 #[v] [slp 1 Ab v xs] false (G:=Unit) (fun _=>True) (fun _=>Fl v (tz xs).length) (fun _=>[]):=(r_trim v xs).bare
theorem r_order(v w:Value)(x y:Nat)(hx:bl x≤4294967296:=by omega)(hy:bl y≤4294967296:=by omega):Mv prog 90 #[v,w] [d9p v x,d9p w y] (.int .i64 (cmpI x y)):=by
 refine Yd func90 J ntmps90 J K2 ?_
 intro w0 sc hw hsc
 simp only [Zq,Zp]
 have hX:=Hi x
 have hY:=Hi y
 refine Zc<|Zg<|as_ J<|Zf<|Za<|Zc<|Zc<|Zg<|mv J<|dt (Yc J J (i:=1) J Zi Lc)<|mv J<|dt (Yc J J (i:=2) J Zi Lc)<|dt (Xo J J J)<|Zf<|Za<|Zr J (fun h41=>?_) (fun h41=>?_)
 ·refine Zc<|Zc<|Zg<|mv J<|dt (Yc J J (i:=1) J Zi Lc)<|mv J<|dt (Yc J J (i:=2) J Zi Lc)<|dt (Qd J J J)<|Zf<|Za<|Zr J (fun h42=>?_) (fun h42=>?_)
  ·have hlt:x<y:=Ce Ni (by omega)
   exact Zc<|Zg<|as_ J<|Zf<|Za<|Zt<|Ys<|Ys<|xU hsc results90 J J (by unfold cmpI;rw [if_pos hlt])
  ·have hlt:y<x:=Ce Ni (by omega)
   exact Zj<|Za<|Zc<|Zg<|as_ J<|Zf<|Za<|Zt<|Ys<|xU hsc results90 J J (by unfold cmpI;rw [if_neg (by omega),if_pos hlt])
 ·have hlen:(dg 1000000000 x).length=(dg 1000000000 y).length:=by omega
  refine Zj<|Za<|Zc<|Zc<|Zg<|mv J<|dt (Yc J J (i:=1) J Zi Lc)<|dt (Qo J J J ⟨by omega,by omega⟩)<|as_ J<|Zf<|Za<|Zm<|Mm [(0,_),(1,_)] [(0,_),(1,_),(2,_)] (fun(k:Nat)=>[(5,.int .i64 ((k:Int)-1))]) (fun(k:Nat)=>[]) (fun(k:Nat)=>(k≤(dg 1000000000 x).length)∧((dg 1000000000 x).drop k=(dg 1000000000 y).drop k)) (fun(k:Nat)=>k) (dg 1000000000 x).length ⟨by first | omega | (dsimp only<;>omega),by rw [List.drop_length,hlen,List.drop_length]⟩ K3 K3 ?_
  rintro k ⟨hk,hd⟩
  simp only [CA,NA]
  refine Zc<|Zc<|Zg<|mv J<|dt (Kj J J J)<|Zf<|Za<|Zr J (fun h47=>?_) (fun h47=>?_)
  ·refine Zj<|Za<|Zc<|Zm<|Zc<|Zc<|Qf (fun _=>False) [(0,0),(1,0),(2,0),(3,0),(4,0),(5,0),(6,0),(7,0),(8,0)] ?_ ?_
   ·kernel_rfl
   refine r0' J J (st0 (Yf J J))<|r0' J J (st0 (Yf J J))<|r0' J J (st0 (Xf (ii:=1) (i:=k-1) J J J J Zi Lc zT3))<|r0' J J (st0 (Xx (ii:=1) 0 J J J Zi pN (by first | omega | (simp only [List.length_set];omega))))<|r0' J J (st0 (Yf J J))<|r0' J J (st0 (Yf J J))<|r0' J J (st0 (Xf (ii:=2) (i:=k-1) J J J J Zi Lc zT3))<|r0' J J (st0 (Xx (ii:=2) 0 J J J Zi pN (by first | omega | (simp only [List.length_set];omega))))<|r0' J J (st0 (Qd J J J))<|Py<|Za<|Zr J (fun h48=>?_) (fun h48=>?_)
   ·have hlt:=Znp Hr (xs:=(dg 1000000000 x)) (ys:=(dg 1000000000 y)) (Lh Ni x) (k:=k-1) (by omega) (by omega) (by rw [show k-1+1=k by omega];exact hd) (by omega)
    rw [Mw Ni,Mw Ni]at hlt
    exact Zc<|Zg<|as_ J<|Zf<|Za<|Zt<|Ys<|Lx<|Ys<|Ys<|Lx<|Ys<|xU hsc results90 J J (by unfold cmpI;rw [if_pos hlt])
   ·refine Zj<|Za<|Zc<|Qf (fun _=>False) [(0,0),(1,0),(2,0),(3,0),(4,0),(5,0),(6,0),(7,0),(8,0)] ?_ ?_
    ·kernel_rfl
    refine r0' J J (st0 (Yf J J))<|r0' J J (st0 (Yf J J))<|r0' J J (st0 (Xf (ii:=1) (i:=k-1) J J J J Zi Lc zT3))<|r0' J J (st0 (Xx (ii:=1) 0 J J J Zi pN (by first | omega | (simp only [List.length_set];omega))))<|r0' J J (st0 (Yf J J))<|r0' J J (st0 (Yf J J))<|r0' J J (st0 (Xf (ii:=2) (i:=k-1) J J J J Zi Lc zT3))<|r0' J J (st0 (Xx (ii:=2) 0 J J J Zi pN (by first | omega | (simp only [List.length_set];omega))))<|r0' J J (st0 (Qr J J J))<|Py<|Za<|Zr J (fun h51=>?_) (fun h51=>?_)
    ·have hlt:=Znp Hr (xs:=(dg 1000000000 y)) (ys:=(dg 1000000000 x)) (Lh Ni y) (k:=k-1) (by omega) (by omega) (by rw [show k-1+1=k by omega];exact hd.symm) (by omega)
     rw [Mw Ni,Mw Ni]at hlt
     exact Zc<|Zg<|as_ J<|Zf<|Za<|Zt<|Lx<|Ys<|Ys<|Lx<|Ys<|xU hsc results90 J J (by unfold cmpI;rw [if_neg (by omega),if_pos hlt])
    ·exact Zj<|Og<|Za<|Zg<|mv J<|dt (Qo J J J ⟨by omega,by omega⟩)<|as_ J<|Zf<|Xq (k-1) ⟨by first | omega | (dsimp only<;>omega),by have:=Zb7 (xs:=(dg 1000000000 x)) (ys:=(dg 1000000000 y)) (k:=k-1) (by omega) (by omega) (by rw [show k-1+1=k by omega];exact hd) (by omega);exact this⟩ (by first | omega | (dsimp only<;>omega)) ⟨by rw [show(((k-1:Nat):Int)-1)=(k:Int)-1-1 by omega];rfl,rfl,rfl,trivial⟩ K3
  ·refine Yx<|Zu<|Zu<|Nc<|Za<|Zc<|Zg<|as_ J<|Zf<|Za<|Zt ?_
   obtain rfl:k=0:=by omega
   have heq:x=y:=(Zek Ni).1 (by simpa using hd)
   exact xU hsc results90 J J (by unfold cmpI;rw [if_neg (by omega),if_neg (by omega)])
theorem Zqj(v w:Value)(x y:Nat)(hx:bl x≤4294967296)(hy:bl y≤4294967296):Cal prog 75 #[v,w] [d9p v x,d9p w y] false (G:=Value) (fun r=>True) (fun r=>r) (fun r=>[d9p r (x+y)]):=by
 refine Yd func75 J ntmps75 J K2 ?_
 intro w0 sc hw hsc
 simp only [Zq,Zp]
 have hX:=Hi x
 have hY:=Hi y
 refine Zc<|Zg<|as_ J<|Zf<|Za<|Zc<|Zg<|as_ J<|Zf<|Za<|Zc<|Zg<|as_ J<|Zf<|Za<|Zc<|Zc<|Zg<|as_ J<|Zf<|Za<|Zm<|Xc (Nt 70 1 3 Ab)<|Mm [(0,_),(1,_)] [(0,_),(1,_),(2,_)] (fun(q:Nat×List Nat×Nat×Value)=>[(7,.int .i64 (q.1:Int)),(6,.int .i64 (q.2.2.1:Int)),(5,q.2.2.2)]) (fun(q:Nat×List Nat×Nat×Value)=>[(70,osl 1 3 Ab q.2.2.2 q.2.1)]) (fun(q:Nat×List Nat×Nat×Value)=>(q.1≤max (dg 1000000000 x).length (dg 1000000000 y).length+1∧(q.1=max (dg 1000000000 x).length (dg 1000000000 y).length+1→q.2.2.1=0))∧(q.2.1.length=q.1)∧(∀d∈q.2.1,d<1000000000)∧(q.2.2.1≤1)∧(val 1000000000 q.2.1+q.2.2.1*1000000000^q.1=val 1000000000 ((dg 1000000000 x).take q.1)+val 1000000000 ((dg 1000000000 y).take q.1))∧(q.1=0∨1000000000^(q.1-1)≤x+y)) (fun(q:Nat×List Nat×Nat×Value)=>max (dg 1000000000 x).length (dg 1000000000 y).length+1-q.1) (0,[],0,.slice none 0 0) ⟨⟨by omega,by omega⟩,J,by simp,by first | omega | (dsimp only<;>omega),by simp [val],.inl rfl⟩ K5 K4 ?_
 rintro⟨i,o,c,vo⟩ ⟨hi,hol,hoa,hc,hv,hge⟩
 dsimp only at hi hol hoa hc hv hge
 simp only [CA,NA]
 refine Zc<|Dc [(0,_),(1,_),(5,_),(6,_),(7,_)] [(0,_),(70,_),(1,_),(2,_)] (fun(_:Unit)=>[(21,.bool (decide (i<(dg 1000000000 x).length∨i<(dg 1000000000 y).length∨0<c)))]) (fun(_:Unit)=>[]) (fun(_:Unit)=>True) K5 K4 ?_ ?_
 ·refine Zg<|mv J<|mv J<|dt (Yc J J (i:=1) J Zi Lc)<|dt (Qd J J J)<|mv J<|Qp (d:=12) J (fun s62=>?_) (fun s62=>?_)
  ·exact gsk J J J<|gsk J J J<|gsk J J J<|gsk J J J<|dt (Yi J J J)<|mv J<|gsk J J J<|gsk J J J<|dt (Yi J J J)<|Zf<|Qz () trivial ⟨by first | exact congrArg some (congrArg Value.bool (decide_eq_decide.2 (by omega))) | exact congrArg some (congrArg Value.bool (decide_eq_true (by omega)).symm),rfl,rfl,rfl,rfl,rfl,trivial⟩ K4
  ·refine gdt (Yf J J) J J<|gdt (Yf J J) J J<|gdt (Yc J J (i:=2) J Zi Lc) J J<|gdt (Qd J J J) J J<|dt (Zo J J J)<|mv J<|Qp (d:=18) J (fun s62_2=>?_) (fun s62_2=>?_)
   ·exact gsk J J J<|gsk J J J<|dt (Yi J J J)<|Zf<|Qz () trivial ⟨by first | exact congrArg some (congrArg Value.bool (decide_eq_decide.2 (by omega))) | exact congrArg some (congrArg Value.bool (decide_eq_true (by omega)).symm),rfl,rfl,rfl,rfl,rfl,trivial⟩ K4
   ·exact gdt (Yf J J) J J<|gdt (Qr J J J) J J<|dt (Zo J J J)<|Zf<|Qz () trivial ⟨by first | exact congrArg some (congrArg Value.bool (decide_eq_decide.2 (by omega))) | exact congrArg some (congrArg Value.bool (decide_eq_true (by omega)).symm),rfl,rfl,rfl,rfl,rfl,trivial⟩ K4
 ·rintro _ -
  simp only [CA,NA]
  refine Zr J (fun h62=>?_) (fun h62=>?_)
  ·have hgn:1000000000^i≤x+y:=by
    rcases h62 with h1 | h1 | h1
    ·have:=Dq Ni h1;omega
    ·have:=Dq Ni h1;omega
    ·by_cases h2:i<(dg 1000000000 x).length
     ·have:=Dq Ni h2;omega
     ·by_cases h3:i<(dg 1000000000 y).length
      ·have:=Dq Ni h3;omega
      ·rw [Ig Ni (by omega),Ig Ni (by omega)]at hv
       have:1000000000^i≤c*1000000000^i:=Nat.le_mul_of_pos_left _ h1
       omega
   refine Zj<|Za<|Zc<|Zm<|Dc [(0,_),(1,_),(5,_),(7,_)] [(0,_),(70,_),(1,_),(2,_)] (fun(_:Unit)=>[(6,.int .i64 ((c+(dg 1000000000 x).getD i 0:Nat):Int))]) (fun(_:Unit)=>[]) (fun(_:Unit)=>True) K4 K4 ?_ ?_
   ·refine Zc<|Zg<|mv J<|mv J<|dt (Yc J J (i:=1) J Zi Lc)<|dt (Qd J J J)<|Zf<|Za<|Zr J (fun h63=>?_) (fun h63=>?_)
    ·refine Zg<|mv J<|mv J<|mv J<|dt (Xf (ii:=1) J J J J Zi Lc zT3 J (by first | omega | (simp only [List.length_set];omega)))<|dt (Xx (ii:=1) 0 J J J Zi pN (by first | omega | (simp only [List.length_set];omega)))<|dt (Zkl J J J (by have h1:=(Qj Hr (Lh Ni x) i);omega))<|as_ J<|Zf ?_
     try (have hz:(dg 1000000000 x).getD i 0=0:=by simp [List.getD,List.getElem?_eq_none (by omega:(dg 1000000000 x).length≤i)])
     exact Qz () trivial ⟨by first | rfl | (rw [hz];rfl),rfl,rfl,rfl,rfl,trivial⟩ K4
    ·refine Zj ?_
     try (have hz:(dg 1000000000 x).getD i 0=0:=by simp [List.getD,List.getElem?_eq_none (by omega:(dg 1000000000 x).length≤i)])
     exact Qz () trivial ⟨by first | rfl | (rw [hz];rfl),rfl,rfl,rfl,rfl,trivial⟩ K4
   ·rintro _ -
    simp only [CA,NA]
    refine Dc [(0,_),(1,_),(5,_),(7,_)] [(0,_),(70,_),(1,_),(2,_)] (fun(_:Unit)=>[(6,.int .i64 ((c+(dg 1000000000 x).getD i 0+(dg 1000000000 y).getD i 0:Nat):Int))]) (fun(_:Unit)=>[]) (fun(_:Unit)=>True) K4 K4 ?_ ?_
    ·refine Zc<|Zg<|mv J<|mv J<|dt (Yc J J (i:=2) J Zi Lc)<|dt (Qd J J J)<|Zf<|Za<|Zr J (fun h66=>?_) (fun h66=>?_)
     ·refine Zg<|mv J<|mv J<|mv J<|dt (Xf (ii:=2) J J J J Zi Lc zT3 J (by first | omega | (simp only [List.length_set];omega)))<|dt (Xx (ii:=2) 0 J J J Zi pN (by first | omega | (simp only [List.length_set];omega)))<|dt (Zkl J J J (by have h1:=(Qj Hr (Lh Ni x) i);have h2:=(Qj Hr (Lh Ni y) i);omega))<|as_ J<|Zf ?_
      try (have hz:(dg 1000000000 y).getD i 0=0:=by simp [List.getD,List.getElem?_eq_none (by omega:(dg 1000000000 y).length≤i)])
      exact Qz () trivial ⟨by first | rfl | (rw [hz];rfl),rfl,rfl,rfl,rfl,trivial⟩ K4
     ·refine Zj ?_
      try (have hz:(dg 1000000000 y).getD i 0=0:=by simp [List.getD,List.getElem?_eq_none (by omega:(dg 1000000000 y).length≤i)])
      exact Qz () trivial ⟨by first | rfl | (rw [hz];rfl),rfl,rfl,rfl,rfl,trivial⟩ K4
    ·rintro _ -
     simp only [CA,NA]
     exact Zc<|Zg<|mv J<|mv J<|dt (Zrf (n:=1000000000) J J J (by omega))<|tt (Ps (i:=3) (ivs:=[(0,_)]) (enc:=Ab) [(c+(dg 1000000000 x).getD i 0+(dg 1000000000 y).getD i 0)%1000000000] J J K2 Lc ti3 J J J J J pN.cells J J hw) J fun v _=>tt (Hw (i:=70) (j:=3) (by_:=8) J J J J J J (by decide) J (Yk pN) Lc ti3 J pN J J J (by simp;omega) (by decide) J hw) J fun v_2 _=>as_ J<|Zf<|Za<|Zg<|mv J<|dt (Zoq (n:=1000000000) J J J (by have h1:=(Qj Hr (Lh Ni x) i);have h2:=(Qj Hr (Lh Ni y) i);omega) (by omega))<|as_ J<|Zf<|Og<|Za<|Zg<|mv J<|dt (Yu J J J ⟨by omega,by omega⟩)<|as_ J<|Zf<|Xq (i+1,o ++ [(c+(dg 1000000000 x).getD i 0+(dg 1000000000 y).getD i 0)%1000000000],(c+(dg 1000000000 x).getD i 0+(dg 1000000000 y).getD i 0)/1000000000,_) ⟨⟨by dsimp only;omega,fun h=>by dsimp only at h ⊢;rw [Zam (by omega:(dg 1000000000 x).length≤i),Zam (by omega:(dg 1000000000 y).length≤i)];omega⟩,by simp [hol],Zhw hoa (Nat.mod_lt _ Hr),by have h1:=(Qj Hr (Lh Ni x) i);have h2:=(Qj Hr (Lh Ni y) i);dsimp only;omega,Zqw hol hv,.inr hgn⟩ (by first | omega | (dsimp only<;>omega)) K5 K4
  ·refine Yx<|Zu<|Zu<|Nc<|Za<|Zc<|Zg<|mv J<|as_ J<|Zf<|Za<|Zt ?_
   have hc0:c=0:=by omega
   have hv2:val 1000000000 o=x+y:=by
    rw [Ig Ni (by omega),Ig Ni (by omega),hc0,Nat.zero_mul,Nat.add_zero]at hv
    exact hv
   have hx:o=dg 1000000000 (x+y):=Zpi Ni hoa hv2 (by rw [hol];exact hge)
   exact Yl (.inl J) hsc _ _ (fun a w hs=>Np hs results75 J) J trivial J (Pq 70 J J pN (by rw [←hx]<;>rfl) Zk)
theorem Zqk(v w:Value)(x y:Nat)(hxy:y≤x)(hx:bl x≤4294967296:=by omega):Cal prog 91 #[v,w] [d9p v x,d9p w y] false (G:=Value) (fun r=>True) (fun r=>r) (fun r=>[d9p r (x-y)]):=by
 refine Yd func91 J ntmps91 J K2 ?_
 intro w0 sc hw hsc
 simp only [Zq,Zp]
 have hX:=Hi x
 have hm:=Nu hxy
 have hY:=Hi y
 have hly:(dg 1000000000 y).length≤(dg 1000000000 x).length:=Zk6 Ni hxy
 refine Zc<|Zg<|as_ J<|Zf<|Za<|Zc<|Zg<|as_ J<|Zf<|Za<|Zc<|Zg<|as_ J<|Zf<|Za<|Zc<|Zc<|Zg<|as_ J<|Zf<|Za<|Zm<|Xc (Nt 70 1 3 Ab)<|Mm [(0,_),(1,_)] [(0,_),(1,_),(2,_)] (fun(q:Nat×List Nat×Nat×Value)=>[(7,.int .i64 (q.1:Int)),(6,.int .i64 (q.2.2.1:Int)),(5,q.2.2.2)]) (fun(q:Nat×List Nat×Nat×Value)=>[(70,osl 1 3 Ab q.2.2.2 q.2.1)]) (fun(q:Nat×List Nat×Nat×Value)=>(q.1≤(dg 1000000000 x).length)∧(q.2.1.length=q.1)∧(∀d∈q.2.1,d<1000000000)∧(q.2.2.1≤1)∧(val 1000000000 q.2.1+val 1000000000 ((dg 1000000000 y).take q.1)=val 1000000000 ((dg 1000000000 x).take q.1)+q.2.2.1*1000000000^q.1)) (fun(q:Nat×List Nat×Nat×Value)=>(dg 1000000000 x).length-q.1) (0,[],0,.slice none 0 0) ⟨by first | omega | (dsimp only<;>omega),rfl,by simp,by first | omega | (dsimp only<;>omega),by simp [val]⟩ K5 K4 ?_
 rintro⟨i,o,c,vo⟩ ⟨hi,hol,hoa,hc,hv⟩
 dsimp only at hi hol hoa hc hv
 simp only [CA,NA]
 have hda:=(Qj Hr (Lh Ni x) i)
 have hdb:=(Qj Hr (Lh Ni y) i)
 refine Zc<|Zc<|Zg<|mv J<|mv J<|dt (Yc J J (i:=1) J Zi Lc)<|dt (Qd J J J)<|Zf<|Za<|Zr J (fun h79=>?_) (fun h79=>?_)
 ·refine Zj<|Za<|Zc<|Zm<|Zc<|Zg<|mv J<|mv J<|dt (Xf (ii:=1) J J J J Zi Lc zT3 J (by first | omega | (simp only [List.length_set];omega)))<|dt (Xx (ii:=1) 0 J J J Zi pN (by first | omega | (simp only [List.length_set];omega)))<|mv J<|dt (Qo J J J ⟨by omega,by omega⟩)<|as_ J<|Zf<|Za<|Dc [(0,_),(1,_),(5,_),(7,_)] [(0,_),(70,_),(1,_),(2,_)] (fun(_:Unit)=>[(8,.int .i64 (((dg 1000000000 x).getD i 0:Int)-(c:Int)-((dg 1000000000 y).getD i 0:Int)))]) (fun(_:Unit)=>[]) (fun(_:Unit)=>True) K4 K4 ?_ ?_
  ·refine Zc<|Zg<|mv J<|mv J<|dt (Yc J J (i:=2) J Zi Lc)<|dt (Qd J J J)<|Zf<|Za<|Zr J (fun h81=>?_) (fun h81=>?_)
   ·refine Zg<|mv J<|mv J<|mv J<|dt (Xf (ii:=2) J J J J Zi Lc zT3 J (by first | omega | (simp only [List.length_set];omega)))<|dt (Xx (ii:=2) 0 J J J Zi pN (by first | omega | (simp only [List.length_set];omega)))<|dt (Qo J J J ⟨by omega,by omega⟩)<|as_ J<|Zf ?_
    try (have hz:(dg 1000000000 y).getD i 0=0:=by simp [List.getD,List.getElem?_eq_none (by omega:(dg 1000000000 y).length≤i)])
    exact Qz () trivial ⟨by first | rfl | (rw [hz];exact congrArg some (Zb5 (by omega))),rfl,rfl,rfl,rfl,trivial⟩ K4
   ·refine Zj ?_
    try (have hz:(dg 1000000000 y).getD i 0=0:=by simp [List.getD,List.getElem?_eq_none (by omega:(dg 1000000000 y).length≤i)])
    exact Qz () trivial ⟨by first | rfl | (rw [hz];exact congrArg some (Zb5 (by omega))),rfl,rfl,rfl,rfl,trivial⟩ K4
  ·rintro _ -
   simp only [CA,NA]
   refine Zc<|Zg<|as_ J<|Zf<|Za<|Dc [(0,_),(1,_),(5,_),(7,_)] [(0,_),(70,_),(1,_),(2,_)] (fun(_:Unit)=>[(8,.int .i64 ((d9s ((dg 1000000000 x).getD i 0) ((dg 1000000000 y).getD i 0) c:Nat):Int)),(6,.int .i64 ((brw ((dg 1000000000 x).getD i 0) ((dg 1000000000 y).getD i 0) c:Nat):Int))]) (fun(_:Unit)=>[]) (fun(_:Unit)=>True) K4 K4 ?_ ?_
   ·refine Zc<|Zg<|mv J<|dt (Qd J J J)<|Zf<|Za<|Zr J (fun h85=>?_) (fun h85=>?_)
    ·exact Zg<|mv J<|dt (Yu J J J ⟨by omega,by omega⟩)<|as_ J<|as_ J<|Zf<|Qz () trivial ⟨by exact congrArg some (Zb5 (by unfold d9s;split<;>omega)),by exact congrArg some (Zb5 (by unfold brw;split<;>omega)),rfl,rfl,rfl,rfl,trivial⟩ K4
    ·exact Zj<|Qz () trivial ⟨by exact congrArg some (Zb5 (by unfold d9s;split<;>omega)),by exact congrArg some (Zb5 (by unfold brw;split<;>omega)),rfl,rfl,rfl,rfl,trivial⟩ K4
   ·rintro _ -
    simp only [CA,NA]
    exact Zg<|mv J<|mv J<|tt (Ps (i:=3) (ivs:=[(0,_)]) (enc:=Ab) [d9s ((dg 1000000000 x).getD i 0) ((dg 1000000000 y).getD i 0) c] J J K2 Lc ti3 J J J J J pN.cells J J hw) J fun v _=>tt (Hw (i:=70) (j:=3) (by_:=8) J J J J J J (by decide) J (Yk pN) Lc ti3 J pN J J J (by simp;omega) (by decide) J hw) J fun v_2 _=>as_ J<|Zf<|Og<|Za<|Zg<|mv J<|dt (Yu J J J ⟨by omega,by omega⟩)<|as_ J<|Zf<|Xq (i+1,o ++ [d9s ((dg 1000000000 x).getD i 0) ((dg 1000000000 y).getD i 0) c],brw ((dg 1000000000 x).getD i 0) ((dg 1000000000 y).getD i 0) c,_) ⟨by first | omega | (dsimp only<;>omega),by simp [hol],Zhw hoa (Zsz hda hdb hc).1,brw_le _ _ _,Zor hc hda hdb hol hv⟩ (by first | omega | (dsimp only<;>omega)) K5 K4
 ·refine Yx<|Zu<|Zu<|Nc<|Za<|Zc<|Zg<|mv J<|tt (Zh (n:=3) (Im _ _) J J J K1 call77 (Xw 70 J J pN Ze) J hw) J fun _ _=>Px (Zhx 70 J J pN)<|as_ J<|Zf<|Za<|Zt ?_
  obtain rfl:i=(dg 1000000000 x).length:=by omega
  have hx:tz o=dg 1000000000 (x-y):=by
   rw [←Ky Ni _ hoa]
   congr 1
   rw [Nd _ (dg 1000000000 y) _ hly,Nd _ (dg 1000000000 x) _ (Nat.le_refl _),Mw Ni,Mw Ni]at hv
   have h1:=Zfd Hr o hoa
   rw [hol]at h1
   have h0:c=0∨c=1:=by omega
   rcases h0 with rfl | rfl<;>omega
  exact Yl (.inl J) hsc _ _ (fun a w hs=>Np hs results91 J) J trivial J (Pq 70 J J pN (by rw [hx]<;>rfl) Zk)
set_option maxHeartbeats 4000000 in
theorem Zqg(v w:Value)(x y:Nat)(hx:bl x≤4294967296)(hy:bl y≤4294967296):Cal prog 123 #[v,w] [d9p v x,d9p w y] false (G:=Value) (fun r=>True) (fun r=>r) (fun r=>[d9p r (x*y)]):=by
 refine Yd func123 J ntmps123 J K2 ?_
 intro w0 sc hw hsc
 simp only [Zq,Zp]
 have hX:=Hi x
 have hY:=Hi y
 refine Zc<|Zg<|as_ J<|Zf<|Za<|Zc<|Zg<|mv J<|dt (Yc J J (i:=1) J Zi Lc)<|mv J<|dt (Yc J J (i:=2) J Zi Lc)<|dt (Yu J J J ⟨by omega,by omega⟩)<|tt (Di (i:=3) (n:=((dg 1000000000 x).length+(dg 1000000000 y).length)) (by_:=8) (enc:=Ab) 0 J J J J Lc ti3 J pN.cells pN.pos J J J hw) J fun v _=>as_ J<|Zf<|Za<|Zc<|Zc<|Zg<|as_ J<|Zf<|Za<|Zm<|Mm [(0,_),(1,_),(5,_)] [(0,_),(1,_),(2,_)] (fun(q:Nat×List Nat)=>[(6,.int .i64 (q.1:Int))]) (fun(q:Nat×List Nat)=>[(3,osl 1 3 Ab v q.2)]) (fun(q:Nat×List Nat)=>(q.1≤(dg 1000000000 x).length)∧(q.2.length=((dg 1000000000 x).length+(dg 1000000000 y).length))∧(∀d∈q.2,d<1000000000)∧(∀j,q.1+(dg 1000000000 y).length≤j→q.2.getD j 0=0)∧(val 1000000000 q.2=val 1000000000 ((dg 1000000000 x).take q.1)*y)) (fun(q:Nat×List Nat)=>(dg 1000000000 x).length-q.1) (0,List.replicate ((dg 1000000000 x).length+(dg 1000000000 y).length) 0) ⟨by first | omega | (dsimp only<;>omega),by simp,Nb _ Hr,fun j _=>Lz _ j,by simp [val,Kv]⟩ K4 K4 ?_
 rintro⟨i,o⟩ ⟨hi,hol,hoa,hz0,hv⟩
 dsimp only at hi hol hoa hz0 hv
 simp only [CA,NA]
 refine Zc<|Zc<|Zg<|mv J<|mv J<|dt (Yc J J (i:=1) J Zi Lc)<|dt (Qd J J J)<|Zf<|Za<|Zr J (fun h96=>?_) (fun h96=>?_)
 ·refine Zj<|Za<|Zc<|Zm<|Zc<|Zg<|as_ J<|Zf<|Za<|Zc<|Zg<|as_ J<|Zf<|Za<|Zm<|Mm [(0,_),(1,_),(5,_),(6,_)] [(0,_),(1,_),(2,_)] (fun(q:Nat×List Nat×Nat)=>[(8,.int .i64 (q.1:Int)),(7,.int .i64 (q.2.2:Int))]) (fun(q:Nat×List Nat×Nat)=>[(3,osl 1 3 Ab v q.2.1)]) (fun(q:Nat×List Nat×Nat)=>(q.1≤(dg 1000000000 y).length+1∧(q.1=(dg 1000000000 y).length+1→q.2.2=0))∧(q.2.1.length=((dg 1000000000 x).length+(dg 1000000000 y).length))∧(∀d∈q.2.1,d<1000000000)∧(∀j,i+q.1≤j→i+(dg 1000000000 y).length≤j→q.2.1.getD j 0=0)∧(q.2.2<1000000000)∧(val 1000000000 q.2.1+q.2.2*1000000000^(i+q.1)=val 1000000000 ((dg 1000000000 x).take i)*y+(dg 1000000000 x).getD i 0*1000000000^i*val 1000000000 ((dg 1000000000 y).take q.1))) (fun(q:Nat×List Nat×Nat)=>(dg 1000000000 y).length+1-q.1) (0,o,0) ⟨⟨by omega,by omega⟩,hol,hoa,fun j _ h=>hz0 j h,by first | omega | (dsimp only<;>omega),by rw [hv];simp [val]⟩ K6 K4 ?_
  rintro⟨k,p,c⟩ ⟨hk,hpl,hpa,hpz,hcU,hpv⟩
  dsimp only at hk hpl hpa hpz hcU hpv
  simp only [CA,NA]
  have hdig:=Zjq (Qj Hr (Lh Ni x) i) (Qj Hr (Lh Ni y) k) (Qj Hr hpa (i+k)) hcU
  refine Zc<|Dc [(0,_),(1,_),(5,_),(6,_),(7,_),(8,_)] [(0,_),(3,_),(1,_),(2,_)] (fun(_:Unit)=>[(29,.bool (decide (k<(dg 1000000000 y).length∨0<c)))]) (fun(_:Unit)=>[]) (fun(_:Unit)=>True) K6 K4 ?_ ?_
  ·refine Zg<|mv J<|mv J<|dt (Yc J J (i:=2) J Zi Lc)<|dt (Qd J J J)<|mv J<|Qp (d:=26) J (fun s98=>?_) (fun s98=>?_)
   ·exact gsk J J J<|gsk J J J<|dt (Yi J J J)<|Zf<|Qz () trivial ⟨by first | exact congrArg some (congrArg Value.bool (decide_eq_decide.2 (by omega))) | exact congrArg some (congrArg Value.bool (decide_eq_true (by omega)).symm),rfl,rfl,rfl,rfl,rfl,rfl,trivial⟩ K4
   ·exact gdt (Yf J J) J J<|gdt (Qr J J J) J J<|dt (Zo J J J)<|Zf<|Qz () trivial ⟨by first | exact congrArg some (congrArg Value.bool (decide_eq_decide.2 (by omega))) | exact congrArg some (congrArg Value.bool (decide_eq_true (by omega)).symm),rfl,rfl,rfl,rfl,rfl,rfl,trivial⟩ K4
  ·rintro _ -
   simp only [CA,NA]
   refine Zr J (fun h98=>?_) (fun h98=>?_)
   ·refine Zj<|Za<|Zc<|Zm<|Zc<|Zg<|mv J<|mv J<|mv J<|dt (Zkl J J J (by omega))<|dt (Xf (ii:=3) (i:=(i+k)) J J J J (Yk pN) Lc zT3)<|dt (Xx (ii:=3) 0 J J J (Yk pN) pN)<|mv J<|dt (Zkl J J J (by have h1:=Qj Hr hpa (i+k);omega))<|as_ J<|Zf<|Za<|Dc [(0,_),(1,_),(5,_),(6,_),(8,_)] [(0,_),(3,_),(1,_),(2,_)] (fun(_:Unit)=>[(9,.int .i64 ((p.getD (i+k) 0+c+(dg 1000000000 x).getD i 0*(dg 1000000000 y).getD k 0:Nat):Int))]) (fun(_:Unit)=>[]) (fun(_:Unit)=>True) K5 K4 ?_ ?_
    ·refine Zc<|Zg<|mv J<|mv J<|dt (Yc J J (i:=2) J Zi Lc)<|dt (Qd J J J)<|Zf<|Za<|Zr J (fun h100=>?_) (fun h100=>?_)
     ·refine Qf (fun _=>False) [(0,0),(1,0),(2,0),(3,0),(4,0),(5,0),(6,0),(7,0),(8,0),(9,0),(10,0),(11,3)] ?_ ?_
      ·kernel_rfl
      refine r0' J J (st0 (Yf J J))<|r0' J J (st0 (Yf J J))<|r0' J J (st0 (Yf J J))<|r0' J J (st0 (Xf (ii:=1) J J J J Zi Lc zT3 J (by first | omega | (simp only [List.length_set];omega))))<|r0' J J (st0 (Xx (ii:=1) 0 J J J Zi pN (by first | omega | (simp only [List.length_set];omega))))<|r0' J J (st0 (Yf J J))<|r0' J J (st0 (Yf J J))<|r0' J J (st0 (Xf (ii:=2) J J J J Zi Lc zT3 J (by first | omega | (simp only [List.length_set];omega))))<|r0' J J (st0 (Xx (ii:=2) 0 J J J Zi pN (by first | omega | (simp only [List.length_set];omega))))<|r0' J J (st0 (n_mul J J J (by have h1:=hdig.2;omega)))<|r0' J J (st0 (Zkl J J J hdig.2))<|r3' J (Qq (Ot J J) J) fun _ _=>Py ?_
      try (have hz:(dg 1000000000 y).getD k 0=0:=Zam (by omega))
      exact Qz () trivial ⟨by first | rfl | (rw [hz,Nat.mul_zero];rfl),rfl,rfl,rfl,rfl,rfl,trivial⟩ K4
     ·refine Zj ?_
      try (have hz:(dg 1000000000 y).getD k 0=0:=Zam (by omega))
      exact Qz () trivial ⟨by first | rfl | (rw [hz,Nat.mul_zero];rfl),rfl,rfl,rfl,rfl,rfl,trivial⟩ K4
    ·rintro _ -
     simp only [CA,NA]
     exact Zc<|Zg<|mv J<|mv J<|mv J<|dt (Zkl J J J (by omega))<|mv J<|dt (Zrf (n:=1000000000) J J J (by omega))<|dt (Xf (ii:=3) (i:=(i+k)) J J J J (Yk pN) Lc zT3)<|tt (Ih (i:=3) (enc:=Ab) _ J J J J J J pN J hw) J fun _ _=>Zf<|Za<|Zg<|mv J<|dt (Zoq (n:=1000000000) J J J hdig.2 (by omega))<|as_ J<|Zf<|Og<|Za<|Zg<|mv J<|dt (Yu J J J ⟨by omega,by omega⟩)<|as_ J<|Zf<|Xq (k+1,_,_) ⟨⟨by dsimp only;omega,fun h=>by dsimp only at h ⊢;rw [Zam (by omega:(dg 1000000000 y).length≤k),hpz (i+k) (by omega) (by omega),Nat.mul_zero];omega⟩,by simp;omega,Ln hpa _ _ (Nat.mod_lt _ Hr),fun j hj hj2=>by dsimp only at hj ⊢;rw [Na _ _ _ _ _ (by omega),if_neg (by omega)];exact hpz j (by omega) hj2,hdig.1,Zn9 hpv (by omega)⟩ (by first | omega | (dsimp only<;>omega)) K6 K4
   ·refine Yx<|Zu<|Zu<|Nc<|Og<|Za<|Zg<|mv J<|dt (Yu J J J ⟨by omega,by omega⟩)<|as_ J<|Zf ?_
    have hc0:c=0:=by omega
    have hvf:=hpv
    rw [hc0,Nat.zero_mul,Nat.add_zero,Ig (x:=y) (k:=k) Ni (by omega)]at hvf
    exact Xq (i+1,_) ⟨by first | omega | (dsimp only<;>omega),hpl,hpa,fun j hj=>hpz j (by dsimp only at hj;omega) (by dsimp only at hj;omega),by dsimp only;rw [hvf,Qk,Nat.add_mul]⟩ (by first | omega | (dsimp only<;>omega)) K4 K4
 ·refine Yx<|Zu<|Zu<|Nc<|Za<|Zc<|Zg<|mv J<|tt (Zh (n:=3) (Im _ _) J J J K1 call77 (Xw 3 J J pN Ze) J hw) J fun _ _=>Px (Zhx 3 J J pN)<|as_ J<|Zf<|Za<|Zt ?_
  obtain rfl:i=(dg 1000000000 x).length:=by omega
  have hx:tz o=dg 1000000000 (x*y):=by
   rw [←Ky Ni _ hoa,hv,Ig Ni (Nat.le_refl _)]
  exact Yl (.inl J) hsc _ _ (fun a w hs=>Np hs results123 J) J trivial J (Pq 3 J J pN (by rw [hx]<;>rfl) Zk)
theorem Zqh(v:Value)(x n:Nat)(hx:bl x≤4294967296:=by omega)(hn:n<1000000000:=by omega):Cal prog 76 #[v,.int .i64 (n:Int)] [d9p v x] true (G:=Value) (fun r=>True) (fun r=>r) (fun r=>[d9p r (x*n)]):=by
 refine Yd func76 J ntmps76 J K1 ?_
 intro w0 sc hw hsc
 simp only [Zq,Zp]
 refine Zc<|Zg<|as_ J<|Zf<|Za<|Zc<|Zc<|Zg<|mv J<|dt (Pg J J J)<|Zf<|Za<|Zr J (fun h112=>?_) (fun h112=>?_)
 ·exact Zc<|Zg<|as_ J<|Zf<|Za<|Zt<|Ys<|Nq (Nt 9 1 3 Ab)<|Yl (.inl J) hsc (.slice none 0 0) _ (fun a w hs=>Np hs results76 J) J trivial J (Pq 9 J J pN (by rw [show n=0 by omega,Nat.mul_zero]<;>rfl) Zk)
 ·have hn0:n≠0:=by omega
  exact Zj<|Za<|Zc<|Zg<|mv J<|mv J<|tt (Ps (i:=70) (ivs:=[(0,_)]) (enc:=Ab) [n] J J K2 Lc ti3 J J J J J pN.cells J J hw) J fun v _=>Px (Zgs 70 (Zwd Ni hn hn0).symm J J)<|tt (Zh (n:=2) (Zqg _ _ _ n hx (by have:=(Md 30 n).2 (by omega);omega)) J J J K2 call123 (Zd 1 J J J (Xw 70 J J pN Ze)) J hw) J fun v_2 _=>as_ J<|Zf<|Za<|Zt<|Yl (.inl J) hsc _ _ (fun a w hs=>Np hs results76 J) J trivial J (Qx 2 J J J Zk)
theorem Zb2(s:Bool)(v:Value)(n:Nat)(z:Int)(hn:n=z.natAbs)(hs:sg s z)(hb:bl n≤4294967296):Mv prog 78 #[.bool s,v] [d9p v n] (.agg #[.bool (decide (z<0)),v]):=by
 refine Yd func78 J ntmps78 J K1 ?_
 intro w0 sc hw hsc
 simp only [Zq,Zp]
 have hl9:=Hi n
 refine Zc<|Zg<|tt (Zl (i:=2) J J zeroValue48 J J hw) J fun b _=>Zf<|Za<|Zc<|Zg<|mv J<|mv J<|Oj (d:=6) J (fun s143=>?_) (fun s143=>?_)
 ·exact gdt (Yf J J) J J<|gdt (Yc J J (i:=1) J Zi Lc) J J<|gdt (Qr J J J) J J<|dt (Yi J J J)<|mv J<|dt (Oh (ivs:=[(0,_),(1,_)]) J K4 (fun a w hs=>b48_01 ((Zb J) a w hs) ((Zx (i:=1) J Zi) a w hs)))<|tt (Zn (i:=2) J J J J J (by decide) J Kd J J ⟨Zb J,Zx (i:=1) J Zi,trivial⟩ J hw trivial) J fun _ _=>Zf<|Za<|Zt<|Yl (.inl J) hsc () _ (fun a w hs=>Np hs results78 (Yp (i:=2) J J Bp Kd J)) (by rw [←made_b hn hs,←Zmz];simp_all) trivial J Zk
 ·exact gsk J J J<|gsk J J J<|gsk J J J<|dt (Zo J J J)<|mv J<|dt (Oh (ivs:=[(0,_),(1,_)]) J K4 (fun a w hs=>b48_01 ((Zb J) a w hs) ((Zx (i:=1) J Zi) a w hs)))<|tt (Zn (i:=2) J J J J J (by decide) J Kd J J ⟨Zb J,Zx (i:=1) J Zi,trivial⟩ J hw trivial) J fun _ _=>Zf<|Za<|Zt<|Yl (.inl J) hsc () _ (fun a w hs=>Np hs results78 (Yp (i:=2) J J Bp Kd J)) (by rw [←made_b hn hs,←Zmz];simp_all) trivial J Zk
theorem r_neg(v:Value)(x:Int)(hx:bl x.natAbs≤3000000000):Cal prog 73 #[.agg #[.bool (decide (x<0)),v]] [d9p v x.natAbs] true (G:=Value) (fun r=>True) (fun r=> .agg #[.bool (decide (-x<0)),r]) (fun r=>[d9p r (-x).natAbs]):=by
 refine Yd func73 J ntmps73 J K1 ?_
 intro w0 sc hw hsc
 simp only [Zq,Zp]
 exact Zc<|Zg<|tt (Xa (i:=2) J J J J J hw) J fun b _=>tt (Zl (i:=3) J J zeroValue48 J J hw) J fun b_2 _=>Zf<|Za<|Zc<|Zg<|dt (Xk J J Zc7 J zT4 J J)<|dt (Pr (i:=2) J J J iA4 J)<|dt (Yr J J)<|dt (Xk J J Zc7 J Zn3 J J)<|dt (Pr (i:=2) J J J Zou J)<|tt (Zh (n:=3) (Zb2 _ _ _ (-x) (Int.natAbs_neg x).symm (sg_neg (Xh x)) (by omega)) J J J K2 call78 (Zd 1 J J J Ze) J hw) J fun _ _=>tt (Zn (i:=3) J J J J J (by decide) J Kd J J ⟨Zb J,Zx (i:=1) J Zi,trivial⟩ J hw trivial) J fun _ _=>Zf<|Za<|Zt<|Yl (.inl J) hsc _ _ (fun a w hs=>Np hs results73 (Yp (i:=3) J J Bp Kd J)) J trivial J (Yh 1 J J J (by rw [Int.natAbs_neg]<;>rfl) Zk)
theorem Zu3(v w:Value)(x y:Int)(hx:bl x.natAbs≤3000000000:=by omega)(hy:bl y.natAbs≤3000000000:=by omega):Cal prog 37 #[.agg #[.bool (decide (x<0)),v],.agg #[.bool (decide (y<0)),w]] [d9p v x.natAbs,d9p w y.natAbs] true (G:=Value) (fun r=>True) (fun r=> .agg #[.bool (decide (x+y<0)),r]) (fun r=>[d9p r (x+y).natAbs]):=by
 refine Yd func37 J ntmps37 J K2 ?_
 intro w0 sc hw hsc
 simp only [Zq,Zp]
 have hb:=Lv x y
 refine Zc<|Zg<|tt (Xa (i:=3) J J J J J hw) J fun b _=>tt (Xa (i:=4) J J J J J hw) J fun b_2 _=>tt (Zl (i:=5) J J zeroValue48 J J hw) J fun b_3 _=>Zf<|Za<|Zc<|Zc<|Zg<|dt (Xk J J Zc7 J zT4 J J)<|dt (Pr (i:=3) J J J iA4 J)<|dt (Xk J J Zc7 J zT4 J J)<|dt (Pr (i:=4) J J J iA4 J)<|dt (d_eqb J J J uT4)<|Zf<|Za<|Nn J (fun h189=>?_) (fun h189=>?_)
 ·replace h189:=beq_dec h189
  refine Zc<|Qf (fun _=>False) [(0,0),(1,0),(2,0),(3,0),(4,0),(5,0),(6,1),(7,1),(8,3)] ?_ ?_
  ·kernel_rfl
  exact r0' J J (st0 (Xk J J Zc7 J zT4 J J))<|r0' J J (st0 (Pr (i:=3) J J J iA4 J))<|r0' J J (st0 (Xk J J Zc7 J Zn3 J J))<|r0' J J (st0 (Pr (i:=3) J J J Zou J))<|r0' J J (st0 (Xk J J Zc7 J Zn3 J J))<|r0' J J (st0 (Pr (i:=4) J J J Zou J))<|r1' J (Zh (n:=6) (Zqj _ _ _ _ (by omega) (by omega)) J J J K2 call75 (Zd 1 J J J (Zd 2 J J J Ze)) J hw) fun v _=>r1' J (Zh (n:=6) (Zb2 _ _ _ (x+y) (Zc2 (Xh x) (h189▸Xh y)).symm (Zp4 (Xh x) (h189▸Xh y)) (by rw [←Zc2 (Xh x) (h189▸Xh y)];omega)) J J J K2 call78 (Zd 6 J J J Ze) J hw) fun _ _=>r3' J (Zn (i:=5) J J J J J (by decide) J Kd J J ⟨Zb J,Zx (i:=6) J Zi,trivial⟩ J hw trivial) fun _ _=>Py<|Za<|Zt<|Ys<|Yl (.inl J) hsc _ _ (fun a w hs=>Np hs results37 (Yp (i:=5) J J Bp Kd J)) J trivial J (Yh 6 J J J (by rw [Zc2 (Xh x) (h189▸Xh y)]<;>rfl) Zk)
 ·have hne:decide (x<0)≠decide (y<0):=by simpa using h189
  refine Zj<|Za<|Zc<|Zc<|Zg<|dt (Xk J J Zc7 J Zn3 J J)<|dt (Pr (i:=3) J J J Zou J)<|dt (Xk J J Zc7 J Zn3 J J)<|dt (Pr (i:=4) J J J Zou J)<|tt (Zh (n:=6) (r_order _ _ _ _) J J J K2 call90 (Zd 1 J J J (Zd 2 J J J Ze)) J hw) J fun _ _=>dt (Kj J J J)<|Zf<|Za<|Zr J (fun h192=>?_) (fun h192=>?_)
  ·have hge:y.natAbs≤x.natAbs:=Zs5.1 h192
   refine Zc<|Qf (fun _=>False) [(0,0),(1,0),(2,0),(3,0),(4,0),(5,0),(6,1),(7,1),(8,3)] ?_ ?_
   ·kernel_rfl
   exact r0' J J (st0 (Xk J J Zc7 J zT4 J J))<|r0' J J (st0 (Pr (i:=3) J J J iA4 J))<|r0' J J (st0 (Xk J J Zc7 J Zn3 J J))<|r0' J J (st0 (Pr (i:=3) J J J Zou J))<|r0' J J (st0 (Xk J J Zc7 J Zn3 J J))<|r0' J J (st0 (Pr (i:=4) J J J Zou J))<|r1' J (Zh (n:=7) (Zqk _ _ _ _ hge) J J J K2 call91 (Zd 1 J J J (Zd 2 J J J Ze)) J hw) fun v_2 _=>r1' J (Zh (n:=7) (Zb2 _ _ _ (x+y) (Bh (Xh x) (Xh y) hne hge).symm (Zgq (Xh x) (Xh y) hne hge) (by have:=Nu (Nat.sub_le x.natAbs y.natAbs);omega)) J J J K2 call78 (Zd 7 J J J Ze) J hw) fun _ _=>r3' J (Zn (i:=5) J J J J J (by decide) J Kd J J ⟨Zb J,Zx (i:=7) J Zi,trivial⟩ J hw trivial) fun _ _=>Py<|Za<|Zt<|Ys<|Yl (.inl J) hsc _ _ (fun a w hs=>Np hs results37 (Yp (i:=5) J J Bp Kd J)) J trivial J (Yh 7 J J J (by rw [Bh (Xh x) (Xh y) hne hge]<;>rfl) Zk)
  ·have hge:x.natAbs≤y.natAbs:=by have:=mt Zs5.2 h192;omega
   refine Zj<|Za<|Zc<|Qf (fun _=>False) [(0,0),(1,0),(2,0),(3,0),(4,0),(5,0),(6,1),(7,1),(8,3)] ?_ ?_
   ·kernel_rfl
   exact r0' J J (st0 (Xk J J Zc7 J zT4 J J))<|r0' J J (st0 (Pr (i:=4) J J J iA4 J))<|r0' J J (st0 (Xk J J Zc7 J Zn3 J J))<|r0' J J (st0 (Pr (i:=4) J J J Zou J))<|r0' J J (st0 (Xk J J Zc7 J Zn3 J J))<|r0' J J (st0 (Pr (i:=3) J J J Zou J))<|r1' J (Zh (n:=8) (Zqk _ _ _ _ hge) J J J K2 call91 (Zd 2 J J J (Zd 1 J J J Ze)) J hw) fun v_3 _=>r1' J (Zh (n:=8) (Zb2 _ _ _ (x+y) (by rw [Int.add_comm x];exact(Bh (Xh y) (Xh x) (Ne.symm hne) hge).symm) (by rw [Int.add_comm x];exact Zgq (Xh y) (Xh x) (Ne.symm hne) hge) (by have:=Nu (Nat.sub_le y.natAbs x.natAbs);omega)) J J J K2 call78 (Zd 8 J J J Ze) J hw) fun _ _=>r3' J (Zn (i:=5) J J J J J (by decide) J Kd J J ⟨Zb J,Zx (i:=8) J Zi,trivial⟩ J hw trivial) fun _ _=>Py<|Za<|Zt<|Yl (.inl J) hsc _ _ (fun a w hs=>Np hs results37 (Yp (i:=5) J J Bp Kd J)) J trivial J (Yh 8 J J J (by rw [Int.add_comm x,Bh (Xh y) (Xh x) (Ne.symm hne) hge]<;>rfl) Zk)
theorem r_sub(v w:Value)(x y:Int)(hx:bl x.natAbs≤3000000000:=by omega)(hy:bl y.natAbs≤3000000000:=by omega):Cal prog 87 #[.agg #[.bool (decide (x<0)),v],.agg #[.bool (decide (y<0)),w]] [d9p v x.natAbs,d9p w y.natAbs] true (G:=Value) (fun r=>True) (fun r=> .agg #[.bool (decide (x-y<0)),r]) (fun r=>[d9p r (x-y).natAbs]):=by
 refine Yd func87 J ntmps87 J K2 ?_
 intro w0 sc hw hsc
 simp only [Zq,Zp]
 have hb:=Ah x y
 have hn:=Znw y
 refine Zc<|Zg<|tt (Xa (i:=3) J J J J J hw) J fun b _=>tt (Xa (i:=4) J J J J J hw) J fun b_2 _=>tt (Zl (i:=5) J J zeroValue48 J J hw) J fun b_3 _=>Zf<|Za<|Zc<|Qf (fun _=>False) [(0,0),(1,0),(2,1),(3,1),(4,3)] ?_ ?_
 ·kernel_rfl
 exact r0' J J (st0 (Yb (i:=3) J J J Bp Kd J J))<|r0' J J (st0 (Yb (i:=4) J J J Bp Kd J J))<|r1' J (Zh (n:=6) (r_neg _ _ (by omega)) J J J K1 call73 (Zd 2 J J J Ze) J hw) fun v _=>r1' J (Zh (n:=7) (Zu3 _ _ _ _) J J J K2 call37 (Zd 1 J J J (Zd 6 J J J Ze)) J hw) fun v_2 _=>r3' J (Zn (i:=5) J J J J J (by decide) J Kd J J ⟨Zb J,Zx (i:=7) J Zi,trivial⟩ J hw trivial) fun _ _=>Py<|Za<|Zt<|Yl (.inl J) hsc _ _ (fun a w hs=>Np hs results87 (Yp (i:=5) J J Bp Kd J)) (by rw [Int.sub_eq_add_neg]<;>rfl) trivial J (Yh 7 J J J (by rw [Int.sub_eq_add_neg]<;>rfl) Zk)
theorem Zoh(v w:Value)(x y:Int)(hx:bl x.natAbs≤1000000000:=by omega)(hy:bl y.natAbs≤1000000000:=by omega):Cal prog 69 #[.agg #[.bool (decide (x<0)),v],.agg #[.bool (decide (y<0)),w]] [d9p v x.natAbs,d9p w y.natAbs] true (G:=Value) (fun r=>True) (fun r=> .agg #[.bool (decide (x*y<0)),r]) (fun r=>[d9p r (x*y).natAbs]):=by
 refine Yd func69 J ntmps69 J K2 ?_
 intro w0 sc hw hsc
 simp only [Zq,Zp]
 have hb:=Qb x y
 refine Zc<|Zg<|tt (Xa (i:=3) J J J J J hw) J fun b _=>tt (Xa (i:=4) J J J J J hw) J fun b_2 _=>tt (Zl (i:=5) J J zeroValue48 J J hw) J fun b_3 _=>Zf<|Za<|Zc<|Qf (fun _=>False) [(0,0),(1,0),(2,0),(3,0),(4,0),(5,0),(6,0),(7,0),(8,0),(9,1),(10,1),(11,3)] ?_ ?_
 ·kernel_rfl
 exact r0' J J (st0 (Xk J J Zc7 J zT4 J J))<|r0' J J (st0 (Pr (i:=3) J J J iA4 J))<|r0' J J (st0 (Xk J J Zc7 J zT4 J J))<|r0' J J (st0 (Pr (i:=4) J J J iA4 J))<|r0' J J (st0 (Zla J J J uT4))<|r0' J J (st0 (Xk J J Zc7 J Zn3 J J))<|r0' J J (st0 (Pr (i:=3) J J J Zou J))<|r0' J J (st0 (Xk J J Zc7 J Zn3 J J))<|r0' J J (st0 (Pr (i:=4) J J J Zou J))<|r1' J (Zh (n:=6) (Zqg _ _ _ _ (by omega) (by omega)) J J J K2 call123 (Zd 1 J J J (Zd 2 J J J Ze)) J hw) fun v _=>r1' J (Zh (n:=6) (Zb2 _ _ _ (x*y) (Int.natAbs_mul x y).symm (sg_mul (Xh x) (Xh y)) (by rw [←Int.natAbs_mul];omega)) J J J K2 call78 (Zd 6 J J J Ze) J hw) fun _ _=>r3' J (Zn (i:=5) J J J J J (by decide) J Kd J J ⟨Zb J,Zx (i:=6) J Zi,trivial⟩ J hw trivial) fun _ _=>Py<|Za<|Zt<|Yl (.inl J) hsc _ _ (fun a w hs=>Np hs results69 (Yp (i:=5) J J Bp Kd J)) J trivial J (Yh 6 J J J (by rw [Int.natAbs_mul]<;>rfl) Zk)
theorem Zqi(v:Value)(x:Int)(hx:bl x.natAbs≤3000000000:=by omega):Mv prog 72 #[.agg #[.bool (decide (x<0)),v]] [d9p v x.natAbs] (.int .i64 x.sign):=by
 refine Yd func72 J ntmps72 J K1 ?_
 intro w0 sc hw hsc
 simp only [Zq,Zp]
 have hl9:=Hi x.natAbs
 refine Zc<|Zg<|tt (Xa (i:=2) J J J J J hw) J fun b _=>as_ J<|Zf<|Za<|Zc<|Zc<|Zg<|dt (Xk J J Zc7 J Zn3 J J)<|dt (Pr (i:=2) J J J Zou J)<|dt (Yc J J (i:=1) J Zi Lc)<|dt (Pg J J J)<|Zf<|Za<|Zr J (fun h206=>?_) (fun h206=>?_)
 ·exact Zc<|Zg<|as_ J<|Zf<|Za<|Zt<|Ys<|xU hsc results72 J J (sign9 h206)
 ·refine Zj<|Za<|Zc<|Zc<|Zg<|dt (Xk J J Zc7 J zT4 J J)<|dt (Pr (i:=2) J J J iA4 J)<|Zf<|Za<|Nn J (fun h209=>?_) (fun h209=>?_)
  ·exact Zc<|Zg<|as_ J<|Zf<|Za<|Zt<|Ys<|xU hsc results72 J J (by rw [Int.sign_eq_neg_one_of_neg (by simpa using h209)])
  ·exact Zj<|Za<|Zc<|Zg<|as_ J<|Zf<|Za<|Zt<|xU hsc results72 J J (by have h3:=Zm0 h206;have h4:¬x<0:=(by simpa using h209);rw [Int.sign_eq_one_of_pos (by omega)])
theorem Zqm(v w:Value)(x y:Int)(hx:bl x.natAbs≤2000000000)(hy:bl y.natAbs≤2000000000):Mv prog 68 #[.agg #[.bool (decide (x<0)),v],.agg #[.bool (decide (y<0)),w]] [d9p v x.natAbs,d9p w y.natAbs] (.int .i64 (x-y).sign):=by
 refine Yd func68 J ntmps68 J K2 ?_
 intro w0 sc hw hsc
 simp only [Zq,Zp]
 have hb:=Ah x y
 exact Zc<|Zg<|tt (Xa (i:=3) J J J J J hw) J fun b _=>tt (Xa (i:=4) J J J J J hw) J fun b_2 _=>as_ J<|Zf<|Za<|Zc<|Zg<|dt (Yb (i:=3) J J J Bp Kd J J)<|dt (Yb (i:=4) J J J Bp Kd J J)<|tt (Zh (n:=5) (r_sub _ _ _ _) J J J K2 call87 (Zd 1 J J J (Zd 2 J J J Ze)) J hw) J fun v _=>tt (Zh (n:=5) (Zqi _ _) J J J K1 call72 (Zd 5 J J J Ze) J hw) J fun _ _=>as_ J<|Zf<|Za<|Zt<|xU hsc results68 J J J
theorem r_num(x:Int)(hx:inI x):Cal prog 34 #[.int .i64 x] [] true (G:=Value) (fun r=>True) (fun r=> .agg #[.bool (decide (x<0)),r]) (fun r=>[d9p r (x).natAbs]):=by
 refine Yd func34 J ntmps34 J trivial ?_
 intro w0 sc hw hsc
 simp only [Zq,Zp]
 have hxa:=hx.1
 have hxb:=hx.2
 refine Xc (Nt 60 1 3 Ab)<|Xc (Pt 60 J J pN)<|Zc<|Zg<|tt (Zl (i:=1) J J zeroValue48 J J hw) J fun b _=>Zf<|Za<|Zc<|Zc<|Zg<|mv J<|dt (Kj J J J)<|Zf<|Za<|Zr J (fun h147=>?_) (fun h147=>?_)
 ·obtain⟨m,rfl⟩:∃m:Nat,x=(m:Int):=⟨x.natAbs,by omega⟩
  have hbm:bl m≤64:=(Md 64 m).2 (by omega)
  exact Zc<|Zg<|mv J<|dt (Zrf (n:=1000000000) J J J (by omega))<|mv J<|dt (Zoq (n:=1000000000) J J J (by omega) (by omega))<|dt (Zrf (n:=1000000000) J J J (by omega))<|mv J<|dt (Zoq (n:=1000000000) J J J (by omega) (by omega))<|dt (Zoq (n:=1000000000) J J J (by omega) (by omega))<|tt (Ps (i:=70) (ivs:=[(0,_),(1,_),(2,_)]) (enc:=Ab) [m%1000000000,m/1000000000%1000000000,m/1000000000/1000000000] J J K6 Lc ti3 J J J J J pN.cells J J hw) J fun v _=>tt (Zh (n:=1) (Im _ _) J J J K1 call77 (Xw 70 J J pN Ze) J hw) J fun _ _=>Px (Zhx 70 J J pN)<|Px (Zgs 70 (Zlx (by omega)) J J)<|tt (Zh (n:=1) (Zb2 _ _ _ ((m:Int)) (by omega) (by simp [sg]) (by omega)) J J J K2 call78 (Xw 70 J J pN Ze) J hw) J fun _ _=>tt (Zn (i:=1) J J J J J (by decide) J Kd J J ⟨Zb J,Zx (i:=70) J (Yk pN),trivial⟩ J hw trivial) J fun _ _=>Zf<|Za<|Zt<|Ys<|Yl (.inl J) hsc _ _ (fun a w hs=>Np hs results34 (Yp (i:=1) J J Bp Kd J)) J trivial J (Pq 70 J J pN (by rw [Int.natAbs_natCast]<;>rfl) Zk)
 ·obtain⟨m,rfl⟩:∃m:Nat,x=-(m:Int):=⟨x.natAbs,by omega⟩
  have hbm:bl m≤64:=(Md 64 m).2 (by omega)
  refine Zj<|Za<|Zc<|Zg<|mv J<|dt (nn_rem (n:=1000000000) J J J (by omega))<|dt (n_neg J J (by omega))<|mv J<|dt (Zq9 (n:=1000000000) J J J (by omega) (by omega))<|dt (nn_rem (n:=1000000000) J J J (by omega))<|dt (n_neg J J (by omega))<|mv J<|dt (Zq9 (n:=1000000000) J J J (by omega) (by omega))<|dt (Zq9 (n:=1000000000) J J J (by omega) (by omega))<|dt (n_neg J J (by omega))<|tt (Ps (i:=70) (ivs:=[(0,_),(1,_),(2,_)]) (enc:=Ab) [m%1000000000,m/1000000000%1000000000,m/1000000000/1000000000] J J K6 Lc ti3 J J J J J pN.cells J J hw) J fun v_2 _=>tt (Zh (n:=1) (Im _ _) J J J K1 call77 (Xw 70 J J pN Ze) J hw) J fun _ _=>Px (Zhx 70 J J pN)<|Px (Zgs 70 (Zlx (by omega)) J J)<|Px (Zgs 70 (ys:=dg 1000000000 (-(m:Int)).natAbs) (by rw [Int.natAbs_neg,Int.natAbs_natCast]) J J)<|Px (Pt 70 J J pN)<|tt (Zh (n:=1) (Zb2 _ _ _ ((-(m:Int))) J (by simp [sg]) (by rw [Int.natAbs_neg,Int.natAbs_natCast];omega)) J J J K2 call78 (Zd 70 J J J Ze) J hw) J fun _ _=>dt (Oh (ivs:=[]) J trivial (fun a w hs=>b48_)) ?_
  exact tt (Zh (n:=2) (r_sub _ _ (-(m:Int)) 0 (by rw [Int.natAbs_neg,Int.natAbs_natCast];omega) (by decide)) J J J K2 call87 (Zd 70 J J J (Zd 60 J J J Ze)) J hw) J fun v_3 _=>tt (Zn (i:=1) J J J J J (by decide) J Kd J J ⟨Zb J,Zx (i:=2) J Zi,trivial⟩ J hw trivial) J fun _ _=>Zf<|Za<|Zt<|Yl (.inl J) hsc _ _ (fun a w hs=>Np hs results34 (Yp (i:=1) J J Bp Kd J)) (by rw [Int.sub_zero]<;>rfl) trivial J (Yh 2 J J J (by rw [Int.sub_zero]<;>rfl) Zk)
theorem Zql(x:Int)(hx:bl x.natAbs≤2000000000:=by omega):Cal prog 30 #[wv x] [] true (G:=Value) (fun r=>True) (fun r=> .agg #[.bool (decide (x<0)),r]) (fun r=>[d9p r (x).natAbs]):=by
 refine Yd func30 J ntmps30 J trivial ?_
 intro w0 sc hw hsc
 simp only [Zq,Zp]
 obtain⟨n,hn⟩:∃n,n=x.natAbs:=⟨_,rfl⟩
 have hl8:=Zed n
 have hxn:bl n≤2000000000:=by rw [hn];exact hx
 have hsz:(Qc x.natAbs).size=(dg 256 n).length:=by rw [←hn];exact Lm n
 refine Zc<|Zg<|tt (Xa (i:=1) J J J J J hw) J fun b _=>tt (Zl (i:=2) J J zeroValue48 J J hw) J fun b_2 _=>Zf<|Za<|Zc<|Zg<|as_ J<|Zf<|Za<|Zc<|Zc<|Zg<|as_ J<|Zf<|Za<|Zm<|Xc (Nt 70 1 3 Ab)<|Xc (Pt 70 J J pN)<|Mm [(1,_),(2,_)] [(0,_),(1,_),(2,_)] (fun(q:Nat×Value)=>[(4,.int .i64 (q.1:Int)),(3,q.2)]) (fun(q:Nat×Value)=>[(70,d9p q.2 (n/256^((dg 256 n).length-q.1)))]) (fun(q:Nat×Value)=>q.1≤(dg 256 n).length) (fun(q:Nat×Value)=>(dg 256 n).length-q.1) (0,.slice none 0 0) (by first | omega | (dsimp only<;>omega)) K4 ⟨by rw [Zr2];rfl,rfl,rfl,rfl,trivial⟩ ?_
 rintro⟨i,vd⟩ hi
 dsimp only at hi
 simp only [CA,NA]
 have hnb:bl (n/256^((dg 256 n).length-i))≤bl n:=Nu (Nat.div_le_self _ _)
 refine Zc<|Zc<|Zg<|mv J<|dt (Xk J J Cm J zT9 J J)<|dt (Pr (i:=1) J J J iA9 J)<|dt (Ie J J uT9)<|dt (Qd J J J)<|Zf<|Za<|Zr J (fun h157=>?_) (fun h157=>?_)
 ·have hby:((Qc x.natAbs).data.toList.getD i 0).toNat=n/256^((dg 256 n).length-1-i)%256:=by rw [←hn];exact Zhr n i (by omega)
  refine Zj<|Za<|Zc<|Zm<|Fh (fun _=>False) [10]<|Zz (n:=5) [(0,0),(2,0),(3,0),(4,0),(5,0),(6,0)]<|r0' J J (st0 (Yf J J))<|r0' J J (st0 (Xk J J Cm J zT9 J J))<|r0' J J (st0 (Pr (i:=1) J J J iA9 J))<|r0' J J (st0 (Yf J J))<|r0' J J (st0 (Zsx (i:=i) J J J uT9 J))<|r0' J J (st0 (Zap J J uT5 uT3 ⟨by omega,by rw [hby];omega⟩))<|Yt<|Pf (n:=4) 1 7 ?_ ?_
  ·exact Yo J (Zh (n:=73) (Zqh _ _ 256) J J J K2 call76 (Zd 70 J J J Ze) J hw) fun v _=>Zz (n:=2) [(7,1),(8,1)]<|r1' J (Ps (i:=72) (ivs:=[(0,_)]) (enc:=Ab) [((Qc x.natAbs).data.toList.getD i 0).toNat] J J K2 Lc ti3 J J J J J pN.cells J J hw) fun v_2 _=>r1' J (Zh (n:=2) (Im _ _) J J J K1 call77 (Xw 72 J J pN Ze) J hw) fun _ _=>Yt<|Zwt (Zhx 72 J J pN)<|Zwt (Zgs 72 (tz_one Ni (by rw [hby];omega)) J J)<|Zz (n:=0) [(9,1),(10,3)]<|r1' J (Zh (n:=74) (Zqj _ _ _ _ (by have:=Znu (y:=(n/256^((dg 256 n).length-i))) (n:=256) (by omega);omega) (by rw [hby];exact Nat.le_trans (Zhu _) (by omega))) J J J K2 call75 (Zd 73 J J J (Xw 72 J J pN Ze)) J hw) fun v_3 _=>r3' J (Qq (Ot J J) J) fun _ _=>Yt<|Yj<|Og<|Za<|Zg<|mv J<|dt (Yu J J J ⟨by omega,by omega⟩)<|as_ J<|Zf<|Nq (Kt 74 70 J J J)<|Xq (i+1,_) (by first | omega | (dsimp only<;>omega)) (by first | omega | (dsimp only<;>omega)) K4 ⟨by rw [hby,Zi2 (by omega)];rfl,rfl,rfl,rfl,trivial⟩
  ·exact Yo J (Ps (i:=72) (ivs:=[(0,_)]) (enc:=Ab) [((Qc x.natAbs).data.toList.getD i 0).toNat] J J K2 Lc ti3 J J J J J pN.cells J J hw) fun v_4 _=>Zz (n:=2) [(1,1),(8,1)]<|r1' J (Zh (n:=73) (Zqh _ _ 256) J J J K2 call76 (Zd 70 J J J Ze) J hw) fun v_5 _=>r1' J (Zh (n:=2) (Im _ _) J J J K1 call77 (Xw 72 J J pN Ze) J hw) fun _ _=>Yt<|Zwt (Zhx 72 J J pN)<|Zwt (Zgs 72 (tz_one Ni (by rw [hby];omega)) J J)<|Zz (n:=0) [(9,1),(10,3)]<|r1' J (Zh (n:=74) (Zqj _ _ _ _ (by have:=Znu (y:=(n/256^((dg 256 n).length-i))) (n:=256) (by omega);omega) (by rw [hby];exact Nat.le_trans (Zhu _) (by omega))) J J J K2 call75 (Zd 73 J J J (Xw 72 J J pN Ze)) J hw) fun v_6 _=>r3' J (Qq (Ot J J) J) fun _ _=>Yt<|Yj<|Og<|Za<|Zg<|mv J<|dt (Yu J J J ⟨by omega,by omega⟩)<|as_ J<|Zf<|Nq (Kt 74 70 J J J)<|Xq (i+1,_) (by first | omega | (dsimp only<;>omega)) (by first | omega | (dsimp only<;>omega)) K4 ⟨by rw [hby,Zi2 (by omega)];rfl,rfl,rfl,rfl,trivial⟩
 ·refine Yx<|Zu<|Zu<|Nc<|Za<|Zc ?_
  obtain rfl:i=(dg 256 n).length:=by omega
  rw [Nat.sub_self,Nat.pow_zero,Nat.div_one]
  exact Zg<|dt (Xk J J Cm J zT4 J J)<|dt (Pr (i:=1) J J J iA4 J)<|mv J<|tt (Zh (n:=2) (Zb2 _ _ _ (x) hn (Xh x) (by rw [hn];omega)) J J J K2 call78 (Zd 70 J J J Ze) J hw) J fun _ _=>tt (Zn (i:=2) J J J J J (by decide) J Kd J J ⟨Zb J,Zx (i:=70) J Zi,trivial⟩ J hw trivial) J fun _ _=>Zf<|Za<|Zt<|Yl (.inl J) hsc _ _ (fun a w hs=>Np hs results30 (Yp (i:=2) J J Bp Kd J)) J trivial J (Yh 70 J J J (by rw [hn]<;>rfl) Zk)
set_option maxHeartbeats 4000000 in
theorem r_to(v:Value)(x:Int)(hx:bl x.natAbs≤4000000000:=by omega):Mv prog 53 #[.agg #[.bool (decide (x<0)),v]] [d9p v x.natAbs] (wv x):=by
 refine Yd func53 J ntmps53 J K1 ?_
 intro w0 sc hw hsc
 simp only [Zq,Zp]
 obtain⟨n,hn⟩:∃n,n=x.natAbs:=⟨_,rfl⟩
 have hxn:bl n≤4000000000:=by rw [hn];exact hx
 have hlx:=Hi x.natAbs
 refine Zc<|Zg<|tt (Xa (i:=2) J J J J J hw) J fun b _=>tt (Zl (i:=3) J J zeroValue31 J J hw) J fun b_2 _=>Zf<|Za<|Zc<|Zg<|as_ J<|Zf<|Za<|Zc<|Zg<|dt (Xk J J Zc7 J Zn3 J J)<|dt (Pr (i:=2) J J J Zou J)<|Px (Nt 81 1 3 Ab)<|tt (Hw (i:=81) (j:=1) (by_:=8) J J J J J J (by decide) J Zi Lc ti3 J pN J J J (by simp;omega) (by decide) J hw) J fun v _=>as_ J<|Zf<|Za<|Zc<|Zm<|Xc (Nt 80 1 5 Zty)<|Mm [(1,_),(2,_)] [(0,_),(1,_),(2,_),(3,_)] (fun(q:Nat×List Nat×Value×Value)=>[(3,q.2.2.1),(4,q.2.2.2)]) (fun(q:Nat×List Nat×Value×Value)=>[(80,osl 1 5 Zty q.2.2.1 q.2.1),(81,osl 1 3 Ab q.2.2.2 (dg 1000000000 q.1))]) (fun(q:Nat×List Nat×Value×Value)=>(val 256 q.2.1+256^q.2.1.length*q.1=n)∧(∀d∈q.2.1,d<256)∧(q.2.1.length=0∨256^(q.2.1.length-1)≤n)∧(bl q.1≤bl n)) (fun(q:Nat×List Nat×Value×Value)=>q.1) (n,[],.slice none 0 0,_) ⟨by simp [val],by simp,.inl rfl,Nat.le_refl _⟩ K4 ⟨J,by rw [hn];rfl,rfl,rfl,rfl,rfl,trivial⟩ ?_
 rintro⟨m,bs,vb,vd⟩ ⟨hv,hba,hge,hmn⟩
 dsimp only at hv hba hge hmn
 simp only [CA,NA]
 have hlm:=Hi m
 refine Zc<|Zc<|Zg<|mv J<|dt (Yc J J (i:=81) J (Yk pN) Lc)<|dt (Qr J J J)<|Zf<|Za<|Zr J (fun h167=>?_) (fun h167=>?_)
 ·have hm0:0<m:=Zm0 (by omega)
  have hgn:=to_ge hv hm0
  have hbl:=to_len hgn
  refine Zj<|Za<|Zm<|Zc<|Zg<|as_ J<|Zf<|Za<|Zc<|Zc<|Zg<|mv J<|dt (Yc J J (i:=81) J (Yk pN) Lc)<|dt (Qo J J J ⟨by omega,by omega⟩)<|as_ J<|Zf<|Za<|Zm<|Mm [(1,_),(2,_),(3,_),(4,_)] [(0,_),(80,_),(1,_),(2,_),(3,_)] (fun(q:Nat×List Nat×Nat)=>[(6,.int .i64 ((q.1:Int)-1)),(5,.int .i64 (q.2.2:Int))]) (fun(q:Nat×List Nat×Nat)=>[(81,osl 1 3 Ab vd q.2.1)]) (fun(q:Nat×List Nat×Nat)=>(q.1≤(dg 1000000000 m).length)∧(q.2.1.length=(dg 1000000000 m).length)∧(∀d∈q.2.1,d<1000000000)∧(∀j,j<q.1→q.2.1.getD j 0=(dg 1000000000 m).getD j 0)∧(q.2.2<256)∧(val 1000000000 (q.2.1.drop q.1)*256+q.2.2=val 1000000000 ((dg 1000000000 m).drop q.1))) (fun(q:Nat×List Nat×Nat)=>q.1) ((dg 1000000000 m).length,dg 1000000000 m,0) ⟨Nat.le_refl _,J,Lh Ni m,fun j _=>J,by first | omega | (dsimp only<;>omega),by simp [List.drop_length,val]⟩ K6 K6 ?_
  rintro⟨k,p,r⟩ ⟨hk,hpl,hpa,hpk,hr,hpv⟩
  dsimp only at hk hpl hpa hpk hr hpv
  simp only [CA,NA]
  have hda:=Qj Hr (Lh Ni m) (k-1)
  refine Zc<|Zc<|Zg<|mv J<|dt (Kj J J J)<|Zf<|Za<|Zr J (fun h169=>?_) (fun h169=>?_)
  ·exact Zj<|Za<|Zc<|Zm<|Zc<|Zg<|mv J<|dt (n_mul (n:=1000000000) J J J (by omega))<|mv J<|mv J<|dt (Xf (ii:=81) (i:=(k-1)) J J J J (Yk pN) Lc zT3)<|dt (Xx (ii:=81) 0 J J J (Yk pN) pN)<|dt (Zkl J J J (by have:=Qj Hr hpa (k-1);omega))<|as_ J<|Zf<|Za<|Zc<|Zg<|mv J<|mv J<|mv J<|dt (Zoq (n:=256) J J J (by have:=Qj Hr hpa (k-1);omega) (by omega))<|dt (Xf (ii:=81) (i:=(k-1)) J J J J (Yk pN) Lc zT3)<|tt (Ih (i:=81) (enc:=Ab) _ J J J J J J pN J hw) J fun _ _=>Zf<|Za<|Zg<|mv J<|dt (Zrf (n:=256) J J J (by omega))<|as_ J<|Zf<|Og<|Za<|Zg<|mv J<|dt (Qo J J J ⟨by omega,by omega⟩)<|as_ J<|Zf<|Xq (k-1,_,_) ⟨by first | omega | (dsimp only<;>omega),by simp [hpl],Ln hpa _ _ (Zt7 hr (Qj Hr hpa _)),fun j hj=>by dsimp only at hj ⊢;rw [Na _ _ _ _ _ (by omega),if_neg (by omega)];exact hpk j (by omega),Nat.mod_lt _ (by omega),by dsimp only;rw [hpk (k-1) (by omega)];exact to_step (by omega) (by omega) (by omega) hpv⟩ (by first | omega | (dsimp only<;>omega)) ⟨by rw [show(((k-1:Nat):Int)-1)=(k:Int)-1-1 by omega];rfl,rfl,rfl,rfl,rfl,rfl,trivial⟩ K6
  ·refine Yx<|Zu<|Zu<|Nc<|Za<|Zc ?_
   obtain rfl:k=0:=by omega
   rw [List.drop_zero,List.drop_zero,Mw Ni]at hpv
   have hmr:m%256=r%256:=by omega
   have hdm:dg 1000000000 (m/256)=tz p:=by rw [←Ky Ni p hpa];congr 1;omega
   exact Zg<|mv J<|mv J<|dt (Ze7 J J uT3 uT5)<|tt (Ps (i:=4) (ivs:=[(0,_)]) (enc:=Zty) [r%256] J J K2 Zo3 ti5 J J J J J pB.cells J J hw) J fun v_2 _=>tt (Hw (i:=80) (j:=4) (by_:=1) J J J J J J (by decide) J (Yk pB) Zo3 ti5 J pB J J J (by simp;omega) (by decide) J hw) J fun v_3 _=>as_ J<|Zf<|Za<|Zg<|mv J<|tt (Zh (n:=4) (Im _ _) J J J K1 call77 (Xw 81 J J pN Ze) J hw) J fun _ _=>Px (Zhx 81 J J pN)<|as_ J<|Zf<|Og<|Xq (m/256,bs ++ [m%256],_,_) ⟨to_push hv,Zhw hba (Nat.mod_lt _ (by omega)),.inr (by simpa using hgn),Nat.le_trans (Nu (Nat.div_le_self _ _)) hmn⟩ (Nat.div_lt_self hm0 (by omega)) K4 ⟨by rw [hmr];rfl,by rw [hdm];rfl,rfl,rfl,rfl,rfl,trivial⟩
 ·have hm0:m=0:=(Po Ni m).1 (by omega)
  have hbs:bs=dg 256 n:=Zpi (by omega) hba (by rw [hm0,Nat.mul_zero,Nat.add_zero]at hv;exact hv) hge
  have hlb:bs.length≤4000000000:=by rw [hbs,Zed];omega
  refine Yx<|Zu<|Zu<|Nc<|Za<|Zc<|Zg<|as_ J<|Zf<|Za<|Zc<|Zc<|Zg<|mv J<|dt (Yc J J (i:=80) J (Yk pB) Zo3)<|dt (Qo J J J ⟨by omega,by omega⟩)<|as_ J<|Zf<|Za<|Zm<|Xc (Nt 82 1 5 Zty)<|Mm [(1,_),(2,_),(3,_)] [(0,_),(80,_),(81,_),(1,_),(2,_),(3,_)] (fun(q:Nat×Value)=>[(8,.int .i64 ((q.1:Int)-1)),(7,q.2)]) (fun(q:Nat×Value)=>[(82,osl 1 5 Zty q.2 (bs.drop q.1).reverse)]) (fun(q:Nat×Value)=>q.1≤bs.length) (fun(q:Nat×Value)=>q.1) (bs.length,.slice none 0 0) (Nat.le_refl _) K5 ⟨by rw [List.drop_length];rfl,rfl,rfl,rfl,rfl,rfl,rfl,trivial⟩ ?_
  rintro⟨k,vo⟩ hk
  dsimp only at hk
  simp only [CA,NA]
  have hdl:(bs.drop k).length=bs.length-k:=List.length_drop
  refine Zc<|Zc<|Zg<|mv J<|dt (Kj J J J)<|Zf<|Za<|Zr J (fun h178=>?_) (fun h178=>?_)
  ·exact Zj<|Za<|Zc<|Zm<|Zg<|mv J<|mv J<|mv J<|dt (Xf (ii:=80) (i:=(k-1)) J J J J (Yk pB) Zo3 sizeOf5)<|dt (Xx (ii:=80) 0 J J J (Yk pB) pB)<|tt (Ps (i:=5) (ivs:=[(0,_)]) (enc:=Zty) [bs.getD (k-1) 0] J J K2 Zo3 ti5 J J J J J pB.cells J J hw) J fun v_4 _=>tt (Hw (i:=82) (j:=5) (by_:=1) J J J J J J (by decide) J (Yk pB) Zo3 ti5 J pB J J J (by simp;omega) (by decide) J hw) J fun v_5 _=>as_ J<|Zf<|Og<|Za<|Zg<|mv J<|dt (Qo J J J ⟨by omega,by omega⟩)<|as_ J<|Zf<|Xq (k-1,_) (by first | omega | (dsimp only<;>omega)) (by first | omega | (dsimp only<;>omega)) ⟨by rw [show(((k-1:Nat):Int)-1)=(k:Int)-1-1 by omega];rfl,rfl,rfl,rfl,rfl,trivial⟩ ⟨by rw [←Zv9 (by omega) hk];rfl,rfl,rfl,rfl,rfl,rfl,rfl,trivial⟩
  ·refine Yx<|Zu<|Zu<|Nc<|Za<|Zc<|Zg<|dt (Xk J J Zc7 J zT4 J J)<|dt (Pr (i:=2) J J J iA4 J)<|mv J<|dt (d_b2s J J (i:=82) J (Yk pB) Zo3 uT9 uT5)<|dt (Oh (ivs:=[(0,_),(1,_)]) J K4 (fun a w hs=>Zto ((Zb J) a w hs) ((Zb J) a w hs)))<|tt (Zn (i:=3) J J J J J (by decide) J Ye J J ⟨Zb J,Zb J,trivial⟩ J hw trivial) J fun _ _=>Zf<|Za<|Zt ?_
   obtain rfl:k=0:=by omega
   exact Yl (.inl J) hsc () _ (fun a w hs=>Np hs results53 (Yp (i:=3) J J Qg Ye J)) (by rw [bstr_bs hbs,hn]<;>rfl) trivial J Zk
theorem Gt(b:Bool)(s:ByteArray)(c:Bool)(t:ByteArray):Mv prog 25 #[.agg #[.bool b,.string s,.bool c,.string t]] [] (.bool (okR b s c t)):=by
 refine Yd func25 J ntmps25 J trivial ?_
 intro w0 sc hw hsc
 simp only [Zq,Zp]
 refine Zc<|Zg<|tt (Xa (i:=1) J J J J J hw) J fun b _=>as_ J<|Zf<|Za<|Zc<|Zg<|dt (Xk J J Fb J Ye J J)<|dt (Yb (i:=1) J J J Qg Ye J J)<|tt (Zh (n:=1) (Zj5 _ _) J J J K1 call35 Ze J hw) J fun _ _=>mv J<|Oj (d:=6) J (fun s332=>?_) (fun s332=>?_)
 ·refine gdt (Xk J J Fb J Ye J J) J J<|gdt (Yb (i:=1) J J J Qg Ye J J) J J<|gtt (Zh (n:=1) (Zj5 _ _) J J J K1 call35 Ze J hw) J J J fun _ _=>dt (Yi J J J)<|mv J<|Oj (d:=11) J (fun s332_2=>?_) (fun s332_2=>?_)
  ·refine gdt (Xk J J Fb J Ye J J) J J<|gdt (Xk J J Cm J zT4 J J) J J<|gdt (Pr (i:=1) J J J iA4 J) J J<|gdt (Yr J J) J J<|dt (Yi J J J)<|mv J<|Oj (d:=17) J (fun s332_3=>?_) (fun s332_3=>?_)
   ·exact gdt (Xk J J Fb J Ye J J) J J<|gdt (Xk J J Cm J zT9 J J) J J<|gdt (Pr (i:=1) J J J iA9 J) J J<|gdt (Ie J J uT9) J J<|gdt (Qr J J J) J J<|dt (Yi J J J)<|as_ J<|Zf<|Za<|Zt<|xU hsc results25 J J (by unfold okR;simp_all)
   ·exact gsk J J J<|gsk J J J<|gsk J J J<|gsk J J J<|gsk J J J<|dt (Zo J J J)<|as_ J<|Zf<|Za<|Zt<|xU hsc results25 J J (by unfold okR;simp_all)
  ·exact gsk J J J<|gsk J J J<|gsk J J J<|gsk J J J<|dt (Zo J J J)<|mv J<|gsk J J J<|gsk J J J<|gsk J J J<|gsk J J J<|gsk J J J<|dt (Zo J J J)<|as_ J<|Zf<|Za<|Zt<|xU hsc results25 J J (by unfold okR;simp_all)
 ·exact gsk J J J<|gsk J J J<|gsk J J J<|dt (Zo J J J)<|mv J<|gsk J J J<|gsk J J J<|gsk J J J<|gsk J J J<|dt (Zo J J J)<|mv J<|gsk J J J<|gsk J J J<|gsk J J J<|gsk J J J<|gsk J J J<|dt (Zo J J J)<|as_ J<|Zf<|Za<|Zt<|xU hsc results25 J J (by unfold okR;simp_all)
theorem Ov(x y:Int)(hx:bl x.natAbs≤2000000000:=by omega)(hy:bl y.natAbs≤2000000000:=by omega):Cal prog 23 #[rX x y] [] true (G:=Value×Value) (fun r=>True) (fun r=> .agg #[.bool (decide (x<0)),r.1,.bool (decide (y<0)),r.2]) (fun r=>[d9p r.1 (x).natAbs,d9p r.2 (y).natAbs]):=by
 refine Yd func23 J ntmps23 J trivial ?_
 intro w0 sc hw hsc
 simp only [Zq,Zp]
 refine Zc<|Zg<|tt (Xa (i:=1) J J J J J hw) J fun b _=>tt (Zl (i:=2) J J zeroValue50 J J hw) J fun b_2 _=>Zf<|Za<|Zc<|Qf (fun _=>False) [(0,0),(1,0),(3,0),(4,0),(2,1),(5,1),(6,0),(7,3)] ?_ ?_
 ·kernel_rfl
 exact r0' J J (st0 (Xk J J Fb J Ye J J))<|r0' J J (st0 (Yb (i:=1) J J J Qg Ye J J))<|r0' J J (st0 (Xk J J Fb J Ye J J))<|r0' J J (st0 (Yb (i:=1) J J J Qg Ye J J))<|r1' J (Zh (n:=3) (Zql _) J J J K1 call30 Ze J hw) fun v _=>r1' J (Zh (n:=4) (Zql _) J J J K1 call30 Ze J hw) fun v_2 _=>r0' J J (st0 (Oh (ivs:=[(0,_),(1,_)]) J K4 (fun a w hs=>b50_01)))<|r3' J (Zn (i:=2) J J J J J (by decide) J zT50 J J ⟨Zb J,Zx (i:=3) J Zi,Zb J,Zx (i:=4) J Zi,trivial⟩ J hw trivial) fun _ _=>Py<|Za<|Zt<|Yl (.inl J) hsc (_,_) _ (fun a w hs=>Np hs results23 (Yp (i:=2) J J iA50 zT50 J)) J trivial J (Qx 3 J J J (Qx 4 J J J Zk))
theorem Fv(v w v2 w2:Value)(x y x2 y2:Int)(h0:bl x.natAbs≤100000000:=by omega)(h1:bl y.natAbs≤100000000:=by omega)(h2:bl x2.natAbs≤100000000:=by omega)(h3:bl y2.natAbs≤100000000:=by omega):Mv prog 27 #[.agg #[.bool (decide (x<0)),v,.bool (decide (y<0)),w],.agg #[.bool (decide (x2<0)),v2,.bool (decide (y2<0)),w2]] [d9p v x.natAbs,d9p w y.natAbs,d9p v2 x2.natAbs,d9p w2 y2.natAbs] (.int .i64 (x*y2-x2*y).sign):=by
 refine Yd func27 J ntmps27 J K4 ?_
 intro w0 sc hw hsc
 simp only [Zq,Zp]
 have b1:=Qb x y2
 have b2:=Qb x2 y
 have b3:=Qb y y2
 have b4:=Qb x x2
 have b5:=Lv (x*y2) (x2*y)
 refine Zc<|Zg<|tt (Xa (i:=5) J J J J J hw) J fun b _=>tt (Xa (i:=6) J J J J J hw) J fun b_2 _=>as_ J<|Zf<|Za<|Zc<|Qf (fun _=>False) [(0,0),(1,0),(2,0),(3,0),(5,0),(6,0),(7,0),(8,0),(4,1),(9,1),(10,1),(11,3)] ?_ ?_
 ·kernel_rfl
 exact r0' J J (st0 (Xk J J uT50 J Kd J J))<|r0' J J (st0 (Yb (i:=5) J J J Bp Kd J J))<|r0' J J (st0 (Xk J J uT50 J Kd J J))<|r0' J J (st0 (Yb (i:=6) J J J Bp Kd J J))<|r0' J J (st0 (Xk J J uT50 J Kd J J))<|r0' J J (st0 (Yb (i:=6) J J J Bp Kd J J))<|r0' J J (st0 (Xk J J uT50 J Kd J J))<|r0' J J (st0 (Yb (i:=5) J J J Bp Kd J J))<|r1' J (Zh (n:=7) (Zoh _ _ _ _) J J J K2 cF69 (Zd 1 J J J (Zd 4 J J J Ze)) J hw) fun v _=>r1' J (Zh (n:=8) (Zoh _ _ _ _) J J J K2 cF69 (Zd 3 J J J (Zd 2 J J J Ze)) J hw) fun v_2 _=>r1' J (Zh (n:=8) (Zqm _ _ _ _ (by omega) (by omega)) J J J K2 call68 (Zd 7 J J J (Zd 8 J J J Ze)) J hw) fun _ _=>r3' J (Qq (Ot J J) J) fun _ _=>Py<|Za<|Zt<|xU hsc results27 J J J
end Go.Sky

