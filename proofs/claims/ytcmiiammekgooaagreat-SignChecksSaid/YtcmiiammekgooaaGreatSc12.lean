/- Rules, arithmetic and contracts: part 13. No conditions but those that each theorem names. -/
import Derived.Test.YtcmiiammekgooaaGreatSc11
set_option linter.all false
set_option maxHeartbeats 4000000
namespace Go.Sky
open Go.Proofs.Tryz
open Go.Proofs
set_option maxRecDepth 20000
set_option maxHeartbeats 4000000
set_option linter.unusedSimpArgs false
theorem Zn9(b:Bool)(s:ByteArray):On prog 35 #[.agg #[.bool b,.string s]] [] (.bool (okW b s)):=by
 refine Yi func35 J ntmps35 J trivial fun w0 sc hw hsc=>?_
 simp only [Zu,Zt]
 refine Zb<|Ze<|tt (Yw (i:=1) J J J J J hw) fun b _=>Zp J<|Zc<|Za<|Zb<|Zb<|Ze<|dt (Yv J J Dl J zT9 J J)<|dt (Qw (i:=1) J J J iA9 J)<|dt (Cz J J uT9)<|dt (Pj J J J)<|Zc<|Za<|Zr J (fun h25=>?_) (fun h25=>?_)
 ·exact Zb<|Ze<|dt (Yv J J Dl J zT4 J J)<|dt (Qw (i:=1) J J J iA4 J)<|dt (Xl J J)<|Zp J<|Zc<|Za<|Zq<|Yn<|xU hsc results35 J J (by unfold okW;rw [if_pos (by omega)])
 ·refine Zk<|Za<|Zb<|Ze<|dt (Yv J J Dl J zT9 J J)<|dt (Qw (i:=1) J J J iA9 J)<|dt (Cz J J uT9)<|dt (Dc J J J)<|mv J<|Pf (d:=14) J (fun s28=>?_) (fun s28=>?_)
  ·exact Xh (Yv J J Dl J zT9 J J) J J<|Xh (Qw (i:=1) J J J iA9 J) J J<|Xh (Zsb (i:=0) J J J uT9 J) J J<|Xh (Xz J J J) J J<|dt (Yy J J J)<|Zp J<|Zc<|Za<|Zq<|xU hsc results35 J J (by unfold okW;rw [if_neg (by omega)];simp_all<;>omega)
  ·exact Xt J J J<|Xt J J J<|Xt J J J<|Xt J J J<|dt (Yh J J J)<|Zp J<|Zc<|Za<|Zq<|xU hsc results35 J J (by unfold okW;rw [if_neg (by omega)];simp_all<;>omega)
theorem r_trim(v:Value)(xs:List Nat):Cal prog 77 #[v] [Px 1 Ht v xs] true (G:=Unit) (fun _=>True) (fun _=>Iy v (tz xs).length) (fun _=>[Px 1 Ht (Iy v (tz xs).length) (tz xs)]):=by
 refine Yi func77 J ntmps77 J K1 fun w0 sc hw hsc=>?_
 simp only [Zu,Zt]
 refine Nl (Zts (i:=1) J Zi) fun hself=>Nl (Kk (i:=1) J Zi) fun hlen=>Zb<|Ze<|Zp J<|Zc<|Za<|Zb<|Zo<|Oc [] [(0,_)] (fun(k:Nat)=>[(0,Iy v k)]) (fun(k:Nat)=>[(1,Px 1 Ht (Iy v k) (xs.take k))]) (fun(k:Nat)=>(k≤xs.length)∧(tz (xs.take k)=tz xs)) (fun(k:Nat)=>k) xs.length ⟨Nat.le_refl _,by rw [List.take_length]⟩ ⟨by rw [hself];rfl,trivial⟩ ⟨by rw [hself,List.take_length];rfl,rfl,trivial⟩ ?_
 rintro k ⟨hk,ht⟩
 simp only [CA,NA]
 have hl:(xs.take k).length=k:=by rw [List.length_take];omega
 refine Zb<|Zb<|Ze<|mv J<|dt (Yf J J (i:=1) J Zi Oo)<|dt (Pw J J J)<|mv J<|Pf (d:=6) J (fun s33=>?_) (fun s33=>?_)
 ·refine Xh (Yd J J) J J<|Xh (Yd J J) J J<|Xh (Yf J J (i:=1) J Zi Oo) J J<|Xh (Qd J J J) J J<|Xh (Xc (ii:=1) (i:=k-1) J J J J Zi Oo zT3) J J<|Xh (Xr (ii:=1) 0 J J J Zi pN) J J<|Xh (Pj J J J) J J<|dt (Yy J J J)<|Zc<|Za<|Zr J (fun h33=>?_) (fun h33=>?_)
  ·have hstep:=Zui hk (by omega) (by omega:(xs.take k).getD (k-1) 0=0)
   exact Zk<|Za<|Zo<|Ze<|mv J<|mv J<|dt (Yf J J (i:=1) J Zi Oo)<|dt (Qd J J J)<|dt (Zwe (ii:=1) (i:=k-1) J J J J Zi Oo zT3)<|Zp J<|Zc<|Qn<|Qu (Zzy 1 1 (k-1) J J)<|Xk (k-1) ⟨by first | omega | (dsimp only<;>omega),by rw [←ht,←hstep]⟩ (by first | omega | (dsimp only<;>omega)) ⟨by rw [←Eg v k (k-1)];rfl,trivial⟩ ⟨by rw [Eg,List.take_take,Nat.min_eq_left (by omega)];rfl,rfl,trivial⟩
  ·refine Yx<|Zx<|Zx<|Pd<|Za<|Zb<|Ze<|mv J<|Zp J<|Zc<|Za<|Zq ?_
   have hx:tz xs=xs.take k:=by rw [←ht];exact Zfw hk (by omega)
   exact xG hsc () results77 J (by rw [hx,hl]) trivial J (Xe 1 J J J (by rw [hx,hl]) Zm)
 ·refine Xt J J J<|Xt J J J<|Xt J J J<|Xt J J J<|Xt J J J<|Xt J J J<|Xt J J J<|dt (Yh J J J)<|Zc<|Za<|Yp J<|Yx<|Zx<|Zx<|Pd<|Za<|Zb<|Ze<|mv J<|Zp J<|Zc<|Za<|Zq ?_
  have hx:tz xs=xs.take k:=by rw [←ht];exact Zfw hk (by omega)
  exact xG hsc () results77 J (by rw [hx,hl]) trivial J (Xe 1 J J J (by rw [hx,hl]) Zm)
theorem Ho(v:Value)(xs:List Nat):Cal prog 77 #[v] [Px 1 Ht v xs] false (G:=Unit) (fun _=>True) (fun _=>Iy v (tz xs).length) (fun _=>[]):=(r_trim v xs).bare
theorem Zoa(v w:Value)(x y:Nat)(hx:bl x≤4294967296:=by omega)(hy:bl y≤4294967296:=by omega):On prog 90 #[v,w] [Mw v x,Mw w y] (.int .i64 (Zip x y)):=by
 refine Yi func90 J ntmps90 J K2 fun w0 sc hw hsc=>?_
 simp only [Zu,Zt]
 have hX:=Hs x
 have hY:=Hs y
 refine Zb<|Ze<|Zp J<|Zc<|Za<|Zb<|Zb<|Ze<|mv J<|dt (Yf J J (i:=1) J Zi Oo)<|mv J<|dt (Yf J J (i:=2) J Zi Oo)<|dt (Xz J J J)<|Zc<|Za<|Zr J (fun h41=>?_) (fun h41=>?_)
 ·refine Zb<|Zb<|Ze<|mv J<|dt (Yf J J (i:=1) J Zi Oo)<|mv J<|dt (Yf J J (i:=2) J Zi Oo)<|dt (Xv J J J)<|Zc<|Za<|Zr J (fun h42=>?_) (fun h42=>?_)
  ·have hlt:x<y:=Zbe Nh (by omega)
   exact Zb<|Ze<|Zp J<|Zc<|Za<|Zq<|Yn<|Yn<|xU hsc results90 J J (by unfold Zip;rw [if_pos hlt])
  ·have hlt:y<x:=Zbe Nh (by omega)
   exact Zk<|Za<|Zb<|Ze<|Zp J<|Zc<|Za<|Zq<|Yn<|xU hsc results90 J J (by unfold Zip;rw [if_neg (by omega),if_pos hlt])
 ·have hlen:(dg 1000000000 x).length=(dg 1000000000 y).length:=by omega
  refine Zk<|Za<|Zb<|Zb<|Ze<|mv J<|dt (Yf J J (i:=1) J Zi Oo)<|dt (Qd J J J)<|Zp J<|Zc<|Za<|Zo<|Oc [(0,_),(1,_)] [(0,_),(1,_),(2,_)] (fun(k:Nat)=>[(5,.int .i64 ((k:Int)-1))]) (fun(k:Nat)=>[]) (fun(k:Nat)=>(k≤(dg 1000000000 x).length)∧((dg 1000000000 x).drop k=(dg 1000000000 y).drop k)) (fun(k:Nat)=>k) (dg 1000000000 x).length ⟨by first | omega | (dsimp only<;>omega),by rw [List.drop_length,hlen,List.drop_length]⟩ K3 K3 ?_
  rintro k ⟨hk,hd⟩
  simp only [CA,NA]
  refine Zb<|Zb<|Ze<|mv J<|dt (Lg J J J)<|Zc<|Za<|Zr J (fun h47=>?_) (fun h47=>?_)
  ·refine Zk<|Za<|Zb<|Zo<|Zb<|Zb<|Qs (fun _=>False) [(0,0),(1,0),(2,0),(3,0),(4,0),(5,0),(6,0),(7,0),(8,0)] ?_ ?_
   ·kernel_rfl
   refine Zs J J (Yt (Yd J J))<|Zs J J (Yt (Yd J J))<|Zs J J (Yt (Xc (ii:=1) (i:=k-1) J J J J Zi Oo zT3))<|Zs J J (Yt (Xr (ii:=1) 0 J J J Zi pN (by first | omega | (simp only [List.length_set];omega))))<|Zs J J (Yt (Yd J J))<|Zs J J (Yt (Yd J J))<|Zs J J (Yt (Xc (ii:=2) (i:=k-1) J J J J Zi Oo zT3))<|Zs J J (Yt (Xr (ii:=2) 0 J J J Zi pN (by first | omega | (simp only [List.length_set];omega))))<|Zs J J (Yt (Xv J J J))<|Ob<|Za<|Zr J (fun h48=>?_) (fun h48=>?_)
   ·have hlt:=Zpi Hm (xs:=(dg 1000000000 x)) (ys:=(dg 1000000000 y)) (Lf Nh x) (k:=k-1) (by omega) (by omega) (by rw [show k-1+1=k by omega];exact hd) (by omega)
    rw [Ka Nh,Ka Nh]at hlt
    exact Zb<|Ze<|Zp J<|Zc<|Za<|Zq<|Yn<|Nq<|Yn<|Yn<|Nq<|Yn<|xU hsc results90 J J (by unfold Zip;rw [if_pos hlt])
   ·refine Zk<|Za<|Zb<|Qs (fun _=>False) [(0,0),(1,0),(2,0),(3,0),(4,0),(5,0),(6,0),(7,0),(8,0)] ?_ ?_
    ·kernel_rfl
    refine Zs J J (Yt (Yd J J))<|Zs J J (Yt (Yd J J))<|Zs J J (Yt (Xc (ii:=1) (i:=k-1) J J J J Zi Oo zT3))<|Zs J J (Yt (Xr (ii:=1) 0 J J J Zi pN (by first | omega | (simp only [List.length_set];omega))))<|Zs J J (Yt (Yd J J))<|Zs J J (Yt (Yd J J))<|Zs J J (Yt (Xc (ii:=2) (i:=k-1) J J J J Zi Oo zT3))<|Zs J J (Yt (Xr (ii:=2) 0 J J J Zi pN (by first | omega | (simp only [List.length_set];omega))))<|Zs J J (Yt (Pw J J J))<|Ob<|Za<|Zr J (fun h51=>?_) (fun h51=>?_)
    ·have hlt:=Zpi Hm (xs:=(dg 1000000000 y)) (ys:=(dg 1000000000 x)) (Lf Nh y) (k:=k-1) (by omega) (by omega) (by rw [show k-1+1=k by omega];exact hd.symm) (by omega)
     rw [Ka Nh,Ka Nh]at hlt
     exact Zb<|Ze<|Zp J<|Zc<|Za<|Zq<|Nq<|Yn<|Yn<|Nq<|Yn<|xU hsc results90 J J (by unfold Zip;rw [if_neg (by omega),if_pos hlt])
    ·exact Zk<|Qn<|Za<|Ze<|mv J<|dt (Qd J J J)<|Zp J<|Zc<|Xk (k-1) ⟨by first | omega | (dsimp only<;>omega),by have:=Zg1 (xs:=(dg 1000000000 x)) (ys:=(dg 1000000000 y)) (k:=k-1) (by omega) (by omega) (by rw [show k-1+1=k by omega];exact hd) (by omega);exact this⟩ (by first | omega | (dsimp only<;>omega)) ⟨by rw [show(((k-1:Nat):Int)-1)=(k:Int)-1-1 by omega];rfl,rfl,rfl,trivial⟩ K3
  ·refine Yx<|Zx<|Zx<|Pd<|Za<|Zb<|Ze<|Zp J<|Zc<|Za<|Zq ?_
   obtain rfl:k=0:=by omega
   have heq:x=y:=(Zhw Nh).1 (by simpa using hd)
   exact xU hsc results90 J J (by unfold Zip;rw [if_neg (by omega),if_neg (by omega)])
theorem Zs7(v w:Value)(x y:Nat)(hx:bl x≤4294967296)(hy:bl y≤4294967296):Cal prog 75 #[v,w] [Mw v x,Mw w y] false (G:=Value) (fun r=>True) (fun r=>r) (fun r=>[Mw r (x+y)]):=by
 refine Yi func75 J ntmps75 J K2 fun w0 sc hw hsc=>?_
 simp only [Zu,Zt]
 have hX:=Hs x
 have hY:=Hs y
 refine Zb<|Ze<|Zp J<|Zc<|Za<|Zb<|Ze<|Zp J<|Zc<|Za<|Zb<|Ze<|Zp J<|Zc<|Za<|Zb<|Zb<|Ze<|Zp J<|Zc<|Za<|Zo<|Yo (Np 70 1 3 Ht)<|Oc [(0,_),(1,_)] [(0,_),(1,_),(2,_)] (fun(q:Nat×List Nat×Nat×Value)=>[(7,.int .i64 (q.1:Int)),(6,.int .i64 (q.2.2.1:Int)),(5,q.2.2.2)]) (fun(q:Nat×List Nat×Nat×Value)=>[(70,Ld 1 3 Ht q.2.2.2 q.2.1)]) (fun(q:Nat×List Nat×Nat×Value)=>(q.1≤max (dg 1000000000 x).length (dg 1000000000 y).length+1∧(q.1=max (dg 1000000000 x).length (dg 1000000000 y).length+1→q.2.2.1=0))∧(q.2.1.length=q.1)∧(∀d∈q.2.1,d<1000000000)∧(q.2.2.1≤1)∧(Qm 1000000000 q.2.1+q.2.2.1*1000000000^q.1=Qm 1000000000 ((dg 1000000000 x).take q.1)+Qm 1000000000 ((dg 1000000000 y).take q.1))∧(q.1=0∨1000000000^(q.1-1)≤x+y)) (fun(q:Nat×List Nat×Nat×Value)=>max (dg 1000000000 x).length (dg 1000000000 y).length+1-q.1) (0,[],0,.slice none 0 0) ⟨⟨by omega,by omega⟩,J,by simp,by first | omega | (dsimp only<;>omega),by simp [Qm],.inl rfl⟩ K5 K4 ?_
 rintro⟨i,o,c,vo⟩ ⟨hi,hol,hoa,hc,hv,hge⟩
 dsimp only at hi hol hoa hc hv hge
 simp only [CA,NA]
 refine Zb<|Iz [(0,_),(1,_),(5,_),(6,_),(7,_)] [(0,_),(70,_),(1,_),(2,_)] (fun(_:Unit)=>[(21,.bool (decide (i<(dg 1000000000 x).length∨i<(dg 1000000000 y).length∨0<c)))]) (fun(_:Unit)=>[]) (fun(_:Unit)=>True) K5 K4 ?_ ?_
 ·refine Ze<|mv J<|mv J<|dt (Yf J J (i:=1) J Zi Oo)<|dt (Xv J J J)<|mv J<|Pf (d:=12) J (fun s62=>?_) (fun s62=>?_)
  ·exact Xt J J J<|Xt J J J<|Xt J J J<|Xt J J J<|dt (Yy J J J)<|mv J<|Xt J J J<|Xt J J J<|dt (Yy J J J)<|Zc<|Xo () trivial ⟨by first | exact congrArg some (vB (decide_eq_decide.2 (by omega))) | exact congrArg some (vB (decide_eq_true (by omega)).symm),rfl,rfl,rfl,rfl,rfl,trivial⟩ K4
  ·refine Xh (Yd J J) J J<|Xh (Yd J J) J J<|Xh (Yf J J (i:=2) J Zi Oo) J J<|Xh (Xv J J J) J J<|dt (Yh J J J)<|mv J<|Pf (d:=18) J (fun s62_2=>?_) (fun s62_2=>?_)
   ·exact Xt J J J<|Xt J J J<|dt (Yy J J J)<|Zc<|Xo () trivial ⟨by first | exact congrArg some (vB (decide_eq_decide.2 (by omega))) | exact congrArg some (vB (decide_eq_true (by omega)).symm),rfl,rfl,rfl,rfl,rfl,trivial⟩ K4
   ·exact Xh (Yd J J) J J<|Xh (Pw J J J) J J<|dt (Yh J J J)<|Zc<|Xo () trivial ⟨by first | exact congrArg some (vB (decide_eq_decide.2 (by omega))) | exact congrArg some (vB (decide_eq_true (by omega)).symm),rfl,rfl,rfl,rfl,rfl,trivial⟩ K4
 ·rintro _ -
  simp only [CA,NA]
  refine Zr J (fun h62=>?_) (fun h62=>?_)
  ·have hgn:1000000000^i≤x+y:=by
    rcases h62 with h1 | h1 | h1
    ·have:=Za3 Nh h1;omega
    ·have:=Za3 Nh h1;omega
    ·by_cases h2:i<(dg 1000000000 x).length
     ·have:=Za3 Nh h2;omega
     ·by_cases h3:i<(dg 1000000000 y).length
      ·have:=Za3 Nh h3;omega
      ·rw [Ee Nh (by omega),Ee Nh (by omega)]at hv
       have:1000000000^i≤c*1000000000^i:=Nat.le_mul_of_pos_left _ h1
       omega
   refine Zk<|Za<|Zb<|Zo<|Iz [(0,_),(1,_),(5,_),(7,_)] [(0,_),(70,_),(1,_),(2,_)] (fun(_:Unit)=>[(6,.int .i64 ((c+(dg 1000000000 x).getD i 0:Nat):Int))]) (fun(_:Unit)=>[]) (fun(_:Unit)=>True) K4 K4 ?_ ?_
   ·refine Zb<|Ze<|mv J<|mv J<|dt (Yf J J (i:=1) J Zi Oo)<|dt (Xv J J J)<|Zc<|Za<|Zr J (fun h63=>?_) (fun h63=>?_)
    ·refine Ze<|mv J<|mv J<|mv J<|dt (Xc (ii:=1) J J J J Zi Oo zT3 J (by first | omega | (simp only [List.length_set];omega)))<|dt (Xr (ii:=1) 0 J J J Zi pN (by first | omega | (simp only [List.length_set];omega)))<|dt (Zgp J J J (by have h1:=(Pk Hm (Lf Nh x) i);omega))<|Zp J<|Zc ?_
     try (have hz:(dg 1000000000 x).getD i 0=0:=by simp [List.getD,List.getElem?_eq_none (by omega:(dg 1000000000 x).length≤i)])
     exact Xo () trivial ⟨by first | rfl | (rw [hz];rfl),rfl,rfl,rfl,rfl,trivial⟩ K4
    ·refine Zk ?_
     try (have hz:(dg 1000000000 x).getD i 0=0:=by simp [List.getD,List.getElem?_eq_none (by omega:(dg 1000000000 x).length≤i)])
     exact Xo () trivial ⟨by first | rfl | (rw [hz];rfl),rfl,rfl,rfl,rfl,trivial⟩ K4
   ·rintro _ -
    simp only [CA,NA]
    refine Iz [(0,_),(1,_),(5,_),(7,_)] [(0,_),(70,_),(1,_),(2,_)] (fun(_:Unit)=>[(6,.int .i64 ((c+(dg 1000000000 x).getD i 0+(dg 1000000000 y).getD i 0:Nat):Int))]) (fun(_:Unit)=>[]) (fun(_:Unit)=>True) K4 K4 ?_ ?_
    ·refine Zb<|Ze<|mv J<|mv J<|dt (Yf J J (i:=2) J Zi Oo)<|dt (Xv J J J)<|Zc<|Za<|Zr J (fun h66=>?_) (fun h66=>?_)
     ·refine Ze<|mv J<|mv J<|mv J<|dt (Xc (ii:=2) J J J J Zi Oo zT3 J (by first | omega | (simp only [List.length_set];omega)))<|dt (Xr (ii:=2) 0 J J J Zi pN (by first | omega | (simp only [List.length_set];omega)))<|dt (Zgp J J J (by have h1:=(Pk Hm (Lf Nh x) i);have h2:=(Pk Hm (Lf Nh y) i);omega))<|Zp J<|Zc ?_
      try (have hz:(dg 1000000000 y).getD i 0=0:=by simp [List.getD,List.getElem?_eq_none (by omega:(dg 1000000000 y).length≤i)])
      exact Xo () trivial ⟨by first | rfl | (rw [hz];rfl),rfl,rfl,rfl,rfl,trivial⟩ K4
     ·refine Zk ?_
      try (have hz:(dg 1000000000 y).getD i 0=0:=by simp [List.getD,List.getElem?_eq_none (by omega:(dg 1000000000 y).length≤i)])
      exact Xo () trivial ⟨by first | rfl | (rw [hz];rfl),rfl,rfl,rfl,rfl,trivial⟩ K4
    ·rintro _ -
     simp only [CA,NA]
     exact Zb<|Ze<|mv J<|mv J<|dt (Zra (n:=1000000000) J J J (by omega))<|tt (Pn (i:=3) (ivs:=[(0,_)]) (enc:=Ht) [(c+(dg 1000000000 x).getD i 0+(dg 1000000000 y).getD i 0)%1000000000] J J K2 Oo ti3 J J J J J pN.cells J J hw) fun v _=>tt (Hd (i:=70) (j:=3) (by_:=8) J J J J J J (by decide) J (Xa pN) Oo ti3 J pN J J J (by simp;omega) (by decide) J hw) fun v_2 _=>Zp J<|Zc<|Za<|Ze<|mv J<|dt (Zkm (n:=1000000000) J J J (by have h1:=(Pk Hm (Lf Nh x) i);have h2:=(Pk Hm (Lf Nh y) i);omega) (by omega))<|Zp J<|Zc<|Qn<|Za<|Ze<|mv J<|dt (Ys J J J)<|Zp J<|Zc<|Xk (i+1,o ++ [(c+(dg 1000000000 x).getD i 0+(dg 1000000000 y).getD i 0)%1000000000],(c+(dg 1000000000 x).getD i 0+(dg 1000000000 y).getD i 0)/1000000000,_) ⟨⟨by dsimp only;omega,fun h=>by dsimp only at h ⊢;rw [Zdh (by omega:(dg 1000000000 x).length≤i),Zdh (by omega:(dg 1000000000 y).length≤i)];omega⟩,by simp [hol],Zll hoa (Nat.mod_lt _ Hm),by have h1:=(Pk Hm (Lf Nh x) i);have h2:=(Pk Hm (Lf Nh y) i);dsimp only;omega,Zx1 hol hv,.inr hgn⟩ (by first | omega | (dsimp only<;>omega)) K5 K4
  ·refine Yx<|Zx<|Zx<|Pd<|Za<|Zb<|Ze<|mv J<|Zp J<|Zc<|Za<|Zq ?_
   have hc0:c=0:=by omega
   have hv2:Qm 1000000000 o=x+y:=by
    rw [Ee Nh (by omega),Ee Nh (by omega),hc0,Nat.zero_mul,Nat.add_zero]at hv
    exact hv
   have hx:o=dg 1000000000 (x+y):=Zuj Nh hoa hv2 (by rw [hol];exact hge)
   exact xG hsc _ results75 J J trivial J (Nj 70 J J pN (by rw [←hx]<;>rfl) Zm)
theorem Zob(v w:Value)(x y:Nat)(hxy:y≤x)(hx:bl x≤4294967296:=by omega):Cal prog 91 #[v,w] [Mw v x,Mw w y] false (G:=Value) (fun r=>True) (fun r=>r) (fun r=>[Mw r (x-y)]):=by
 refine Yi func91 J ntmps91 J K2 fun w0 sc hw hsc=>?_
 simp only [Zu,Zt]
 have hX:=Hs x
 have hm:=Ny hxy
 have hY:=Hs y
 have hly:(dg 1000000000 y).length≤(dg 1000000000 x).length:=Zr5 Nh hxy
 refine Zb<|Ze<|Zp J<|Zc<|Za<|Zb<|Ze<|Zp J<|Zc<|Za<|Zb<|Ze<|Zp J<|Zc<|Za<|Zb<|Zb<|Ze<|Zp J<|Zc<|Za<|Zo<|Yo (Np 70 1 3 Ht)<|Oc [(0,_),(1,_)] [(0,_),(1,_),(2,_)] (fun(q:Nat×List Nat×Nat×Value)=>[(7,.int .i64 (q.1:Int)),(6,.int .i64 (q.2.2.1:Int)),(5,q.2.2.2)]) (fun(q:Nat×List Nat×Nat×Value)=>[(70,Ld 1 3 Ht q.2.2.2 q.2.1)]) (fun(q:Nat×List Nat×Nat×Value)=>(q.1≤(dg 1000000000 x).length)∧(q.2.1.length=q.1)∧(∀d∈q.2.1,d<1000000000)∧(q.2.2.1≤1)∧(Qm 1000000000 q.2.1+Qm 1000000000 ((dg 1000000000 y).take q.1)=Qm 1000000000 ((dg 1000000000 x).take q.1)+q.2.2.1*1000000000^q.1)) (fun(q:Nat×List Nat×Nat×Value)=>(dg 1000000000 x).length-q.1) (0,[],0,.slice none 0 0) ⟨by first | omega | (dsimp only<;>omega),rfl,by simp,by first | omega | (dsimp only<;>omega),by simp [Qm]⟩ K5 K4 ?_
 rintro⟨i,o,c,vo⟩ ⟨hi,hol,hoa,hc,hv⟩
 dsimp only at hi hol hoa hc hv
 simp only [CA,NA]
 have hda:=(Pk Hm (Lf Nh x) i)
 have hdb:=(Pk Hm (Lf Nh y) i)
 refine Zb<|Zb<|Ze<|mv J<|mv J<|dt (Yf J J (i:=1) J Zi Oo)<|dt (Xv J J J)<|Zc<|Za<|Zr J (fun h79=>?_) (fun h79=>?_)
 ·refine Zk<|Za<|Zb<|Zo<|Zb<|Ze<|mv J<|mv J<|dt (Xc (ii:=1) J J J J Zi Oo zT3 J (by first | omega | (simp only [List.length_set];omega)))<|dt (Xr (ii:=1) 0 J J J Zi pN (by first | omega | (simp only [List.length_set];omega)))<|mv J<|dt (Qd J J J)<|Zp J<|Zc<|Za<|Iz [(0,_),(1,_),(5,_),(7,_)] [(0,_),(70,_),(1,_),(2,_)] (fun(_:Unit)=>[(8,.int .i64 (((dg 1000000000 x).getD i 0:Int)-(c:Int)-((dg 1000000000 y).getD i 0:Int)))]) (fun(_:Unit)=>[]) (fun(_:Unit)=>True) K4 K4 ?_ ?_
  ·refine Zb<|Ze<|mv J<|mv J<|dt (Yf J J (i:=2) J Zi Oo)<|dt (Xv J J J)<|Zc<|Za<|Zr J (fun h81=>?_) (fun h81=>?_)
   ·refine Ze<|mv J<|mv J<|mv J<|dt (Xc (ii:=2) J J J J Zi Oo zT3 J (by first | omega | (simp only [List.length_set];omega)))<|dt (Xr (ii:=2) 0 J J J Zi pN (by first | omega | (simp only [List.length_set];omega)))<|dt (Qd J J J)<|Zp J<|Zc ?_
    try (have hz:(dg 1000000000 y).getD i 0=0:=by simp [List.getD,List.getElem?_eq_none (by omega:(dg 1000000000 y).length≤i)])
    exact Xo () trivial ⟨by first | rfl | (rw [hz];exact congrArg some (Zb6 (by omega))),rfl,rfl,rfl,rfl,trivial⟩ K4
   ·refine Zk ?_
    try (have hz:(dg 1000000000 y).getD i 0=0:=by simp [List.getD,List.getElem?_eq_none (by omega:(dg 1000000000 y).length≤i)])
    exact Xo () trivial ⟨by first | rfl | (rw [hz];exact congrArg some (Zb6 (by omega))),rfl,rfl,rfl,rfl,trivial⟩ K4
  ·rintro _ -
   simp only [CA,NA]
   refine Zb<|Ze<|Zp J<|Zc<|Za<|Iz [(0,_),(1,_),(5,_),(7,_)] [(0,_),(70,_),(1,_),(2,_)] (fun(_:Unit)=>[(8,.int .i64 ((d9s ((dg 1000000000 x).getD i 0) ((dg 1000000000 y).getD i 0) c:Nat):Int)),(6,.int .i64 ((brw ((dg 1000000000 x).getD i 0) ((dg 1000000000 y).getD i 0) c:Nat):Int))]) (fun(_:Unit)=>[]) (fun(_:Unit)=>True) K4 K4 ?_ ?_
   ·refine Zb<|Ze<|mv J<|dt (Xv J J J)<|Zc<|Za<|Zr J (fun h85=>?_) (fun h85=>?_)
    ·exact Ze<|mv J<|dt (Ys J J J)<|Zp J<|Zp J<|Zc<|Xo () trivial ⟨by exact congrArg some (Zb6 (by unfold d9s;split<;>omega)),by exact congrArg some (Zb6 (by unfold brw;split<;>omega)),rfl,rfl,rfl,rfl,trivial⟩ K4
    ·exact Zk<|Xo () trivial ⟨by exact congrArg some (Zb6 (by unfold d9s;split<;>omega)),by exact congrArg some (Zb6 (by unfold brw;split<;>omega)),rfl,rfl,rfl,rfl,trivial⟩ K4
   ·rintro _ -
    simp only [CA,NA]
    exact Ze<|mv J<|mv J<|tt (Pn (i:=3) (ivs:=[(0,_)]) (enc:=Ht) [d9s ((dg 1000000000 x).getD i 0) ((dg 1000000000 y).getD i 0) c] J J K2 Oo ti3 J J J J J pN.cells J J hw) fun v _=>tt (Hd (i:=70) (j:=3) (by_:=8) J J J J J J (by decide) J (Xa pN) Oo ti3 J pN J J J (by simp;omega) (by decide) J hw) fun v_2 _=>Zp J<|Zc<|Qn<|Za<|Ze<|mv J<|dt (Ys J J J)<|Zp J<|Zc<|Xk (i+1,o ++ [d9s ((dg 1000000000 x).getD i 0) ((dg 1000000000 y).getD i 0) c],brw ((dg 1000000000 x).getD i 0) ((dg 1000000000 y).getD i 0) c,_) ⟨by first | omega | (dsimp only<;>omega),by simp [hol],Zll hoa (Zwi hda hdb hc).1,Ycv _ _ _,Ztm hc hda hdb hol hv⟩ (by first | omega | (dsimp only<;>omega)) K5 K4
 ·refine Yx<|Zx<|Zx<|Pd<|Za<|Zb<|Ze<|mv J<|tt (Zh (n:=3) (Ho _ _) J J J K1 call77 (Qt 70 J J pN Zg) J hw) fun _ _=>Pp (Zay 70 J J pN)<|Zp J<|Zc<|Za<|Zq ?_
  obtain rfl:i=(dg 1000000000 x).length:=by omega
  have hx:tz o=dg 1000000000 (x-y):=by
   rw [←Ix Nh _ hoa]
   congr 1
   rw [Lq _ (dg 1000000000 y) _ hly,Lq _ (dg 1000000000 x) _ (Nat.le_refl _),Ka Nh,Ka Nh]at hv
   have h1:=Zhg Hm o hoa
   rw [hol]at h1
   have h0:c=0∨c=1:=by omega
   rcases h0 with rfl | rfl<;>omega
  exact xG hsc _ results91 J J trivial J (Nj 70 J J pN (by rw [hx]<;>rfl) Zm)
theorem Zu7(v w:Value)(x y:Nat)(hx:bl x≤4294967296)(hy:bl y≤4294967296):Cal prog 123 #[v,w] [Mw v x,Mw w y] false (G:=Value) (fun r=>True) (fun r=>r) (fun r=>[Mw r (x*y)]):=by
 refine Yi func123 J ntmps123 J K2 fun w0 sc hw hsc=>?_
 simp only [Zu,Zt]
 have hX:=Hs x
 have hY:=Hs y
 refine Zb<|Ze<|Zp J<|Zc<|Za<|Zb<|Ze<|mv J<|dt (Yf J J (i:=1) J Zi Oo)<|mv J<|dt (Yf J J (i:=2) J Zi Oo)<|dt (Ys J J J)<|tt (Ge (i:=3) (n:=((dg 1000000000 x).length+(dg 1000000000 y).length)) (by_:=8) (enc:=Ht) 0 J J J J Oo ti3 J pN.cells pN.pos J J J hw) fun v _=>Zp J<|Zc<|Za<|Zb<|Zb<|Ze<|Zp J<|Zc<|Za<|Zo<|Oc [(0,_),(1,_),(5,_)] [(0,_),(1,_),(2,_)] (fun(q:Nat×List Nat)=>[(6,.int .i64 (q.1:Int))]) (fun(q:Nat×List Nat)=>[(3,Ld 1 3 Ht v q.2)]) (fun(q:Nat×List Nat)=>(q.1≤(dg 1000000000 x).length)∧(q.2.length=((dg 1000000000 x).length+(dg 1000000000 y).length))∧(∀d∈q.2,d<1000000000)∧(∀j,q.1+(dg 1000000000 y).length≤j→q.2.getD j 0=0)∧(Qm 1000000000 q.2=Qm 1000000000 ((dg 1000000000 x).take q.1)*y)) (fun(q:Nat×List Nat)=>(dg 1000000000 x).length-q.1) (0,List.replicate ((dg 1000000000 x).length+(dg 1000000000 y).length) 0) ⟨by first | omega | (dsimp only<;>omega),by simp,My _ Hm,fun j _=>Hg _ j,by simp [Qm,Ff]⟩ K4 K4 ?_
 rintro⟨i,o⟩ ⟨hi,hol,hoa,hz0,hv⟩
 dsimp only at hi hol hoa hz0 hv
 simp only [CA,NA]
 refine Zb<|Zb<|Ze<|mv J<|mv J<|dt (Yf J J (i:=1) J Zi Oo)<|dt (Xv J J J)<|Zc<|Za<|Zr J (fun h96=>?_) (fun h96=>?_)
 ·refine Zk<|Za<|Zb<|Zo<|Zb<|Ze<|Zp J<|Zc<|Za<|Zb<|Ze<|Zp J<|Zc<|Za<|Zo<|Oc [(0,_),(1,_),(5,_),(6,_)] [(0,_),(1,_),(2,_)] (fun(q:Nat×List Nat×Nat)=>[(8,.int .i64 (q.1:Int)),(7,.int .i64 (q.2.2:Int))]) (fun(q:Nat×List Nat×Nat)=>[(3,Ld 1 3 Ht v q.2.1)]) (fun(q:Nat×List Nat×Nat)=>(q.1≤(dg 1000000000 y).length+1∧(q.1=(dg 1000000000 y).length+1→q.2.2=0))∧(q.2.1.length=((dg 1000000000 x).length+(dg 1000000000 y).length))∧(∀d∈q.2.1,d<1000000000)∧(∀j,i+q.1≤j→i+(dg 1000000000 y).length≤j→q.2.1.getD j 0=0)∧(q.2.2<1000000000)∧(Qm 1000000000 q.2.1+q.2.2*1000000000^(i+q.1)=Qm 1000000000 ((dg 1000000000 x).take i)*y+(dg 1000000000 x).getD i 0*1000000000^i*Qm 1000000000 ((dg 1000000000 y).take q.1))) (fun(q:Nat×List Nat×Nat)=>(dg 1000000000 y).length+1-q.1) (0,o,0) ⟨⟨by omega,by omega⟩,hol,hoa,fun j _ h=>hz0 j h,by first | omega | (dsimp only<;>omega),by rw [hv];simp [Qm]⟩ K6 K4 ?_
  rintro⟨k,p,c⟩ ⟨hk,hpl,hpa,hpz,hcU,hpv⟩
  dsimp only at hk hpl hpa hpz hcU hpv
  simp only [CA,NA]
  have hdig:=Zp7 (Pk Hm (Lf Nh x) i) (Pk Hm (Lf Nh y) k) (Pk Hm hpa (i+k)) hcU
  refine Zb<|Iz [(0,_),(1,_),(5,_),(6,_),(7,_),(8,_)] [(0,_),(3,_),(1,_),(2,_)] (fun(_:Unit)=>[(29,.bool (decide (k<(dg 1000000000 y).length∨0<c)))]) (fun(_:Unit)=>[]) (fun(_:Unit)=>True) K6 K4 ?_ ?_
  ·refine Ze<|mv J<|mv J<|dt (Yf J J (i:=2) J Zi Oo)<|dt (Xv J J J)<|mv J<|Pf (d:=26) J (fun s98=>?_) (fun s98=>?_)
   ·exact Xt J J J<|Xt J J J<|dt (Yy J J J)<|Zc<|Xo () trivial ⟨by first | exact congrArg some (vB (decide_eq_decide.2 (by omega))) | exact congrArg some (vB (decide_eq_true (by omega)).symm),rfl,rfl,rfl,rfl,rfl,rfl,trivial⟩ K4
   ·exact Xh (Yd J J) J J<|Xh (Pw J J J) J J<|dt (Yh J J J)<|Zc<|Xo () trivial ⟨by first | exact congrArg some (vB (decide_eq_decide.2 (by omega))) | exact congrArg some (vB (decide_eq_true (by omega)).symm),rfl,rfl,rfl,rfl,rfl,rfl,trivial⟩ K4
  ·rintro _ -
   simp only [CA,NA]
   refine Zr J (fun h98=>?_) (fun h98=>?_)
   ·refine Zk<|Za<|Zb<|Zo<|Zb<|Ze<|mv J<|mv J<|mv J<|dt (Zgp J J J (by omega))<|dt (Xc (ii:=3) (i:=(i+k)) J J J J (Xa pN) Oo zT3)<|dt (Xr (ii:=3) 0 J J J (Xa pN) pN)<|mv J<|dt (Zgp J J J (by have h1:=Pk Hm hpa (i+k);omega))<|Zp J<|Zc<|Za<|Iz [(0,_),(1,_),(5,_),(6,_),(8,_)] [(0,_),(3,_),(1,_),(2,_)] (fun(_:Unit)=>[(9,.int .i64 ((p.getD (i+k) 0+c+(dg 1000000000 x).getD i 0*(dg 1000000000 y).getD k 0:Nat):Int))]) (fun(_:Unit)=>[]) (fun(_:Unit)=>True) K5 K4 ?_ ?_
    ·refine Zb<|Ze<|mv J<|mv J<|dt (Yf J J (i:=2) J Zi Oo)<|dt (Xv J J J)<|Zc<|Za<|Zr J (fun h100=>?_) (fun h100=>?_)
     ·refine Qs (fun _=>False) [(0,0),(1,0),(2,0),(3,0),(4,0),(5,0),(6,0),(7,0),(8,0),(9,0),(10,0),(11,3)] ?_ ?_
      ·kernel_rfl
      refine Zs J J (Yt (Yd J J))<|Zs J J (Yt (Yd J J))<|Zs J J (Yt (Yd J J))<|Zs J J (Yt (Xc (ii:=1) J J J J Zi Oo zT3 J (by first | omega | (simp only [List.length_set];omega))))<|Zs J J (Yt (Xr (ii:=1) 0 J J J Zi pN (by first | omega | (simp only [List.length_set];omega))))<|Zs J J (Yt (Yd J J))<|Zs J J (Yt (Yd J J))<|Zs J J (Yt (Xc (ii:=2) J J J J Zi Oo zT3 J (by first | omega | (simp only [List.length_set];omega))))<|Zs J J (Yt (Xr (ii:=2) 0 J J J Zi pN (by first | omega | (simp only [List.length_set];omega))))<|Zs J J (Yt (n_mul J J J (by have h1:=hdig.2;omega)))<|Zs J J (Yt (Zgp J J J hdig.2))<|Po J (Od (Mb J J) J) fun _ _=>Ob ?_
      try (have hz:(dg 1000000000 y).getD k 0=0:=Zdh (by omega))
      exact Xo () trivial ⟨by first | rfl | (rw [hz,Nat.mul_zero];rfl),rfl,rfl,rfl,rfl,rfl,trivial⟩ K4
     ·refine Zk ?_
      try (have hz:(dg 1000000000 y).getD k 0=0:=Zdh (by omega))
      exact Xo () trivial ⟨by first | rfl | (rw [hz,Nat.mul_zero];rfl),rfl,rfl,rfl,rfl,rfl,trivial⟩ K4
    ·rintro _ -
     simp only [CA,NA]
     exact Zb<|Ze<|mv J<|mv J<|mv J<|dt (Zgp J J J (by omega))<|mv J<|dt (Zra (n:=1000000000) J J J (by omega))<|dt (Xc (ii:=3) (i:=(i+k)) J J J J (Xa pN) Oo zT3)<|tt (Im (i:=3) (enc:=Ht) _ J J J J J J pN J hw) fun _ _=>Zc<|Za<|Ze<|mv J<|dt (Zkm (n:=1000000000) J J J hdig.2 (by omega))<|Zp J<|Zc<|Qn<|Za<|Ze<|mv J<|dt (Ys J J J)<|Zp J<|Zc<|Xk (k+1,_,_) ⟨⟨by dsimp only;omega,fun h=>by dsimp only at h ⊢;rw [Zdh (by omega:(dg 1000000000 y).length≤k),hpz (i+k) (by omega) (by omega),Nat.mul_zero];omega⟩,by simp;omega,Kz hpa _ _ (Nat.mod_lt _ Hm),fun j hj hj2=>by dsimp only at hj ⊢;rw [Mt _ _ _ _ _ (by omega),if_neg (by omega)];exact hpz j (by omega) hj2,hdig.1,Zst hpv (by omega)⟩ (by first | omega | (dsimp only<;>omega)) K6 K4
   ·refine Yx<|Zx<|Zx<|Pd<|Qn<|Za<|Ze<|mv J<|dt (Ys J J J)<|Zp J<|Zc ?_
    have hc0:c=0:=by omega
    have hvf:=hpv
    rw [hc0,Nat.zero_mul,Nat.add_zero,Ee (x:=y) (k:=k) Nh (by omega)]at hvf
    exact Xk (i+1,_) ⟨by first | omega | (dsimp only<;>omega),hpl,hpa,fun j hj=>hpz j (by dsimp only at hj;omega) (by dsimp only at hj;omega),by dsimp only;rw [hvf,Of,Nat.add_mul]⟩ (by first | omega | (dsimp only<;>omega)) K4 K4
 ·refine Yx<|Zx<|Zx<|Pd<|Za<|Zb<|Ze<|mv J<|tt (Zh (n:=3) (Ho _ _) J J J K1 call77 (Qt 3 J J pN Zg) J hw) fun _ _=>Pp (Zay 3 J J pN)<|Zp J<|Zc<|Za<|Zq ?_
  obtain rfl:i=(dg 1000000000 x).length:=by omega
  have hx:tz o=dg 1000000000 (x*y):=by
   rw [←Ix Nh _ hoa,hv,Ee Nh (Nat.le_refl _)]
  exact xG hsc _ results123 J J trivial J (Nj 3 J J pN (by rw [hx]<;>rfl) Zm)
theorem Zi0(v:Value)(x n:Nat)(hx:bl x≤4294967296:=by omega)(hn:n<1000000000:=by omega):Cal prog 76 #[v,.int .i64 (n:Int)] [Mw v x] true (G:=Value) (fun r=>True) (fun r=>r) (fun r=>[Mw r (x*n)]):=by
 refine Yi func76 J ntmps76 J K1 fun w0 sc hw hsc=>?_
 simp only [Zu,Zt]
 refine Zb<|Ze<|Zp J<|Zc<|Za<|Zb<|Zb<|Ze<|mv J<|dt (Pj J J J)<|Zc<|Za<|Zr J (fun h112=>?_) (fun h112=>?_)
 ·exact Zb<|Ze<|Zp J<|Zc<|Za<|Zq<|Yn<|Qu (Np 9 1 3 Ht)<|Yu (.inl J) hsc (.slice none 0 0) _ (fun a w hs=>Ni hs results76 J) J trivial J (Nj 9 J J pN (by rw [show n=0 by omega,Nat.mul_zero]<;>rfl) Zm)
 ·have hn0:n≠0:=by omega
  exact Zk<|Za<|Zb<|Ze<|mv J<|mv J<|tt (Pn (i:=70) (ivs:=[(0,_)]) (enc:=Ht) [n] J J K2 Oo ti3 J J J J J pN.cells J J hw) fun v _=>Pp (Zep 70 (Ycl Nh hn hn0).symm J J)<|tt (Zh (n:=2) (Zu7 _ _ _ n hx (by have:=(Mo 30 n).2 (by omega);omega)) J J J K2 call123 (Zd 1 J J J (Qt 70 J J pN Zg)) J hw) fun v_2 _=>Zp J<|Zc<|Za<|Zq<|xG hsc _ results76 J J trivial J (Xu 2 J J J Zm)
theorem Yad(v w:Value)(x y:Nat)(hy0:0<y)(hx:bl x≤4000000000:=by omega)(hy:bl y≤4000000000:=by omega):Cal prog 124 #[v,w] [Mw v x,Mw w y] true (G:=Value×Value) (fun r=>True) (fun r=> .tuple #[r.1,r.2]) (fun r=>[Mw r.1 (x/y),Mw r.2 (x%y)]):=by
 refine Yi func124 J ntmps124 J K2 fun w0 sc hw hsc=>?_
 simp only [Zu,Zt]
 have hX:=Hs x
 have hY:=Hs y
 refine Zb<|Ze<|Zp J<|Zp J<|Zc<|Za<|Zb<|Ze<|mv J<|dt (Yf J J (i:=1) J Zi Oo)<|tt (Ge (i:=3) (n:=(dg 1000000000 x).length) (by_:=8) (enc:=Ht) 0 J J J J Oo ti3 J pN.cells pN.pos J J J hw) fun v _=>Zp J<|Zc<|Za<|Zb<|Ze<|Zp J<|Zc<|Za<|Zb<|Zb<|Ze<|mv J<|dt (Yf J J (i:=1) J Zi Oo)<|dt (Qd J J J)<|Zp J<|Zc<|Za<|Zo<|Yo (Np 71 1 3 Ht)<|Yo (Pg 71 J J pN)<|Oc [(0,_),(1,_),(6,_)] [(0,_),(1,_),(2,_)] (fun(q:Nat×List Nat×Nat×Value)=>[(8,.int .i64 ((q.1:Int)-1)),(7,q.2.2.2)]) (fun(q:Nat×List Nat×Nat×Value)=>[(3,Ld 1 3 Ht v q.2.1),(71,Mw q.2.2.2 q.2.2.1)]) (fun(q:Nat×List Nat×Nat×Value)=>(q.1≤(dg 1000000000 x).length)∧(q.2.1.length=(dg 1000000000 x).length)∧(∀d∈q.2.1,d<1000000000)∧(∀j,j<q.1→q.2.1.getD j 0=0)∧(Qm 1000000000 (q.2.1.drop q.1)*y+q.2.2.1=x/1000000000^q.1)∧(q.2.2.1<y)) (fun(q:Nat×List Nat×Nat×Value)=>q.1) ((dg 1000000000 x).length,List.replicate (dg 1000000000 x).length 0,0,.slice none 0 0) ⟨Nat.le_refl _,by simp,My _ Hm,fun j _=>Hg _ j,by dsimp only;rw [Nat.div_eq_of_lt ((Ph Nh _ x).1 (Nat.le_refl _))];simp [Qm],hy0⟩ K5 K5 ?_
 rintro⟨k,q,r,vr⟩ ⟨hk,hql,hqa,hqz,hv,hr⟩
 dsimp only at hk hql hqa hqz hv hr
 simp only [CA,NA]
 refine Zb<|Zb<|Ze<|mv J<|dt (Lg J J J)<|Zc<|Za<|Zr J (fun h122=>?_) (fun h122=>?_)
 ·have hk0:0<k:=by omega
  have ha9:=Pk Hm (Lf Nh x) (k-1)
  have hdig:x/1000000000^(k-1)=x/1000000000^k*1000000000+(dg 1000000000 x).getD (k-1) 0:=by rw [Gw Nh];exact(Ztf hk0).symm
  rw [←hv,Nat.add_mul]at hdig
  have hrb:=Yf5 hr ha9
  have hQ9:=over_Q hr ha9
  refine Zk<|Za<|Zb<|Zo<|Zb<|Ze<|mv J<|mv J<|dt (Xc (ii:=1) (i:=(k-1)) J J J J Zi Oo zT3)<|dt (Xr (ii:=1) 0 J J J Zi pN)<|tt (Pn (i:=72) (ivs:=[(0,_)]) (enc:=Ht) [(dg 1000000000 x).getD (k-1) 0] J J K2 Oo ti3 J J J J J pN.cells J J hw) fun v_2 _=>mv J<|tt (Hd (i:=72) (j:=71) (by_:=8) J J J J J J (by decide) J Zi Oo ti3 J pN J J J (by have h8:=Hs r;have h9:=Ny (Nat.le_of_lt hr);simp;omega) (by decide) J hw) fun v_3 _=>tt (Zh (n:=3) (Ho _ _) J J J K1 call77 (Qt 72 J J pN Zg) J hw) fun _ _=>Pp (Zay 72 J J pN)<|Pp (Zep 72 (Ydg Nh ha9) J J)<|Pp (Pg 72 J J pN)<|Zp J<|Zc<|Za<|Zb<|Zb<|Ze<|mv J<|mv J<|tt (Zh (n:=3) (Zoa _ _ _ _) J J J K2 call90 (Zd 72 J J J (Zd 2 J J J Zg)) J hw) fun _ _=>dt (Xv J J J)<|Zc<|Za<|Zr J (fun h124=>?_) (fun h124=>?_)
  ·have hlt:(r*1000000000+(dg 1000000000 x).getD (k-1) 0)<y:=Zsf.1 h124
   refine Yx<|Zx<|Pd<|Za<|Ze<|mv J<|dt (Qd J J J)<|Zp J<|Zc<|Qu (Pu 72 71 J J J) ?_
   have h2:=Zyo hk0 (by omega:k≤q.length) (hqz (k-1) (by omega))
   exact Xk (k-1,q,r*1000000000+(dg 1000000000 x).getD (k-1) 0,_) ⟨by first | omega | (dsimp only<;>omega),by first | omega | (dsimp only<;>omega),by first | omega | (dsimp only<;>omega),fun j hj=>hqz j (by dsimp only at hj;omega),by have h9:1000000000*Qm 1000000000 (q.drop k)*y=Qm 1000000000 (q.drop k)*y*1000000000:=(by rw [Nat.mul_assoc,Nat.mul_comm]);dsimp only;rw [h2,hdig,h9];omega,hlt⟩ (by first | omega | (dsimp only<;>omega)) ⟨by rw [show(((k-1:Nat):Int)-1)=(k:Int)-1-1 by omega];rfl,rfl,rfl,rfl,rfl,trivial⟩ K5
  ·have hge:y≤(r*1000000000+(dg 1000000000 x).getD (k-1) 0):=by have:=mt Zsf.2 h124;omega
   refine Zk<|Za<|Zb<|Ze<|Zp J<|Zp J<|Zc<|Za<|Zb<|Zo<|Oc [(0,_),(1,_),(6,_),(7,_),(8,_)] [(0,_),(3,_),(71,_),(1,_),(2,_),(72,_)] (fun(q:Nat×Nat)=>[(9,.int .i64 (q.1:Int)),(10,.int .i64 (q.2:Int))]) (fun(q:Nat×Nat)=>[]) (fun(q:Nat×Nat)=>(q.1≤(r*1000000000+(dg 1000000000 x).getD (k-1) 0)/y)∧((r*1000000000+(dg 1000000000 x).getD (k-1) 0)/y≤q.2)∧(q.2<1000000000)) (fun(q:Nat×Nat)=>q.2-q.1) (0,999999999) ⟨Nat.zero_le _,by omega,by first | omega | (dsimp only<;>omega)⟩ K7 K6 ?_
   rintro⟨lo,hi⟩ ⟨hlo,hhi,hh9⟩
   dsimp only at hlo hhi hh9
   simp only [CA,NA]
   have hmid:(lo+hi+1)/2<1000000000:=by omega
   refine Zb<|Zb<|Ze<|mv J<|mv J<|dt (Xv J J J)<|Zc<|Za<|Zr J (fun h128=>?_) (fun h128=>?_)
   ·refine Zk<|Za<|Zo<|Zb<|Ze<|mv J<|mv J<|dt (Zgp J J J (by omega))<|dt (Zgp (n:=1) J J J (by omega))<|dt (Zkm (n:=2) J J J (by omega) (by omega))<|Zp J<|Zc<|Za<|Zb<|Ze<|mv J<|mv J<|tt (Zh (n:=4) (Zi0 _ _ _) J J J K2 call76 (Zd 2 J J J Zg) J hw) fun v_4 _=>mv J<|tt (Zh (n:=4) (Zoa _ _ _ _ (by have:=Zlg (y:=y) hmid;omega)) J J J K2 call90 (Zd 4 J J J (Zd 72 J J J Zg)) J hw) fun _ _=>dt (Dc J J J)<|Zc<|Za<|Zr J (fun h130=>?_) (fun h130=>?_)
    ·have hcm:y*((lo+hi+1)/2)≤(r*1000000000+(dg 1000000000 x).getD (k-1) 0):=Zwp.1 h130
     exact Ze<|mv J<|Zp J<|Zc<|Qn<|Xk ((lo+hi+1)/2,hi) ⟨(Nat.le_div_iff_mul_le hy0).2 (by rw [Nat.mul_comm];exact hcm),by first | omega | (dsimp only<;>omega),by first | omega | (dsimp only<;>omega)⟩ (by first | omega | (dsimp only<;>omega)) K7 K6
    ·have hcm:(r*1000000000+(dg 1000000000 x).getD (k-1) 0)<y*((lo+hi+1)/2):=by have:=mt Zwp.2 h130;omega
     exact Ze<|mv J<|dt (Qd J J J)<|Zp J<|Zc<|Qn<|Xk (lo,(lo+hi+1)/2-1) ⟨by first | omega | (dsimp only<;>omega),by have h7:=(Nat.div_lt_iff_lt_mul hy0).2 (show(r*1000000000+(dg 1000000000 x).getD (k-1) 0)<(lo+hi+1)/2*y by have h6:=Nat.mul_comm ((lo+hi+1)/2) y;omega);dsimp only;omega,by first | omega | (dsimp only<;>omega)⟩ (by first | omega | (dsimp only<;>omega)) ⟨J,by rw [show(((lo+hi+1)/2-1:Nat):Int)=(((lo+hi+1)/2:Nat):Int)-1 by omega];rfl,rfl,rfl,rfl,rfl,rfl,trivial⟩ K6
   ·have hloQ:lo=(r*1000000000+(dg 1000000000 x).getD (k-1) 0)/y:=by omega
    refine Yx<|Zx<|Zx<|Pd<|Za<|Zb<|Ze<|mv J<|mv J<|mv J<|dt (Xc (ii:=3) (i:=(k-1)) J J J J (Xa pN) Oo zT3)<|tt (Im (i:=3) (enc:=Ht) _ J J J J J J pN J hw) fun _ _=>Zc<|Za<|Ze<|mv J<|mv J<|mv J<|tt (Zh (n:=5) (Zi0 _ _ _) J J J K2 call76 (Zd 2 J J J Zg) J hw) fun v_5 _=>tt (Zh (n:=6) (Zob _ _ _ _ (by rw [hloQ];exact Nat.mul_div_le _ _)) J J J K2 call91 (Zd 72 J J J (Zd 5 J J J Zg)) J hw) fun v_6 _=>Zp J<|Zc<|Qn<|Za<|Ze<|mv J<|dt (Qd J J J)<|Zp J<|Zc<|Qu (Pu 6 71 J J J) ?_
    have h2:=Zg0 (d:=lo) hk0 (by omega:k≤q.length)
    have h16:y*lo≤(r*1000000000+(dg 1000000000 x).getD (k-1) 0):=by rw [hloQ];exact Nat.mul_div_le _ _
    exact Xk (k-1,_,(r*1000000000+(dg 1000000000 x).getD (k-1) 0)-y*lo,_) ⟨by first | omega | (dsimp only<;>omega),by simp [hql],Kz hqa _ _ (by omega),fun j hj=>by dsimp only at hj ⊢;rw [Mt _ _ _ _ _ (by omega),if_neg (by omega)];exact hqz j (by omega),by have h9:1000000000*Qm 1000000000 (q.drop k)*y=Qm 1000000000 (q.drop k)*y*1000000000:=(by rw [Nat.mul_assoc,Nat.mul_comm]);dsimp only;rw [h2,hdig,Nat.add_mul,h9];have h5:lo*y=y*lo:=Nat.mul_comm _ _;omega,by dsimp only;rw [hloQ];have h5:=Nat.div_add_mod (r*1000000000+(dg 1000000000 x).getD (k-1) 0) y;have h6:=Nat.mod_lt (r*1000000000+(dg 1000000000 x).getD (k-1) 0) hy0;omega⟩ (by first | omega | (dsimp only<;>omega)) ⟨by rw [show(((k-1:Nat):Int)-1)=(k:Int)-1-1 by omega];rfl,rfl,rfl,rfl,rfl,trivial⟩ K5
 ·refine Yx<|Zx<|Zx<|Pd<|Za<|Zb<|Ze<|mv J<|tt (Zh (n:=6) (Ho _ _) J J J K1 call77 (Qt 3 J J pN Zg) J hw) fun _ _=>Pp (Zay 3 J J pN)<|mv J<|Zp J<|Zp J<|Zc<|Za<|Zq ?_
  obtain rfl:k=0:=by omega
  rw [List.drop_zero,Nat.pow_zero,Nat.div_one]at hv
  have hq:Qm 1000000000 q=x/y:=by rw [←hv,Nat.mul_comm,Nat.mul_add_div hy0,Nat.div_eq_of_lt hr,Nat.add_zero]
  have hr2:r=x%y:=by rw [←hv,Nat.mul_comm,Nat.mul_add_mod,Nat.mod_eq_of_lt hr]
  have hx:tz q=dg 1000000000 (x/y):=by rw [←Ix Nh _ hqa,hq]
  exact Yu (.inl J) hsc (_,_) _ (fun a w hs=>Og hs results124 J J) J trivial J (Nj 3 J J pN (by rw [hx]<;>rfl) (Xe 71 J J J (by rw [hr2]<;>rfl) Zm))
theorem Zam(s:Bool)(v:Value)(n:Nat)(z:Int)(hn:n=z.natAbs)(hs:sg s z)(hb:bl n≤4294967296):On prog 78 #[.bool s,v] [Mw v n] (.agg #[.bool (decide (z<0)),v]):=by
 refine Yi func78 J ntmps78 J K1 fun w0 sc hw hsc=>?_
 simp only [Zu,Zt]
 have hl9:=Hs n
 refine Zb<|Ze<|tt (Zy (i:=2) J J zeroValue48 J J hw) fun b _=>Zc<|Za<|Zb<|Ze<|mv J<|mv J<|Ma (d:=6) J (fun s143=>?_) (fun s143=>?_)
 ·exact Xh (Yd J J) J J<|Xh (Yf J J (i:=1) J Zi Oo) J J<|Xh (Pw J J J) J J<|dt (Yy J J J)<|mv J<|dt (Oq (ivs:=[(0,_),(1,_)]) J K4 (fun a w hs=>Yc1 ((Zf J) a w hs) ((Zn (i:=1) J Zi) a w hs)))<|tt (Zl (i:=2) J J J J J J Yz J J ⟨Zf J,Zn (i:=1) J Zi,trivial⟩ J hw trivial) fun _ _=>Zc<|Za<|Zq<|Yu (.inl J) hsc () _ (fun a w hs=>Ni hs results78 (Xg (i:=2) J J Oy Yz J)) (by rw [←Ybk hn hs,←Zrl];simp_all) trivial J Zm
 ·exact Xt J J J<|Xt J J J<|Xt J J J<|dt (Yh J J J)<|mv J<|dt (Oq (ivs:=[(0,_),(1,_)]) J K4 (fun a w hs=>Yc1 ((Zf J) a w hs) ((Zn (i:=1) J Zi) a w hs)))<|tt (Zl (i:=2) J J J J J J Yz J J ⟨Zf J,Zn (i:=1) J Zi,trivial⟩ J hw trivial) fun _ _=>Zc<|Za<|Zq<|Yu (.inl J) hsc () _ (fun a w hs=>Ni hs results78 (Xg (i:=2) J J Oy Yz J)) (by rw [←Ybk hn hs,←Zrl];simp_all) trivial J Zm
theorem Zqu(v:Value)(x:Int)(hx:bl x.natAbs≤3000000000):Cal prog 73 #[.agg #[.bool (decide (x<0)),v]] [Mw v x.natAbs] true (G:=Value) (fun r=>True) (fun r=> .agg #[.bool (decide (-x<0)),r]) (fun r=>[Mw r (-x).natAbs]):=by
 refine Yi func73 J ntmps73 J K1 fun w0 sc hw hsc=>?_
 simp only [Zu,Zt]
 exact Zb<|Ze<|tt (Yw (i:=2) J J J J J hw) fun b _=>tt (Zy (i:=3) J J zeroValue48 J J hw) fun b_2 _=>Zc<|Za<|Zb<|Ze<|dt (Yv J J Es J zT4 J J)<|dt (Qw (i:=2) J J J iA4 J)<|dt (Xl J J)<|dt (Yv J J Es J Zck J J)<|dt (Qw (i:=2) J J J Zc8 J)<|tt (Zh (n:=3) (Zam _ _ _ (-x) (Int.natAbs_neg x).symm (Zzv (Qb x)) (by omega)) J J J K2 call78 (Zd 1 J J J Zg) J hw) fun _ _=>tt (Zl (i:=3) J J J J J J Yz J J ⟨Zf J,Zn (i:=1) J Zi,trivial⟩ J hw trivial) fun _ _=>Zc<|Za<|Zq<|Yu (.inl J) hsc _ _ (fun a w hs=>Ni hs results73 (Xg (i:=3) J J Oy Yz J)) J trivial J (Xe 1 J J J (by rw [Int.natAbs_neg]<;>rfl) Zm)
theorem Zmr(v w:Value)(x y:Int)(hx:bl x.natAbs≤3000000000:=by omega)(hy:bl y.natAbs≤3000000000:=by omega):Cal prog 37 #[.agg #[.bool (decide (x<0)),v],.agg #[.bool (decide (y<0)),w]] [Mw v x.natAbs,Mw w y.natAbs] true (G:=Value) (fun r=>True) (fun r=> .agg #[.bool (decide (x+y<0)),r]) (fun r=>[Mw r (x+y).natAbs]):=by
 refine Yi func37 J ntmps37 J K2 fun w0 sc hw hsc=>?_
 simp only [Zu,Zt]
 have hb:=Ky x y
 refine Zb<|Ze<|tt (Yw (i:=3) J J J J J hw) fun b _=>tt (Yw (i:=4) J J J J J hw) fun b_2 _=>tt (Zy (i:=5) J J zeroValue48 J J hw) fun b_3 _=>Zc<|Za<|Zb<|Zb<|Ze<|dt (Yv J J Es J zT4 J J)<|dt (Qw (i:=3) J J J iA4 J)<|dt (Yv J J Es J zT4 J J)<|dt (Qw (i:=4) J J J iA4 J)<|dt (d_eqb J J J uT4)<|Zc<|Za<|Mf J (fun h189=>?_) (fun h189=>?_)
 ·replace h189:=Yf7 h189
  refine Zb<|Qs (fun _=>False) [(0,0),(1,0),(2,0),(3,0),(4,0),(5,0),(6,1),(7,1),(8,3)] ?_ ?_
  ·kernel_rfl
  exact Zs J J (Yt (Yv J J Es J zT4 J J))<|Zs J J (Yt (Qw (i:=3) J J J iA4 J))<|Zs J J (Yt (Yv J J Es J Zck J J))<|Zs J J (Yt (Qw (i:=3) J J J Zc8 J))<|Zs J J (Yt (Yv J J Es J Zck J J))<|Zs J J (Yt (Qw (i:=4) J J J Zc8 J))<|Xb J (Zh (n:=6) (Zs7 _ _ _ _ (by omega) (by omega)) J J J K2 call75 (Zd 1 J J J (Zd 2 J J J Zg)) J hw) fun v _=>Xb J (Zh (n:=6) (Zam _ _ _ (x+y) (Zhd (Qb x) (h189▸Qb y)).symm (Zuz (Qb x) (h189▸Qb y)) (by rw [←Zhd (Qb x) (h189▸Qb y)];omega)) J J J K2 call78 (Zd 6 J J J Zg) J hw) fun _ _=>Po J (Zl (i:=5) J J J J J J Yz J J ⟨Zf J,Zn (i:=6) J Zi,trivial⟩ J hw trivial) fun _ _=>Ob<|Za<|Zq<|Yn<|Yu (.inl J) hsc _ _ (fun a w hs=>Ni hs results37 (Xg (i:=5) J J Oy Yz J)) J trivial J (Xe 6 J J J (by rw [Zhd (Qb x) (h189▸Qb y)]<;>rfl) Zm)
 ·have hne:decide (x<0)≠decide (y<0):=by simpa using h189
  refine Zk<|Za<|Zb<|Zb<|Ze<|dt (Yv J J Es J Zck J J)<|dt (Qw (i:=3) J J J Zc8 J)<|dt (Yv J J Es J Zck J J)<|dt (Qw (i:=4) J J J Zc8 J)<|tt (Zh (n:=6) (Zoa _ _ _ _) J J J K2 call90 (Zd 1 J J J (Zd 2 J J J Zg)) J hw) fun _ _=>dt (Lg J J J)<|Zc<|Za<|Zr J (fun h192=>?_) (fun h192=>?_)
  ·have hge:y.natAbs≤x.natAbs:=Zwq.1 h192
   refine Zb<|Qs (fun _=>False) [(0,0),(1,0),(2,0),(3,0),(4,0),(5,0),(6,1),(7,1),(8,3)] ?_ ?_
   ·kernel_rfl
   exact Zs J J (Yt (Yv J J Es J zT4 J J))<|Zs J J (Yt (Qw (i:=3) J J J iA4 J))<|Zs J J (Yt (Yv J J Es J Zck J J))<|Zs J J (Yt (Qw (i:=3) J J J Zc8 J))<|Zs J J (Yt (Yv J J Es J Zck J J))<|Zs J J (Yt (Qw (i:=4) J J J Zc8 J))<|Xb J (Zh (n:=7) (Zob _ _ _ _ hge) J J J K2 call91 (Zd 1 J J J (Zd 2 J J J Zg)) J hw) fun v_2 _=>Xb J (Zh (n:=7) (Zam _ _ _ (x+y) (Zbn (Qb x) (Qb y) hne hge).symm (Ziw (Qb x) (Qb y) hne hge) (by have:=Ny (Nat.sub_le x.natAbs y.natAbs);omega)) J J J K2 call78 (Zd 7 J J J Zg) J hw) fun _ _=>Po J (Zl (i:=5) J J J J J J Yz J J ⟨Zf J,Zn (i:=7) J Zi,trivial⟩ J hw trivial) fun _ _=>Ob<|Za<|Zq<|Yn<|Yu (.inl J) hsc _ _ (fun a w hs=>Ni hs results37 (Xg (i:=5) J J Oy Yz J)) J trivial J (Xe 7 J J J (by rw [Zbn (Qb x) (Qb y) hne hge]<;>rfl) Zm)
  ·have hge:x.natAbs≤y.natAbs:=by have:=mt Zwq.2 h192;omega
   refine Zk<|Za<|Zb<|Qs (fun _=>False) [(0,0),(1,0),(2,0),(3,0),(4,0),(5,0),(6,1),(7,1),(8,3)] ?_ ?_
   ·kernel_rfl
   exact Zs J J (Yt (Yv J J Es J zT4 J J))<|Zs J J (Yt (Qw (i:=4) J J J iA4 J))<|Zs J J (Yt (Yv J J Es J Zck J J))<|Zs J J (Yt (Qw (i:=4) J J J Zc8 J))<|Zs J J (Yt (Yv J J Es J Zck J J))<|Zs J J (Yt (Qw (i:=3) J J J Zc8 J))<|Xb J (Zh (n:=8) (Zob _ _ _ _ hge) J J J K2 call91 (Zd 2 J J J (Zd 1 J J J Zg)) J hw) fun v_3 _=>Xb J (Zh (n:=8) (Zam _ _ _ (x+y) (by rw [Int.add_comm x];exact(Zbn (Qb y) (Qb x) (Ne.symm hne) hge).symm) (by rw [Int.add_comm x];exact Ziw (Qb y) (Qb x) (Ne.symm hne) hge) (by have:=Ny (Nat.sub_le y.natAbs x.natAbs);omega)) J J J K2 call78 (Zd 8 J J J Zg) J hw) fun _ _=>Po J (Zl (i:=5) J J J J J J Yz J J ⟨Zf J,Zn (i:=8) J Zi,trivial⟩ J hw trivial) fun _ _=>Ob<|Za<|Zq<|Yu (.inl J) hsc _ _ (fun a w hs=>Ni hs results37 (Xg (i:=5) J J Oy Yz J)) J trivial J (Xe 8 J J J (by rw [Int.add_comm x,Zbn (Qb y) (Qb x) (Ne.symm hne) hge]<;>rfl) Zm)
theorem Zgf(v w:Value)(x y:Int)(hx:bl x.natAbs≤3000000000:=by omega)(hy:bl y.natAbs≤3000000000:=by omega):Cal prog 87 #[.agg #[.bool (decide (x<0)),v],.agg #[.bool (decide (y<0)),w]] [Mw v x.natAbs,Mw w y.natAbs] true (G:=Value) (fun r=>True) (fun r=> .agg #[.bool (decide (x-y<0)),r]) (fun r=>[Mw r (x-y).natAbs]):=by
 refine Yi func87 J ntmps87 J K2 fun w0 sc hw hsc=>?_
 simp only [Zu,Zt]
 have hb:=Cj x y
 have hn:=Zlh y
 refine Zb<|Ze<|tt (Yw (i:=3) J J J J J hw) fun b _=>tt (Yw (i:=4) J J J J J hw) fun b_2 _=>tt (Zy (i:=5) J J zeroValue48 J J hw) fun b_3 _=>Zc<|Za<|Zb<|Qs (fun _=>False) [(0,0),(1,0),(2,1),(3,1),(4,3)] ?_ ?_
 ·kernel_rfl
 exact Zs J J (Yt (Yb (i:=3) J J J Oy Yz J J))<|Zs J J (Yt (Yb (i:=4) J J J Oy Yz J J))<|Xb J (Zh (n:=6) (Zqu _ _ (by omega)) J J J K1 call73 (Zd 2 J J J Zg) J hw) fun v _=>Xb J (Zh (n:=7) (Zmr _ _ _ _) J J J K2 call37 (Zd 1 J J J (Zd 6 J J J Zg)) J hw) fun v_2 _=>Po J (Zl (i:=5) J J J J J J Yz J J ⟨Zf J,Zn (i:=7) J Zi,trivial⟩ J hw trivial) fun _ _=>Ob<|Za<|Zq<|Yu (.inl J) hsc _ _ (fun a w hs=>Ni hs results87 (Xg (i:=5) J J Oy Yz J)) (by rw [Int.sub_eq_add_neg]<;>rfl) trivial J (Xe 7 J J J (by rw [Int.sub_eq_add_neg]<;>rfl) Zm)
theorem Kc(v w:Value)(x y:Int)(hx:bl x.natAbs≤1000000000:=by omega)(hy:bl y.natAbs≤1000000000:=by omega):Cal prog 69 #[.agg #[.bool (decide (x<0)),v],.agg #[.bool (decide (y<0)),w]] [Mw v x.natAbs,Mw w y.natAbs] true (G:=Value) (fun r=>True) (fun r=> .agg #[.bool (decide (x*y<0)),r]) (fun r=>[Mw r (x*y).natAbs]):=by
 refine Yi func69 J ntmps69 J K2 fun w0 sc hw hsc=>?_
 simp only [Zu,Zt]
 have hb:=Qk x y
 refine Zb<|Ze<|tt (Yw (i:=3) J J J J J hw) fun b _=>tt (Yw (i:=4) J J J J J hw) fun b_2 _=>tt (Zy (i:=5) J J zeroValue48 J J hw) fun b_3 _=>Zc<|Za<|Zb<|Qs (fun _=>False) [(0,0),(1,0),(2,0),(3,0),(4,0),(5,0),(6,0),(7,0),(8,0),(9,1),(10,1),(11,3)] ?_ ?_
 ·kernel_rfl
 exact Zs J J (Yt (Yv J J Es J zT4 J J))<|Zs J J (Yt (Qw (i:=3) J J J iA4 J))<|Zs J J (Yt (Yv J J Es J zT4 J J))<|Zs J J (Yt (Qw (i:=4) J J J iA4 J))<|Zs J J (Yt (Zna J J J uT4))<|Zs J J (Yt (Yv J J Es J Zck J J))<|Zs J J (Yt (Qw (i:=3) J J J Zc8 J))<|Zs J J (Yt (Yv J J Es J Zck J J))<|Zs J J (Yt (Qw (i:=4) J J J Zc8 J))<|Xb J (Zh (n:=6) (Zu7 _ _ _ _ (by omega) (by omega)) J J J K2 call123 (Zd 1 J J J (Zd 2 J J J Zg)) J hw) fun v _=>Xb J (Zh (n:=6) (Zam _ _ _ (x*y) (Int.natAbs_mul x y).symm (Zzw (Qb x) (Qb y)) (by rw [←Int.natAbs_mul];omega)) J J J K2 call78 (Zd 6 J J J Zg) J hw) fun _ _=>Po J (Zl (i:=5) J J J J J J Yz J J ⟨Zf J,Zn (i:=6) J Zi,trivial⟩ J hw trivial) fun _ _=>Ob<|Za<|Zq<|Yu (.inl J) hsc _ _ (fun a w hs=>Ni hs results69 (Xg (i:=5) J J Oy Yz J)) J trivial J (Xe 6 J J J (by rw [Int.natAbs_mul]<;>rfl) Zm)
theorem Dw(v:Value)(x:Int)(hx:bl x.natAbs≤3000000000:=by omega):On prog 72 #[.agg #[.bool (decide (x<0)),v]] [Mw v x.natAbs] (.int .i64 x.sign):=by
 refine Yi func72 J ntmps72 J K1 fun w0 sc hw hsc=>?_
 simp only [Zu,Zt]
 have hl9:=Hs x.natAbs
 refine Zb<|Ze<|tt (Yw (i:=2) J J J J J hw) fun b _=>Zp J<|Zc<|Za<|Zb<|Zb<|Ze<|dt (Yv J J Es J Zck J J)<|dt (Qw (i:=2) J J J Zc8 J)<|dt (Yf J J (i:=1) J Zi Oo)<|dt (Pj J J J)<|Zc<|Za<|Zr J (fun h206=>?_) (fun h206=>?_)
 ·exact Zb<|Ze<|Zp J<|Zc<|Za<|Zq<|Yn<|xU hsc results72 J J (sign9 h206)
 ·refine Zk<|Za<|Zb<|Zb<|Ze<|dt (Yv J J Es J zT4 J J)<|dt (Qw (i:=2) J J J iA4 J)<|Zc<|Za<|Mf J (fun h209=>?_) (fun h209=>?_)
  ·exact Zb<|Ze<|Zp J<|Zc<|Za<|Zq<|Yn<|xU hsc results72 J J (by rw [Int.sign_eq_neg_one_of_neg (by simpa using h209)])
  ·exact Zk<|Za<|Zb<|Ze<|Zp J<|Zc<|Za<|Zq<|xU hsc results72 J J (by have h3:=Zkt h206;have h4:¬x<0:=(by simpa using h209);rw [Int.sign_eq_one_of_pos (by omega)])
theorem Zxr(v w:Value)(x y:Int)(hx:bl x.natAbs≤2000000000)(hy:bl y.natAbs≤2000000000):On prog 68 #[.agg #[.bool (decide (x<0)),v],.agg #[.bool (decide (y<0)),w]] [Mw v x.natAbs,Mw w y.natAbs] (.int .i64 (x-y).sign):=by
 refine Yi func68 J ntmps68 J K2 fun w0 sc hw hsc=>?_
 simp only [Zu,Zt]
 have hb:=Cj x y
 exact Zb<|Ze<|tt (Yw (i:=3) J J J J J hw) fun b _=>tt (Yw (i:=4) J J J J J hw) fun b_2 _=>Zp J<|Zc<|Za<|Zb<|Ze<|dt (Yb (i:=3) J J J Oy Yz J J)<|dt (Yb (i:=4) J J J Oy Yz J J)<|tt (Zh (n:=5) (Zgf _ _ _ _) J J J K2 call87 (Zd 1 J J J (Zd 2 J J J Zg)) J hw) fun v _=>tt (Zh (n:=5) (Dw _ _) J J J K1 call72 (Zd 5 J J J Zg) J hw) fun _ _=>Zp J<|Zc<|Za<|Zq<|xU hsc results68 J J J
theorem Zgg(x:Int)(hx:inI x:=by exact⟨by omega,by omega⟩):Cal prog 34 #[.int .i64 x] [] true (G:=Value) (fun r=>True) (fun r=> .agg #[.bool (decide (x<0)),r]) (fun r=>[Mw r (x).natAbs]):=by
 refine Yi func34 J ntmps34 J trivial fun w0 sc hw hsc=>?_
 simp only [Zu,Zt]
 have hxa:=hx.1
 have hxb:=hx.2
 refine Yo (Np 60 1 3 Ht)<|Yo (Pg 60 J J pN)<|Zb<|Ze<|tt (Zy (i:=1) J J zeroValue48 J J hw) fun b _=>Zc<|Za<|Zb<|Zb<|Ze<|mv J<|dt (Lg J J J)<|Zc<|Za<|Zr J (fun h147=>?_) (fun h147=>?_)
 ·obtain⟨m,rfl⟩:∃m:Nat,x=(m:Int):=⟨x.natAbs,by omega⟩
  have hbm:bl m≤64:=(Mo 64 m).2 (by omega)
  exact Zb<|Ze<|mv J<|dt (Zra (n:=1000000000) J J J (by omega))<|mv J<|dt (Zkm (n:=1000000000) J J J (by omega) (by omega))<|dt (Zra (n:=1000000000) J J J (by omega))<|mv J<|dt (Zkm (n:=1000000000) J J J (by omega) (by omega))<|dt (Zkm (n:=1000000000) J J J (by omega) (by omega))<|tt (Pn (i:=70) (ivs:=[(0,_),(1,_),(2,_)]) (enc:=Ht) [m%1000000000,m/1000000000%1000000000,m/1000000000/1000000000] J J K6 Oo ti3 J J J J J pN.cells J J hw) fun v _=>tt (Zh (n:=1) (Ho _ _) J J J K1 call77 (Qt 70 J J pN Zg) J hw) fun _ _=>Pp (Zay 70 J J pN)<|Pp (Zep 70 (Zp6 (by omega)) J J)<|tt (Zh (n:=1) (Zam _ _ _ ((m:Int)) (by omega) (by simp [sg]) (by omega)) J J J K2 call78 (Qt 70 J J pN Zg) J hw) fun _ _=>tt (Zl (i:=1) J J J J J J Yz J J ⟨Zf J,Zn (i:=70) J (Xa pN),trivial⟩ J hw trivial) fun _ _=>Zc<|Za<|Zq<|Yn<|Yu (.inl J) hsc _ _ (fun a w hs=>Ni hs results34 (Xg (i:=1) J J Oy Yz J)) J trivial J (Nj 70 J J pN (by rw [Int.natAbs_natCast]<;>rfl) Zm)
 ·obtain⟨m,rfl⟩:∃m:Nat,x=-(m:Int):=⟨x.natAbs,by omega⟩
  have hbm:bl m≤64:=(Mo 64 m).2 (by omega)
  refine Zk<|Za<|Zb<|Ze<|mv J<|dt (Yba (n:=1000000000) J J J (by omega))<|dt (Ybd J J (by omega))<|mv J<|dt (Ztl (n:=1000000000) J J J (by omega) (by omega))<|dt (Yba (n:=1000000000) J J J (by omega))<|dt (Ybd J J (by omega))<|mv J<|dt (Ztl (n:=1000000000) J J J (by omega) (by omega))<|dt (Ztl (n:=1000000000) J J J (by omega) (by omega))<|dt (Ybd J J (by omega))<|tt (Pn (i:=70) (ivs:=[(0,_),(1,_),(2,_)]) (enc:=Ht) [m%1000000000,m/1000000000%1000000000,m/1000000000/1000000000] J J K6 Oo ti3 J J J J J pN.cells J J hw) fun v_2 _=>tt (Zh (n:=1) (Ho _ _) J J J K1 call77 (Qt 70 J J pN Zg) J hw) fun _ _=>Pp (Zay 70 J J pN)<|Pp (Zep 70 (Zp6 (by omega)) J J)<|Pp (Zep 70 (ys:=dg 1000000000 (-(m:Int)).natAbs) (by rw [Int.natAbs_neg,Int.natAbs_natCast]) J J)<|Pp (Pg 70 J J pN)<|tt (Zh (n:=1) (Zam _ _ _ ((-(m:Int))) J (by simp [sg]) (by rw [Int.natAbs_neg,Int.natAbs_natCast];omega)) J J J K2 call78 (Zd 70 J J J Zg) J hw) fun _ _=>dt (Oq (ivs:=[]) J trivial (fun a w hs=>Zyu)) ?_
  exact tt (Zh (n:=2) (Zgf _ _ (-(m:Int)) 0 (by rw [Int.natAbs_neg,Int.natAbs_natCast];omega) (by decide)) J J J K2 call87 (Zd 70 J J J (Zd 60 J J J Zg)) J hw) fun v_3 _=>tt (Zl (i:=1) J J J J J J Yz J J ⟨Zf J,Zn (i:=2) J Zi,trivial⟩ J hw trivial) fun _ _=>Zc<|Za<|Zq<|Yu (.inl J) hsc _ _ (fun a w hs=>Ni hs results34 (Xg (i:=1) J J Oy Yz J)) (by rw [Int.sub_zero]<;>rfl) trivial J (Xe 2 J J J (by rw [Int.sub_zero]<;>rfl) Zm)
theorem Zs8(x:Int)(hx:bl x.natAbs≤2000000000:=by omega):Cal prog 30 #[wv x] [] true (G:=Value) (fun r=>True) (fun r=> .agg #[.bool (decide (x<0)),r]) (fun r=>[Mw r (x).natAbs]):=by
 refine Yi func30 J ntmps30 J trivial fun w0 sc hw hsc=>?_
 simp only [Zu,Zt]
 obtain⟨n,hn⟩:∃n,n=x.natAbs:=⟨_,rfl⟩
 have hl8:=Zfg n
 have hxn:bl n≤2000000000:=by rw [hn];exact hx
 have hsz:(Xp x.natAbs).size=(dg 256 n).length:=by rw [←hn];exact Hj n
 refine Zb<|Ze<|tt (Yw (i:=1) J J J J J hw) fun b _=>tt (Zy (i:=2) J J zeroValue48 J J hw) fun b_2 _=>Zc<|Za<|Zb<|Ze<|Zp J<|Zc<|Za<|Zb<|Zb<|Ze<|Zp J<|Zc<|Za<|Zo<|Yo (Np 70 1 3 Ht)<|Yo (Pg 70 J J pN)<|Oc [(1,_),(2,_)] [(0,_),(1,_),(2,_)] (fun(q:Nat×Value)=>[(4,.int .i64 (q.1:Int)),(3,q.2)]) (fun(q:Nat×Value)=>[(70,Mw q.2 (n/256^((dg 256 n).length-q.1)))]) (fun(q:Nat×Value)=>q.1≤(dg 256 n).length) (fun(q:Nat×Value)=>(dg 256 n).length-q.1) (0,.slice none 0 0) (by first | omega | (dsimp only<;>omega)) K4 ⟨by rw [Zym];rfl,rfl,rfl,rfl,trivial⟩ ?_
 rintro⟨i,vd⟩ hi
 dsimp only at hi
 simp only [CA,NA]
 have hnb:bl (n/256^((dg 256 n).length-i))≤bl n:=Ny (Nat.div_le_self _ _)
 refine Zb<|Zb<|Ze<|mv J<|dt (Yv J J Dl J zT9 J J)<|dt (Qw (i:=1) J J J iA9 J)<|dt (Cz J J uT9)<|dt (Xv J J J)<|Zc<|Za<|Zr J (fun h157=>?_) (fun h157=>?_)
 ·have hby:((Xp x.natAbs).data.toList.getD i 0).toNat=n/256^((dg 256 n).length-1-i)%256:=by rw [←hn];exact Zlf n i (by omega)
  refine Zk<|Za<|Zb<|Zo<|Fs (fun _=>False) [10]<|Ya (n:=5) [(0,0),(2,0),(3,0),(4,0),(5,0),(6,0)]<|Zs J J (Yt (Yd J J))<|Zs J J (Yt (Yv J J Dl J zT9 J J))<|Zs J J (Yt (Qw (i:=1) J J J iA9 J))<|Zs J J (Yt (Yd J J))<|Zs J J (Yt (Zsb (i:=i) J J J uT9 J))<|Zs J J (Yt (Zb9 J J uT5 uT3 ⟨by omega,by rw [hby];omega⟩))<|Yl<|Pb (n:=4) 1 7 ?_ ?_
  ·exact Yj J (Zh (n:=73) (Zi0 _ _ 256) J J J K2 call76 (Zd 70 J J J Zg) J hw) fun v _=>Ya (n:=2) [(7,1),(8,1)]<|Xb J (Pn (i:=72) (ivs:=[(0,_)]) (enc:=Ht) [((Xp x.natAbs).data.toList.getD i 0).toNat] J J K2 Oo ti3 J J J J J pN.cells J J hw) fun v_2 _=>Xb J (Zh (n:=2) (Ho _ _) J J J K1 call77 (Qt 72 J J pN Zg) J hw) fun _ _=>Yl<|Zw8 (Zay 72 J J pN)<|Zw8 (Zep 72 (Zy4 Nh (by rw [hby];omega)) J J)<|Ya (n:=0) [(9,1),(10,3)]<|Xb J (Zh (n:=74) (Zs7 _ _ _ _ (by have:=Zlg (y:=(n/256^((dg 256 n).length-i))) (n:=256) (by omega);omega) (by rw [hby];exact Nat.le_trans (Zjf _) (by omega))) J J J K2 call75 (Zd 73 J J J (Qt 72 J J pN Zg)) J hw) fun v_3 _=>Po J (Od (Mb J J) J) fun _ _=>Yl<|Yk<|Qn<|Za<|Ze<|mv J<|dt (Ys J J J)<|Zp J<|Zc<|Qu (Pu 74 70 J J J)<|Xk (i+1,_) (by first | omega | (dsimp only<;>omega)) (by first | omega | (dsimp only<;>omega)) K4 ⟨by rw [hby,Zm5 (by omega)];rfl,rfl,rfl,rfl,trivial⟩
  ·exact Yj J (Pn (i:=72) (ivs:=[(0,_)]) (enc:=Ht) [((Xp x.natAbs).data.toList.getD i 0).toNat] J J K2 Oo ti3 J J J J J pN.cells J J hw) fun v_4 _=>Ya (n:=2) [(1,1),(8,1)]<|Xb J (Zh (n:=73) (Zi0 _ _ 256) J J J K2 call76 (Zd 70 J J J Zg) J hw) fun v_5 _=>Xb J (Zh (n:=2) (Ho _ _) J J J K1 call77 (Qt 72 J J pN Zg) J hw) fun _ _=>Yl<|Zw8 (Zay 72 J J pN)<|Zw8 (Zep 72 (Zy4 Nh (by rw [hby];omega)) J J)<|Ya (n:=0) [(9,1),(10,3)]<|Xb J (Zh (n:=74) (Zs7 _ _ _ _ (by have:=Zlg (y:=(n/256^((dg 256 n).length-i))) (n:=256) (by omega);omega) (by rw [hby];exact Nat.le_trans (Zjf _) (by omega))) J J J K2 call75 (Zd 73 J J J (Qt 72 J J pN Zg)) J hw) fun v_6 _=>Po J (Od (Mb J J) J) fun _ _=>Yl<|Yk<|Qn<|Za<|Ze<|mv J<|dt (Ys J J J)<|Zp J<|Zc<|Qu (Pu 74 70 J J J)<|Xk (i+1,_) (by first | omega | (dsimp only<;>omega)) (by first | omega | (dsimp only<;>omega)) K4 ⟨by rw [hby,Zm5 (by omega)];rfl,rfl,rfl,rfl,trivial⟩
 ·refine Yx<|Zx<|Zx<|Pd<|Za<|Zb ?_
  obtain rfl:i=(dg 256 n).length:=by omega
  rw [Nat.sub_self,Nat.pow_zero,Nat.div_one]
  exact Ze<|dt (Yv J J Dl J zT4 J J)<|dt (Qw (i:=1) J J J iA4 J)<|mv J<|tt (Zh (n:=2) (Zam _ _ _ (x) hn (Qb x) (by rw [hn];omega)) J J J K2 call78 (Zd 70 J J J Zg) J hw) fun _ _=>tt (Zl (i:=2) J J J J J J Yz J J ⟨Zf J,Zn (i:=70) J Zi,trivial⟩ J hw trivial) fun _ _=>Zc<|Za<|Zq<|Yu (.inl J) hsc _ _ (fun a w hs=>Ni hs results30 (Xg (i:=2) J J Oy Yz J)) J trivial J (Xe 70 J J J (by rw [hn]<;>rfl) Zm)
theorem r_to(v:Value)(x:Int)(hx:bl x.natAbs≤4000000000:=by omega):On prog 53 #[.agg #[.bool (decide (x<0)),v]] [Mw v x.natAbs] (wv x):=by
 refine Yi func53 J ntmps53 J K1 fun w0 sc hw hsc=>?_
 simp only [Zu,Zt]
 obtain⟨n,hn⟩:∃n,n=x.natAbs:=⟨_,rfl⟩
 have hxn:bl n≤4000000000:=by rw [hn];exact hx
 have hlx:=Hs x.natAbs
 refine Zb<|Ze<|tt (Yw (i:=2) J J J J J hw) fun b _=>tt (Zy (i:=3) J J zeroValue31 J J hw) fun b_2 _=>Zc<|Za<|Zb<|Ze<|Zp J<|Zc<|Za<|Zb<|Ze<|dt (Yv J J Es J Zck J J)<|dt (Qw (i:=2) J J J Zc8 J)<|Pp (Np 81 1 3 Ht)<|tt (Hd (i:=81) (j:=1) (by_:=8) J J J J J J (by decide) J Zi Oo ti3 J pN J J J (by simp;omega) (by decide) J hw) fun v _=>Zp J<|Zc<|Za<|Zb<|Zo<|Yo (Np 80 1 5 Zl2)<|Oc [(1,_),(2,_)] [(0,_),(1,_),(2,_),(3,_)] (fun(q:Nat×List Nat×Value×Value)=>[(3,q.2.2.1),(4,q.2.2.2)]) (fun(q:Nat×List Nat×Value×Value)=>[(80,Ld 1 5 Zl2 q.2.2.1 q.2.1),(81,Ld 1 3 Ht q.2.2.2 (dg 1000000000 q.1))]) (fun(q:Nat×List Nat×Value×Value)=>(Qm 256 q.2.1+256^q.2.1.length*q.1=n)∧(∀d∈q.2.1,d<256)∧(q.2.1.length=0∨256^(q.2.1.length-1)≤n)∧(bl q.1≤bl n)) (fun(q:Nat×List Nat×Value×Value)=>q.1) (n,[],.slice none 0 0,_) ⟨by simp [Qm],by simp,.inl rfl,Nat.le_refl _⟩ K4 ⟨J,by rw [hn];rfl,rfl,rfl,rfl,rfl,trivial⟩ ?_
 rintro⟨m,bs,vb,vd⟩ ⟨hv,hba,hge,hmn⟩
 dsimp only at hv hba hge hmn
 simp only [CA,NA]
 have hlm:=Hs m
 refine Zb<|Zb<|Ze<|mv J<|dt (Yf J J (i:=81) J (Xa pN) Oo)<|dt (Pw J J J)<|Zc<|Za<|Zr J (fun h167=>?_) (fun h167=>?_)
 ·have hm0:0<m:=Zkt (by omega)
  have hgn:=to_ge hv hm0
  have hbl:=to_len hgn
  refine Zk<|Za<|Zo<|Zb<|Ze<|Zp J<|Zc<|Za<|Zb<|Zb<|Ze<|mv J<|dt (Yf J J (i:=81) J (Xa pN) Oo)<|dt (Qd J J J)<|Zp J<|Zc<|Za<|Zo<|Oc [(1,_),(2,_),(3,_),(4,_)] [(0,_),(80,_),(1,_),(2,_),(3,_)] (fun(q:Nat×List Nat×Nat)=>[(6,.int .i64 ((q.1:Int)-1)),(5,.int .i64 (q.2.2:Int))]) (fun(q:Nat×List Nat×Nat)=>[(81,Ld 1 3 Ht vd q.2.1)]) (fun(q:Nat×List Nat×Nat)=>(q.1≤(dg 1000000000 m).length)∧(q.2.1.length=(dg 1000000000 m).length)∧(∀d∈q.2.1,d<1000000000)∧(∀j,j<q.1→q.2.1.getD j 0=(dg 1000000000 m).getD j 0)∧(q.2.2<256)∧(Qm 1000000000 (q.2.1.drop q.1)*256+q.2.2=Qm 1000000000 ((dg 1000000000 m).drop q.1))) (fun(q:Nat×List Nat×Nat)=>q.1) ((dg 1000000000 m).length,dg 1000000000 m,0) ⟨Nat.le_refl _,J,Lf Nh m,fun j _=>J,by first | omega | (dsimp only<;>omega),by simp [List.drop_length,Qm]⟩ K6 K6 ?_
  rintro⟨k,p,r⟩ ⟨hk,hpl,hpa,hpk,hr,hpv⟩
  dsimp only at hk hpl hpa hpk hr hpv
  simp only [CA,NA]
  have hda:=Pk Hm (Lf Nh m) (k-1)
  refine Zb<|Zb<|Ze<|mv J<|dt (Lg J J J)<|Zc<|Za<|Zr J (fun h169=>?_) (fun h169=>?_)
  ·exact Zk<|Za<|Zb<|Zo<|Zb<|Ze<|mv J<|dt (n_mul (n:=1000000000) J J J (by omega))<|mv J<|mv J<|dt (Xc (ii:=81) (i:=(k-1)) J J J J (Xa pN) Oo zT3)<|dt (Xr (ii:=81) 0 J J J (Xa pN) pN)<|dt (Zgp J J J (by have:=Pk Hm hpa (k-1);omega))<|Zp J<|Zc<|Za<|Zb<|Ze<|mv J<|mv J<|mv J<|dt (Zkm (n:=256) J J J (by have:=Pk Hm hpa (k-1);omega) (by omega))<|dt (Xc (ii:=81) (i:=(k-1)) J J J J (Xa pN) Oo zT3)<|tt (Im (i:=81) (enc:=Ht) _ J J J J J J pN J hw) fun _ _=>Zc<|Za<|Ze<|mv J<|dt (Zra (n:=256) J J J (by omega))<|Zp J<|Zc<|Qn<|Za<|Ze<|mv J<|dt (Qd J J J)<|Zp J<|Zc<|Xk (k-1,_,_) ⟨by first | omega | (dsimp only<;>omega),by simp [hpl],Kz hpa _ _ (Zy5 hr (Pk Hm hpa _)),fun j hj=>by dsimp only at hj ⊢;rw [Mt _ _ _ _ _ (by omega),if_neg (by omega)];exact hpk j (by omega),Nat.mod_lt _ (by omega),by dsimp only;rw [hpk (k-1) (by omega)];exact Ydj (by omega) (by omega) (by omega) hpv⟩ (by first | omega | (dsimp only<;>omega)) ⟨by rw [show(((k-1:Nat):Int)-1)=(k:Int)-1-1 by omega];rfl,rfl,rfl,rfl,rfl,rfl,trivial⟩ K6
  ·refine Yx<|Zx<|Zx<|Pd<|Za<|Zb ?_
   obtain rfl:k=0:=by omega
   rw [List.drop_zero,List.drop_zero,Ka Nh]at hpv
   have hmr:m%256=r%256:=by omega
   have hdm:dg 1000000000 (m/256)=tz p:=by rw [←Ix Nh p hpa];congr 1;omega
   exact Ze<|mv J<|mv J<|dt (Zey J J uT3 uT5)<|tt (Pn (i:=4) (ivs:=[(0,_)]) (enc:=Zl2) [r%256] J J K2 Zij ti5 J J J J J pB.cells J J hw) fun v_2 _=>tt (Hd (i:=80) (j:=4) (by_:=1) J J J J J J (by decide) J (Xa pB) Zij ti5 J pB J J J (by simp;omega) (by decide) J hw) fun v_3 _=>Zp J<|Zc<|Za<|Ze<|mv J<|tt (Zh (n:=4) (Ho _ _) J J J K1 call77 (Qt 81 J J pN Zg) J hw) fun _ _=>Pp (Zay 81 J J pN)<|Zp J<|Zc<|Qn<|Xk (m/256,bs ++ [m%256],_,_) ⟨Ydk hv,Zll hba (Nat.mod_lt _ (by omega)),.inr (by simpa using hgn),Nat.le_trans (Ny (Nat.div_le_self _ _)) hmn⟩ (Nat.div_lt_self hm0 (by omega)) K4 ⟨by rw [hmr];rfl,by rw [hdm];rfl,rfl,rfl,rfl,rfl,trivial⟩
 ·have hm0:m=0:=(Nn Nh m).1 (by omega)
  have hbs:bs=dg 256 n:=Zuj (by omega) hba (by rw [hm0,Nat.mul_zero,Nat.add_zero]at hv;exact hv) hge
  have hlb:bs.length≤4000000000:=by rw [hbs,Zfg];omega
  refine Yx<|Zx<|Zx<|Pd<|Za<|Zb<|Ze<|Zp J<|Zc<|Za<|Zb<|Zb<|Ze<|mv J<|dt (Yf J J (i:=80) J (Xa pB) Zij)<|dt (Qd J J J)<|Zp J<|Zc<|Za<|Zo<|Yo (Np 82 1 5 Zl2)<|Oc [(1,_),(2,_),(3,_)] [(0,_),(80,_),(81,_),(1,_),(2,_),(3,_)] (fun(q:Nat×Value)=>[(8,.int .i64 ((q.1:Int)-1)),(7,q.2)]) (fun(q:Nat×Value)=>[(82,Ld 1 5 Zl2 q.2 (bs.drop q.1).reverse)]) (fun(q:Nat×Value)=>q.1≤bs.length) (fun(q:Nat×Value)=>q.1) (bs.length,.slice none 0 0) (Nat.le_refl _) K5 ⟨by rw [List.drop_length];rfl,rfl,rfl,rfl,rfl,rfl,rfl,trivial⟩ ?_
  rintro⟨k,vo⟩ hk
  dsimp only at hk
  simp only [CA,NA]
  have hdl:(bs.drop k).length=bs.length-k:=List.length_drop
  refine Zb<|Zb<|Ze<|mv J<|dt (Lg J J J)<|Zc<|Za<|Zr J (fun h178=>?_) (fun h178=>?_)
  ·exact Zk<|Za<|Zb<|Zo<|Ze<|mv J<|mv J<|mv J<|dt (Xc (ii:=80) (i:=(k-1)) J J J J (Xa pB) Zij sizeOf5)<|dt (Xr (ii:=80) 0 J J J (Xa pB) pB)<|tt (Pn (i:=5) (ivs:=[(0,_)]) (enc:=Zl2) [bs.getD (k-1) 0] J J K2 Zij ti5 J J J J J pB.cells J J hw) fun v_4 _=>tt (Hd (i:=82) (j:=5) (by_:=1) J J J J J J (by decide) J (Xa pB) Zij ti5 J pB J J J (by simp;omega) (by decide) J hw) fun v_5 _=>Zp J<|Zc<|Qn<|Za<|Ze<|mv J<|dt (Qd J J J)<|Zp J<|Zc<|Xk (k-1,_) (by first | omega | (dsimp only<;>omega)) (by first | omega | (dsimp only<;>omega)) ⟨by rw [show(((k-1:Nat):Int)-1)=(k:Int)-1-1 by omega];rfl,rfl,rfl,rfl,rfl,trivial⟩ ⟨by rw [←Ych (by omega) hk];rfl,rfl,rfl,rfl,rfl,rfl,rfl,trivial⟩
  ·refine Yx<|Zx<|Zx<|Pd<|Za<|Zb<|Ze<|dt (Yv J J Es J zT4 J J)<|dt (Qw (i:=2) J J J iA4 J)<|mv J<|dt (d_b2s J J (i:=82) J (Xa pB) Zij uT9 uT5)<|dt (Oq (ivs:=[(0,_),(1,_)]) J K4 (fun a w hs=>Zt9 ((Zf J) a w hs) ((Zf J) a w hs)))<|tt (Zl (i:=3) J J J J J J Ye J J ⟨Zf J,Zf J,trivial⟩ J hw trivial) fun _ _=>Zc<|Za<|Zq ?_
   obtain rfl:k=0:=by omega
   exact Yu (.inl J) hsc () _ (fun a w hs=>Ni hs results53 (Xg (i:=3) J J Xs Ye J)) (by rw [Yf3 hbs,hn]<;>rfl) trivial J Zm
theorem r_gcd(v w:Value)(x y:Int)(hy:bl y.natAbs≤3000000000)(hx:bl x.natAbs≤3000000000:=by omega):Cal prog 71 #[.agg #[.bool (decide (x<0)),v],.agg #[.bool (decide (y<0)),w]] [Mw v x.natAbs,Mw w y.natAbs] true (G:=Value) (fun r=>True) (fun r=> .agg #[.bool (decide ((Int.gcd x y:Int)<0)),r]) (fun r=>[Mw r ((Int.gcd x y:Int)).natAbs]):=by
 refine Yi func71 J ntmps71 J K2 fun w0 sc hw hsc=>?_
 simp only [Zu,Zt]
 refine Zb<|Ze<|tt (Yw (i:=3) J J J J J hw) fun b _=>tt (Yw (i:=4) J J J J J hw) fun b_2 _=>tt (Zy (i:=5) J J zeroValue48 J J hw) fun b_3 _=>Zc<|Za<|Zb<|Qs (fun _=>False) [(0,0),(1,0),(2,0),(3,0),(4,0),(5,3)] ?_ ?_
 ·kernel_rfl
 refine Zs J J (Yt (Yv J J Es J Zck J J))<|Zs J J (Yt (Qw (i:=3) J J J Zc8 J))<|Zs J J (Yt (Yv J J Es J Zck J J))<|Zs J J (Yt (Qw (i:=4) J J J Zc8 J))<|Zs J J (Yt (Mb J J))<|Po J (Od (Mb J J) J) fun _ _=>Ob<|Za<|Zb<|Zo<|Yo (Pu 1 91 J J J)<|Yo (Pu 2 92 J J J)<|Oc [(4,_)] [(0,_),(1,_),(2,_),(3,_),(4,_),(5,_)] (fun(q:Value×Value×Nat×Nat)=>[(5,q.1),(6,q.2.1)]) (fun(q:Value×Value×Nat×Nat)=>[(91,Mw q.1 q.2.2.1),(92,Mw q.2.1 q.2.2.2)]) (fun(q:Value×Value×Nat×Nat)=>(Nat.gcd q.2.2.1 q.2.2.2=Nat.gcd x.natAbs y.natAbs)∧(bl q.2.2.1≤3000000000)∧(bl q.2.2.2≤3000000000)) (fun(q:Value×Value×Nat×Nat)=>q.2.2.2) (v,w,x.natAbs,y.natAbs) ⟨J,hx,hy⟩ K3 K8 ?_
 rintro⟨va,vb,a,b⟩ ⟨hg,ha,hb⟩
 dsimp only at hg ha hb
 simp only [CA,NA]
 refine Zb<|Zb<|Ze<|mv J<|dt (Yf J J (i:=92) J Zi Oo)<|dt (Pw J J J)<|Zc<|Za<|Zr J (fun h238=>?_) (fun h238=>?_)
 ·have hb0:0<b:=Zkt (by omega)
  refine Zk<|Za<|Zo<|Zb<|Ze<|mv J<|mv J<|tt (Zh (n:=6) (Yad _ _ _ _ hb0) J J J K2 call124 (Zd 91 J J J (Zd 92 J J J Zg)) J hw) fun g _=>mv J<|dt (Zz J J J)<|dt (Zz J J J)<|Zp J<|Zp J<|Zc<|Za<|Ze<|mv J<|mv J<|Zp J<|Zp J<|Zc<|Qn ?_
  have hlt:a%b<b:=Nat.mod_lt _ hb0
  exact Qu (Pu 92 91 J J J)<|Qu (Pu 7 92 J J J)<|Xk (_,_,b,a%b) ⟨by dsimp only;rw [←hg,Nat.gcd_comm b,←Nat.gcd_rec,Nat.gcd_comm],hb,Nat.le_trans (Ny (Nat.le_of_lt hlt)) hb⟩ hlt K3 K8
 ·have hb0:b=0:=(Nn Nh b).1 (by omega)
  have ha0:a=Nat.gcd x.natAbs y.natAbs:=by rw [←hg,hb0,Nat.gcd_zero_right]
  exact Yx<|Zx<|Zx<|Pd<|Za<|Zb<|Ze<|mv J<|tt (Zh (n:=7) (Zam _ _ _ ((Int.gcd x y:Int)) (by rw [ha0]<;>rfl) (by simp [sg]) (by omega)) J J J K2 call78 (Zd 91 J J J Zg) J hw) fun _ _=>tt (Zl (i:=5) J J J J J J Yz J J ⟨Zf J,Zn (i:=91) J Zi,trivial⟩ J hw trivial) fun _ _=>Zc<|Za<|Zq<|Yu (.inl J) hsc _ _ (fun a w hs=>Ni hs results71 (Xg (i:=5) J J Oy Yz J)) J trivial J (Xe 91 J J J (by rw [ha0]<;>rfl) Zm)
theorem Fj(v w:Value)(x y:Int)(hx:bl x.natAbs≤500000000)(hy0:y≠0)(hy:bl y.natAbs≤500000000:=by omega):Cal prog 74 #[.agg #[.bool (decide (x<0)),v],.agg #[.bool (decide (y<0)),w]] [Mw v x.natAbs,Mw w y.natAbs] true (G:=Value×Value) (fun r=>True) (fun r=> .tuple #[.agg #[.bool (decide (x/y<0)),r.1],.agg #[.bool (decide (x%y<0)),r.2]]) (fun r=>[Mw r.1 (x/y).natAbs,Mw r.2 (x%y).natAbs]):=by
 refine Yi func74 J ntmps74 J K2 fun w0 sc hw hsc=>?_
 simp only [Zu,Zt]
 have hyp:0<y.natAbs:=by omega
 have hb1:=Yf4 x y
 have hb2:=Zt4 x y
 have hb3:=Cj x (x.tdiv y*y)
 have hsf:=Ydl (x:=x) hy0
 have hb4:=Cj (x.tdiv y) 1
 have hb5:=Ky (x.tdiv y) 1
 have hb6:bl (1:Int).natAbs≤1:=by decide
 have hb7:=Qk (x.tdiv y-1) y
 have hb8:=Qk (x.tdiv y+1) y
 refine Zb<|Ze<|tt (Yw (i:=3) J J J J J hw) fun b _=>tt (Yw (i:=4) J J J J J hw) fun b_2 _=>tt (Zy (i:=5) J J zeroValue48 J J hw) fun b_3 _=>tt (Zy (i:=6) J J zeroValue48 J J hw) fun b_4 _=>Zc<|Za<|Zb<|Ze<|dt (Yv J J Es J Zck J J)<|dt (Qw (i:=3) J J J Zc8 J)<|dt (Yv J J Es J Zck J J)<|dt (Qw (i:=4) J J J Zc8 J)<|tt (Zh (n:=70) (Yad _ _ _ _ hyp) J J J K2 call124 (Zd 1 J J J (Zd 2 J J J Zg)) J hw) fun g _=>mv J<|dt (Zz J J J)<|dt (Zz J J J)<|Zp J<|Zp J<|Zc<|Za<|Zb<|Ze<|dt (Yv J J Es J zT4 J J)<|dt (Qw (i:=3) J J J iA4 J)<|dt (Yv J J Es J zT4 J J)<|dt (Qw (i:=4) J J J iA4 J)<|dt (Zna J J J uT4)<|mv J<|tt (Zh (n:=6) (Zam _ _ _ (x.tdiv y) (Zjt x y) (Yds x y) (by rw [Zjt];omega)) J J J K2 call78 (Zd 70 J J J Zg) J hw) fun _ _=>Pp (Gz 70 (congrArg (Mw _) (Zjt x y)) J J)<|tt (Zy (i:=97) J J zeroValue48 J J hw) fun b_5 _=>tt (Zl (i:=97) J J J J J J Yz J J ⟨Zf J,Zn (i:=70) J Zi,trivial⟩ J hw trivial) fun _ _=>Zc<|Za ?_
 refine Iz [(2,_),(3,_),(4,_),(5,_),(7,_),(8,_)] [(0,_),(1,_),(2,_),(3,_),(4,_),(5,_),(6,_),(70,_),(71,_),(97,_)] (fun(q:Value×Nat)=>[(9,.pointer (some ⟨q.2,0,none⟩))]) (fun(q:Value×Nat)=>[(72,Mw q.1 (x-x.tdiv y*y).natAbs),(98,box q.2 48 #[.bool (decide ((x-x.tdiv y*y)<0)),q.1])]) (fun(q:Value×Nat)=>True) K6 K10 ?_ ?_
 ·refine Fs (fun _=>False) [6]<|Ya (n:=4) [(0,0),(1,0),(2,0)]<|Zs J J (Yt (Yb (i:=3) J J J Oy Yz J J))<|Zs J J (Yt (Yb (i:=97) J J J Oy Yz J J))<|Zs J J (Yt (Yb (i:=4) J J J Oy Yz J J))<|Yl<|Pb (n:=3) 3 5 ?_ ?_
  ·refine Yj J (Zh (n:=73) (Kc _ _ _ _) J J J K2 Gp (Zd 70 J J J (Zd 2 J J J Zg)) J hw) fun v _=>Pb (n:=2) 4 5 ?_ ?_
   ·exact Yj J (Zh (n:=72) (Zgf _ _ _ _) J J J K2 call87 (Zd 1 J J J (Zd 73 J J J Zg)) J hw) fun v_2 _=>Ya (n:=0) [(5,1),(6,3)]<|Xb J (Zy (i:=98) J J zeroValue48 J J hw) fun b_6 _=>Po J (Zl (i:=98) J J J J J J Yz J J ⟨Zf J,Zn (i:=72) J Zi,trivial⟩ J hw trivial) fun _ _=>Yl<|Yk<|Xo (_,_) trivial K7 K12
   ·exact Yj J (Zy (i:=98) J J zeroValue48 J J hw) fun b_7 _=>Ya (n:=0) [(4,1),(6,3)]<|Xb J (Zh (n:=72) (Zgf _ _ _ _) J J J K2 call87 (Zd 1 J J J (Zd 73 J J J Zg)) J hw) fun v_3 _=>Po J (Zl (i:=98) J J J J J J Yz J J ⟨Zf J,Zn (i:=72) J Zi,trivial⟩ J hw trivial) fun _ _=>Yl<|Yk<|Xo (_,_) trivial K7 K12
  ·exact Yj J (Zy (i:=98) J J zeroValue48 J J hw) fun b_8 _=>Ya (n:=0) [(3,1),(4,1),(6,3)]<|Xb J (Zh (n:=73) (Kc _ _ _ _) J J J K2 Gp (Zd 70 J J J (Zd 2 J J J Zg)) J hw) fun v_4 _=>Xb J (Zh (n:=72) (Zgf _ _ _ _) J J J K2 call87 (Zd 1 J J J (Zd 73 J J J Zg)) J hw) fun v_5 _=>Po J (Zl (i:=98) J J J J J J Yz J J ⟨Zf J,Zn (i:=72) J Zi,trivial⟩ J hw trivial) fun _ _=>Yl<|Yk<|Xo (_,_) trivial K7 K12
 ·rintro⟨vr,b9⟩ -
  simp only [CA,NA]
  refine Iz [(4,_),(5,_),(7,_),(8,_),(9,_)] [(0,_),(72,_),(1,_),(2,_),(3,_),(4,_),(5,_),(6,_),(70,_),(71,_)] (fun(q:Value×Value)=>[]) (fun(q:Value×Value)=>[(75,Mw q.1 (x/y).natAbs),(76,Mw q.2 (x%y).natAbs),(97,box b_5 48 #[.bool (decide (x/y<0)),q.1]),(98,box b9 48 #[.bool (decide (x%y<0)),q.2])]) (fun(q:Value×Value)=>True) K5 K10 ?_ ?_
  ·refine Zb<|Ze<|dt (Yb (i:=98) J J J Oy Yz J J)<|tt (Zh (n:=6) (Dw _ _) J J J K1 call72 (Zd 72 J J J Zg) J hw) fun _ _=>dt (Xv J J J)<|Zc<|Za<|Zr J (fun h223=>?_) (fun h223=>?_)
   ·have hrn:x.tmod y<0:=by rw [←hsf];exact(Qz _).1 h223
    refine Zb<|Zb<|Ze<|dt (Yb (i:=4) J J J Oy Yz J J)<|tt (Zh (n:=6) (Dw _ _) J J J K1 call72 (Zd 2 J J J Zg) J hw) fun _ _=>dt (Pw J J J)<|Zc<|Za<|Zr J (fun h224=>?_) (fun h224=>?_)
    ·have hyp0:0<y:=by have h2:=decide_eq_decide.1 (Bi y);omega
     obtain⟨hq,hr⟩:=Yeb hyp0 hrn
     refine Qs (fun _=>False) [(0,0),(1,1),(2,3),(3,3)] ?_ ?_
     ·kernel_rfl
     refine Zs J J (Yt (Yb (i:=97) J J J Oy Yz J J))<|Xb J (Zh (n:=7) (Zgg 1) J J J K1 call34 Zg J hw) fun v_6 _=>Po J (Zh (n:=8) (Zgf _ _ _ _) J J J K2 call87 (Zd 70 J J J (Zd 7 J J J Zg)) J hw) fun v_7 _=>Po J (Zl (i:=97) J J J J J J Yz J J ⟨Zf J,Zn (i:=8) J Zi,trivial⟩ J hw trivial) fun _ _=>Ob<|Za<|Qs (fun _=>False) [(0,0),(1,0),(2,0),(3,1),(4,1),(5,3)] ?_ ?_
     ·kernel_rfl
     exact Zs J J (Yt (Yb (i:=3) J J J Oy Yz J J))<|Zs J J (Yt (Yb (i:=97) J J J Oy Yz J J))<|Zs J J (Yt (Yb (i:=4) J J J Oy Yz J J))<|Xb J (Zh (n:=9) (Kc _ _ _ _) J J J K2 Gp (Zd 8 J J J (Zd 2 J J J Zg)) J hw) fun v_8 _=>Xb J (Zh (n:=10) (Zgf _ _ _ _) J J J K2 call87 (Zd 1 J J J (Zd 9 J J J Zg)) J hw) fun v_9 _=>Po J (Zl (i:=98) J J J J J J Yz J J ⟨Zf J,Zn (i:=10) J Zi,trivial⟩ J hw trivial) fun _ _=>Ob<|Qu (Pu 8 75 J J J)<|Qu (Pu 10 76 J J J)<|Xo (v_7,v_9) trivial K5 ⟨by rw [hq];rfl,by rw [hr];rfl,by rw [hq];rfl,by rw [hr];rfl,rfl,rfl,rfl,rfl,rfl,rfl,rfl,rfl,rfl,rfl,trivial⟩
    ·have hyn0:y<0:=by have h2:=decide_eq_decide.1 (Bi y);omega
     obtain⟨hq,hr⟩:=Yec hyn0 hrn
     refine Qs (fun _=>False) [(0,0),(1,1),(2,3),(3,3)] ?_ ?_
     ·kernel_rfl
     refine Zs J J (Yt (Yb (i:=97) J J J Oy Yz J J))<|Xb J (Zh (n:=11) (Zgg 1) J J J K1 call34 Zg J hw) fun v_10 _=>Po J (Zh (n:=12) (Zmr _ _ _ _) J J J K2 call37 (Zd 70 J J J (Zd 11 J J J Zg)) J hw) fun v_11 _=>Po J (Zl (i:=97) J J J J J J Yz J J ⟨Zf J,Zn (i:=12) J Zi,trivial⟩ J hw trivial) fun _ _=>Ob<|Za<|Qs (fun _=>False) [(0,0),(1,0),(2,0),(3,1),(4,1),(5,3)] ?_ ?_
     ·kernel_rfl
     exact Zs J J (Yt (Yb (i:=3) J J J Oy Yz J J))<|Zs J J (Yt (Yb (i:=97) J J J Oy Yz J J))<|Zs J J (Yt (Yb (i:=4) J J J Oy Yz J J))<|Xb J (Zh (n:=13) (Kc _ _ _ _) J J J K2 Gp (Zd 12 J J J (Zd 2 J J J Zg)) J hw) fun v_12 _=>Xb J (Zh (n:=14) (Zgf _ _ _ _) J J J K2 call87 (Zd 1 J J J (Zd 13 J J J Zg)) J hw) fun v_13 _=>Po J (Zl (i:=98) J J J J J J Yz J J ⟨Zf J,Zn (i:=14) J Zi,trivial⟩ J hw trivial) fun _ _=>Ob<|Qu (Pu 12 75 J J J)<|Qu (Pu 14 76 J J J)<|Xo (v_11,v_13) trivial K5 ⟨by rw [hq];rfl,by rw [hr];rfl,by rw [hq];rfl,by rw [hr];rfl,rfl,rfl,rfl,rfl,rfl,rfl,rfl,rfl,rfl,rfl,trivial⟩
   ·have hrn:¬x.tmod y<0:=by rw [←hsf];exact fun h=>h223 ((Qz _).2 h)
    obtain⟨hq,hr⟩:=Yal hy0 hrn
    rw [←hsf]at hr
    exact Zk<|Qu (Pu 70 75 J J J)<|Qu (Pu 72 76 J J J)<|Xo (g.1,vr) trivial K5 ⟨by rw [hq];rfl,by rw [hr];rfl,by rw [hq];rfl,by rw [hr];rfl,rfl,rfl,rfl,rfl,rfl,rfl,rfl,rfl,rfl,rfl,trivial⟩
  ·rintro⟨v8,v9⟩ -
   simp only [CA,NA]
   exact Zb<|Ze<|mv J<|Zc<|Za<|Zb<|Nm [97,98] [3]<|Ya (n:=0) [(0,0),(1,0),(2,1),(3,3)]<|Zs J J (Xm (Yb (i:=97) J J J Oy Yz J J) K2)<|Zs J J (Xm (Yb (i:=98) J J J Oy Yz J J) K2)<|Xb J (Zcp 5 J J K2 (fun ob=>Zl (i:=5) J J J J J J Yz J J ⟨Zf J,Zn (i:=75) J Zi,trivial⟩ J hw ob)) fun _ _=>Po J (Zl (i:=6) J J J J J J Yz J J ⟨Zf J,Zn (i:=76) J Zi,trivial⟩ J hw trivial) fun _ _=>Yl<|Yk<|Za<|Zq<|Yu (.inl J) hsc (_,_) _ (fun a w hs=>Og hs results74 (Xg (i:=5) J J Oy Yz J) (Xg (i:=6) J J Oy Yz J)) J trivial J (Xu 75 J J J (Xu 76 J J J Zm))
theorem Iq(b:Bool)(s:ByteArray)(c:Bool)(t:ByteArray):On prog 25 #[.agg #[.bool b,.string s,.bool c,.string t]] [] (.bool (okR b s c t)):=by
 refine Yi func25 J ntmps25 J trivial fun w0 sc hw hsc=>?_
 simp only [Zu,Zt]
 refine Zb<|Ze<|tt (Yw (i:=1) J J J J J hw) fun b _=>Zp J<|Zc<|Za<|Zb<|Ze<|dt (Yv J J Gb J Ye J J)<|dt (Yb (i:=1) J J J Xs Ye J J)<|tt (Zh (n:=1) (Zn9 _ _) J J J K1 call35 Zg J hw) fun _ _=>mv J<|Ma (d:=6) J (fun s332=>?_) (fun s332=>?_)
 ·refine Xh (Yv J J Gb J Ye J J) J J<|Xh (Yb (i:=1) J J J Xs Ye J J) J J<|Lz (Zh (n:=1) (Zn9 _ _) J J J K1 call35 Zg J hw) J J J fun _ _=>dt (Yy J J J)<|mv J<|Ma (d:=11) J (fun s332_2=>?_) (fun s332_2=>?_)
  ·refine Xh (Yv J J Gb J Ye J J) J J<|Xh (Yv J J Dl J zT4 J J) J J<|Xh (Qw (i:=1) J J J iA4 J) J J<|Xh (Xl J J) J J<|dt (Yy J J J)<|mv J<|Ma (d:=17) J (fun s332_3=>?_) (fun s332_3=>?_)
   ·exact Xh (Yv J J Gb J Ye J J) J J<|Xh (Yv J J Dl J zT9 J J) J J<|Xh (Qw (i:=1) J J J iA9 J) J J<|Xh (Cz J J uT9) J J<|Xh (Pw J J J) J J<|dt (Yy J J J)<|Zp J<|Zc<|Za<|Zq<|xU hsc results25 J J (by unfold okR;simp_all)
   ·exact Xt J J J<|Xt J J J<|Xt J J J<|Xt J J J<|Xt J J J<|dt (Yh J J J)<|Zp J<|Zc<|Za<|Zq<|xU hsc results25 J J (by unfold okR;simp_all)
  ·exact Xt J J J<|Xt J J J<|Xt J J J<|Xt J J J<|dt (Yh J J J)<|mv J<|Xt J J J<|Xt J J J<|Xt J J J<|Xt J J J<|Xt J J J<|dt (Yh J J J)<|Zp J<|Zc<|Za<|Zq<|xU hsc results25 J J (by unfold okR;simp_all)
 ·exact Xt J J J<|Xt J J J<|Xt J J J<|dt (Yh J J J)<|mv J<|Xt J J J<|Xt J J J<|Xt J J J<|Xt J J J<|dt (Yh J J J)<|mv J<|Xt J J J<|Xt J J J<|Xt J J J<|Xt J J J<|Xt J J J<|dt (Yh J J J)<|Zp J<|Zc<|Za<|Zq<|xU hsc results25 J J (by unfold okR;simp_all)
theorem Ox(x y:Int)(hx:bl x.natAbs≤2000000000:=by omega)(hy:bl y.natAbs≤2000000000:=by omega):Cal prog 23 #[rX x y] [] true (G:=Value×Value) (fun r=>True) (fun r=> .agg #[.bool (decide (x<0)),r.1,.bool (decide (y<0)),r.2]) (fun r=>[Mw r.1 (x).natAbs,Mw r.2 (y).natAbs]):=by
 refine Yi func23 J ntmps23 J trivial fun w0 sc hw hsc=>?_
 simp only [Zu,Zt]
 refine Zb<|Ze<|tt (Yw (i:=1) J J J J J hw) fun b _=>tt (Zy (i:=2) J J zeroValue50 J J hw) fun b_2 _=>Zc<|Za<|Zb<|Qs (fun _=>False) [(0,0),(1,0),(3,0),(4,0),(2,1),(5,1),(6,0),(7,3)] ?_ ?_
 ·kernel_rfl
 exact Zs J J (Yt (Yv J J Gb J Ye J J))<|Zs J J (Yt (Yb (i:=1) J J J Xs Ye J J))<|Zs J J (Yt (Yv J J Gb J Ye J J))<|Zs J J (Yt (Yb (i:=1) J J J Xs Ye J J))<|Xb J (Zh (n:=3) (Zs8 _) J J J K1 call30 Zg J hw) fun v _=>Xb J (Zh (n:=4) (Zs8 _) J J J K1 call30 Zg J hw) fun v_2 _=>Zs J J (Yt (Oq (ivs:=[(0,_),(1,_)]) J K4 (fun a w hs=>b50_01)))<|Po J (Zl (i:=2) J J J J J J Ml J J ⟨Zf J,Zn (i:=3) J Zi,Zf J,Zn (i:=4) J Zi,trivial⟩ J hw trivial) fun _ _=>Ob<|Za<|Zq<|Yu (.inl J) hsc (_,_) _ (fun a w hs=>Ni hs results23 (Xg (i:=2) J J Gc Ml J)) J trivial J (Xu 3 J J J (Xu 4 J J J Zm))
theorem Gk(v w v2 w2:Value)(x y x2 y2:Int)(h0:bl x.natAbs≤100000000:=by omega)(h1:bl y.natAbs≤100000000:=by omega)(h2:bl x2.natAbs≤100000000:=by omega)(h3:bl y2.natAbs≤100000000:=by omega):On prog 27 #[.agg #[.bool (decide (x<0)),v,.bool (decide (y<0)),w],.agg #[.bool (decide (x2<0)),v2,.bool (decide (y2<0)),w2]] [Mw v x.natAbs,Mw w y.natAbs,Mw v2 x2.natAbs,Mw w2 y2.natAbs] (.int .i64 (x*y2-x2*y).sign):=by
 refine Yi func27 J ntmps27 J K4 fun w0 sc hw hsc=>?_
 simp only [Zu,Zt]
 have b1:=Qk x y2
 have b2:=Qk x2 y
 have b3:=Qk y y2
 have b4:=Qk x x2
 have b5:=Ky (x*y2) (x2*y)
 refine Zb<|Ze<|tt (Yw (i:=5) J J J J J hw) fun b _=>tt (Yw (i:=6) J J J J J hw) fun b_2 _=>Zp J<|Zc<|Za<|Zb<|Qs (fun _=>False) [(0,0),(1,0),(2,0),(3,0),(5,0),(6,0),(7,0),(8,0),(4,1),(9,1),(10,1),(11,3)] ?_ ?_
 ·kernel_rfl
 exact Zs J J (Yt (Yv J J Zii J Yz J J))<|Zs J J (Yt (Yb (i:=5) J J J Oy Yz J J))<|Zs J J (Yt (Yv J J Zii J Yz J J))<|Zs J J (Yt (Yb (i:=6) J J J Oy Yz J J))<|Zs J J (Yt (Yv J J Zii J Yz J J))<|Zs J J (Yt (Yb (i:=6) J J J Oy Yz J J))<|Zs J J (Yt (Yv J J Zii J Yz J J))<|Zs J J (Yt (Yb (i:=5) J J J Oy Yz J J))<|Xb J (Zh (n:=7) (Kc _ _ _ _) J J J K2 Gp (Zd 1 J J J (Zd 4 J J J Zg)) J hw) fun v _=>Xb J (Zh (n:=8) (Kc _ _ _ _) J J J K2 Gp (Zd 3 J J J (Zd 2 J J J Zg)) J hw) fun v_2 _=>Xb J (Zh (n:=8) (Zxr _ _ _ _ (by omega) (by omega)) J J J K2 call68 (Zd 7 J J J (Zd 8 J J J Zg)) J hw) fun _ _=>Po J (Od (Mb J J) J) fun _ _=>Ob<|Za<|Zq<|xU hsc results27 J J J
end Go.Sky

