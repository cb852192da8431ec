/- rules, arithmetic and contracts: part 9
   Proved without conditions of its own: each theorem bears its own. -/
import Derived.Test.YtcmiiammekgooaaGreatSf03
import Derived.Test.YtcmiiammekgooaaGreatSf02
import Derived.Test.YtcmiiammekgooaaGreatSf01
import Derived.Test.YtcmiiammekgooaaGreatSf07
set_option linter.all false
namespace Go.Sky
open Go.Proofs.Tryz
open Go.Proofs
set_option maxRecDepth 20000
set_option maxHeartbeats 4000000
set_option linter.unusedSimpArgs false
theorem Zlx(b:Bool)(s:ByteArray):Mc prog 35 #[.agg #[.bool b,.string s]] [] (.bool (okW b s)):=by
 refine Yc func35 J ntmps35 J trivial ?_
 intro w0 sc hw hsc
 simp only [Zq,Zp]
 refine Zd<|Zg<|tt (Yu (i:=1) J J J J J hw) fun b _=>as_ J<|Zf<|Za<|Zd<|Zd<|Zg<|dt (Xs J J Zam J zT9 J J)<|dt (Oj (i:=1) J J J iA9 J)<|dt (Fi J J uT9)<|dt (Pg J J J)<|Zf<|Za<|Zs J (fun h25=>?_) (fun h25=>?_)
 ·exact Zd<|Zg<|dt (Xs J J Zam J zT4 J J)<|dt (Oj (i:=1) J J J iA4 J)<|dt (Xg J J)<|as_ J<|Zf<|Za<|Zu<|Xa<|xU hsc results35 J J (by unfold okW;rw [if_pos (by omega)])
 ·refine Zj<|Za<|Zd<|Zg<|dt (Xs J J Zam J zT9 J J)<|dt (Oj (i:=1) J J J iA9 J)<|dt (Fi J J uT9)<|dt (Cf J J J)<|mv J<|Qm (d:=14) J (fun s28=>?_) (fun s28=>?_)
  ·exact gdt (Xs J J Zam J zT9 J J) J J<|gdt (Oj (i:=1) J J J iA9 J) J J<|gdt (Zqm (i:=0) J J J uT9 J) J J<|gdt (Qc J J J) J J<|dt (Ys J J J)<|as_ J<|Zf<|Za<|Zu<|xU hsc results35 J J (by unfold okW;rw [if_neg (by omega)];simp_all<;>omega)
  ·exact gsk J J J<|gsk J J J<|gsk J J J<|gsk J J J<|dt (Zz J J J)<|as_ J<|Zf<|Za<|Zu<|xU hsc results35 J J (by unfold okW;rw [if_neg (by omega)];simp_all<;>omega)
theorem r_trim(v:Value)(xs:List Nat):Cal prog 77 #[v] [slp 1 Cc v xs] true (G:=Unit) (fun _=>True) (fun _=>Ea v (tz xs).length) (fun _=>[slp 1 Cc (Ea v (tz xs).length) (tz xs)]):=by
 refine Yc func77 J ntmps77 J K1 ?_
 intro w0 sc hw hsc
 simp only [Zq,Zp]
 refine Md (Zt2 (i:=1) J Zi) fun hself=>Md (Ge (i:=1) J Zi) fun hlen=>Zd<|Zg<|as_ J<|Zf<|Za<|Zd<|Zo<|Nt [] [(0,_)] (fun(k:Nat)=>[(0,Ea v k)]) (fun(k:Nat)=>[(1,slp 1 Cc (Ea v k) (xs.take k))]) (fun(k:Nat)=>(k≤xs.length)∧(tz (xs.take k)=tz xs)) (fun(k:Nat)=>k) xs.length ⟨Nat.le_refl _,by rw [List.take_length]⟩ ⟨by rw [hself];rfl,trivial⟩ ⟨by rw [hself,List.take_length];rfl,rfl,trivial⟩ ?_
 rintro k ⟨hk,ht⟩
 simp only [CA,NA]
 have hl:(xs.take k).length=k:=by rw [List.length_take];omega
 refine Zd<|Zd<|Zg<|mv J<|dt (Yd J J (i:=1) J Zi Me)<|dt (Pm J J J)<|mv J<|Qm (d:=6) J (fun s33=>?_) (fun s33=>?_)
 ·refine gdt (Yo J J) J J<|gdt (Yo J J) J J<|gdt (Yd J J (i:=1) J Zi Me) J J<|gdt (Qd J J J ⟨by omega,by omega⟩) J J<|gdt (Xb (ii:=1) (i:=k-1) J J J J Zi Me zT3) J J<|gdt (Xv (ii:=1) 0 J J J Zi pN) J J<|gdt (Pg J J J) J J<|dt (Ys J J J)<|Zf<|Za<|Zs J (fun h33=>?_) (fun h33=>?_)
  ·have hstep:=Zrb hk (by omega) (by omega:(xs.take k).getD (k-1) 0=0)
   exact Zj<|Za<|Zo<|Zg<|mv J<|mv J<|dt (Yd J J (i:=1) J Zi Me)<|dt (Qd J J J ⟨by omega,by omega⟩)<|dt (Zym (ii:=1) (i:=k-1) J J J J Zi Me zT3)<|as_ J<|Zf<|Oe<|Qu (s_pre 1 1 (k-1) J J)<|Xn (k-1) ⟨by first | omega | (dsimp only<;>omega),by rw [←ht,←hstep]⟩ (by first | omega | (dsimp only<;>omega)) ⟨by rw [←Ho v k (k-1)];rfl,trivial⟩ ⟨by rw [Ho,List.take_take,Nat.min_eq_left (by omega)];rfl,rfl,trivial⟩
  ·refine Yv<|Zv<|Zv<|Ox<|Za<|Zd<|Zg<|mv J<|as_ J<|Zf<|Za<|Zu ?_
   have hx:tz xs=xs.take k:=by rw [←ht];exact Zeh hk (by omega)
   exact Ym (.inl J) hsc () _ (fun a w hs=>Ni hs results77 J) (by rw [hx,hl]) trivial J (Yi 1 J J J (by rw [hx,hl]) Zk)
 ·refine gsk J J J<|gsk J J J<|gsk J J J<|gsk J J J<|gsk J J J<|gsk J J J<|gsk J J J<|dt (Zz J J J)<|Zf<|Za<|Ye J<|Yv<|Zv<|Zv<|Ox<|Za<|Zd<|Zg<|mv J<|as_ J<|Zf<|Za<|Zu ?_
  have hx:tz xs=xs.take k:=by rw [←ht];exact Zeh hk (by omega)
  exact Ym (.inl J) hsc () _ (fun a w hs=>Ni hs results77 J) (by rw [hx,hl]) trivial J (Yi 1 J J J (by rw [hx,hl]) Zk)
theorem Kg(v:Value)(xs:List Nat):Cal prog 77 #[v] [slp 1 Cc v xs] false (G:=Unit) (fun _=>True) (fun _=>Ea v (tz xs).length) (fun _=>[]):=(r_trim v xs).bare
theorem Zly(v w:Value)(x y:Nat)(hx:bl x≤4294967296:=by omega)(hy:bl y≤4294967296:=by omega):Mc prog 90 #[v,w] [d9p v x,d9p w y] (.int .i64 (Zqw x y)):=by
 refine Yc func90 J ntmps90 J K2 ?_
 intro w0 sc hw hsc
 simp only [Zq,Zp]
 have hX:=Kv x
 have hY:=Kv y
 refine Zd<|Zg<|as_ J<|Zf<|Za<|Zd<|Zd<|Zg<|mv J<|dt (Yd J J (i:=1) J Zi Me)<|mv J<|dt (Yd J J (i:=2) J Zi Me)<|dt (Qc J J J)<|Zf<|Za<|Zs J (fun h41=>?_) (fun h41=>?_)
 ·refine Zd<|Zd<|Zg<|mv J<|dt (Yd J J (i:=1) J Zi Me)<|mv J<|dt (Yd J J (i:=2) J Zi Me)<|dt (Xr J J J)<|Zf<|Za<|Zs J (fun h42=>?_) (fun h42=>?_)
  ·have hlt:x<y:=Cw Nd (by omega)
   exact Zd<|Zg<|as_ J<|Zf<|Za<|Zu<|Xa<|Xa<|xU hsc results90 J J (by unfold Zqw;rw [if_pos hlt])
  ·have hlt:y<x:=Cw Nd (by omega)
   exact Zj<|Za<|Zd<|Zg<|as_ J<|Zf<|Za<|Zu<|Xa<|xU hsc results90 J J (by unfold Zqw;rw [if_neg (by omega),if_pos hlt])
 ·have hlen:(dg 1000000000 x).length=(dg 1000000000 y).length:=by omega
  refine Zj<|Za<|Zd<|Zd<|Zg<|mv J<|dt (Yd J J (i:=1) J Zi Me)<|dt (Qd J J J ⟨by omega,by omega⟩)<|as_ J<|Zf<|Za<|Zo<|Nt [(0,_),(1,_)] [(0,_),(1,_),(2,_)] (fun(k:Nat)=>[(5,.int .i64 ((k:Int)-1))]) (fun(k:Nat)=>[]) (fun(k:Nat)=>(k≤(dg 1000000000 x).length)∧((dg 1000000000 x).drop k=(dg 1000000000 y).drop k)) (fun(k:Nat)=>k) (dg 1000000000 x).length ⟨by first | omega | (dsimp only<;>omega),by rw [List.drop_length,hlen,List.drop_length]⟩ K3 K3 ?_
  rintro k ⟨hk,hd⟩
  simp only [CA,NA]
  refine Zd<|Zd<|Zg<|mv J<|dt (Ke J J J)<|Zf<|Za<|Zs J (fun h47=>?_) (fun h47=>?_)
  ·refine Zj<|Za<|Zd<|Zo<|Zd<|Zd<|Qi (fun _=>False) [(0,0),(1,0),(2,0),(3,0),(4,0),(5,0),(6,0),(7,0),(8,0)] ?_ ?_
   ·kernel_rfl
   refine r0' J J (st0 (Yo J J))<|r0' J J (st0 (Yo J J))<|r0' J J (st0 (Xb (ii:=1) (i:=k-1) J J J J Zi Me zT3))<|r0' J J (st0 (Xv (ii:=1) 0 J J J Zi pN (by first | omega | (simp only [List.length_set];omega))))<|r0' J J (st0 (Yo J J))<|r0' J J (st0 (Yo J J))<|r0' J J (st0 (Xb (ii:=2) (i:=k-1) J J J J Zi Me zT3))<|r0' J J (st0 (Xv (ii:=2) 0 J J J Zi pN (by first | omega | (simp only [List.length_set];omega))))<|r0' J J (st0 (Xr J J J))<|Of<|Za<|Zs J (fun h48=>?_) (fun h48=>?_)
   ·have hlt:=Zpf Ht (xs:=(dg 1000000000 x)) (ys:=(dg 1000000000 y)) (Lp Nd x) (k:=k-1) (by omega) (by omega) (by rw [show k-1+1=k by omega];exact hd) (by omega)
    rw [Le Nd,Le Nd]at hlt
    exact Zd<|Zg<|as_ J<|Zf<|Za<|Zu<|Xa<|Ix<|Xa<|Xa<|Ix<|Xa<|xU hsc results90 J J (by unfold Zqw;rw [if_pos hlt])
   ·refine Zj<|Za<|Zd<|Qi (fun _=>False) [(0,0),(1,0),(2,0),(3,0),(4,0),(5,0),(6,0),(7,0),(8,0)] ?_ ?_
    ·kernel_rfl
    refine r0' J J (st0 (Yo J J))<|r0' J J (st0 (Yo J J))<|r0' J J (st0 (Xb (ii:=1) (i:=k-1) J J J J Zi Me zT3))<|r0' J J (st0 (Xv (ii:=1) 0 J J J Zi pN (by first | omega | (simp only [List.length_set];omega))))<|r0' J J (st0 (Yo J J))<|r0' J J (st0 (Yo J J))<|r0' J J (st0 (Xb (ii:=2) (i:=k-1) J J J J Zi Me zT3))<|r0' J J (st0 (Xv (ii:=2) 0 J J J Zi pN (by first | omega | (simp only [List.length_set];omega))))<|r0' J J (st0 (Pm J J J))<|Of<|Za<|Zs J (fun h51=>?_) (fun h51=>?_)
    ·have hlt:=Zpf Ht (xs:=(dg 1000000000 y)) (ys:=(dg 1000000000 x)) (Lp Nd y) (k:=k-1) (by omega) (by omega) (by rw [show k-1+1=k by omega];exact hd.symm) (by omega)
     rw [Le Nd,Le Nd]at hlt
     exact Zd<|Zg<|as_ J<|Zf<|Za<|Zu<|Ix<|Xa<|Xa<|Ix<|Xa<|xU hsc results90 J J (by unfold Zqw;rw [if_neg (by omega),if_pos hlt])
    ·exact Zj<|Oe<|Za<|Zg<|mv J<|dt (Qd J J J ⟨by omega,by omega⟩)<|as_ J<|Zf<|Xn (k-1) ⟨by first | omega | (dsimp only<;>omega),by have:=Zdb (xs:=(dg 1000000000 x)) (ys:=(dg 1000000000 y)) (k:=k-1) (by omega) (by omega) (by rw [show k-1+1=k by omega];exact hd) (by omega);exact this⟩ (by first | omega | (dsimp only<;>omega)) ⟨by rw [show(((k-1:Nat):Int)-1)=(k:Int)-1-1 by omega];rfl,rfl,rfl,trivial⟩ K3
  ·refine Yv<|Zv<|Zv<|Ox<|Za<|Zd<|Zg<|as_ J<|Zf<|Za<|Zu ?_
   obtain rfl:k=0:=by omega
   have heq:x=y:=(Zfj Nd).1 (by simpa using hd)
   exact xU hsc results90 J J (by unfold Zqw;rw [if_neg (by omega),if_neg (by omega)])
theorem Zsa(v w:Value)(x y:Nat)(hx:bl x≤4294967296)(hy:bl y≤4294967296):Cal prog 75 #[v,w] [d9p v x,d9p w y] false (G:=Value) (fun r=>True) (fun r=>r) (fun r=>[d9p r (x+y)]):=by
 refine Yc func75 J ntmps75 J K2 ?_
 intro w0 sc hw hsc
 simp only [Zq,Zp]
 have hX:=Kv x
 have hY:=Kv y
 refine Zd<|Zg<|as_ J<|Zf<|Za<|Zd<|Zg<|as_ J<|Zf<|Za<|Zd<|Zg<|as_ J<|Zf<|Za<|Zd<|Zd<|Zg<|as_ J<|Zf<|Za<|Zo<|Yr (Na 70 1 3 Cc)<|Nt [(0,_),(1,_)] [(0,_),(1,_),(2,_)] (fun(q:Nat×List Nat×Nat×Value)=>[(7,.int .i64 (q.1:Int)),(6,.int .i64 (q.2.2.1:Int)),(5,q.2.2.2)]) (fun(q:Nat×List Nat×Nat×Value)=>[(70,osl 1 3 Cc q.2.2.2 q.2.1)]) (fun(q:Nat×List Nat×Nat×Value)=>(q.1≤max (dg 1000000000 x).length (dg 1000000000 y).length+1∧(q.1=max (dg 1000000000 x).length (dg 1000000000 y).length+1→q.2.2.1=0))∧(q.2.1.length=q.1)∧(∀d∈q.2.1,d<1000000000)∧(q.2.2.1≤1)∧(val 1000000000 q.2.1+q.2.2.1*1000000000^q.1=val 1000000000 ((dg 1000000000 x).take q.1)+val 1000000000 ((dg 1000000000 y).take q.1))∧(q.1=0∨1000000000^(q.1-1)≤x+y)) (fun(q:Nat×List Nat×Nat×Value)=>max (dg 1000000000 x).length (dg 1000000000 y).length+1-q.1) (0,[],0,.slice none 0 0) ⟨⟨by omega,by omega⟩,J,by simp,by first | omega | (dsimp only<;>omega),by simp [val],.inl rfl⟩ K5 K4 ?_
 rintro⟨i,o,c,vo⟩ ⟨hi,hol,hoa,hc,hv,hge⟩
 dsimp only at hi hol hoa hc hv hge
 simp only [CA,NA]
 refine Zd<|Ez [(0,_),(1,_),(5,_),(6,_),(7,_)] [(0,_),(70,_),(1,_),(2,_)] (fun(_:Unit)=>[(21,.bool (decide (i<(dg 1000000000 x).length∨i<(dg 1000000000 y).length∨0<c)))]) (fun(_:Unit)=>[]) (fun(_:Unit)=>True) K5 K4 ?_ ?_
 ·refine Zg<|mv J<|mv J<|dt (Yd J J (i:=1) J Zi Me)<|dt (Xr J J J)<|mv J<|Qm (d:=12) J (fun s62=>?_) (fun s62=>?_)
  ·exact gsk J J J<|gsk J J J<|gsk J J J<|gsk J J J<|dt (Ys J J J)<|mv J<|gsk J J J<|gsk J J J<|dt (Ys J J J)<|Zf<|Qt () trivial ⟨by first | exact congrArg some (congrArg Value.bool (decide_eq_decide.2 (by omega))) | exact congrArg some (congrArg Value.bool (decide_eq_true (by omega)).symm),rfl,rfl,rfl,rfl,rfl,trivial⟩ K4
  ·refine gdt (Yo J J) J J<|gdt (Yo J J) J J<|gdt (Yd J J (i:=2) J Zi Me) J J<|gdt (Xr J J J) J J<|dt (Zz J J J)<|mv J<|Qm (d:=18) J (fun s62_2=>?_) (fun s62_2=>?_)
   ·exact gsk J J J<|gsk J J J<|dt (Ys J J J)<|Zf<|Qt () trivial ⟨by first | exact congrArg some (congrArg Value.bool (decide_eq_decide.2 (by omega))) | exact congrArg some (congrArg Value.bool (decide_eq_true (by omega)).symm),rfl,rfl,rfl,rfl,rfl,trivial⟩ K4
   ·exact gdt (Yo J J) J J<|gdt (Pm J J J) J J<|dt (Zz J J J)<|Zf<|Qt () trivial ⟨by first | exact congrArg some (congrArg Value.bool (decide_eq_decide.2 (by omega))) | exact congrArg some (congrArg Value.bool (decide_eq_true (by omega)).symm),rfl,rfl,rfl,rfl,rfl,trivial⟩ K4
 ·rintro _ -
  simp only [CA,NA]
  refine Zs J (fun h62=>?_) (fun h62=>?_)
  ·have hgn:1000000000^i≤x+y:=by
    rcases h62 with h1 | h1 | h1
    ·have:=Cn Nd h1;omega
    ·have:=Cn Nd h1;omega
    ·by_cases h2:i<(dg 1000000000 x).length
     ·have:=Cn Nd h2;omega
     ·by_cases h3:i<(dg 1000000000 y).length
      ·have:=Cn Nd h3;omega
      ·rw [Iy Nd (by omega),Iy Nd (by omega)]at hv
       have:1000000000^i≤c*1000000000^i:=Nat.le_mul_of_pos_left _ h1
       omega
   refine Zj<|Za<|Zd<|Zo<|Ez [(0,_),(1,_),(5,_),(7,_)] [(0,_),(70,_),(1,_),(2,_)] (fun(_:Unit)=>[(6,.int .i64 ((c+(dg 1000000000 x).getD i 0:Nat):Int))]) (fun(_:Unit)=>[]) (fun(_:Unit)=>True) K4 K4 ?_ ?_
   ·refine Zd<|Zg<|mv J<|mv J<|dt (Yd J J (i:=1) J Zi Me)<|dt (Xr J J J)<|Zf<|Za<|Zs J (fun h63=>?_) (fun h63=>?_)
    ·refine Zg<|mv J<|mv J<|mv J<|dt (Xb (ii:=1) J J J J Zi Me zT3 J (by first | omega | (simp only [List.length_set];omega)))<|dt (Xv (ii:=1) 0 J J J Zi pN (by first | omega | (simp only [List.length_set];omega)))<|dt (Zio J J J (by have h1:=(Qn Ht (Lp Nd x) i);omega))<|as_ J<|Zf ?_
     try (have hz:(dg 1000000000 x).getD i 0=0:=by simp [List.getD,List.getElem?_eq_none (by omega:(dg 1000000000 x).length≤i)])
     exact Qt () trivial ⟨by first | rfl | (rw [hz];rfl),rfl,rfl,rfl,rfl,trivial⟩ K4
    ·refine Zj ?_
     try (have hz:(dg 1000000000 x).getD i 0=0:=by simp [List.getD,List.getElem?_eq_none (by omega:(dg 1000000000 x).length≤i)])
     exact Qt () trivial ⟨by first | rfl | (rw [hz];rfl),rfl,rfl,rfl,rfl,trivial⟩ K4
   ·rintro _ -
    simp only [CA,NA]
    refine Ez [(0,_),(1,_),(5,_),(7,_)] [(0,_),(70,_),(1,_),(2,_)] (fun(_:Unit)=>[(6,.int .i64 ((c+(dg 1000000000 x).getD i 0+(dg 1000000000 y).getD i 0:Nat):Int))]) (fun(_:Unit)=>[]) (fun(_:Unit)=>True) K4 K4 ?_ ?_
    ·refine Zd<|Zg<|mv J<|mv J<|dt (Yd J J (i:=2) J Zi Me)<|dt (Xr J J J)<|Zf<|Za<|Zs J (fun h66=>?_) (fun h66=>?_)
     ·refine Zg<|mv J<|mv J<|mv J<|dt (Xb (ii:=2) J J J J Zi Me zT3 J (by first | omega | (simp only [List.length_set];omega)))<|dt (Xv (ii:=2) 0 J J J Zi pN (by first | omega | (simp only [List.length_set];omega)))<|dt (Zio J J J (by have h1:=(Qn Ht (Lp Nd x) i);have h2:=(Qn Ht (Lp Nd y) i);omega))<|as_ J<|Zf ?_
      try (have hz:(dg 1000000000 y).getD i 0=0:=by simp [List.getD,List.getElem?_eq_none (by omega:(dg 1000000000 y).length≤i)])
      exact Qt () trivial ⟨by first | rfl | (rw [hz];rfl),rfl,rfl,rfl,rfl,trivial⟩ K4
     ·refine Zj ?_
      try (have hz:(dg 1000000000 y).getD i 0=0:=by simp [List.getD,List.getElem?_eq_none (by omega:(dg 1000000000 y).length≤i)])
      exact Qt () trivial ⟨by first | rfl | (rw [hz];rfl),rfl,rfl,rfl,rfl,trivial⟩ K4
    ·rintro _ -
     simp only [CA,NA]
     exact Zd<|Zg<|mv J<|mv J<|dt (Zs7 (n:=1000000000) J J J (by omega))<|tt (Po (i:=3) (ivs:=[(0,_)]) (enc:=Cc) [(c+(dg 1000000000 x).getD i 0+(dg 1000000000 y).getD i 0)%1000000000] J J K2 Me ti3 J J J J J pN.cells J J hw) fun v _=>tt (Iu (i:=70) (j:=3) (by_:=8) J J J J J J (by decide) J (Yt pN) Me ti3 J pN J J J (by simp;omega) (by decide) J hw) fun v_2 _=>as_ J<|Zf<|Za<|Zg<|mv J<|dt (Zmd (n:=1000000000) J J J (by have h1:=(Qn Ht (Lp Nd x) i);have h2:=(Qn Ht (Lp Nd y) i);omega) (by omega))<|as_ J<|Zf<|Oe<|Za<|Zg<|mv J<|dt (Yx J J J ⟨by omega,by omega⟩)<|as_ J<|Zf<|Xn (i+1,o ++ [(c+(dg 1000000000 x).getD i 0+(dg 1000000000 y).getD i 0)%1000000000],(c+(dg 1000000000 x).getD i 0+(dg 1000000000 y).getD i 0)/1000000000,_) ⟨⟨by dsimp only;omega,fun h=>by dsimp only at h ⊢;rw [Zbq (by omega:(dg 1000000000 x).length≤i),Zbq (by omega:(dg 1000000000 y).length≤i)];omega⟩,by simp [hol],Zjb hoa (Nat.mod_lt _ Ht),by have h1:=(Qn Ht (Lp Nd x) i);have h2:=(Qn Ht (Lp Nd y) i);dsimp only;omega,Zso hol hv,.inr hgn⟩ (by first | omega | (dsimp only<;>omega)) K5 K4
  ·refine Yv<|Zv<|Zv<|Ox<|Za<|Zd<|Zg<|mv J<|as_ J<|Zf<|Za<|Zu ?_
   have hc0:c=0:=by omega
   have hv2:val 1000000000 o=x+y:=by
    rw [Iy Nd (by omega),Iy Nd (by omega),hc0,Nat.zero_mul,Nat.add_zero]at hv
    exact hv
   have hx:o=dg 1000000000 (x+y):=Zrc Nd hoa hv2 (by rw [hol];exact hge)
   exact Ym (.inl J) hsc _ _ (fun a w hs=>Ni hs results75 J) J trivial J (Od 70 J J pN (by rw [←hx]<;>rfl) Zk)
theorem Zlz(v w:Value)(x y:Nat)(hxy:y≤x)(hx:bl x≤4294967296:=by omega):Cal prog 91 #[v,w] [d9p v x,d9p w y] false (G:=Value) (fun r=>True) (fun r=>r) (fun r=>[d9p r (x-y)]):=by
 refine Yc func91 J ntmps91 J K2 ?_
 intro w0 sc hw hsc
 simp only [Zq,Zp]
 have hX:=Kv x
 have hm:=Oy hxy
 have hY:=Kv y
 have hly:(dg 1000000000 y).length≤(dg 1000000000 x).length:=Zmw Nd hxy
 refine Zd<|Zg<|as_ J<|Zf<|Za<|Zd<|Zg<|as_ J<|Zf<|Za<|Zd<|Zg<|as_ J<|Zf<|Za<|Zd<|Zd<|Zg<|as_ J<|Zf<|Za<|Zo<|Yr (Na 70 1 3 Cc)<|Nt [(0,_),(1,_)] [(0,_),(1,_),(2,_)] (fun(q:Nat×List Nat×Nat×Value)=>[(7,.int .i64 (q.1:Int)),(6,.int .i64 (q.2.2.1:Int)),(5,q.2.2.2)]) (fun(q:Nat×List Nat×Nat×Value)=>[(70,osl 1 3 Cc q.2.2.2 q.2.1)]) (fun(q:Nat×List Nat×Nat×Value)=>(q.1≤(dg 1000000000 x).length)∧(q.2.1.length=q.1)∧(∀d∈q.2.1,d<1000000000)∧(q.2.2.1≤1)∧(val 1000000000 q.2.1+val 1000000000 ((dg 1000000000 y).take q.1)=val 1000000000 ((dg 1000000000 x).take q.1)+q.2.2.1*1000000000^q.1)) (fun(q:Nat×List Nat×Nat×Value)=>(dg 1000000000 x).length-q.1) (0,[],0,.slice none 0 0) ⟨by first | omega | (dsimp only<;>omega),rfl,by simp,by first | omega | (dsimp only<;>omega),by simp [val]⟩ K5 K4 ?_
 rintro⟨i,o,c,vo⟩ ⟨hi,hol,hoa,hc,hv⟩
 dsimp only at hi hol hoa hc hv
 simp only [CA,NA]
 have hda:=(Qn Ht (Lp Nd x) i)
 have hdb:=(Qn Ht (Lp Nd y) i)
 refine Zd<|Zd<|Zg<|mv J<|mv J<|dt (Yd J J (i:=1) J Zi Me)<|dt (Xr J J J)<|Zf<|Za<|Zs J (fun h79=>?_) (fun h79=>?_)
 ·refine Zj<|Za<|Zd<|Zo<|Zd<|Zg<|mv J<|mv J<|dt (Xb (ii:=1) J J J J Zi Me zT3 J (by first | omega | (simp only [List.length_set];omega)))<|dt (Xv (ii:=1) 0 J J J Zi pN (by first | omega | (simp only [List.length_set];omega)))<|mv J<|dt (Qd J J J ⟨by omega,by omega⟩)<|as_ J<|Zf<|Za<|Ez [(0,_),(1,_),(5,_),(7,_)] [(0,_),(70,_),(1,_),(2,_)] (fun(_:Unit)=>[(8,.int .i64 (((dg 1000000000 x).getD i 0:Int)-(c:Int)-((dg 1000000000 y).getD i 0:Int)))]) (fun(_:Unit)=>[]) (fun(_:Unit)=>True) K4 K4 ?_ ?_
  ·refine Zd<|Zg<|mv J<|mv J<|dt (Yd J J (i:=2) J Zi Me)<|dt (Xr J J J)<|Zf<|Za<|Zs J (fun h81=>?_) (fun h81=>?_)
   ·refine Zg<|mv J<|mv J<|mv J<|dt (Xb (ii:=2) J J J J Zi Me zT3 J (by first | omega | (simp only [List.length_set];omega)))<|dt (Xv (ii:=2) 0 J J J Zi pN (by first | omega | (simp only [List.length_set];omega)))<|dt (Qd J J J ⟨by omega,by omega⟩)<|as_ J<|Zf ?_
    try (have hz:(dg 1000000000 y).getD i 0=0:=by simp [List.getD,List.getElem?_eq_none (by omega:(dg 1000000000 y).length≤i)])
    exact Qt () trivial ⟨by first | rfl | (rw [hz];exact congrArg some (Ag (by omega))),rfl,rfl,rfl,rfl,trivial⟩ K4
   ·refine Zj ?_
    try (have hz:(dg 1000000000 y).getD i 0=0:=by simp [List.getD,List.getElem?_eq_none (by omega:(dg 1000000000 y).length≤i)])
    exact Qt () trivial ⟨by first | rfl | (rw [hz];exact congrArg some (Ag (by omega))),rfl,rfl,rfl,rfl,trivial⟩ K4
  ·rintro _ -
   simp only [CA,NA]
   refine Zd<|Zg<|as_ J<|Zf<|Za<|Ez [(0,_),(1,_),(5,_),(7,_)] [(0,_),(70,_),(1,_),(2,_)] (fun(_:Unit)=>[(8,.int .i64 ((d9s ((dg 1000000000 x).getD i 0) ((dg 1000000000 y).getD i 0) c:Nat):Int)),(6,.int .i64 ((brw ((dg 1000000000 x).getD i 0) ((dg 1000000000 y).getD i 0) c:Nat):Int))]) (fun(_:Unit)=>[]) (fun(_:Unit)=>True) K4 K4 ?_ ?_
   ·refine Zd<|Zg<|mv J<|dt (Xr J J J)<|Zf<|Za<|Zs J (fun h85=>?_) (fun h85=>?_)
    ·exact Zg<|mv J<|dt (Yx J J J ⟨by omega,by omega⟩)<|as_ J<|as_ J<|Zf<|Qt () trivial ⟨by exact congrArg some (Ag (by unfold d9s;split<;>omega)),by exact congrArg some (Ag (by unfold brw;split<;>omega)),rfl,rfl,rfl,rfl,trivial⟩ K4
    ·exact Zj<|Qt () trivial ⟨by exact congrArg some (Ag (by unfold d9s;split<;>omega)),by exact congrArg some (Ag (by unfold brw;split<;>omega)),rfl,rfl,rfl,rfl,trivial⟩ K4
   ·rintro _ -
    simp only [CA,NA]
    exact Zg<|mv J<|mv J<|tt (Po (i:=3) (ivs:=[(0,_)]) (enc:=Cc) [d9s ((dg 1000000000 x).getD i 0) ((dg 1000000000 y).getD i 0) c] J J K2 Me ti3 J J J J J pN.cells J J hw) fun v _=>tt (Iu (i:=70) (j:=3) (by_:=8) J J J J J J (by decide) J (Yt pN) Me ti3 J pN J J J (by simp;omega) (by decide) J hw) fun v_2 _=>as_ J<|Zf<|Oe<|Za<|Zg<|mv J<|dt (Yx J J J ⟨by omega,by omega⟩)<|as_ J<|Zf<|Xn (i+1,o ++ [d9s ((dg 1000000000 x).getD i 0) ((dg 1000000000 y).getD i 0) c],brw ((dg 1000000000 x).getD i 0) ((dg 1000000000 y).getD i 0) c,_) ⟨by first | omega | (dsimp only<;>omega),by simp [hol],Zjb hoa (Zut hda hdb hc).1,brw_le _ _ _,Zqg hc hda hdb hol hv⟩ (by first | omega | (dsimp only<;>omega)) K5 K4
 ·refine Yv<|Zv<|Zv<|Ox<|Za<|Zd<|Zg<|mv J<|tt (Zh (n:=3) (Kg _ _) J J J K1 call77 (Xu 70 J J pN Ze) J hw) fun _ _=>Oc (Zgi 70 J J pN)<|as_ J<|Zf<|Za<|Zu ?_
  obtain rfl:i=(dg 1000000000 x).length:=by omega
  have hx:tz o=dg 1000000000 (x-y):=by
   rw [←Kr Nd _ hoa]
   congr 1
   rw [Nv _ (dg 1000000000 y) _ hly,Nv _ (dg 1000000000 x) _ (Nat.le_refl _),Le Nd,Le Nd]at hv
   have h1:=Zgc Ht o hoa
   rw [hol]at h1
   have h0:c=0∨c=1:=by omega
   rcases h0 with rfl | rfl<;>omega
  exact Ym (.inl J) hsc _ _ (fun a w hs=>Ni hs results91 J) J trivial J (Od 70 J J pN (by rw [hx]<;>rfl) Zk)
set_option maxHeartbeats 4000000 in
theorem Zr9(v w:Value)(x y:Nat)(hx:bl x≤4294967296)(hy:bl y≤4294967296):Cal prog 123 #[v,w] [d9p v x,d9p w y] false (G:=Value) (fun r=>True) (fun r=>r) (fun r=>[d9p r (x*y)]):=by
 refine Yc func123 J ntmps123 J K2 ?_
 intro w0 sc hw hsc
 simp only [Zq,Zp]
 have hX:=Kv x
 have hY:=Kv y
 refine Zd<|Zg<|as_ J<|Zf<|Za<|Zd<|Zg<|mv J<|dt (Yd J J (i:=1) J Zi Me)<|mv J<|dt (Yd J J (i:=2) J Zi Me)<|dt (Yx J J J ⟨by omega,by omega⟩)<|tt (Gb (i:=3) (n:=((dg 1000000000 x).length+(dg 1000000000 y).length)) (by_:=8) (enc:=Cc) 0 J J J J Me ti3 J pN.cells pN.pos J J J hw) fun v _=>as_ J<|Zf<|Za<|Zd<|Zd<|Zg<|as_ J<|Zf<|Za<|Zo<|Nt [(0,_),(1,_),(5,_)] [(0,_),(1,_),(2,_)] (fun(q:Nat×List Nat)=>[(6,.int .i64 (q.1:Int))]) (fun(q:Nat×List Nat)=>[(3,osl 1 3 Cc v q.2)]) (fun(q:Nat×List Nat)=>(q.1≤(dg 1000000000 x).length)∧(q.2.length=((dg 1000000000 x).length+(dg 1000000000 y).length))∧(∀d∈q.2,d<1000000000)∧(∀j,q.1+(dg 1000000000 y).length≤j→q.2.getD j 0=0)∧(val 1000000000 q.2=val 1000000000 ((dg 1000000000 x).take q.1)*y)) (fun(q:Nat×List Nat)=>(dg 1000000000 x).length-q.1) (0,List.replicate ((dg 1000000000 x).length+(dg 1000000000 y).length) 0) ⟨by first | omega | (dsimp only<;>omega),by simp,Nf _ Ht,fun j _=>Lr _ j,by simp [val,Ih]⟩ K4 K4 ?_
 rintro⟨i,o⟩ ⟨hi,hol,hoa,hz0,hv⟩
 dsimp only at hi hol hoa hz0 hv
 simp only [CA,NA]
 refine Zd<|Zd<|Zg<|mv J<|mv J<|dt (Yd J J (i:=1) J Zi Me)<|dt (Xr J J J)<|Zf<|Za<|Zs J (fun h96=>?_) (fun h96=>?_)
 ·refine Zj<|Za<|Zd<|Zo<|Zd<|Zg<|as_ J<|Zf<|Za<|Zd<|Zg<|as_ J<|Zf<|Za<|Zo<|Nt [(0,_),(1,_),(5,_),(6,_)] [(0,_),(1,_),(2,_)] (fun(q:Nat×List Nat×Nat)=>[(8,.int .i64 (q.1:Int)),(7,.int .i64 (q.2.2:Int))]) (fun(q:Nat×List Nat×Nat)=>[(3,osl 1 3 Cc v q.2.1)]) (fun(q:Nat×List Nat×Nat)=>(q.1≤(dg 1000000000 y).length+1∧(q.1=(dg 1000000000 y).length+1→q.2.2=0))∧(q.2.1.length=((dg 1000000000 x).length+(dg 1000000000 y).length))∧(∀d∈q.2.1,d<1000000000)∧(∀j,i+q.1≤j→i+(dg 1000000000 y).length≤j→q.2.1.getD j 0=0)∧(q.2.2<1000000000)∧(val 1000000000 q.2.1+q.2.2*1000000000^(i+q.1)=val 1000000000 ((dg 1000000000 x).take i)*y+(dg 1000000000 x).getD i 0*1000000000^i*val 1000000000 ((dg 1000000000 y).take q.1))) (fun(q:Nat×List Nat×Nat)=>(dg 1000000000 y).length+1-q.1) (0,o,0) ⟨⟨by omega,by omega⟩,hol,hoa,fun j _ h=>hz0 j h,by first | omega | (dsimp only<;>omega),by rw [hv];simp [val]⟩ K6 K4 ?_
  rintro⟨k,p,c⟩ ⟨hk,hpl,hpa,hpz,hcU,hpv⟩
  dsimp only at hk hpl hpa hpz hcU hpv
  simp only [CA,NA]
  have hdig:=Zlj (Qn Ht (Lp Nd x) i) (Qn Ht (Lp Nd y) k) (Qn Ht hpa (i+k)) hcU
  refine Zd<|Ez [(0,_),(1,_),(5,_),(6,_),(7,_),(8,_)] [(0,_),(3,_),(1,_),(2,_)] (fun(_:Unit)=>[(29,.bool (decide (k<(dg 1000000000 y).length∨0<c)))]) (fun(_:Unit)=>[]) (fun(_:Unit)=>True) K6 K4 ?_ ?_
  ·refine Zg<|mv J<|mv J<|dt (Yd J J (i:=2) J Zi Me)<|dt (Xr J J J)<|mv J<|Qm (d:=26) J (fun s98=>?_) (fun s98=>?_)
   ·exact gsk J J J<|gsk J J J<|dt (Ys J J J)<|Zf<|Qt () trivial ⟨by first | exact congrArg some (congrArg Value.bool (decide_eq_decide.2 (by omega))) | exact congrArg some (congrArg Value.bool (decide_eq_true (by omega)).symm),rfl,rfl,rfl,rfl,rfl,rfl,trivial⟩ K4
   ·exact gdt (Yo J J) J J<|gdt (Pm J J J) J J<|dt (Zz J J J)<|Zf<|Qt () trivial ⟨by first | exact congrArg some (congrArg Value.bool (decide_eq_decide.2 (by omega))) | exact congrArg some (congrArg Value.bool (decide_eq_true (by omega)).symm),rfl,rfl,rfl,rfl,rfl,rfl,trivial⟩ K4
  ·rintro _ -
   simp only [CA,NA]
   refine Zs J (fun h98=>?_) (fun h98=>?_)
   ·refine Zj<|Za<|Zd<|Zo<|Zd<|Zg<|mv J<|mv J<|mv J<|dt (Zio J J J (by omega))<|dt (Xb (ii:=3) (i:=(i+k)) J J J J (Yt pN) Me zT3)<|dt (Xv (ii:=3) 0 J J J (Yt pN) pN)<|mv J<|dt (Zio J J J (by have h1:=Qn Ht hpa (i+k);omega))<|as_ J<|Zf<|Za<|Ez [(0,_),(1,_),(5,_),(6,_),(8,_)] [(0,_),(3,_),(1,_),(2,_)] (fun(_:Unit)=>[(9,.int .i64 ((p.getD (i+k) 0+c+(dg 1000000000 x).getD i 0*(dg 1000000000 y).getD k 0:Nat):Int))]) (fun(_:Unit)=>[]) (fun(_:Unit)=>True) K5 K4 ?_ ?_
    ·refine Zd<|Zg<|mv J<|mv J<|dt (Yd J J (i:=2) J Zi Me)<|dt (Xr J J J)<|Zf<|Za<|Zs J (fun h100=>?_) (fun h100=>?_)
     ·refine Qi (fun _=>False) [(0,0),(1,0),(2,0),(3,0),(4,0),(5,0),(6,0),(7,0),(8,0),(9,0),(10,0),(11,3)] ?_ ?_
      ·kernel_rfl
      refine r0' J J (st0 (Yo J J))<|r0' J J (st0 (Yo J J))<|r0' J J (st0 (Yo J J))<|r0' J J (st0 (Xb (ii:=1) J J J J Zi Me zT3 J (by first | omega | (simp only [List.length_set];omega))))<|r0' J J (st0 (Xv (ii:=1) 0 J J J Zi pN (by first | omega | (simp only [List.length_set];omega))))<|r0' J J (st0 (Yo J J))<|r0' J J (st0 (Yo J J))<|r0' J J (st0 (Xb (ii:=2) J J J J Zi Me zT3 J (by first | omega | (simp only [List.length_set];omega))))<|r0' J J (st0 (Xv (ii:=2) 0 J J J Zi pN (by first | omega | (simp only [List.length_set];omega))))<|r0' J J (st0 (n_mul J J J (by have h1:=hdig.2;omega)))<|r0' J J (st0 (Zio J J J hdig.2))<|r3' J (Py (Mf J J) J) fun _ _=>Of ?_
      try (have hz:(dg 1000000000 y).getD k 0=0:=Zbq (by omega))
      exact Qt () trivial ⟨by first | rfl | (rw [hz,Nat.mul_zero];rfl),rfl,rfl,rfl,rfl,rfl,trivial⟩ K4
     ·refine Zj ?_
      try (have hz:(dg 1000000000 y).getD k 0=0:=Zbq (by omega))
      exact Qt () trivial ⟨by first | rfl | (rw [hz,Nat.mul_zero];rfl),rfl,rfl,rfl,rfl,rfl,trivial⟩ K4
    ·rintro _ -
     simp only [CA,NA]
     exact Zd<|Zg<|mv J<|mv J<|mv J<|dt (Zio J J J (by omega))<|mv J<|dt (Zs7 (n:=1000000000) J J J (by omega))<|dt (Xb (ii:=3) (i:=(i+k)) J J J J (Yt pN) Me zT3)<|tt (Ii (i:=3) (enc:=Cc) _ J J J J J J pN J hw) fun _ _=>Zf<|Za<|Zg<|mv J<|dt (Zmd (n:=1000000000) J J J hdig.2 (by omega))<|as_ J<|Zf<|Oe<|Za<|Zg<|mv J<|dt (Yx J J J ⟨by omega,by omega⟩)<|as_ J<|Zf<|Xn (k+1,_,_) ⟨⟨by dsimp only;omega,fun h=>by dsimp only at h ⊢;rw [Zbq (by omega:(dg 1000000000 y).length≤k),hpz (i+k) (by omega) (by omega),Nat.mul_zero];omega⟩,by simp;omega,Lv hpa _ _ (Nat.mod_lt _ Ht),fun j hj hj2=>by dsimp only at hj ⊢;rw [Nq _ _ _ _ _ (by omega),if_neg (by omega)];exact hpz j (by omega) hj2,hdig.1,Zpx hpv (by omega)⟩ (by first | omega | (dsimp only<;>omega)) K6 K4
   ·refine Yv<|Zv<|Zv<|Ox<|Oe<|Za<|Zg<|mv J<|dt (Yx J J J ⟨by omega,by omega⟩)<|as_ J<|Zf ?_
    have hc0:c=0:=by omega
    have hvf:=hpv
    rw [hc0,Nat.zero_mul,Nat.add_zero,Iy (x:=y) (k:=k) Nd (by omega)]at hvf
    exact Xn (i+1,_) ⟨by first | omega | (dsimp only<;>omega),hpl,hpa,fun j hj=>hpz j (by dsimp only at hj;omega) (by dsimp only at hj;omega),by dsimp only;rw [hvf,Qw,Nat.add_mul]⟩ (by first | omega | (dsimp only<;>omega)) K4 K4
 ·refine Yv<|Zv<|Zv<|Ox<|Za<|Zd<|Zg<|mv J<|tt (Zh (n:=3) (Kg _ _) J J J K1 call77 (Xu 3 J J pN Ze) J hw) fun _ _=>Oc (Zgi 3 J J pN)<|as_ J<|Zf<|Za<|Zu ?_
  obtain rfl:i=(dg 1000000000 x).length:=by omega
  have hx:tz o=dg 1000000000 (x*y):=by
   rw [←Kr Nd _ hoa,hv,Iy Nd (Nat.le_refl _)]
  exact Ym (.inl J) hsc _ _ (fun a w hs=>Ni hs results123 J) J trivial J (Od 3 J J pN (by rw [hx]<;>rfl) Zk)
theorem Zib(v:Value)(x n:Nat)(hx:bl x≤4294967296:=by omega)(hn:n<1000000000:=by omega):Cal prog 76 #[v,.int .i64 (n:Int)] [d9p v x] true (G:=Value) (fun r=>True) (fun r=>r) (fun r=>[d9p r (x*n)]):=by
 refine Yc func76 J ntmps76 J K1 ?_
 intro w0 sc hw hsc
 simp only [Zq,Zp]
 refine Zd<|Zg<|as_ J<|Zf<|Za<|Zd<|Zd<|Zg<|mv J<|dt (Pg J J J)<|Zf<|Za<|Zs J (fun h112=>?_) (fun h112=>?_)
 ·exact Zd<|Zg<|as_ J<|Zf<|Za<|Zu<|Xa<|Qu (Na 9 1 3 Cc)<|Ym (.inl J) hsc (.slice none 0 0) _ (fun a w hs=>Ni hs results76 J) J trivial J (Od 9 J J pN (by rw [show n=0 by omega,Nat.mul_zero]<;>rfl) Zk)
 ·have hn0:n≠0:=by omega
  exact Zj<|Za<|Zd<|Zg<|mv J<|mv J<|tt (Po (i:=70) (ivs:=[(0,_)]) (enc:=Cc) [n] J J K2 Me ti3 J J J J J pN.cells J J hw) fun v _=>Oc (Zfz 70 (Zyl Nd hn hn0).symm J J)<|tt (Zh (n:=2) (Zr9 _ _ _ n hx (by have:=(Mp 30 n).2 (by omega);omega)) J J J K2 call123 (Zc 1 J J J (Xu 70 J J pN Ze)) J hw) fun v_2 _=>as_ J<|Zf<|Za<|Zu<|Ym (.inl J) hsc _ _ (fun a w hs=>Ni hs results76 J) J trivial J (Yy 2 J J J Zk)
set_option maxHeartbeats 4000000 in
theorem r_over(v w:Value)(x y:Nat)(hy0:0<y)(hx:bl x≤4000000000:=by omega)(hy:bl y≤4000000000:=by omega):Cal prog 124 #[v,w] [d9p v x,d9p w y] true (G:=Value×Value) (fun r=>True) (fun r=> .tuple #[r.1,r.2]) (fun r=>[d9p r.1 (x/y),d9p r.2 (x%y)]):=by
 refine Yc func124 J ntmps124 J K2 ?_
 intro w0 sc hw hsc
 simp only [Zq,Zp]
 have hX:=Kv x
 have hY:=Kv y
 refine Zd<|Zg<|as_ J<|as_ J<|Zf<|Za<|Zd<|Zg<|mv J<|dt (Yd J J (i:=1) J Zi Me)<|tt (Gb (i:=3) (n:=(dg 1000000000 x).length) (by_:=8) (enc:=Cc) 0 J J J J Me ti3 J pN.cells pN.pos J J J hw) fun v _=>as_ J<|Zf<|Za<|Zd<|Zg<|as_ J<|Zf<|Za<|Zd<|Zd<|Zg<|mv J<|dt (Yd J J (i:=1) J Zi Me)<|dt (Qd J J J ⟨by omega,by omega⟩)<|as_ J<|Zf<|Za<|Zo<|Yr (Na 71 1 3 Cc)<|Yr (Pd 71 J J pN) ?_
 refine Nt [(0,_),(1,_),(6,_)] [(0,_),(1,_),(2,_)] (fun(q:Nat×List Nat×Nat×Value)=>[(8,.int .i64 ((q.1:Int)-1)),(7,q.2.2.2)]) (fun(q:Nat×List Nat×Nat×Value)=>[(3,osl 1 3 Cc v q.2.1),(71,d9p q.2.2.2 q.2.2.1)]) (fun(q:Nat×List Nat×Nat×Value)=>(q.1≤(dg 1000000000 x).length)∧(q.2.1.length=(dg 1000000000 x).length)∧(∀d∈q.2.1,d<1000000000)∧(∀j,j<q.1→q.2.1.getD j 0=0)∧(val 1000000000 (q.2.1.drop q.1)*y+q.2.2.1=x/1000000000^q.1)∧(q.2.2.1<y)) (fun(q:Nat×List Nat×Nat×Value)=>q.1) ((dg 1000000000 x).length,List.replicate (dg 1000000000 x).length 0,0,.slice none 0 0) ⟨Nat.le_refl _,by simp,Nf _ Ht,fun j _=>Lr _ j,by dsimp only;rw [Nat.div_eq_of_lt ((Xz Nd _ x).1 (Nat.le_refl _))];simp [val],hy0⟩ K5 K5 ?_
 rintro⟨k,q,r,vr⟩ ⟨hk,hql,hqa,hqz,hv,hr⟩
 dsimp only at hk hql hqa hqz hv hr
 simp only [CA,NA]
 refine Zd<|Zd<|Zg<|mv J<|dt (Ke J J J)<|Zf<|Za<|Zs J (fun h122=>?_) (fun h122=>?_)
 ·have hk0:0<k:=by omega
  have ha9:=Qn Ht (Lp Nd x) (k-1)
  have hdig:x/1000000000^(k-1)=x/1000000000^k*1000000000+(dg 1000000000 x).getD (k-1) 0:=by rw [Hi Nd];exact(Zqe hk0).symm
  rw [←hv,Nat.add_mul]at hdig
  have hrb:=bl_over hr ha9
  have hQ9:=over_Q hr ha9
  refine Zj<|Za<|Zd<|Zo<|Zd<|Zg<|mv J<|mv J<|dt (Xb (ii:=1) (i:=(k-1)) J J J J Zi Me zT3)<|dt (Xv (ii:=1) 0 J J J Zi pN)<|tt (Po (i:=72) (ivs:=[(0,_)]) (enc:=Cc) [(dg 1000000000 x).getD (k-1) 0] J J K2 Me ti3 J J J J J pN.cells J J hw) fun v_2 _=>mv J<|tt (Iu (i:=72) (j:=71) (by_:=8) J J J J J J (by decide) J Zi Me ti3 J pN J J J (by have h8:=Kv r;have h9:=Oy (Nat.le_of_lt hr);simp;omega) (by decide) J hw) fun v_3 _=>tt (Zh (n:=3) (Kg _ _) J J J K1 call77 (Xu 72 J J pN Ze) J hw) fun _ _=>Oc (Zgi 72 J J pN)<|Oc (Zfz 72 (tz_cons Nd ha9) J J)<|Oc (Pd 72 J J pN)<|as_ J<|Zf<|Za<|Zd<|Zd<|Zg<|mv J<|mv J<|tt (Zh (n:=3) (Zly _ _ _ _) J J J K2 call90 (Zc 72 J J J (Zc 2 J J J Ze)) J hw) fun _ _=>dt (Xr J J J)<|Zf<|Za<|Zs J (fun h124=>?_) (fun h124=>?_)
  ·have hlt:(r*1000000000+(dg 1000000000 x).getD (k-1) 0)<y:=Zpg.1 h124
   refine Yv<|Zv<|Ox<|Za<|Zg<|mv J<|dt (Qd J J J ⟨by omega,by omega⟩)<|as_ J<|Zf<|Qu (Oa 72 71 J J J) ?_
   have h2:=Zui hk0 (by omega:k≤q.length) (hqz (k-1) (by omega))
   exact Xn (k-1,q,r*1000000000+(dg 1000000000 x).getD (k-1) 0,_) ⟨by first | omega | (dsimp only<;>omega),by first | omega | (dsimp only<;>omega),by first | omega | (dsimp only<;>omega),fun j hj=>hqz j (by dsimp only at hj;omega),by have h9:1000000000*val 1000000000 (q.drop k)*y=val 1000000000 (q.drop k)*y*1000000000:=(by rw [Nat.mul_assoc,Nat.mul_comm]);dsimp only;rw [h2,hdig,h9];omega,hlt⟩ (by first | omega | (dsimp only<;>omega)) ⟨by rw [show(((k-1:Nat):Int)-1)=(k:Int)-1-1 by omega];rfl,rfl,rfl,rfl,rfl,trivial⟩ K5
  ·have hge:y≤(r*1000000000+(dg 1000000000 x).getD (k-1) 0):=by have:=mt Zpg.2 h124;omega
   refine Zj<|Za<|Zd<|Zg<|as_ J<|as_ J<|Zf<|Za<|Zd<|Zo<|Nt [(0,_),(1,_),(6,_),(7,_),(8,_)] [(0,_),(3,_),(71,_),(1,_),(2,_),(72,_)] (fun(q:Nat×Nat)=>[(9,.int .i64 (q.1:Int)),(10,.int .i64 (q.2:Int))]) (fun(q:Nat×Nat)=>[]) (fun(q:Nat×Nat)=>(q.1≤(r*1000000000+(dg 1000000000 x).getD (k-1) 0)/y)∧((r*1000000000+(dg 1000000000 x).getD (k-1) 0)/y≤q.2)∧(q.2<1000000000)) (fun(q:Nat×Nat)=>q.2-q.1) (0,999999999) ⟨Nat.zero_le _,by omega,by first | omega | (dsimp only<;>omega)⟩ K7 K6 ?_
   rintro⟨lo,hi⟩ ⟨hlo,hhi,hh9⟩
   dsimp only at hlo hhi hh9
   simp only [CA,NA]
   have hmid:(lo+hi+1)/2<1000000000:=by omega
   refine Zd<|Zd<|Zg<|mv J<|mv J<|dt (Xr J J J)<|Zf<|Za<|Zs J (fun h128=>?_) (fun h128=>?_)
   ·refine Zj<|Za<|Zo<|Zd<|Zg<|mv J<|mv J<|dt (Zio J J J (by omega))<|dt (Zio (n:=1) J J J (by omega))<|dt (Zmd (n:=2) J J J (by omega) (by omega))<|as_ J<|Zf<|Za<|Zd<|Zg<|mv J<|mv J<|tt (Zh (n:=4) (Zib _ _ _) J J J K2 call76 (Zc 2 J J J Ze) J hw) fun v_4 _=>mv J<|tt (Zh (n:=4) (Zly _ _ _ _ (by have:=Zi8 (y:=y) hmid;omega)) J J J K2 call90 (Zc 4 J J J (Zc 72 J J J Ze)) J hw) fun _ _=>dt (Cf J J J)<|Zf<|Za<|Zs J (fun h130=>?_) (fun h130=>?_)
    ·have hcm:y*((lo+hi+1)/2)≤(r*1000000000+(dg 1000000000 x).getD (k-1) 0):=Zuz.1 h130
     exact Zg<|mv J<|as_ J<|Zf<|Oe<|Xn ((lo+hi+1)/2,hi) ⟨(Nat.le_div_iff_mul_le hy0).2 (by rw [Nat.mul_comm];exact hcm),by first | omega | (dsimp only<;>omega),by first | omega | (dsimp only<;>omega)⟩ (by first | omega | (dsimp only<;>omega)) K7 K6
    ·have hcm:(r*1000000000+(dg 1000000000 x).getD (k-1) 0)<y*((lo+hi+1)/2):=by have:=mt Zuz.2 h130;omega
     exact Zg<|mv J<|dt (Qd J J J ⟨by omega,by omega⟩)<|as_ J<|Zf<|Oe<|Xn (lo,(lo+hi+1)/2-1) ⟨by first | omega | (dsimp only<;>omega),by have h7:=(Nat.div_lt_iff_lt_mul hy0).2 (show(r*1000000000+(dg 1000000000 x).getD (k-1) 0)<(lo+hi+1)/2*y by have h6:=Nat.mul_comm ((lo+hi+1)/2) y;omega);dsimp only;omega,by first | omega | (dsimp only<;>omega)⟩ (by first | omega | (dsimp only<;>omega)) ⟨J,by rw [show(((lo+hi+1)/2-1:Nat):Int)=(((lo+hi+1)/2:Nat):Int)-1 by omega];rfl,rfl,rfl,rfl,rfl,rfl,trivial⟩ K6
   ·have hloQ:lo=(r*1000000000+(dg 1000000000 x).getD (k-1) 0)/y:=by omega
    refine Yv<|Zv<|Zv<|Ox<|Za<|Zd<|Zg<|mv J<|mv J<|mv J<|dt (Xb (ii:=3) (i:=(k-1)) J J J J (Yt pN) Me zT3)<|tt (Ii (i:=3) (enc:=Cc) _ J J J J J J pN J hw) fun _ _=>Zf<|Za<|Zg<|mv J<|mv J<|mv J<|tt (Zh (n:=5) (Zib _ _ _) J J J K2 call76 (Zc 2 J J J Ze) J hw) fun v_5 _=>tt (Zh (n:=6) (Zlz _ _ _ _ (by rw [hloQ];exact Nat.mul_div_le _ _)) J J J K2 call91 (Zc 72 J J J (Zc 5 J J J Ze)) J hw) fun v_6 _=>as_ J<|Zf<|Oe<|Za<|Zg<|mv J<|dt (Qd J J J ⟨by omega,by omega⟩)<|as_ J<|Zf<|Qu (Oa 6 71 J J J) ?_
    have h2:=Zda (d:=lo) hk0 (by omega:k≤q.length)
    have h16:y*lo≤(r*1000000000+(dg 1000000000 x).getD (k-1) 0):=by rw [hloQ];exact Nat.mul_div_le _ _
    exact Xn (k-1,_,(r*1000000000+(dg 1000000000 x).getD (k-1) 0)-y*lo,_) ⟨by first | omega | (dsimp only<;>omega),by simp [hql],Lv hqa _ _ (by omega),fun j hj=>by dsimp only at hj ⊢;rw [Nq _ _ _ _ _ (by omega),if_neg (by omega)];exact hqz j (by omega),by have h9:1000000000*val 1000000000 (q.drop k)*y=val 1000000000 (q.drop k)*y*1000000000:=(by rw [Nat.mul_assoc,Nat.mul_comm]);dsimp only;rw [h2,hdig,Nat.add_mul,h9];have h5:lo*y=y*lo:=Nat.mul_comm _ _;omega,by dsimp only;rw [hloQ];have h5:=Nat.div_add_mod (r*1000000000+(dg 1000000000 x).getD (k-1) 0) y;have h6:=Nat.mod_lt (r*1000000000+(dg 1000000000 x).getD (k-1) 0) hy0;omega⟩ (by first | omega | (dsimp only<;>omega)) ⟨by rw [show(((k-1:Nat):Int)-1)=(k:Int)-1-1 by omega];rfl,rfl,rfl,rfl,rfl,trivial⟩ K5
 ·refine Yv<|Zv<|Zv<|Ox<|Za<|Zd<|Zg<|mv J<|tt (Zh (n:=6) (Kg _ _) J J J K1 call77 (Xu 3 J J pN Ze) J hw) fun _ _=>Oc (Zgi 3 J J pN)<|mv J<|as_ J<|as_ J<|Zf<|Za<|Zu ?_
  obtain rfl:k=0:=by omega
  rw [List.drop_zero,Nat.pow_zero,Nat.div_one]at hv
  have hq:val 1000000000 q=x/y:=by rw [←hv,Nat.mul_comm,Nat.mul_add_div hy0,Nat.div_eq_of_lt hr,Nat.add_zero]
  have hr2:r=x%y:=by rw [←hv,Nat.mul_comm,Nat.mul_add_mod,Nat.mod_eq_of_lt hr]
  have hx:tz q=dg 1000000000 (x/y):=by rw [←Kr Nd _ hqa,hq]
  exact Ym (.inl J) hsc (_,_) _ (fun a w hs=>Nl hs results124 J J) J trivial J (Od 3 J J pN (by rw [hx]<;>rfl) (Yi 71 J J J (by rw [hr2]<;>rfl) Zk))
theorem Ad(s:Bool)(v:Value)(n:Nat)(z:Int)(hn:n=z.natAbs)(hs:sg s z)(hb:bl n≤4294967296):Mc prog 78 #[.bool s,v] [d9p v n] (.agg #[.bool (decide (z<0)),v]):=by
 refine Yc func78 J ntmps78 J K1 ?_
 intro w0 sc hw hsc
 simp only [Zq,Zp]
 have hl9:=Kv n
 refine Zd<|Zg<|tt (Zn (i:=2) J J zeroValue48 J J hw) fun b _=>Zf<|Za<|Zd<|Zg<|mv J<|mv J<|Ll (d:=6) J (fun s143=>?_) (fun s143=>?_)
 ·exact gdt (Yo J J) J J<|gdt (Yd J J (i:=1) J Zi Me) J J<|gdt (Pm J J J) J J<|dt (Ys J J J)<|mv J<|dt (Pv (ivs:=[(0,_),(1,_)]) J K4 (fun a w hs=>b48_01 ((Zb J) a w hs) ((Zl (i:=1) J Zi) a w hs)))<|tt (Zm (i:=2) J J J J J (by decide) J Xp J J ⟨Zb J,Zl (i:=1) J Zi,trivial⟩ J hw trivial) fun _ _=>Zf<|Za<|Zu<|Ym (.inl J) hsc () _ (fun a w hs=>Ni hs results78 (Yn (i:=2) J J Nm Xp J)) (by rw [←made_b hn hs,←Zor];simp_all) trivial J Zk
 ·exact gsk J J J<|gsk J J J<|gsk J J J<|dt (Zz J J J)<|mv J<|dt (Pv (ivs:=[(0,_),(1,_)]) J K4 (fun a w hs=>b48_01 ((Zb J) a w hs) ((Zl (i:=1) J Zi) a w hs)))<|tt (Zm (i:=2) J J J J J (by decide) J Xp J J ⟨Zb J,Zl (i:=1) J Zi,trivial⟩ J hw trivial) fun _ _=>Zf<|Za<|Zu<|Ym (.inl J) hsc () _ (fun a w hs=>Ni hs results78 (Yn (i:=2) J J Nm Xp J)) (by rw [←made_b hn hs,←Zor];simp_all) trivial J Zk
theorem Zp8(v:Value)(x:Int)(hx:bl x.natAbs≤3000000000):Cal prog 73 #[.agg #[.bool (decide (x<0)),v]] [d9p v x.natAbs] true (G:=Value) (fun r=>True) (fun r=> .agg #[.bool (decide (-x<0)),r]) (fun r=>[d9p r (-x).natAbs]):=by
 refine Yc func73 J ntmps73 J K1 ?_
 intro w0 sc hw hsc
 simp only [Zq,Zp]
 exact Zd<|Zg<|tt (Yu (i:=2) J J J J J hw) fun b _=>tt (Zn (i:=3) J J zeroValue48 J J hw) fun b_2 _=>Zf<|Za<|Zd<|Zg<|dt (Xs J J Zal J zT4 J J)<|dt (Oj (i:=2) J J J iA4 J)<|dt (Xg J J)<|dt (Xs J J Zal J Zjd J J)<|dt (Oj (i:=2) J J J Zkm J)<|tt (Zh (n:=3) (Ad _ _ _ (-x) (Int.natAbs_neg x).symm (sg_neg (Xq x)) (by omega)) J J J K2 call78 (Zc 1 J J J Ze) J hw) fun _ _=>tt (Zm (i:=3) J J J J J (by decide) J Xp J J ⟨Zb J,Zl (i:=1) J Zi,trivial⟩ J hw trivial) fun _ _=>Zf<|Za<|Zu<|Ym (.inl J) hsc _ _ (fun a w hs=>Ni hs results73 (Yn (i:=3) J J Nm Xp J)) J trivial J (Yi 1 J J J (by rw [Int.natAbs_neg]<;>rfl) Zk)
theorem Zp9(v w:Value)(x y:Int)(hx:bl x.natAbs≤3000000000:=by omega)(hy:bl y.natAbs≤3000000000:=by omega):Cal prog 37 #[.agg #[.bool (decide (x<0)),v],.agg #[.bool (decide (y<0)),w]] [d9p v x.natAbs,d9p w y.natAbs] true (G:=Value) (fun r=>True) (fun r=> .agg #[.bool (decide (x+y<0)),r]) (fun r=>[d9p r (x+y).natAbs]):=by
 refine Yc func37 J ntmps37 J K2 ?_
 intro w0 sc hw hsc
 simp only [Zq,Zp]
 have hb:=Lu x y
 refine Zd<|Zg<|tt (Yu (i:=3) J J J J J hw) fun b _=>tt (Yu (i:=4) J J J J J hw) fun b_2 _=>tt (Zn (i:=5) J J zeroValue48 J J hw) fun b_3 _=>Zf<|Za<|Zd<|Zd<|Zg<|dt (Xs J J Zal J zT4 J J)<|dt (Oj (i:=3) J J J iA4 J)<|dt (Xs J J Zal J zT4 J J)<|dt (Oj (i:=4) J J J iA4 J)<|dt (d_eqb J J J uT4)<|Zf<|Za<|Mm J (fun h189=>?_) (fun h189=>?_)
 ·replace h189:=beq_dec h189
  refine Zd<|Qi (fun _=>False) [(0,0),(1,0),(2,0),(3,0),(4,0),(5,0),(6,1),(7,1),(8,3)] ?_ ?_
  ·kernel_rfl
  exact r0' J J (st0 (Xs J J Zal J zT4 J J))<|r0' J J (st0 (Oj (i:=3) J J J iA4 J))<|r0' J J (st0 (Xs J J Zal J Zjd J J))<|r0' J J (st0 (Oj (i:=3) J J J Zkm J))<|r0' J J (st0 (Xs J J Zal J Zjd J J))<|r0' J J (st0 (Oj (i:=4) J J J Zkm J))<|r1' J (Zh (n:=6) (Zsa _ _ _ _ (by omega) (by omega)) J J J K2 call75 (Zc 1 J J J (Zc 2 J J J Ze)) J hw) fun v _=>r1' J (Zh (n:=6) (Ad _ _ _ (x+y) (Zeb (Xq x) (h189▸Xq y)).symm (Zrv (Xq x) (h189▸Xq y)) (by rw [←Zeb (Xq x) (h189▸Xq y)];omega)) J J J K2 call78 (Zc 6 J J J Ze) J hw) fun _ _=>r3' J (Zm (i:=5) J J J J J (by decide) J Xp J J ⟨Zb J,Zl (i:=6) J Zi,trivial⟩ J hw trivial) fun _ _=>Of<|Za<|Zu<|Xa<|Ym (.inl J) hsc _ _ (fun a w hs=>Ni hs results37 (Yn (i:=5) J J Nm Xp J)) J trivial J (Yi 6 J J J (by rw [Zeb (Xq x) (h189▸Xq y)]<;>rfl) Zk)
 ·have hne:decide (x<0)≠decide (y<0):=by simpa using h189
  refine Zj<|Za<|Zd<|Zd<|Zg<|dt (Xs J J Zal J Zjd J J)<|dt (Oj (i:=3) J J J Zkm J)<|dt (Xs J J Zal J Zjd J J)<|dt (Oj (i:=4) J J J Zkm J)<|tt (Zh (n:=6) (Zly _ _ _ _) J J J K2 call90 (Zc 1 J J J (Zc 2 J J J Ze)) J hw) fun _ _=>dt (Ke J J J)<|Zf<|Za<|Zs J (fun h192=>?_) (fun h192=>?_)
  ·have hge:y.natAbs≤x.natAbs:=Zu0.1 h192
   refine Zd<|Qi (fun _=>False) [(0,0),(1,0),(2,0),(3,0),(4,0),(5,0),(6,1),(7,1),(8,3)] ?_ ?_
   ·kernel_rfl
   exact r0' J J (st0 (Xs J J Zal J zT4 J J))<|r0' J J (st0 (Oj (i:=3) J J J iA4 J))<|r0' J J (st0 (Xs J J Zal J Zjd J J))<|r0' J J (st0 (Oj (i:=3) J J J Zkm J))<|r0' J J (st0 (Xs J J Zal J Zjd J J))<|r0' J J (st0 (Oj (i:=4) J J J Zkm J))<|r1' J (Zh (n:=7) (Zlz _ _ _ _ hge) J J J K2 call91 (Zc 1 J J J (Zc 2 J J J Ze)) J hw) fun v_2 _=>r1' J (Zh (n:=7) (Ad _ _ _ (x+y) (Bu (Xq x) (Xq y) hne hge).symm (Zh0 (Xq x) (Xq y) hne hge) (by have:=Oy (Nat.sub_le x.natAbs y.natAbs);omega)) J J J K2 call78 (Zc 7 J J J Ze) J hw) fun _ _=>r3' J (Zm (i:=5) J J J J J (by decide) J Xp J J ⟨Zb J,Zl (i:=7) J Zi,trivial⟩ J hw trivial) fun _ _=>Of<|Za<|Zu<|Xa<|Ym (.inl J) hsc _ _ (fun a w hs=>Ni hs results37 (Yn (i:=5) J J Nm Xp J)) J trivial J (Yi 7 J J J (by rw [Bu (Xq x) (Xq y) hne hge]<;>rfl) Zk)
  ·have hge:x.natAbs≤y.natAbs:=by have:=mt Zu0.2 h192;omega
   refine Zj<|Za<|Zd<|Qi (fun _=>False) [(0,0),(1,0),(2,0),(3,0),(4,0),(5,0),(6,1),(7,1),(8,3)] ?_ ?_
   ·kernel_rfl
   exact r0' J J (st0 (Xs J J Zal J zT4 J J))<|r0' J J (st0 (Oj (i:=4) J J J iA4 J))<|r0' J J (st0 (Xs J J Zal J Zjd J J))<|r0' J J (st0 (Oj (i:=4) J J J Zkm J))<|r0' J J (st0 (Xs J J Zal J Zjd J J))<|r0' J J (st0 (Oj (i:=3) J J J Zkm J))<|r1' J (Zh (n:=8) (Zlz _ _ _ _ hge) J J J K2 call91 (Zc 2 J J J (Zc 1 J J J Ze)) J hw) fun v_3 _=>r1' J (Zh (n:=8) (Ad _ _ _ (x+y) (by rw [Int.add_comm x];exact(Bu (Xq y) (Xq x) (Ne.symm hne) hge).symm) (by rw [Int.add_comm x];exact Zh0 (Xq y) (Xq x) (Ne.symm hne) hge) (by have:=Oy (Nat.sub_le y.natAbs x.natAbs);omega)) J J J K2 call78 (Zc 8 J J J Ze) J hw) fun _ _=>r3' J (Zm (i:=5) J J J J J (by decide) J Xp J J ⟨Zb J,Zl (i:=8) J Zi,trivial⟩ J hw trivial) fun _ _=>Of<|Za<|Zu<|Ym (.inl J) hsc _ _ (fun a w hs=>Ni hs results37 (Yn (i:=5) J J Nm Xp J)) J trivial J (Yi 8 J J J (by rw [Int.add_comm x,Bu (Xq y) (Xq x) (Ne.symm hne) hge]<;>rfl) Zk)
theorem Zj4(v w:Value)(x y:Int)(hx:bl x.natAbs≤3000000000:=by omega)(hy:bl y.natAbs≤3000000000:=by omega):Cal prog 87 #[.agg #[.bool (decide (x<0)),v],.agg #[.bool (decide (y<0)),w]] [d9p v x.natAbs,d9p w y.natAbs] true (G:=Value) (fun r=>True) (fun r=> .agg #[.bool (decide (x-y<0)),r]) (fun r=>[d9p r (x-y).natAbs]):=by
 refine Yc func87 J ntmps87 J K2 ?_
 intro w0 sc hw hsc
 simp only [Zq,Zp]
 have hb:=Fx x y
 have hn:=Zk8 y
 refine Zd<|Zg<|tt (Yu (i:=3) J J J J J hw) fun b _=>tt (Yu (i:=4) J J J J J hw) fun b_2 _=>tt (Zn (i:=5) J J zeroValue48 J J hw) fun b_3 _=>Zf<|Za<|Zd<|Qi (fun _=>False) [(0,0),(1,0),(2,1),(3,1),(4,3)] ?_ ?_
 ·kernel_rfl
 exact r0' J J (st0 (Zy (i:=3) J J J Nm Xp J J))<|r0' J J (st0 (Zy (i:=4) J J J Nm Xp J J))<|r1' J (Zh (n:=6) (Zp8 _ _ (by omega)) J J J K1 call73 (Zc 2 J J J Ze) J hw) fun v _=>r1' J (Zh (n:=7) (Zp9 _ _ _ _) J J J K2 call37 (Zc 1 J J J (Zc 6 J J J Ze)) J hw) fun v_2 _=>r3' J (Zm (i:=5) J J J J J (by decide) J Xp J J ⟨Zb J,Zl (i:=7) J Zi,trivial⟩ J hw trivial) fun _ _=>Of<|Za<|Zu<|Ym (.inl J) hsc _ _ (fun a w hs=>Ni hs results87 (Yn (i:=5) J J Nm Xp J)) (by rw [Int.sub_eq_add_neg]<;>rfl) trivial J (Yi 7 J J J (by rw [Int.sub_eq_add_neg]<;>rfl) Zk)
theorem Fs(v w:Value)(x y:Int)(hx:bl x.natAbs≤1000000000:=by omega)(hy:bl y.natAbs≤1000000000:=by omega):Cal prog 69 #[.agg #[.bool (decide (x<0)),v],.agg #[.bool (decide (y<0)),w]] [d9p v x.natAbs,d9p w y.natAbs] true (G:=Value) (fun r=>True) (fun r=> .agg #[.bool (decide (x*y<0)),r]) (fun r=>[d9p r (x*y).natAbs]):=by
 refine Yc func69 J ntmps69 J K2 ?_
 intro w0 sc hw hsc
 simp only [Zq,Zp]
 have hb:=Xm x y
 refine Zd<|Zg<|tt (Yu (i:=3) J J J J J hw) fun b _=>tt (Yu (i:=4) J J J J J hw) fun b_2 _=>tt (Zn (i:=5) J J zeroValue48 J J hw) fun b_3 _=>Zf<|Za<|Zd<|Qi (fun _=>False) [(0,0),(1,0),(2,0),(3,0),(4,0),(5,0),(6,0),(7,0),(8,0),(9,1),(10,1),(11,3)] ?_ ?_
 ·kernel_rfl
 exact r0' J J (st0 (Xs J J Zal J zT4 J J))<|r0' J J (st0 (Oj (i:=3) J J J iA4 J))<|r0' J J (st0 (Xs J J Zal J zT4 J J))<|r0' J J (st0 (Oj (i:=4) J J J iA4 J))<|r0' J J (st0 (Zql J J J uT4))<|r0' J J (st0 (Xs J J Zal J Zjd J J))<|r0' J J (st0 (Oj (i:=3) J J J Zkm J))<|r0' J J (st0 (Xs J J Zal J Zjd J J))<|r0' J J (st0 (Oj (i:=4) J J J Zkm J))<|r1' J (Zh (n:=6) (Zr9 _ _ _ _ (by omega) (by omega)) J J J K2 call123 (Zc 1 J J J (Zc 2 J J J Ze)) J hw) fun v _=>r1' J (Zh (n:=6) (Ad _ _ _ (x*y) (Int.natAbs_mul x y).symm (sg_mul (Xq x) (Xq y)) (by rw [←Int.natAbs_mul];omega)) J J J K2 call78 (Zc 6 J J J Ze) J hw) fun _ _=>r3' J (Zm (i:=5) J J J J J (by decide) J Xp J J ⟨Zb J,Zl (i:=6) J Zi,trivial⟩ J hw trivial) fun _ _=>Of<|Za<|Zu<|Ym (.inl J) hsc _ _ (fun a w hs=>Ni hs results69 (Yn (i:=5) J J Nm Xp J)) J trivial J (Yi 6 J J J (by rw [Int.natAbs_mul]<;>rfl) Zk)
theorem Ca(v:Value)(x:Int)(hx:bl x.natAbs≤3000000000:=by omega):Mc prog 72 #[.agg #[.bool (decide (x<0)),v]] [d9p v x.natAbs] (.int .i64 x.sign):=by
 refine Yc func72 J ntmps72 J K1 ?_
 intro w0 sc hw hsc
 simp only [Zq,Zp]
 have hl9:=Kv x.natAbs
 refine Zd<|Zg<|tt (Yu (i:=2) J J J J J hw) fun b _=>as_ J<|Zf<|Za<|Zd<|Zd<|Zg<|dt (Xs J J Zal J Zjd J J)<|dt (Oj (i:=2) J J J Zkm J)<|dt (Yd J J (i:=1) J Zi Me)<|dt (Pg J J J)<|Zf<|Za<|Zs J (fun h206=>?_) (fun h206=>?_)
 ·exact Zd<|Zg<|as_ J<|Zf<|Za<|Zu<|Xa<|xU hsc results72 J J (sign9 h206)
 ·refine Zj<|Za<|Zd<|Zd<|Zg<|dt (Xs J J Zal J zT4 J J)<|dt (Oj (i:=2) J J J iA4 J)<|Zf<|Za<|Mm J (fun h209=>?_) (fun h209=>?_)
  ·exact Zd<|Zg<|as_ J<|Zf<|Za<|Zu<|Xa<|xU hsc results72 J J (by rw [Int.sign_eq_neg_one_of_neg (by simpa using h209)])
  ·exact Zj<|Za<|Zd<|Zg<|as_ J<|Zf<|Za<|Zu<|xU hsc results72 J J (by have h3:=Zit h206;have h4:¬x<0:=(by simpa using h209);rw [Int.sign_eq_one_of_pos (by omega)])
theorem Zsc(v w:Value)(x y:Int)(hx:bl x.natAbs≤2000000000)(hy:bl y.natAbs≤2000000000):Mc prog 68 #[.agg #[.bool (decide (x<0)),v],.agg #[.bool (decide (y<0)),w]] [d9p v x.natAbs,d9p w y.natAbs] (.int .i64 (x-y).sign):=by
 refine Yc func68 J ntmps68 J K2 ?_
 intro w0 sc hw hsc
 simp only [Zq,Zp]
 have hb:=Fx x y
 exact Zd<|Zg<|tt (Yu (i:=3) J J J J J hw) fun b _=>tt (Yu (i:=4) J J J J J hw) fun b_2 _=>as_ J<|Zf<|Za<|Zd<|Zg<|dt (Zy (i:=3) J J J Nm Xp J J)<|dt (Zy (i:=4) J J J Nm Xp J J)<|tt (Zh (n:=5) (Zj4 _ _ _ _) J J J K2 call87 (Zc 1 J J J (Zc 2 J J J Ze)) J hw) fun v _=>tt (Zh (n:=5) (Ca _ _) J J J K1 call72 (Zc 5 J J J Ze) J hw) fun _ _=>as_ J<|Zf<|Za<|Zu<|xU hsc results68 J J J
theorem Zf1(x:Int)(hx:inI x):Cal prog 34 #[.int .i64 x] [] true (G:=Value) (fun r=>True) (fun r=> .agg #[.bool (decide (x<0)),r]) (fun r=>[d9p r (x).natAbs]):=by
 refine Yc func34 J ntmps34 J trivial ?_
 intro w0 sc hw hsc
 simp only [Zq,Zp]
 have hxa:=hx.1
 have hxb:=hx.2
 refine Yr (Na 60 1 3 Cc)<|Yr (Pd 60 J J pN)<|Zd<|Zg<|tt (Zn (i:=1) J J zeroValue48 J J hw) fun b _=>Zf<|Za<|Zd<|Zd<|Zg<|mv J<|dt (Ke J J J)<|Zf<|Za<|Zs J (fun h147=>?_) (fun h147=>?_)
 ·obtain⟨m,rfl⟩:∃m:Nat,x=(m:Int):=⟨x.natAbs,by omega⟩
  have hbm:bl m≤64:=(Mp 64 m).2 (by omega)
  exact Zd<|Zg<|mv J<|dt (Zs7 (n:=1000000000) J J J (by omega))<|mv J<|dt (Zmd (n:=1000000000) J J J (by omega) (by omega))<|dt (Zs7 (n:=1000000000) J J J (by omega))<|mv J<|dt (Zmd (n:=1000000000) J J J (by omega) (by omega))<|dt (Zmd (n:=1000000000) J J J (by omega) (by omega))<|tt (Po (i:=70) (ivs:=[(0,_),(1,_),(2,_)]) (enc:=Cc) [m%1000000000,m/1000000000%1000000000,m/1000000000/1000000000] J J K6 Me ti3 J J J J J pN.cells J J hw) fun v _=>tt (Zh (n:=1) (Kg _ _) J J J K1 call77 (Xu 70 J J pN Ze) J hw) fun _ _=>Oc (Zgi 70 J J pN)<|Oc (Zfz 70 (Znk (by omega)) J J)<|tt (Zh (n:=1) (Ad _ _ _ ((m:Int)) (by omega) (by simp [sg]) (by omega)) J J J K2 call78 (Xu 70 J J pN Ze) J hw) fun _ _=>tt (Zm (i:=1) J J J J J (by decide) J Xp J J ⟨Zb J,Zl (i:=70) J (Yt pN),trivial⟩ J hw trivial) fun _ _=>Zf<|Za<|Zu<|Xa<|Ym (.inl J) hsc _ _ (fun a w hs=>Ni hs results34 (Yn (i:=1) J J Nm Xp J)) J trivial J (Od 70 J J pN (by rw [Int.natAbs_natCast]<;>rfl) Zk)
 ·obtain⟨m,rfl⟩:∃m:Nat,x=-(m:Int):=⟨x.natAbs,by omega⟩
  have hbm:bl m≤64:=(Mp 64 m).2 (by omega)
  refine Zj<|Za<|Zd<|Zg<|mv J<|dt (nn_rem (n:=1000000000) J J J (by omega))<|dt (n_neg J J (by omega))<|mv J<|dt (Zs1 (n:=1000000000) J J J (by omega) (by omega))<|dt (nn_rem (n:=1000000000) J J J (by omega))<|dt (n_neg J J (by omega))<|mv J<|dt (Zs1 (n:=1000000000) J J J (by omega) (by omega))<|dt (Zs1 (n:=1000000000) J J J (by omega) (by omega))<|dt (n_neg J J (by omega))<|tt (Po (i:=70) (ivs:=[(0,_),(1,_),(2,_)]) (enc:=Cc) [m%1000000000,m/1000000000%1000000000,m/1000000000/1000000000] J J K6 Me ti3 J J J J J pN.cells J J hw) fun v_2 _=>tt (Zh (n:=1) (Kg _ _) J J J K1 call77 (Xu 70 J J pN Ze) J hw) fun _ _=>Oc (Zgi 70 J J pN)<|Oc (Zfz 70 (Znk (by omega)) J J)<|Oc (Zfz 70 (ys:=dg 1000000000 (-(m:Int)).natAbs) (by rw [Int.natAbs_neg,Int.natAbs_natCast]) J J)<|Oc (Pd 70 J J pN)<|tt (Zh (n:=1) (Ad _ _ _ ((-(m:Int))) J (by simp [sg]) (by rw [Int.natAbs_neg,Int.natAbs_natCast];omega)) J J J K2 call78 (Zc 70 J J J Ze) J hw) fun _ _=>dt (Pv (ivs:=[]) J trivial (fun a w hs=>b48_)) ?_
  exact tt (Zh (n:=2) (Zj4 _ _ (-(m:Int)) 0 (by rw [Int.natAbs_neg,Int.natAbs_natCast];omega) (by decide)) J J J K2 call87 (Zc 70 J J J (Zc 60 J J J Ze)) J hw) fun v_3 _=>tt (Zm (i:=1) J J J J J (by decide) J Xp J J ⟨Zb J,Zl (i:=2) J Zi,trivial⟩ J hw trivial) fun _ _=>Zf<|Za<|Zu<|Ym (.inl J) hsc _ _ (fun a w hs=>Ni hs results34 (Yn (i:=1) J J Nm Xp J)) (by rw [Int.sub_zero]<;>rfl) trivial J (Yi 2 J J J (by rw [Int.sub_zero]<;>rfl) Zk)
theorem Zsb(x:Int)(hx:bl x.natAbs≤2000000000:=by omega):Cal prog 30 #[wv x] [] true (G:=Value) (fun r=>True) (fun r=> .agg #[.bool (decide (x<0)),r]) (fun r=>[d9p r (x).natAbs]):=by
 refine Yc func30 J ntmps30 J trivial ?_
 intro w0 sc hw hsc
 simp only [Zq,Zp]
 obtain⟨n,hn⟩:∃n,n=x.natAbs:=⟨_,rfl⟩
 have hl8:=Zbd n
 have hxn:bl n≤2000000000:=by rw [hn];exact hx
 have hsz:(Qo x.natAbs).size=(dg 256 n).length:=by rw [←hn];exact Lc n
 refine Zd<|Zg<|tt (Yu (i:=1) J J J J J hw) fun b _=>tt (Zn (i:=2) J J zeroValue48 J J hw) fun b_2 _=>Zf<|Za<|Zd<|Zg<|as_ J<|Zf<|Za<|Zd<|Zd<|Zg<|as_ J<|Zf<|Za<|Zo<|Yr (Na 70 1 3 Cc)<|Yr (Pd 70 J J pN)<|Nt [(1,_),(2,_)] [(0,_),(1,_),(2,_)] (fun(q:Nat×Value)=>[(4,.int .i64 (q.1:Int)),(3,q.2)]) (fun(q:Nat×Value)=>[(70,d9p q.2 (n/256^((dg 256 n).length-q.1)))]) (fun(q:Nat×Value)=>q.1≤(dg 256 n).length) (fun(q:Nat×Value)=>(dg 256 n).length-q.1) (0,.slice none 0 0) (by first | omega | (dsimp only<;>omega)) K4 ⟨by rw [Zty];rfl,rfl,rfl,rfl,trivial⟩ ?_
 rintro⟨i,vd⟩ hi
 dsimp only at hi
 simp only [CA,NA]
 have hnb:bl (n/256^((dg 256 n).length-i))≤bl n:=Oy (Nat.div_le_self _ _)
 refine Zd<|Zd<|Zg<|mv J<|dt (Xs J J Zam J zT9 J J)<|dt (Oj (i:=1) J J J iA9 J)<|dt (Fi J J uT9)<|dt (Xr J J J)<|Zf<|Za<|Zs J (fun h157=>?_) (fun h157=>?_)
 ·have hby:((Qo x.natAbs).data.toList.getD i 0).toNat=n/256^((dg 256 n).length-1-i)%256:=by rw [←hn];exact Zd9 n i (by omega)
  refine Zj<|Za<|Zd<|Zo<|Hy (fun _=>False) [10]<|Zx (n:=5) [(0,0),(2,0),(3,0),(4,0),(5,0),(6,0)]<|r0' J J (st0 (Yo J J))<|r0' J J (st0 (Xs J J Zam J zT9 J J))<|r0' J J (st0 (Oj (i:=1) J J J iA9 J))<|r0' J J (st0 (Yo J J))<|r0' J J (st0 (Zqm (i:=i) J J J uT9 J))<|r0' J J (st0 (Ah J J uT5 uT3 ⟨by omega,by rw [hby];omega⟩))<|Yk<|Pb (n:=4) 1 7 ?_ ?_
  ·exact Yj J (Zh (n:=73) (Zib _ _ 256) J J J K2 call76 (Zc 70 J J J Ze) J hw) fun v _=>Zx (n:=2) [(7,1),(8,1)]<|r1' J (Po (i:=72) (ivs:=[(0,_)]) (enc:=Cc) [((Qo x.natAbs).data.toList.getD i 0).toNat] J J K2 Me ti3 J J J J J pN.cells J J hw) fun v_2 _=>r1' J (Zh (n:=2) (Kg _ _) J J J K1 call77 (Xu 72 J J pN Ze) J hw) fun _ _=>Yk<|Zy0 (Zgi 72 J J pN)<|Zy0 (Zfz 72 (tz_one Nd (by rw [hby];omega)) J J)<|Zx (n:=0) [(9,1),(10,3)]<|r1' J (Zh (n:=74) (Zsa _ _ _ _ (by have:=Zi8 (y:=(n/256^((dg 256 n).length-i))) (n:=256) (by omega);omega) (by rw [hby];exact Nat.le_trans (Zi9 _) (by omega))) J J J K2 call75 (Zc 73 J J J (Xu 72 J J pN Ze)) J hw) fun v_3 _=>r3' J (Py (Mf J J) J) fun _ _=>Yk<|Yf<|Oe<|Za<|Zg<|mv J<|dt (Yx J J J ⟨by omega,by omega⟩)<|as_ J<|Zf<|Qu (Oa 74 70 J J J)<|Xn (i+1,_) (by first | omega | (dsimp only<;>omega)) (by first | omega | (dsimp only<;>omega)) K4 ⟨by rw [hby,Zkr (by omega)];rfl,rfl,rfl,rfl,trivial⟩
  ·exact Yj J (Po (i:=72) (ivs:=[(0,_)]) (enc:=Cc) [((Qo x.natAbs).data.toList.getD i 0).toNat] J J K2 Me ti3 J J J J J pN.cells J J hw) fun v_4 _=>Zx (n:=2) [(1,1),(8,1)]<|r1' J (Zh (n:=73) (Zib _ _ 256) J J J K2 call76 (Zc 70 J J J Ze) J hw) fun v_5 _=>r1' J (Zh (n:=2) (Kg _ _) J J J K1 call77 (Xu 72 J J pN Ze) J hw) fun _ _=>Yk<|Zy0 (Zgi 72 J J pN)<|Zy0 (Zfz 72 (tz_one Nd (by rw [hby];omega)) J J)<|Zx (n:=0) [(9,1),(10,3)]<|r1' J (Zh (n:=74) (Zsa _ _ _ _ (by have:=Zi8 (y:=(n/256^((dg 256 n).length-i))) (n:=256) (by omega);omega) (by rw [hby];exact Nat.le_trans (Zi9 _) (by omega))) J J J K2 call75 (Zc 73 J J J (Xu 72 J J pN Ze)) J hw) fun v_6 _=>r3' J (Py (Mf J J) J) fun _ _=>Yk<|Yf<|Oe<|Za<|Zg<|mv J<|dt (Yx J J J ⟨by omega,by omega⟩)<|as_ J<|Zf<|Qu (Oa 74 70 J J J)<|Xn (i+1,_) (by first | omega | (dsimp only<;>omega)) (by first | omega | (dsimp only<;>omega)) K4 ⟨by rw [hby,Zkr (by omega)];rfl,rfl,rfl,rfl,trivial⟩
 ·refine Yv<|Zv<|Zv<|Ox<|Za<|Zd ?_
  obtain rfl:i=(dg 256 n).length:=by omega
  rw [Nat.sub_self,Nat.pow_zero,Nat.div_one]
  exact Zg<|dt (Xs J J Zam J zT4 J J)<|dt (Oj (i:=1) J J J iA4 J)<|mv J<|tt (Zh (n:=2) (Ad _ _ _ (x) hn (Xq x) (by rw [hn];omega)) J J J K2 call78 (Zc 70 J J J Ze) J hw) fun _ _=>tt (Zm (i:=2) J J J J J (by decide) J Xp J J ⟨Zb J,Zl (i:=70) J Zi,trivial⟩ J hw trivial) fun _ _=>Zf<|Za<|Zu<|Ym (.inl J) hsc _ _ (fun a w hs=>Ni hs results30 (Yn (i:=2) J J Nm Xp J)) J trivial J (Yi 70 J J J (by rw [hn]<;>rfl) Zk)
set_option maxHeartbeats 4000000 in
theorem r_to(v:Value)(x:Int)(hx:bl x.natAbs≤4000000000:=by omega):Mc prog 53 #[.agg #[.bool (decide (x<0)),v]] [d9p v x.natAbs] (wv x):=by
 refine Yc func53 J ntmps53 J K1 ?_
 intro w0 sc hw hsc
 simp only [Zq,Zp]
 obtain⟨n,hn⟩:∃n,n=x.natAbs:=⟨_,rfl⟩
 have hxn:bl n≤4000000000:=by rw [hn];exact hx
 have hlx:=Kv x.natAbs
 refine Zd<|Zg<|tt (Yu (i:=2) J J J J J hw) fun b _=>tt (Zn (i:=3) J J zeroValue31 J J hw) fun b_2 _=>Zf<|Za<|Zd<|Zg<|as_ J<|Zf<|Za<|Zd<|Zg<|dt (Xs J J Zal J Zjd J J)<|dt (Oj (i:=2) J J J Zkm J)<|Oc (Na 81 1 3 Cc)<|tt (Iu (i:=81) (j:=1) (by_:=8) J J J J J J (by decide) J Zi Me ti3 J pN J J J (by simp;omega) (by decide) J hw) fun v _=>as_ J<|Zf<|Za<|Zd<|Zo<|Yr (Na 80 1 5 Zvu)<|Nt [(1,_),(2,_)] [(0,_),(1,_),(2,_),(3,_)] (fun(q:Nat×List Nat×Value×Value)=>[(3,q.2.2.1),(4,q.2.2.2)]) (fun(q:Nat×List Nat×Value×Value)=>[(80,osl 1 5 Zvu q.2.2.1 q.2.1),(81,osl 1 3 Cc q.2.2.2 (dg 1000000000 q.1))]) (fun(q:Nat×List Nat×Value×Value)=>(val 256 q.2.1+256^q.2.1.length*q.1=n)∧(∀d∈q.2.1,d<256)∧(q.2.1.length=0∨256^(q.2.1.length-1)≤n)∧(bl q.1≤bl n)) (fun(q:Nat×List Nat×Value×Value)=>q.1) (n,[],.slice none 0 0,_) ⟨by simp [val],by simp,.inl rfl,Nat.le_refl _⟩ K4 ⟨J,by rw [hn];rfl,rfl,rfl,rfl,rfl,trivial⟩ ?_
 rintro⟨m,bs,vb,vd⟩ ⟨hv,hba,hge,hmn⟩
 dsimp only at hv hba hge hmn
 simp only [CA,NA]
 have hlm:=Kv m
 refine Zd<|Zd<|Zg<|mv J<|dt (Yd J J (i:=81) J (Yt pN) Me)<|dt (Pm J J J)<|Zf<|Za<|Zs J (fun h167=>?_) (fun h167=>?_)
 ·have hm0:0<m:=Zit (by omega)
  have hgn:=to_ge hv hm0
  have hbl:=to_len hgn
  refine Zj<|Za<|Zo<|Zd<|Zg<|as_ J<|Zf<|Za<|Zd<|Zd<|Zg<|mv J<|dt (Yd J J (i:=81) J (Yt pN) Me)<|dt (Qd J J J ⟨by omega,by omega⟩)<|as_ J<|Zf<|Za<|Zo<|Nt [(1,_),(2,_),(3,_),(4,_)] [(0,_),(80,_),(1,_),(2,_),(3,_)] (fun(q:Nat×List Nat×Nat)=>[(6,.int .i64 ((q.1:Int)-1)),(5,.int .i64 (q.2.2:Int))]) (fun(q:Nat×List Nat×Nat)=>[(81,osl 1 3 Cc vd q.2.1)]) (fun(q:Nat×List Nat×Nat)=>(q.1≤(dg 1000000000 m).length)∧(q.2.1.length=(dg 1000000000 m).length)∧(∀d∈q.2.1,d<1000000000)∧(∀j,j<q.1→q.2.1.getD j 0=(dg 1000000000 m).getD j 0)∧(q.2.2<256)∧(val 1000000000 (q.2.1.drop q.1)*256+q.2.2=val 1000000000 ((dg 1000000000 m).drop q.1))) (fun(q:Nat×List Nat×Nat)=>q.1) ((dg 1000000000 m).length,dg 1000000000 m,0) ⟨Nat.le_refl _,J,Lp Nd m,fun j _=>J,by first | omega | (dsimp only<;>omega),by simp [List.drop_length,val]⟩ K6 K6 ?_
  rintro⟨k,p,r⟩ ⟨hk,hpl,hpa,hpk,hr,hpv⟩
  dsimp only at hk hpl hpa hpk hr hpv
  simp only [CA,NA]
  have hda:=Qn Ht (Lp Nd m) (k-1)
  refine Zd<|Zd<|Zg<|mv J<|dt (Ke J J J)<|Zf<|Za<|Zs J (fun h169=>?_) (fun h169=>?_)
  ·exact Zj<|Za<|Zd<|Zo<|Zd<|Zg<|mv J<|dt (n_mul (n:=1000000000) J J J (by omega))<|mv J<|mv J<|dt (Xb (ii:=81) (i:=(k-1)) J J J J (Yt pN) Me zT3)<|dt (Xv (ii:=81) 0 J J J (Yt pN) pN)<|dt (Zio J J J (by have:=Qn Ht hpa (k-1);omega))<|as_ J<|Zf<|Za<|Zd<|Zg<|mv J<|mv J<|mv J<|dt (Zmd (n:=256) J J J (by have:=Qn Ht hpa (k-1);omega) (by omega))<|dt (Xb (ii:=81) (i:=(k-1)) J J J J (Yt pN) Me zT3)<|tt (Ii (i:=81) (enc:=Cc) _ J J J J J J pN J hw) fun _ _=>Zf<|Za<|Zg<|mv J<|dt (Zs7 (n:=256) J J J (by omega))<|as_ J<|Zf<|Oe<|Za<|Zg<|mv J<|dt (Qd J J J ⟨by omega,by omega⟩)<|as_ J<|Zf<|Xn (k-1,_,_) ⟨by first | omega | (dsimp only<;>omega),by simp [hpl],Lv hpa _ _ (Zv5 hr (Qn Ht hpa _)),fun j hj=>by dsimp only at hj ⊢;rw [Nq _ _ _ _ _ (by omega),if_neg (by omega)];exact hpk j (by omega),Nat.mod_lt _ (by omega),by dsimp only;rw [hpk (k-1) (by omega)];exact to_step (by omega) (by omega) (by omega) hpv⟩ (by first | omega | (dsimp only<;>omega)) ⟨by rw [show(((k-1:Nat):Int)-1)=(k:Int)-1-1 by omega];rfl,rfl,rfl,rfl,rfl,rfl,trivial⟩ K6
  ·refine Yv<|Zv<|Zv<|Ox<|Za<|Zd ?_
   obtain rfl:k=0:=by omega
   rw [List.drop_zero,List.drop_zero,Le Nd]at hpv
   have hmr:m%256=r%256:=by omega
   have hdm:dg 1000000000 (m/256)=tz p:=by rw [←Kr Nd p hpa];congr 1;omega
   exact Zg<|mv J<|mv J<|dt (Zf8 J J uT3 uT5)<|tt (Po (i:=4) (ivs:=[(0,_)]) (enc:=Zvu) [r%256] J J K2 Zqt ti5 J J J J J pB.cells J J hw) fun v_2 _=>tt (Iu (i:=80) (j:=4) (by_:=1) J J J J J J (by decide) J (Yt pB) Zqt ti5 J pB J J J (by simp;omega) (by decide) J hw) fun v_3 _=>as_ J<|Zf<|Za<|Zg<|mv J<|tt (Zh (n:=4) (Kg _ _) J J J K1 call77 (Xu 81 J J pN Ze) J hw) fun _ _=>Oc (Zgi 81 J J pN)<|as_ J<|Zf<|Oe<|Xn (m/256,bs ++ [m%256],_,_) ⟨to_push hv,Zjb hba (Nat.mod_lt _ (by omega)),.inr (by simpa using hgn),Nat.le_trans (Oy (Nat.div_le_self _ _)) hmn⟩ (Nat.div_lt_self hm0 (by omega)) K4 ⟨by rw [hmr];rfl,by rw [hdm];rfl,rfl,rfl,rfl,rfl,trivial⟩
 ·have hm0:m=0:=(Pp Nd m).1 (by omega)
  have hbs:bs=dg 256 n:=Zrc (by omega) hba (by rw [hm0,Nat.mul_zero,Nat.add_zero]at hv;exact hv) hge
  have hlb:bs.length≤4000000000:=by rw [hbs,Zbd];omega
  refine Yv<|Zv<|Zv<|Ox<|Za<|Zd<|Zg<|as_ J<|Zf<|Za<|Zd<|Zd<|Zg<|mv J<|dt (Yd J J (i:=80) J (Yt pB) Zqt)<|dt (Qd J J J ⟨by omega,by omega⟩)<|as_ J<|Zf<|Za<|Zo<|Yr (Na 82 1 5 Zvu)<|Nt [(1,_),(2,_),(3,_)] [(0,_),(80,_),(81,_),(1,_),(2,_),(3,_)] (fun(q:Nat×Value)=>[(8,.int .i64 ((q.1:Int)-1)),(7,q.2)]) (fun(q:Nat×Value)=>[(82,osl 1 5 Zvu q.2 (bs.drop q.1).reverse)]) (fun(q:Nat×Value)=>q.1≤bs.length) (fun(q:Nat×Value)=>q.1) (bs.length,.slice none 0 0) (Nat.le_refl _) K5 ⟨by rw [List.drop_length];rfl,rfl,rfl,rfl,rfl,rfl,rfl,trivial⟩ ?_
  rintro⟨k,vo⟩ hk
  dsimp only at hk
  simp only [CA,NA]
  have hdl:(bs.drop k).length=bs.length-k:=List.length_drop
  refine Zd<|Zd<|Zg<|mv J<|dt (Ke J J J)<|Zf<|Za<|Zs J (fun h178=>?_) (fun h178=>?_)
  ·exact Zj<|Za<|Zd<|Zo<|Zg<|mv J<|mv J<|mv J<|dt (Xb (ii:=80) (i:=(k-1)) J J J J (Yt pB) Zqt sizeOf5)<|dt (Xv (ii:=80) 0 J J J (Yt pB) pB)<|tt (Po (i:=5) (ivs:=[(0,_)]) (enc:=Zvu) [bs.getD (k-1) 0] J J K2 Zqt ti5 J J J J J pB.cells J J hw) fun v_4 _=>tt (Iu (i:=82) (j:=5) (by_:=1) J J J J J J (by decide) J (Yt pB) Zqt ti5 J pB J J J (by simp;omega) (by decide) J hw) fun v_5 _=>as_ J<|Zf<|Oe<|Za<|Zg<|mv J<|dt (Qd J J J ⟨by omega,by omega⟩)<|as_ J<|Zf<|Xn (k-1,_) (by first | omega | (dsimp only<;>omega)) (by first | omega | (dsimp only<;>omega)) ⟨by rw [show(((k-1:Nat):Int)-1)=(k:Int)-1-1 by omega];rfl,rfl,rfl,rfl,rfl,trivial⟩ ⟨by rw [←Zyh (by omega) hk];rfl,rfl,rfl,rfl,rfl,rfl,rfl,trivial⟩
  ·refine Yv<|Zv<|Zv<|Ox<|Za<|Zd<|Zg<|dt (Xs J J Zal J zT4 J J)<|dt (Oj (i:=2) J J J iA4 J)<|mv J<|dt (d_b2s J J (i:=82) J (Yt pB) Zqt uT9 uT5)<|dt (Pv (ivs:=[(0,_),(1,_)]) J K4 (fun a w hs=>Zvl ((Zb J) a w hs) ((Zb J) a w hs)))<|tt (Zm (i:=3) J J J J J (by decide) J Yq J J ⟨Zb J,Zb J,trivial⟩ J hw trivial) fun _ _=>Zf<|Za<|Zu ?_
   obtain rfl:k=0:=by omega
   exact Ym (.inl J) hsc () _ (fun a w hs=>Ni hs results53 (Yn (i:=3) J J Qq Yq J)) (by rw [bstr_bs hbs,hn]<;>rfl) trivial J Zk
theorem r_bits(v:Value)(x:Int)(hx:bl x.natAbs≤4000000000:=by omega):Mc prog 97 #[.agg #[.bool (decide (x<0)),v]] [d9p v x.natAbs] (.int .i64 (bl x.natAbs:Int)):=by
 refine Yc func97 J ntmps97 J K1 ?_
 intro w0 sc hw hsc
 simp only [Zq,Zp]
 have hl8:=Zbd x.natAbs
 have hsz:=Lc x.natAbs
 refine Zd<|Zg<|tt (Yu (i:=2) J J J J J hw) fun b _=>as_ J<|Zf<|Za<|Zd<|Zg<|dt (Zy (i:=2) J J J Nm Xp J J)<|tt (Zh (n:=2) (r_to _ _ hx) J J J K1 call53 (Zc 1 J J J Ze) J hw) fun _ _=>dt (d_fld J J Zam J iA9 J)<|as_ J<|Zf<|Za<|Zd<|Zd<|Zg<|mv J<|dt (Fi J J uT9)<|dt (Pg J J J)<|Zf<|Za<|Zs J (fun h260=>?_) (fun h260=>?_)
 ·exact Zd<|Zg<|as_ J<|Zf<|Za<|Zu<|Xa<|xU hsc results97 J J (by have h1:x.natAbs=0:=(Pp (by omega:2≤256) x.natAbs).1 (by omega);rw [h1]<;>rfl)
 ·have hn0:0<x.natAbs:=by rcases Nat.eq_zero_or_pos x.natAbs with h | h;(rw [h]at h260;simp [Lc,Iq]at h260);exact h
  obtain⟨htop,hlp⟩:=bl_top hn0
  have hby:((Qo x.natAbs).data.toList.getD 0 0).toNat=x.natAbs/256^((dg 256 x.natAbs).length-1)%256:=Zd9 x.natAbs 0 hlp
  refine Zj<|Za<|Zd<|Zg<|mv J<|dt (Fi J J uT9)<|dt (Qd J J J ⟨by omega,by omega⟩)<|dt (Dx J J J ⟨by omega,by omega⟩)<|as_ J<|Zf<|Za<|Zd<|Zd<|Zg<|mv J<|dt (Zqm (i:=0) J J J uT9 J)<|dt (Ah J J uT5 uT3 ⟨by omega,by rw [hby];omega⟩)<|as_ J<|Zf<|Za<|Zo<|Nt [] [(0,_),(1,_),(2,_)] (fun(q:Nat×Nat)=>[(4,.int .i64 (q.2:Int)),(5,.int .i64 (q.1:Int))]) (fun(q:Nat×Nat)=>[]) (fun(q:Nat×Nat)=>(q.2+bl q.1=bl x.natAbs)∧(q.1<256)) (fun(q:Nat×Nat)=>q.1) (x.natAbs/256^((dg 256 x.natAbs).length-1)%256,8*((dg 256 x.natAbs).length-1)) ⟨htop,Nat.mod_lt _ (by omega)⟩ ⟨by rw [hsz,show(8:Int)*(((dg 256 x.natAbs).length:Int)-1)=((8*((dg 256 x.natAbs).length-1):Nat):Int) by omega];rfl,by rw [hby];rfl,trivial⟩ K3 ?_
  rintro⟨k,c⟩ ⟨hkc,hk8⟩
  dsimp only at hkc hk8
  simp only [CA,NA]
  refine Zd<|Zd<|Zg<|mv J<|dt (Pm J J J)<|Zf<|Za<|Zs J (fun h264=>?_) (fun h264=>?_)
  ·have hbh:=bl_half (k:=k) (by omega)
   exact Zj<|Za<|Zd<|Zo<|Zg<|mv J<|dt (Yx J J J ⟨by omega,by omega⟩)<|as_ J<|Zf<|Oe<|Za<|Zg<|mv J<|dt (Zkz J J J)<|as_ J<|Zf<|Xn (k/2,c+1) ⟨by dsimp only;omega,by first | omega | (dsimp only<;>omega)⟩ (by first | omega | (dsimp only<;>omega)) ⟨by rfl,by exact congrArg some (Ag (by omega)),trivial⟩ K3
  ·exact Yv<|Zv<|Zv<|Ox<|Za<|Zd<|Zg<|mv J<|as_ J<|Zf<|Za<|Zu<|xU hsc results97 J J (by have h1:k=0:=(by omega);rw [←hkc,h1]<;>rfl)
theorem r_big(v:Value)(x:Int)(hx:bl x.natAbs≤4000000000:=by omega):Mc prog 70 #[.agg #[.bool (decide (x<0)),v]] [d9p v x.natAbs] (.bool (decide ((65536:Int)<(bl x.natAbs:Int)))):=by
 refine Yc func70 J ntmps70 J K1 ?_
 intro w0 sc hw hsc
 simp only [Zq,Zp]
 exact Zd<|Zg<|tt (Yu (i:=2) J J J J J hw) fun b _=>as_ J<|Zf<|Za<|Zd<|Zg<|dt (Zy (i:=2) J J J Nm Xp J J)<|tt (Zh (n:=2) (r_bits _ _ hx) J J J K1 call97 (Zc 1 J J J Ze) J hw) fun _ _=>dt (Pm J J J)<|as_ J<|Zf<|Za<|Zu<|xU hsc results70 J J J
theorem r_gcd(v w:Value)(x y:Int)(hy:bl y.natAbs≤3000000000)(hx:bl x.natAbs≤3000000000:=by omega):Cal prog 71 #[.agg #[.bool (decide (x<0)),v],.agg #[.bool (decide (y<0)),w]] [d9p v x.natAbs,d9p w y.natAbs] true (G:=Value) (fun r=>True) (fun r=> .agg #[.bool (decide ((Int.gcd x y:Int)<0)),r]) (fun r=>[d9p r ((Int.gcd x y:Int)).natAbs]):=by
 refine Yc func71 J ntmps71 J K2 ?_
 intro w0 sc hw hsc
 simp only [Zq,Zp]
 refine Zd<|Zg<|tt (Yu (i:=3) J J J J J hw) fun b _=>tt (Yu (i:=4) J J J J J hw) fun b_2 _=>tt (Zn (i:=5) J J zeroValue48 J J hw) fun b_3 _=>Zf<|Za<|Zd<|Qi (fun _=>False) [(0,0),(1,0),(2,0),(3,0),(4,0),(5,3)] ?_ ?_
 ·kernel_rfl
 refine r0' J J (st0 (Xs J J Zal J Zjd J J))<|r0' J J (st0 (Oj (i:=3) J J J Zkm J))<|r0' J J (st0 (Xs J J Zal J Zjd J J))<|r0' J J (st0 (Oj (i:=4) J J J Zkm J))<|r0' J J (st0 (Mf J J))<|r3' J (Py (Mf J J) J) fun _ _=>Of<|Za<|Zd<|Zo<|Yr (Oa 1 91 J J J)<|Yr (Oa 2 92 J J J)<|Nt [(4,_)] [(0,_),(1,_),(2,_),(3,_),(4,_),(5,_)] (fun(q:Value×Value×Nat×Nat)=>[(5,q.1),(6,q.2.1)]) (fun(q:Value×Value×Nat×Nat)=>[(91,d9p q.1 q.2.2.1),(92,d9p q.2.1 q.2.2.2)]) (fun(q:Value×Value×Nat×Nat)=>(Nat.gcd q.2.2.1 q.2.2.2=Nat.gcd x.natAbs y.natAbs)∧(bl q.2.2.1≤3000000000)∧(bl q.2.2.2≤3000000000)) (fun(q:Value×Value×Nat×Nat)=>q.2.2.2) (v,w,x.natAbs,y.natAbs) ⟨J,hx,hy⟩ K3 K8 ?_
 rintro⟨va,vb,a,b⟩ ⟨hg,ha,hb⟩
 dsimp only at hg ha hb
 simp only [CA,NA]
 refine Zd<|Zd<|Zg<|mv J<|dt (Yd J J (i:=92) J Zi Me)<|dt (Pm J J J)<|Zf<|Za<|Zs J (fun h238=>?_) (fun h238=>?_)
 ·have hb0:0<b:=Zit (by omega)
  refine Zj<|Za<|Zo<|Zd<|Zg<|mv J<|mv J<|tt (Zh (n:=6) (r_over _ _ _ _ hb0) J J J K2 call124 (Zc 91 J J J (Zc 92 J J J Ze)) J hw) fun g _=>mv J<|dt (Yh J J J)<|dt (Yh J J J)<|as_ J<|as_ J<|Zf<|Za<|Zg<|mv J<|mv J<|as_ J<|as_ J<|Zf<|Oe ?_
  have hlt:a%b<b:=Nat.mod_lt _ hb0
  exact Qu (Oa 92 91 J J J)<|Qu (Oa 7 92 J J J)<|Xn (_,_,b,a%b) ⟨by dsimp only;rw [←hg,Nat.gcd_comm b,←Nat.gcd_rec,Nat.gcd_comm],hb,Nat.le_trans (Oy (Nat.le_of_lt hlt)) hb⟩ hlt K3 K8
 ·have hb0:b=0:=(Pp Nd b).1 (by omega)
  have ha0:a=Nat.gcd x.natAbs y.natAbs:=by rw [←hg,hb0,Nat.gcd_zero_right]
  exact Yv<|Zv<|Zv<|Ox<|Za<|Zd<|Zg<|mv J<|tt (Zh (n:=7) (Ad _ _ _ ((Int.gcd x y:Int)) (by rw [ha0]<;>rfl) (by simp [sg]) (by omega)) J J J K2 call78 (Zc 91 J J J Ze) J hw) fun _ _=>tt (Zm (i:=5) J J J J J (by decide) J Xp J J ⟨Zb J,Zl (i:=91) J Zi,trivial⟩ J hw trivial) fun _ _=>Zf<|Za<|Zu<|Ym (.inl J) hsc _ _ (fun a w hs=>Ni hs results71 (Yn (i:=5) J J Nm Xp J)) J trivial J (Yi 91 J J J (by rw [ha0]<;>rfl) Zk)
set_option maxHeartbeats 4000000 in
theorem Gp(v w:Value)(x y:Int)(hx:bl x.natAbs≤500000000)(hy0:y≠0)(hy:bl y.natAbs≤500000000:=by omega):Cal prog 74 #[.agg #[.bool (decide (x<0)),v],.agg #[.bool (decide (y<0)),w]] [d9p v x.natAbs,d9p w y.natAbs] true (G:=Value×Value) (fun r=>True) (fun r=> .tuple #[.agg #[.bool (decide (x/y<0)),r.1],.agg #[.bool (decide (x%y<0)),r.2]]) (fun r=>[d9p r.1 (x/y).natAbs,d9p r.2 (x%y).natAbs]):=by
 refine Yc func74 J ntmps74 J K2 ?_
 intro w0 sc hw hsc
 simp only [Zq,Zp]
 have hyp:0<y.natAbs:=by omega
 have hb1:=bl_tdiv x y
 have hb2:=Zqo x y
 have hb3:=Fx x (x.tdiv y*y)
 have hsf:=sub_fix (x:=x) hy0
 have hb4:=Fx (x.tdiv y) 1
 have hb5:=Lu (x.tdiv y) 1
 have hb6:bl (1:Int).natAbs≤1:=by decide
 have hb7:=Xm (x.tdiv y-1) y
 have hb8:=Xm (x.tdiv y+1) y
 refine Zd<|Zg<|tt (Yu (i:=3) J J J J J hw) fun b _=>tt (Yu (i:=4) J J J J J hw) fun b_2 _=>tt (Zn (i:=5) J J zeroValue48 J J hw) fun b_3 _=>tt (Zn (i:=6) J J zeroValue48 J J hw) fun b_4 _=>Zf<|Za<|Zd<|Zg<|dt (Xs J J Zal J Zjd J J)<|dt (Oj (i:=3) J J J Zkm J)<|dt (Xs J J Zal J Zjd J J)<|dt (Oj (i:=4) J J J Zkm J)<|tt (Zh (n:=70) (r_over _ _ _ _ hyp) J J J K2 call124 (Zc 1 J J J (Zc 2 J J J Ze)) J hw) fun g _=>mv J<|dt (Yh J J J)<|dt (Yh J J J)<|as_ J<|as_ J<|Zf<|Za<|Zd<|Zg<|dt (Xs J J Zal J zT4 J J)<|dt (Oj (i:=3) J J J iA4 J)<|dt (Xs J J Zal J zT4 J J)<|dt (Oj (i:=4) J J J iA4 J)<|dt (Zql J J J uT4)<|mv J<|tt (Zh (n:=6) (Ad _ _ _ (x.tdiv y) (Zho x y) (sg_tdiv x y) (by rw [Zho];omega)) J J J K2 call78 (Zc 70 J J J Ze) J hw) fun _ _=>Oc (Gv 70 (congrArg (d9p _) (Zho x y)) J J)<|tt (Zn (i:=97) J J zeroValue48 J J hw) fun b_5 _=>tt (Zm (i:=97) J J J J J (by decide) J Xp J J ⟨Zb J,Zl (i:=70) J Zi,trivial⟩ J hw trivial) fun _ _=>Zf<|Za ?_
 refine Ez [(2,_),(3,_),(4,_),(5,_),(7,_),(8,_)] [(0,_),(1,_),(2,_),(3,_),(4,_),(5,_),(6,_),(70,_),(71,_),(97,_)] (fun(q:Value×Nat)=>[(9,.pointer (some ⟨q.2,0,none⟩))]) (fun(q:Value×Nat)=>[(72,d9p q.1 (x-x.tdiv y*y).natAbs),(98,box q.2 48 #[.bool (decide ((x-x.tdiv y*y)<0)),q.1])]) (fun(q:Value×Nat)=>True) K6 K10 ?_ ?_
 ·refine Hy (fun _=>False) [6]<|Zx (n:=4) [(0,0),(1,0),(2,0)]<|r0' J J (st0 (Zy (i:=3) J J J Nm Xp J J))<|r0' J J (st0 (Zy (i:=97) J J J Nm Xp J J))<|r0' J J (st0 (Zy (i:=4) J J J Nm Xp J J))<|Yk<|Pb (n:=3) 3 5 ?_ ?_
  ·refine Yj J (Zh (n:=73) (Fs _ _ _ _) J J J K2 Zf9 (Zc 70 J J J (Zc 2 J J J Ze)) J hw) fun v _=>Pb (n:=2) 4 5 ?_ ?_
   ·exact Yj J (Zh (n:=72) (Zj4 _ _ _ _) J J J K2 call87 (Zc 1 J J J (Zc 73 J J J Ze)) J hw) fun v_2 _=>Zx (n:=0) [(5,1),(6,3)]<|r1' J (Zn (i:=98) J J zeroValue48 J J hw) fun b_6 _=>r3' J (Zm (i:=98) J J J J J (by decide) J Xp J J ⟨Zb J,Zl (i:=72) J Zi,trivial⟩ J hw trivial) fun _ _=>Yk<|Yf<|Qt (_,_) trivial K7 K12
   ·exact Yj J (Zn (i:=98) J J zeroValue48 J J hw) fun b_7 _=>Zx (n:=0) [(4,1),(6,3)]<|r1' J (Zh (n:=72) (Zj4 _ _ _ _) J J J K2 call87 (Zc 1 J J J (Zc 73 J J J Ze)) J hw) fun v_3 _=>r3' J (Zm (i:=98) J J J J J (by decide) J Xp J J ⟨Zb J,Zl (i:=72) J Zi,trivial⟩ J hw trivial) fun _ _=>Yk<|Yf<|Qt (_,_) trivial K7 K12
  ·exact Yj J (Zn (i:=98) J J zeroValue48 J J hw) fun b_8 _=>Zx (n:=0) [(3,1),(4,1),(6,3)]<|r1' J (Zh (n:=73) (Fs _ _ _ _) J J J K2 Zf9 (Zc 70 J J J (Zc 2 J J J Ze)) J hw) fun v_4 _=>r1' J (Zh (n:=72) (Zj4 _ _ _ _) J J J K2 call87 (Zc 1 J J J (Zc 73 J J J Ze)) J hw) fun v_5 _=>r3' J (Zm (i:=98) J J J J J (by decide) J Xp J J ⟨Zb J,Zl (i:=72) J Zi,trivial⟩ J hw trivial) fun _ _=>Yk<|Yf<|Qt (_,_) trivial K7 K12
 ·rintro⟨vr,b9⟩ -
  simp only [CA,NA]
  refine Ez [(4,_),(5,_),(7,_),(8,_),(9,_)] [(0,_),(72,_),(1,_),(2,_),(3,_),(4,_),(5,_),(6,_),(70,_),(71,_)] (fun(q:Value×Value)=>[]) (fun(q:Value×Value)=>[(75,d9p q.1 (x/y).natAbs),(76,d9p q.2 (x%y).natAbs),(97,box b_5 48 #[.bool (decide (x/y<0)),q.1]),(98,box b9 48 #[.bool (decide (x%y<0)),q.2])]) (fun(q:Value×Value)=>True) K5 K10 ?_ ?_
  ·refine Zd<|Zg<|dt (Zy (i:=98) J J J Nm Xp J J)<|tt (Zh (n:=6) (Ca _ _) J J J K1 call72 (Zc 72 J J J Ze) J hw) fun _ _=>dt (Xr J J J)<|Zf<|Za<|Zs J (fun h223=>?_) (fun h223=>?_)
   ·have hrn:x.tmod y<0:=by rw [←hsf];exact(Qe _).1 h223
    refine Zd<|Zd<|Zg<|dt (Zy (i:=4) J J J Nm Xp J J)<|tt (Zh (n:=6) (Ca _ _) J J J K1 call72 (Zc 2 J J J Ze) J hw) fun _ _=>dt (Pm J J J)<|Zf<|Za<|Zs J (fun h224=>?_) (fun h224=>?_)
    ·have hyp0:0<y:=by have h2:=decide_eq_decide.1 (Fb y);omega
     obtain⟨hq,hr⟩:=quo_pos hyp0 hrn
     refine Qi (fun _=>False) [(0,0),(1,1),(2,3),(3,3)] ?_ ?_
     ·kernel_rfl
     refine r0' J J (st0 (Zy (i:=97) J J J Nm Xp J J))<|r1' J (Zh (n:=7) (Zf1 1 ⟨by omega,by omega⟩) J J J K1 call34 Ze J hw) fun v_6 _=>r3' J (Zh (n:=8) (Zj4 _ _ _ _) J J J K2 call87 (Zc 70 J J J (Zc 7 J J J Ze)) J hw) fun v_7 _=>r3' J (Zm (i:=97) J J J J J (by decide) J Xp J J ⟨Zb J,Zl (i:=8) J Zi,trivial⟩ J hw trivial) fun _ _=>Of<|Za<|Qi (fun _=>False) [(0,0),(1,0),(2,0),(3,1),(4,1),(5,3)] ?_ ?_
     ·kernel_rfl
     exact r0' J J (st0 (Zy (i:=3) J J J Nm Xp J J))<|r0' J J (st0 (Zy (i:=97) J J J Nm Xp J J))<|r0' J J (st0 (Zy (i:=4) J J J Nm Xp J J))<|r1' J (Zh (n:=9) (Fs _ _ _ _) J J J K2 Zf9 (Zc 8 J J J (Zc 2 J J J Ze)) J hw) fun v_8 _=>r1' J (Zh (n:=10) (Zj4 _ _ _ _) J J J K2 call87 (Zc 1 J J J (Zc 9 J J J Ze)) J hw) fun v_9 _=>r3' J (Zm (i:=98) J J J J J (by decide) J Xp J J ⟨Zb J,Zl (i:=10) J Zi,trivial⟩ J hw trivial) fun _ _=>Of<|Qu (Oa 8 75 J J J)<|Qu (Oa 10 76 J J J)<|Qt (v_7,v_9) trivial K5 ⟨by rw [hq];rfl,by rw [hr];rfl,by rw [hq];rfl,by rw [hr];rfl,rfl,rfl,rfl,rfl,rfl,rfl,rfl,rfl,rfl,rfl,trivial⟩
    ·have hyn0:y<0:=by have h2:=decide_eq_decide.1 (Fb y);omega
     obtain⟨hq,hr⟩:=quo_neg hyn0 hrn
     refine Qi (fun _=>False) [(0,0),(1,1),(2,3),(3,3)] ?_ ?_
     ·kernel_rfl
     refine r0' J J (st0 (Zy (i:=97) J J J Nm Xp J J))<|r1' J (Zh (n:=11) (Zf1 1 ⟨by omega,by omega⟩) J J J K1 call34 Ze J hw) fun v_10 _=>r3' J (Zh (n:=12) (Zp9 _ _ _ _) J J J K2 call37 (Zc 70 J J J (Zc 11 J J J Ze)) J hw) fun v_11 _=>r3' J (Zm (i:=97) J J J J J (by decide) J Xp J J ⟨Zb J,Zl (i:=12) J Zi,trivial⟩ J hw trivial) fun _ _=>Of<|Za<|Qi (fun _=>False) [(0,0),(1,0),(2,0),(3,1),(4,1),(5,3)] ?_ ?_
     ·kernel_rfl
     exact r0' J J (st0 (Zy (i:=3) J J J Nm Xp J J))<|r0' J J (st0 (Zy (i:=97) J J J Nm Xp J J))<|r0' J J (st0 (Zy (i:=4) J J J Nm Xp J J))<|r1' J (Zh (n:=13) (Fs _ _ _ _) J J J K2 Zf9 (Zc 12 J J J (Zc 2 J J J Ze)) J hw) fun v_12 _=>r1' J (Zh (n:=14) (Zj4 _ _ _ _) J J J K2 call87 (Zc 1 J J J (Zc 13 J J J Ze)) J hw) fun v_13 _=>r3' J (Zm (i:=98) J J J J J (by decide) J Xp J J ⟨Zb J,Zl (i:=14) J Zi,trivial⟩ J hw trivial) fun _ _=>Of<|Qu (Oa 12 75 J J J)<|Qu (Oa 14 76 J J J)<|Qt (v_11,v_13) trivial K5 ⟨by rw [hq];rfl,by rw [hr];rfl,by rw [hq];rfl,by rw [hr];rfl,rfl,rfl,rfl,rfl,rfl,rfl,rfl,rfl,rfl,rfl,trivial⟩
   ·have hrn:¬x.tmod y<0:=by rw [←hsf];exact fun h=>h223 ((Qe _).2 h)
    obtain⟨hq,hr⟩:=Zw9 hy0 hrn
    rw [←hsf]at hr
    exact Zj<|Qu (Oa 70 75 J J J)<|Qu (Oa 72 76 J J J)<|Qt (g.1,vr) trivial K5 ⟨by rw [hq];rfl,by rw [hr];rfl,by rw [hq];rfl,by rw [hr];rfl,rfl,rfl,rfl,rfl,rfl,rfl,rfl,rfl,rfl,rfl,trivial⟩
  ·rintro⟨v8,v9⟩ -
   simp only [CA,NA]
   exact Zd<|Zg<|mv J<|Zf<|Za<|Zd<|Oi [97,98] [3]<|Zx (n:=0) [(0,0),(1,0),(2,1),(3,3)]<|r0' J J (stf (Zy (i:=97) J J J Nm Xp J J) K2)<|r0' J J (stf (Zy (i:=98) J J J Nm Xp J J) K2)<|r1' J (Zar 5 J J K2 (fun ob=>(Zm (i:=5) J J J J J (by decide) J Xp J J ⟨Zb J,Zl (i:=75) J Zi,trivial⟩ J hw ob))) fun _ _=>r3' J (Zm (i:=6) J J J J J (by decide) J Xp J J ⟨Zb J,Zl (i:=76) J Zi,trivial⟩ J hw trivial) fun _ _=>Yk<|Yf<|Za<|Zu<|Ym (.inl J) hsc (_,_) _ (fun a w hs=>Nl hs results74 (Yn (i:=5) J J Nm Xp J) (Yn (i:=6) J J Nm Xp J)) J trivial J (Yy 75 J J J (Yy 76 J J J Zk))
theorem Fd(b:Bool)(s:ByteArray)(c:Bool)(t:ByteArray):Mc prog 25 #[.agg #[.bool b,.string s,.bool c,.string t]] [] (.bool (okR b s c t)):=by
 refine Yc func25 J ntmps25 J trivial ?_
 intro w0 sc hw hsc
 simp only [Zq,Zp]
 refine Zd<|Zg<|tt (Yu (i:=1) J J J J J hw) fun b _=>as_ J<|Zf<|Za<|Zd<|Zg<|dt (Xs J J Cd J Yq J J)<|dt (Zy (i:=1) J J J Qq Yq J J)<|tt (Zh (n:=1) (Zlx _ _) J J J K1 call35 Ze J hw) fun _ _=>mv J<|Ll (d:=6) J (fun s332=>?_) (fun s332=>?_)
 ·refine gdt (Xs J J Cd J Yq J J) J J<|gdt (Zy (i:=1) J J J Qq Yq J J) J J<|gtt (Zh (n:=1) (Zlx _ _) J J J K1 call35 Ze J hw) J J J fun _ _=>dt (Ys J J J)<|mv J<|Ll (d:=11) J (fun s332_2=>?_) (fun s332_2=>?_)
  ·refine gdt (Xs J J Cd J Yq J J) J J<|gdt (Xs J J Zam J zT4 J J) J J<|gdt (Oj (i:=1) J J J iA4 J) J J<|gdt (Xg J J) J J<|dt (Ys J J J)<|mv J<|Ll (d:=17) J (fun s332_3=>?_) (fun s332_3=>?_)
   ·exact gdt (Xs J J Cd J Yq J J) J J<|gdt (Xs J J Zam J zT9 J J) J J<|gdt (Oj (i:=1) J J J iA9 J) J J<|gdt (Fi J J uT9) J J<|gdt (Pm J J J) J J<|dt (Ys J J J)<|as_ J<|Zf<|Za<|Zu<|xU hsc results25 J J (by unfold okR;simp_all)
   ·exact gsk J J J<|gsk J J J<|gsk J J J<|gsk J J J<|gsk J J J<|dt (Zz J J J)<|as_ J<|Zf<|Za<|Zu<|xU hsc results25 J J (by unfold okR;simp_all)
  ·exact gsk J J J<|gsk J J J<|gsk J J J<|gsk J J J<|dt (Zz J J J)<|mv J<|gsk J J J<|gsk J J J<|gsk J J J<|gsk J J J<|gsk J J J<|dt (Zz J J J)<|as_ J<|Zf<|Za<|Zu<|xU hsc results25 J J (by unfold okR;simp_all)
 ·exact gsk J J J<|gsk J J J<|gsk J J J<|dt (Zz J J J)<|mv J<|gsk J J J<|gsk J J J<|gsk J J J<|gsk J J J<|dt (Zz J J J)<|mv J<|gsk J J J<|gsk J J J<|gsk J J J<|gsk J J J<|gsk J J J<|dt (Zz J J J)<|as_ J<|Zf<|Za<|Zu<|xU hsc results25 J J (by unfold okR;simp_all)
theorem Xl(x y:Int)(hx:bl x.natAbs≤2000000000:=by omega)(hy:bl y.natAbs≤2000000000:=by omega):Cal prog 23 #[rX x y] [] true (G:=Value×Value) (fun r=>True) (fun r=> .agg #[.bool (decide (x<0)),r.1,.bool (decide (y<0)),r.2]) (fun r=>[d9p r.1 (x).natAbs,d9p r.2 (y).natAbs]):=by
 refine Yc func23 J ntmps23 J trivial ?_
 intro w0 sc hw hsc
 simp only [Zq,Zp]
 refine Zd<|Zg<|tt (Yu (i:=1) J J J J J hw) fun b _=>tt (Zn (i:=2) J J zeroValue50 J J hw) fun b_2 _=>Zf<|Za<|Zd<|Qi (fun _=>False) [(0,0),(1,0),(3,0),(4,0),(2,1),(5,1),(6,0),(7,3)] ?_ ?_
 ·kernel_rfl
 exact r0' J J (st0 (Xs J J Cd J Yq J J))<|r0' J J (st0 (Zy (i:=1) J J J Qq Yq J J))<|r0' J J (st0 (Xs J J Cd J Yq J J))<|r0' J J (st0 (Zy (i:=1) J J J Qq Yq J J))<|r1' J (Zh (n:=3) (Zsb _) J J J K1 call30 Ze J hw) fun v _=>r1' J (Zh (n:=4) (Zsb _) J J J K1 call30 Ze J hw) fun v_2 _=>r0' J J (st0 (Pv (ivs:=[(0,_),(1,_)]) J K4 (fun a w hs=>Zvk)))<|r3' J (Zm (i:=2) J J J J J (by decide) J Nu J J ⟨Zb J,Zl (i:=3) J Zi,Zb J,Zl (i:=4) J Zi,trivial⟩ J hw trivial) fun _ _=>Of<|Za<|Zu<|Ym (.inl J) hsc (_,_) _ (fun a w hs=>Ni hs results23 (Yn (i:=2) J J Eb Nu J)) J trivial J (Yy 3 J J J (Yy 4 J J J Zk))
theorem Bj(v w:Value)(x y:Int)(hx:bl x.natAbs≤400000000:=by omega)(hy:bl y.natAbs≤400000000:=by omega)(hy0:y≠0:=by omega):Cal prog 29 #[.agg #[.bool (decide (x<0)),v],.agg #[.bool (decide (y<0)),w]] [d9p v x.natAbs,d9p w y.natAbs] true (G:=Value×Value) (fun r=>True) (fun r=> .agg #[.bool (decide (x/Mz x y<0)),r.1,.bool (decide (y/Mz x y<0)),r.2]) (fun r=>[d9p r.1 (x/Mz x y).natAbs,d9p r.2 (y/Mz x y).natAbs]):=by
 refine Yc func29 J ntmps29 J K2 ?_
 intro w0 sc hw hsc
 simp only [Zq,Zp]
 have hgb:=bl_igcd x y
 have hg0:Mz x y≠0:=Ztj hy0
 have hgl:bl (Mz x y).natAbs≤400000000:=by rw [Bo];have:=Zla x.natAbs y.natAbs;omega
 refine Zd<|Zg<|tt (Yu (i:=3) J J J J J hw) fun b _=>tt (Yu (i:=4) J J J J J hw) fun b_2 _=>tt (Zn (i:=5) J J zeroValue50 J J hw) fun b_3 _=>Zf<|Za<|Zd<|Zg<|dt (Zy (i:=3) J J J Nm Xp J J)<|dt (Zy (i:=4) J J J Nm Xp J J)<|tt (Zh (n:=6) (r_gcd _ _ _ _ (by omega)) J J J K2 call71 (Zc 1 J J J (Zc 2 J J J Ze)) J hw) fun v _=>tt (Zn (i:=97) J J zeroValue48 J J hw) fun b_4 _=>tt (Zm (i:=97) J J J J J (by decide) J Xp J J ⟨Zb J,Zl (i:=6) J Zi,trivial⟩ J hw trivial) fun _ _=>Zf<|Za<|Ez [(2,_),(3,_),(4,_),(5,_)] [(0,_),(1,_),(2,_),(3,_),(4,_),(5,_),(6,_)] (fun(vg:Value)=>[]) (fun(vg:Value)=>[(70,d9p vg (Mz x y).natAbs),(97,box b_4 48 #[.bool (decide (Mz x y<0)),vg])]) (fun(vg:Value)=>True) K4 K7 ?_ ?_
 ·refine Zd<|Zg<|dt (Zy (i:=4) J J J Nm Xp J J)<|tt (Zh (n:=6) (Ca _ _) J J J K1 call72 (Zc 2 J J J Ze) J hw) fun _ _=>dt (Xr J J J)<|Zf<|Za<|Zs J (fun h341=>?_) (fun h341=>?_)
  ·have hl:Mz x y=-(Int.gcd x y:Int):=lgcd_lt ((Qe _).1 h341)
   exact Zg<|dt (Zy (i:=97) J J J Nm Xp J J)<|tt (Zh (n:=7) (Zp8 _ _ (by omega)) J J J K1 call73 (Zc 6 J J J Ze) J hw) fun v_2 _=>tt (Zm (i:=97) J J J J J (by decide) J Xp J J ⟨Zb J,Zl (i:=7) J Zi,trivial⟩ J hw trivial) fun _ _=>Zf<|Qu (Oa 7 70 J J J)<|Qt v_2 trivial K4 ⟨by rw [hl];rfl,by rw [hl];rfl,rfl,rfl,rfl,rfl,rfl,rfl,rfl,trivial⟩
  ·have hl:Mz x y=(Int.gcd x y:Int):=Ztk (fun h=>h341 ((Qe _).2 h))
   exact Zj<|Qu (Oa 6 70 J J J)<|Qt v trivial K4 ⟨by rw [hl];rfl,by rw [hl];rfl,rfl,rfl,rfl,rfl,rfl,rfl,rfl,trivial⟩
 ·rintro vg -
  simp only [CA,NA]
  refine Zd<|Zg<|dt (Zy (i:=3) J J J Nm Xp J J)<|dt (Zy (i:=97) J J J Nm Xp J J)<|tt (Zh (n:=8) (Gp _ _ x (Mz x y) (by omega) hg0) J J J K2 Zfp (Zc 1 J J J (Zc 70 J J J Ze)) J hw) fun g _=>mv J<|dt (Yh J J J)<|dt (Yh J J J)<|tt (Zn (i:=10) J J zeroValue48 J J hw) fun b_5 _=>tt (Zn (i:=11) J J zeroValue48 J J hw) fun b_6 _=>tt (Zm (i:=10) J J J J J (by decide) J Xp J J ⟨Zb J,Zl (i:=8) J Zi,trivial⟩ J hw trivial) fun _ _=>tt (Zm (i:=11) J J J J J (by decide) J Xp J J ⟨Zb J,Zl (i:=9) J Zi,trivial⟩ J hw trivial) fun _ _=>Zf<|Za<|Zd<|Zg<|dt (Zy (i:=4) J J J Nm Xp J J)<|dt (Zy (i:=97) J J J Nm Xp J J)<|tt (Zh (n:=12) (Gp _ _ y (Mz x y) (by omega) hg0) J J J K2 Zfp (Zc 2 J J J (Zc 70 J J J Ze)) J hw) fun g_2 _=>mv J<|dt (Yh J J J)<|dt (Yh J J J)<|tt (Zn (i:=14) J J zeroValue48 J J hw) fun b_7 _=>tt (Zn (i:=15) J J zeroValue48 J J hw) fun b_8 _=>tt (Zm (i:=14) J J J J J (by decide) J Xp J J ⟨Zb J,Zl (i:=12) J Zi,trivial⟩ J hw trivial) fun _ _=>tt (Zm (i:=15) J J J J J (by decide) J Xp J J ⟨Zb J,Zl (i:=13) J Zi,trivial⟩ J hw trivial) fun _ _=>Zf<|Za<|Zd ?_
  exact Zg<|dt (Zy (i:=10) J J J Nm Xp J J)<|dt (Zy (i:=14) J J J Nm Xp J J)<|dt (Pv (ivs:=[(0,_),(1,_)]) J K4 (fun a w hs=>Zvk))<|tt (Zm (i:=5) J J J J J (by decide) J Nu J J ⟨Zb J,Zl (i:=8) J Zi,Zb J,Zl (i:=12) J Zi,trivial⟩ J hw trivial) fun _ _=>Zf<|Za<|Zu<|Ym (.inl J) hsc (_,_) _ (fun a w hs=>Ni hs results29 (Yn (i:=5) J J Eb Nu J)) J trivial J (Yy 8 J J J (Yy 12 J J J Zk))
theorem Zgn(v w:Value)(x y:Int)(hx:bl x.natAbs≤4000000000)(hy:bl y.natAbs≤4000000000):Mc prog 28 #[.agg #[.bool (decide (x<0)),v,.bool (decide (y<0)),w]] [d9p v x.natAbs,d9p w y.natAbs] (.tuple #[.agg #[.bool (decide (qn x y<0)),.string (Qo (qn x y).natAbs),.bool (decide (qd x y<0)),.string (Qo (qd x y).natAbs)],.int .i64 (qe x y)]):=by
 refine Yc func28 J ntmps28 J K2 ?_
 intro w0 sc hw hsc
 simp only [Zq,Zp]
 refine Zd<|Zg<|tt (Yu (i:=3) J J J J J hw) fun b _=>tt (Zn (i:=4) J J zeroValue41 J J hw) fun b_2 _=>as_ J<|Zf<|Za<|Zd<|Zd<|Zg<|dt (Xs J J Zdm J Xp J J)<|dt (Zy (i:=3) J J J Nm Xp J J)<|tt (Zh (n:=4) (r_big _ _) J J J K1 call70 (Zc 1 J J J Ze) J hw) fun _ _=>mv J<|Qm (d:=7) J (fun s351=>?_) (fun s351=>?_)
 ·exact gsk J J J<|gsk J J J<|gsk J J J<|dt (Ys J J J)<|Zf<|Za<|Pf J<|Zd<|Zg<|dt (Pv (ivs:=[]) J trivial (fun a w hs=>b41_))<|tt (Zm (i:=4) J J J J J (by decide) J Xk J J ⟨Zb J,Zb J,Zb J,Zb J,trivial⟩ J hw trivial) fun _ _=>as_ J<|Zf<|Za<|Zu<|Xa<|Ym (.inl J) hsc () _ (fun a w hs=>Nl hs results28 (Yn (i:=4) J J Qp Xk J) J) (by have hf:Zch x y:=(by unfold Zch;omega);unfold qn qd qe;rw [if_pos hf,if_pos hf,if_pos hf]<;>rfl) trivial J Zk
 ·refine gdt (Xs J J Zdm J Xp J J) J J<|gdt (Zy (i:=3) J J J Nm Xp J J) J J<|gtt (Zh (n:=4) (r_big _ _) J J J K1 call70 (Zc 2 J J J Ze) J hw) J J J fun _ _=>dt (Zz J J J)<|Zf<|Za<|Zs J (fun h351=>?_) (fun h351=>?_)
  ·exact Zd<|Zg<|dt (Pv (ivs:=[]) J trivial (fun a w hs=>b41_))<|tt (Zm (i:=4) J J J J J (by decide) J Xk J J ⟨Zb J,Zb J,Zb J,Zb J,trivial⟩ J hw trivial) fun _ _=>as_ J<|Zf<|Za<|Zu<|Xa<|Ym (.inl J) hsc () _ (fun a w hs=>Nl hs results28 (Yn (i:=4) J J Qp Xk J) J) (by have hf:Zch x y:=(by unfold Zch;omega);unfold qn qd qe;rw [if_pos hf,if_pos hf,if_pos hf]<;>rfl) trivial J Zk
  ·refine Zj<|Za<|Zd<|Qi (fun _=>False) [(0,0),(1,0),(3,0),(4,0),(2,1),(5,1),(6,0),(7,3),(8,3)] ?_ ?_
   ·kernel_rfl
   exact r0' J J (st0 (Xs J J Zdm J Xp J J))<|r0' J J (st0 (Zy (i:=3) J J J Nm Xp J J))<|r0' J J (st0 (Xs J J Zdm J Xp J J))<|r0' J J (st0 (Zy (i:=3) J J J Nm Xp J J))<|r1' J (Zh (n:=4) (r_to _ _) J J J K1 call53 (Zc 1 J J J Ze) J hw) fun _ _=>r1' J (Zh (n:=4) (r_to _ _) J J J K1 call53 (Zc 2 J J J Ze) J hw) fun _ _=>r0' J J (st0 (Pv (ivs:=[(0,_),(1,_)]) J K4 (fun a w hs=>Zdd)))<|r3' J (Zm (i:=4) J J J J J (by decide) J Xk J J ⟨Zb J,Zb J,Zb J,Zb J,trivial⟩ J hw trivial) fun _ _=>r3' J (Py (Mf J J) J) fun _ _=>Of<|Za<|Zu<|Ym (.inl J) hsc () _ (fun a w hs=>Nl hs results28 (Yn (i:=4) J J Qp Xk J) J) (by have hf:¬Zch x y:=(by unfold Zch;omega);unfold qn qd qe;rw [if_neg hf,if_neg hf,if_neg hf]<;>rfl) trivial J Zk
theorem Zgo(v w v2 w2:Value)(x y x2 y2:Int)(h0:bl x.natAbs≤100000000:=by omega)(h1:bl y.natAbs≤100000000:=by omega)(h2:bl x2.natAbs≤100000000:=by omega)(h3:bl y2.natAbs≤100000000:=by omega):Mc prog 27 #[.agg #[.bool (decide (x<0)),v,.bool (decide (y<0)),w],.agg #[.bool (decide (x2<0)),v2,.bool (decide (y2<0)),w2]] [d9p v x.natAbs,d9p w y.natAbs,d9p v2 x2.natAbs,d9p w2 y2.natAbs] (.int .i64 (x*y2-x2*y).sign):=by
 refine Yc func27 J ntmps27 J K4 ?_
 intro w0 sc hw hsc
 simp only [Zq,Zp]
 have b1:=Xm x y2
 have b2:=Xm x2 y
 have b3:=Xm y y2
 have b4:=Xm x x2
 have b5:=Lu (x*y2) (x2*y)
 refine Zd<|Zg<|tt (Yu (i:=5) J J J J J hw) fun b _=>tt (Yu (i:=6) J J J J J hw) fun b_2 _=>as_ J<|Zf<|Za<|Zd<|Qi (fun _=>False) [(0,0),(1,0),(2,0),(3,0),(5,0),(6,0),(7,0),(8,0),(4,1),(9,1),(10,1),(11,3)] ?_ ?_
 ·kernel_rfl
 exact r0' J J (st0 (Xs J J Zdm J Xp J J))<|r0' J J (st0 (Zy (i:=5) J J J Nm Xp J J))<|r0' J J (st0 (Xs J J Zdm J Xp J J))<|r0' J J (st0 (Zy (i:=6) J J J Nm Xp J J))<|r0' J J (st0 (Xs J J Zdm J Xp J J))<|r0' J J (st0 (Zy (i:=6) J J J Nm Xp J J))<|r0' J J (st0 (Xs J J Zdm J Xp J J))<|r0' J J (st0 (Zy (i:=5) J J J Nm Xp J J))<|r1' J (Zh (n:=7) (Fs _ _ _ _) J J J K2 Zf9 (Zc 1 J J J (Zc 4 J J J Ze)) J hw) fun v _=>r1' J (Zh (n:=8) (Fs _ _ _ _) J J J K2 Zf9 (Zc 3 J J J (Zc 2 J J J Ze)) J hw) fun v_2 _=>r1' J (Zh (n:=8) (Zsc _ _ _ _ (by omega) (by omega)) J J J K2 call68 (Zc 7 J J J (Zc 8 J J J Ze)) J hw) fun _ _=>r3' J (Py (Mf J J) J) fun _ _=>Of<|Za<|Zu<|xU hsc results27 J J J
theorem r_addq(v w v2 w2:Value)(x y x2 y2:Int)(h0:bl x.natAbs≤100000000)(h1:bl y.natAbs≤100000000)(h2:bl x2.natAbs≤100000000)(h3:bl y2.natAbs≤100000000)(hy0:y≠0)(hy2:y2≠0):Cal prog 126 #[.agg #[.bool (decide (x<0)),v,.bool (decide (y<0)),w],.agg #[.bool (decide (x2<0)),v2,.bool (decide (y2<0)),w2]] [d9p v x.natAbs,d9p w y.natAbs,d9p v2 x2.natAbs,d9p w2 y2.natAbs] true (G:=Value×Value) (fun r=>True) (fun r=> .agg #[.bool (decide ((x*y2+x2*y)/Mz (x*y2+x2*y) (y*y2)<0)),r.1,.bool (decide ((y*y2)/Mz (x*y2+x2*y) (y*y2)<0)),r.2]) (fun r=>[d9p r.1 ((x*y2+x2*y)/Mz (x*y2+x2*y) (y*y2)).natAbs,d9p r.2 ((y*y2)/Mz (x*y2+x2*y) (y*y2)).natAbs]):=by
 refine Yc func126 J ntmps126 J K4 ?_
 intro w0 sc hw hsc
 simp only [Zq,Zp]
 have b1:=Xm x y2
 have b2:=Xm x2 y
 have b3:=Xm y y2
 have b4:=Xm x x2
 have b5:=Lu (x*y2) (x2*y)
 have hyy:y*y2≠0:=Int.mul_ne_zero hy0 hy2
 refine Zd<|Zg<|tt (Yu (i:=5) J J J J J hw) fun b _=>tt (Yu (i:=6) J J J J J hw) fun b_2 _=>tt (Zn (i:=7) J J zeroValue50 J J hw) fun b_3 _=>Zf<|Za<|Zd<|Qi (fun _=>False) [(0,0),(1,0),(2,0),(3,0),(5,0),(6,0),(7,0),(8,0),(11,0),(12,0),(13,0),(14,0),(4,1),(9,1),(10,1),(15,1),(16,1),(17,3)] ?_ ?_
 ·kernel_rfl
 refine r0' J J (st0 (Xs J J Zdm J Xp J J))<|r0' J J (st0 (Zy (i:=5) J J J Nm Xp J J))<|r0' J J (st0 (Xs J J Zdm J Xp J J))<|r0' J J (st0 (Zy (i:=6) J J J Nm Xp J J))<|r0' J J (st0 (Xs J J Zdm J Xp J J))<|r0' J J (st0 (Zy (i:=6) J J J Nm Xp J J))<|r0' J J (st0 (Xs J J Zdm J Xp J J))<|r0' J J (st0 (Zy (i:=5) J J J Nm Xp J J))<|r0' J J (st0 (Xs J J Zdm J Xp J J))<|r0' J J (st0 (Zy (i:=5) J J J Nm Xp J J))<|r0' J J (st0 (Xs J J Zdm J Xp J J))<|r0' J J (st0 (Zy (i:=6) J J J Nm Xp J J))<|r1' J (Zh (n:=8) (Fs _ _ _ _) J J J K2 Zf9 (Zc 1 J J J (Zc 4 J J J Ze)) J hw) fun v _=>r1' J (Zh (n:=9) (Fs _ _ _ _) J J J K2 Zf9 (Zc 3 J J J (Zc 2 J J J Ze)) J hw) fun v_2 _=>r1' J (Zh (n:=10) (Zp9 _ _ _ _) J J J K2 call37 (Zc 8 J J J (Zc 9 J J J Ze)) J hw) fun v_3 _=>r1' J (Zh (n:=11) (Fs _ _ _ _) J J J K2 Zf9 (Zc 2 J J J (Zc 4 J J J Ze)) J hw) fun v_4 _=>r1' J (Zh (n:=12) (Bj _ _ _ _ (by omega) (by omega) hyy) J J J K2 call29 (Zc 10 J J J (Zc 11 J J J Ze)) J hw) (fun g _=>?_)
 exact r3' J (Zm (i:=7) J J J J J (by decide) J Nu J J ⟨Zb J,Zl (i:=12) J Zi,Zb J,Zl (i:=13) J Zi,trivial⟩ J hw trivial) fun _ _=>Of<|Za<|Zu<|Ym (.inl J) hsc (_,_) _ (fun a w hs=>Ni hs results126 (Yn (i:=7) J J Eb Nu J)) J trivial J (Yy 12 J J J (Yy 13 J J J Zk))
theorem r_mulq(v w v2 w2:Value)(x y x2 y2:Int)(h0:bl x.natAbs≤100000000)(h1:bl y.natAbs≤100000000)(h2:bl x2.natAbs≤100000000)(h3:bl y2.natAbs≤100000000)(hy0:y≠0)(hy2:y2≠0):Cal prog 125 #[.agg #[.bool (decide (x<0)),v,.bool (decide (y<0)),w],.agg #[.bool (decide (x2<0)),v2,.bool (decide (y2<0)),w2]] [d9p v x.natAbs,d9p w y.natAbs,d9p v2 x2.natAbs,d9p w2 y2.natAbs] true (G:=Value×Value) (fun r=>True) (fun r=> .agg #[.bool (decide ((x*x2)/Mz (x*x2) (y*y2)<0)),r.1,.bool (decide ((y*y2)/Mz (x*x2) (y*y2)<0)),r.2]) (fun r=>[d9p r.1 ((x*x2)/Mz (x*x2) (y*y2)).natAbs,d9p r.2 ((y*y2)/Mz (x*x2) (y*y2)).natAbs]):=by
 refine Yc func125 J ntmps125 J K4 ?_
 intro w0 sc hw hsc
 simp only [Zq,Zp]
 have b1:=Xm x y2
 have b2:=Xm x2 y
 have b3:=Xm y y2
 have b4:=Xm x x2
 have b5:=Lu (x*y2) (x2*y)
 have hyy:y*y2≠0:=Int.mul_ne_zero hy0 hy2
 refine Zd<|Zg<|tt (Yu (i:=5) J J J J J hw) fun b _=>tt (Yu (i:=6) J J J J J hw) fun b_2 _=>tt (Zn (i:=7) J J zeroValue50 J J hw) fun b_3 _=>Zf<|Za<|Zd<|Qi (fun _=>False) [(0,0),(1,0),(2,0),(3,0),(5,0),(6,0),(7,0),(8,0),(4,1),(9,1),(10,1),(11,3)] ?_ ?_
 ·kernel_rfl
 exact r0' J J (st0 (Xs J J Zdm J Xp J J))<|r0' J J (st0 (Zy (i:=5) J J J Nm Xp J J))<|r0' J J (st0 (Xs J J Zdm J Xp J J))<|r0' J J (st0 (Zy (i:=6) J J J Nm Xp J J))<|r0' J J (st0 (Xs J J Zdm J Xp J J))<|r0' J J (st0 (Zy (i:=5) J J J Nm Xp J J))<|r0' J J (st0 (Xs J J Zdm J Xp J J))<|r0' J J (st0 (Zy (i:=6) J J J Nm Xp J J))<|r1' J (Zh (n:=8) (Fs _ _ _ _) J J J K2 Zf9 (Zc 1 J J J (Zc 3 J J J Ze)) J hw) fun v _=>r1' J (Zh (n:=9) (Fs _ _ _ _) J J J K2 Zf9 (Zc 2 J J J (Zc 4 J J J Ze)) J hw) fun v_2 _=>r1' J (Zh (n:=10) (Bj _ _ _ _ (by omega) (by omega) hyy) J J J K2 call29 (Zc 8 J J J (Zc 9 J J J Ze)) J hw) fun g _=>r3' J (Zm (i:=7) J J J J J (by decide) J Nu J J ⟨Zb J,Zl (i:=10) J Zi,Zb J,Zl (i:=11) J Zi,trivial⟩ J hw trivial) fun _ _=>Of<|Za<|Zu<|Ym (.inl J) hsc (_,_) _ (fun a w hs=>Ni hs results125 (Yn (i:=7) J J Eb Nu J)) J trivial J (Yy 10 J J J (Yy 11 J J J Zk))
end Go.Sky

