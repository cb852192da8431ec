/- Rules, arithmetic and contracts: part 9. No conditions but those that each theorem names. -/
import Derived.Test.YtljmhpopdmadkaaGreatLv07
set_option linter.all false
namespace Go.Sky
open Go.Proofs.Tryz
open Go.Proofs
set_option synthInstance.maxHeartbeats 0
set_option synthInstance.maxSize 100000
set_option maxRecDepth 20000
set_option maxHeartbeats 4000000
set_option linter.unusedSimpArgs false
theorem Ydk(v:Value)(xs:List Nat):Cal prog 112 #[v] [Xc 1 Me v xs] true (G:=Unit) (fun _=>True) (fun _=>Ll v (tz xs).length) (fun _=>[Xc 1 Me (Ll v (tz xs).length) (tz xs)]):=by
 refine Zh func112 ntmps112 fun w0 sc hw hsc=>?_
 refine Oc (Zt1 (i:=1) J Zn) (fun hself=>?_)
 refine Oc (Lp (i:=1) J Zn) fun hlen=>go 7 ?_
 refine lp (G:=Nat) [] [0] (fun k=>[(0,Ll v k)]) (fun k=>[(1,Xc 1 Me (Ll v k) (xs.take k))]) (fun k=>(k≤xs.length)∧(tz (xs.take k)=tz xs)) (fun k=>k) xs.length ⟨Nat.le_refl _,by rw [List.take_length]⟩ ⟨by rw [hself];rfl,trivial⟩ ⟨by rw [hself,List.take_length];rfl,trivial⟩ ?_
 rintro k ⟨hk,ht⟩
 have hl:(xs.take k).length=k:=by rw [List.length_take];omega
 refine go 7 ?_
 refine Ys (d:=6) J (fun s21=>?_) (fun s21=>?_)
 ·refine go 4 ⟨O,?_⟩
  refine Dc (Zy (ii:=1) (i:=k-1) J J J J Zn Pt Lo) J J<|go 5 ⟨O,?_⟩
  refine Zc J (fun h21=>?_) (fun h21=>?_)
  ·have hstep:=Zuy hk O (by omega:(xs.take k).getD (k-1) 0=0)
   refine go 8 ⟨O,?_⟩
   refine dt (Zxd (ii:=1) (i:=k-1) J J J J Zn Pt Lo)<|go 3 ?_
   exact Zw (Ybu 1 1 (k-1) J J)<|Yq (k-1) ⟨O1,by rw [←ht,←hstep]⟩ O1 ⟨by rw [←Ge v k (k-1)];rfl,trivial⟩ ⟨by rw [Ge,List.take_take,Nat.min_eq_left O];rfl,trivial⟩
  ·refine go 12 ?_
   have hx:tz xs=xs.take k:=by rw [←ht];exact Zep hk O
   exact Xa hsc () results112 (by rw [hx,hl]) trivial (Oe 1 Za (by rw [hx,hl]))
 ·refine go 23 ?_
  have hx:tz xs=xs.take k:=by rw [←ht];exact Zep hk O
  exact Xa hsc () results112 (by rw [hx,hl]) trivial (Oe 1 Za (by rw [hx,hl]))
theorem Oa(v:Value)(xs:List Nat):Cal prog 112 #[v] [Xc 1 Me v xs] false (G:=Unit) (fun _=>True) (fun _=>Ll v (tz xs).length) (fun _=>[]):=(Ydk v xs).bare
theorem Zwe(v w:Value)(x y:Nat)(hx:bl x≤4294967296)(hy:bl y≤4294967296):Cal prog 189 #[v,w] [Fb v x,Fb w y] false (G:=Value) (fun r=>True) (fun r=>r) (fun r=>[Fb r (x+y)]):=by
 refine Zh func189 ntmps189 fun w0 sc hw hsc=>?_
 have hX:=Ma x
 have hY:=Ma y
 refine go 5 ?_
 refine jn (G:=Value×Value×Nat×Nat) [] [0,1,2] (fun q=>[(0,q.1),(1,q.2.1)]) (fun q=>[(91,Fb q.1 q.2.2.1),(92,Fb q.2.1 q.2.2.2)]) (fun q=>(q.2.2.1+q.2.2.2=x+y)∧((dg U q.2.2.2).length≤(dg U q.2.2.1).length)∧((dg U q.2.2.1).length≤1099511627776)) ?_ ?_
 ·refine go 9 ?_
  refine Zc J (fun h73=>?_) (fun h73=>?_)
  ·refine go 6 ?_
   exact Zw (Xe 2 91 J J J)<|Zw (Xe 1 92 J J J)<|Pw (w,v,y,x) ⟨O1,O1,O1⟩ K2 K2
  ·refine go 1 ?_
   exact Zw (Xe 1 91 J J J)<|Zw (Xe 2 92 J J J)<|Pw (v,w,x,y) ⟨O1,O1,O1⟩ K2 K2
 ·rintro⟨va,vb,a,b⟩ ⟨hs,hl,hla⟩
  dsimp only at hs hl hla
  dsimp only
  refine go 5 ⟨O,?_⟩
  refine tt (Kt (i:=3) (n:=(dg U a).length+1) (by_:=8) (enc:=Me) 0 J J J J Pt ti111 J pU.cells pU.pos J J J hw.h) fun v _=>go 17 ?_
  refine lp (G:=Nat×List Nat×Nat) [0,1,5,21] [0,91,92,1,2] (fun q=>[(22,.int .i64 (q.1:Int)),(6,.int .u64 (q.2.2:Int))]) (fun q=>[(3,Ns 1 111 Me v q.2.1)]) (fun q=>(q.1≤(dg U a).length)∧(q.2.1.length=(dg U a).length+1)∧(∀d∈q.2.1,d<U)∧(q.2.2≤1)∧(Yc U (q.2.1.take q.1)+q.2.2*U^q.1=Yc U ((dg U a).take q.1)+Yc U ((dg U b).take q.1))) (fun q=>(dg U a).length-q.1) (0,List.replicate ((dg U a).length+1) 0,0) ⟨O1,O5,Nc _ Xo,O1,by simp [Yc]⟩ K2 K1 ?_
  rintro⟨k,o,c⟩ ⟨hk,hol,hoa,hc,hv⟩
  dsimp only at hk hol hoa hc hv
  dsimp only
  refine go 6 ?_
  refine Zc J (fun h78=>?_) (fun h78=>?_)
  ·refine go 15 ?_
   refine jn (G:=Unit) [0,1,5,6,7,21,22] [0,3,91,92,1,2] (fun _=>[(8,.int .u64 ((dg U b).getD k 0:Int))]) (fun _=>[]) (fun _=>True) ?_ ?_
   ·refine go 8 ?_
    refine Zc J (fun h80=>?_) (fun h80=>?_)
    ·refine go 7 ⟨O2,O2,?_⟩
     try (have hz:(dg U b).getD k 0=0:=by simp [List.getD,List.getElem?_eq_none (by omega:(dg U b).length≤k)])
     exact Pw () trivial ⟨by first | rfl | (rw [hz];rfl),trivial⟩ trivial
    ·refine go 1 ?_
     try (have hz:(dg U b).getD k 0=0:=by simp [List.getD,List.getElem?_eq_none (by omega:(dg U b).length≤k)])
     exact Pw () trivial ⟨by first | rfl | (rw [hz];rfl),trivial⟩ trivial
   ·rintro _ -
    refine go 9 ⟨O2,O2,?_⟩
    refine dt (Zot J J J J O Zgy)<|go 4 ⟨O2,?_⟩
    refine tt (Lz (i:=3) (enc:=Me) _ J J J J J J pU J hw.h O3 O2) fun _ _=>go 8 ⟨O,?_⟩
    exact Yq (k+1,_,_) ⟨O1,O9,Mx hoa _ _ (Nat.mod_lt _ Xo),by have h1:=Xi Xo (Nn Xj a) k;have h2:=Xi Xo (Nn Xj b) k;simp only [U]at *;omega,Yfu hv O⟩ O1 K2 K1
  ·refine go 6 ?_
   obtain rfl:k=(dg U a).length:=O
   refine go 6 ⟨O2,?_⟩
   refine tt (Lz (i:=3) (enc:=Me) _ J J J J J J pU J hw.h O3 O2) fun _ _=>go 5 ?_
   refine cl 3 [3] (Oa _ _) fun _ _=>?_
   refine Xr (Zbb 3 J J pU)<|go 4 ?_
   have hx:tz (o.set (dg U a).length c)=dg U (x+y):=by
    rw [←Kd Xj _ (Mx hoa _ _ (by simp only [U];omega)),←hs]
    congr 1
    conv=>rhs;rw [←Mc Xj a,←Mc Xj b]
    rw [List.take_of_length_le (Nat.le_refl (dg U a).length),Nx U (dg U b) _ hl]at hv
    rw [←hv,←Dd U o _ c O,Nx _ _ _ O9]
   exact Xa hsc _ results189 J trivial (gow 3 Za hx)
theorem Zfd(v w:Value)(x y:Nat)(hx:bl x≤4294967296)(hxy:y≤x:=by omega):Cal prog 191 #[v,w] [Fb v x,Fb w y] false (G:=Value) (fun r=>True) (fun r=>r) (fun r=>[Fb r (x-y)]):=by
 refine Zh func191 ntmps191 fun w0 sc hw hsc=>?_
 have hX:=Ma x
 have hY:=Ma y
 have hm:=Od hxy
 refine go 9 ?_
 refine tt (Kt (i:=3) (n:=(dg U x).length) (by_:=8) (enc:=Me) 0 J J J J Pt ti111 J pU.cells pU.pos J J J hw.h) fun v _=>go 17 ?_
 refine lp (G:=Nat×List Nat×Nat) [0,1,5,13] [0,1,2] (fun q=>[(14,.int .i64 (q.1:Int)),(6,.int .u64 (q.2.2:Int))]) (fun q=>[(3,Ns 1 111 Me v q.2.1)]) (fun q=>(q.1≤(dg U x).length)∧(q.2.1.length=(dg U x).length)∧(∀d∈q.2.1,d<U)∧(q.2.2≤1)∧(Yc U (q.2.1.take q.1)+Yc U ((dg U y).take q.1)=Yc U ((dg U x).take q.1)+q.2.2*U^q.1)) (fun q=>(dg U x).length-q.1) (0,List.replicate ((dg U x).length) 0,0) ⟨O1,O5,Nc _ Xo,O1,by simp [Yc]⟩ K2 K1 ?_
 rintro⟨k,o,c⟩ ⟨hk,hol,hoa,hc,hv⟩
 dsimp only at hk hol hoa hc hv
 dsimp only
 refine go 6 ?_
 refine Zc J (fun h93=>?_) (fun h93=>?_)
 ·refine go 15 ?_
  refine jn (G:=Unit) [0,1,5,6,7,13,14] [0,3,1,2] (fun _=>[(8,.int .u64 ((dg U y).getD k 0:Int))]) (fun _=>[]) (fun _=>True) ?_ ?_
  ·refine go 8 ?_
   refine Zc J (fun h95=>?_) (fun h95=>?_)
   ·refine go 7 ⟨O2,O2,?_⟩
    try (have hz:(dg U y).getD k 0=0:=by simp [List.getD,List.getElem?_eq_none (by omega:(dg U y).length≤k)])
    exact Pw () trivial ⟨by first | rfl | (rw [hz];rfl),trivial⟩ trivial
   ·refine go 1 ?_
    try (have hz:(dg U y).getD k 0=0:=by simp [List.getD,List.getElem?_eq_none (by omega:(dg U y).length≤k)])
    exact Pw () trivial ⟨by first | rfl | (rw [hz];rfl),trivial⟩ trivial
  ·rintro _ -
   refine go 9 ⟨O2,O2,?_⟩
   refine dt (Yip J J J J O Zyn)<|go 4 ⟨O2,?_⟩
   refine tt (Lz (i:=3) (enc:=Me) _ J J J J J J pU J hw.h O3 O2) fun _ _=>go 8 ⟨O,?_⟩
   exact Yq (k+1,_,_) ⟨O1,O9,Mx hoa _ _ (Nat.mod_lt _ Xo),Yfh _ _ _,Ya6 hc (Xi Xo (Nn Xj x) k) (Xi Xo (Nn Xj y) k) hv O⟩ O1 K2 K1
 ·refine go 8 ?_
  refine cl 3 [3] (Oa _ _) fun _ _=>?_
  refine Xr (Zbb 3 J J pU)<|go 4 ?_
  obtain rfl:k=(dg U x).length:=O
  have hx:tz o=dg U (x-y):=by
   rw [←Kd Xj _ hoa]
   congr 1
   have hly:(dg U y).length≤(dg U x).length:=O
   rw [Nx U o _ O,Nx U (dg U y) _ hly,Nx U (dg U x) _ (Nat.le_refl _),Mc Xj,Mc Xj]at hv
   have h1:=Zf7 Xo o hoa
   rw [hol]at h1
   have h0:c=0∨c=1:=O
   rcases h0 with rfl | rfl<;>omega
  exact Xa hsc _ results191 J trivial (gow 3 Za hx)
theorem Zbu(v w:Value)(x y:Nat)(hx:bl x≤4294967296)(hy:bl y≤4294967296):Cal prog 190 #[v,w] [Fb v x,Fb w y] false (G:=Int) (fun r=>(r<0↔x<y)∧(0<r↔y<x)) (fun r=> .int .i64 r) (fun r=>[]):=by
 refine Zh func190 ntmps190 fun w0 sc hw hsc=>?_
 have hX:=Ma x
 have hY:=Ma y
 refine go 15 ?_
 refine Zc J (fun h57=>?_) (fun h57=>?_)
 ·refine go 12 ⟨O,?_⟩
  exact Xa hsc _ results190 J ⟨⟨fun h=>Ap Xj O,fun h=>by have:=Od (Nat.le_of_lt h);omega⟩,⟨fun h=>Ap Xj O,fun h=>by have:=Od (Nat.le_of_lt h);omega⟩⟩ Za
 ·have hlen:(dg U x).length=(dg U y).length:=O
  refine go 12 ⟨O,?_⟩
  refine lp (G:=Nat) [0,1] [0,1,2] (fun k=>[(5,.int .i64 ((k:Int)-1))]) (fun k=>[]) (fun k=>(k≤(dg U x).length)∧((dg U x).drop k=(dg U y).drop k)) (fun k=>k) (dg U x).length ⟨O1,by rw [List.drop_length,hlen,List.drop_length]⟩ K1 trivial ?_
  rintro k ⟨hk,hd⟩
  refine go 7 ?_
  refine Zc J (fun h60=>?_) (fun h60=>?_)
  ·refine go 6 ?_
   refine Xx (fun _=>False) [(0,0),(1,0),(2,0),(3,0),(4,0),(5,0),(6,0),(7,0),(8,0),(9,0)]<|go 2 ?_
   refine Qo J J (Qq (Zy (ii:=1) (i:=k-1) J J J J Zn Pt Lo))<|go 3 ⟨O2,?_⟩
   refine Qo J J (Qq (Zy (ii:=2) (i:=k-1) J J J J Zn Pt Lo))<|go 5 ⟨O2,?_⟩
   refine Zc J (fun h62=>?_) (fun h62=>?_)
   ·refine go 12 ?_
    have hlt:=Zox Xo (xs:=dg U x) (ys:=dg U y) (Nn Xj x) (k:=k-1) O O (by rw [show k-1+1=k by omega];exact hd) O
    rw [Mc Xj,Mc Xj]at hlt
    exact Xa hsc (-1) results190 J O Za
   ·refine go 1 ?_
    refine Xx (fun _=>False) [(0,0),(1,0),(2,0),(3,0),(4,0),(5,0),(6,0),(7,0),(8,0),(9,0)]<|go 2 ?_
    refine Qo J J (Qq (Zy (ii:=1) (i:=k-1) J J J J Zn Pt Lo))<|go 3 ⟨O2,?_⟩
    refine Qo J J (Qq (Zy (ii:=2) (i:=k-1) J J J J Zn Pt Lo))<|go 5 ⟨O2,?_⟩
    refine Zc J (fun h64=>?_) (fun h64=>?_)
    ·refine go 12 ?_
     have hlt:=Zox Xo (xs:=dg U y) (ys:=dg U x) (Nn Xj y) (k:=k-1) O O (by rw [show k-1+1=k by omega];exact hd.symm) O
     rw [Mc Xj,Mc Xj]at hlt
     exact Xa hsc 1 results190 J O Za
    ·refine go 9 ⟨O,?_⟩
     exact Yq (k-1) ⟨O1,by have:=Zfr (xs:=dg U x) (ys:=dg U y) (k:=k-1) O O (by rw [show k-1+1=k by omega];exact hd) O;exact this⟩ O1 ⟨by rw [show(((k-1:Nat):Int)-1)=(k:Int)-1-1 by omega];rfl,trivial⟩ trivial
  ·refine go 11 ?_
   obtain rfl:k=0:=O
   have heq:x=y:=(Zgt Xj).1 (by simpa using hd)
   exact Xa hsc 0 results190 J O Za
theorem Yfp(x y:Nat)(hx:x<U)(hy:y<U):Ok prog 144 #[.int .u64 (x:Int),.int .u64 (y:Int)] [] (.tuple #[.int .u64 ((x*y/U:Nat):Int),.int .u64 ((x*y%U:Nat):Int)]):=by
 refine Zh func144 ntmps144 fun w0 sc hw hsc=>?_
 simp only [U]at hx hy
 refine go 9 ?_
 refine dt (Zpr J J J hx)<|go 6 ?_
 refine dt (Hm (n:=32) (n':=4294967296) J J J J J)<|go 6 ?_
 refine dt (Zpr J J J hy)<|go 6 ?_
 refine dt (Hm (n:=32) (n':=4294967296) J J J J J)<|go 7 ?_
 refine dt (Ew J J J)<|go 7 ?_
 refine dt (Ew J J J)<|go 1 ?_
 refine dt (Hm (n:=32) (n':=4294967296) J J J J J)<|dt (Cd J J J)<|go 6 ?_
 refine dt (Zpr J J J (Nat.mod_lt _ Xo))<|go 6 ?_
 refine dt (Hm (n:=32) (n':=4294967296) J J J J J)<|go 8 ?_
 refine dt (Ew J J J)<|dt (Cd J J J)<|go 7 ?_
 refine dt (Ew J J J)<|go 1 ?_
 refine dt (Cd J J J)<|go 1 ?_
 refine dt (Hm (n:=32) (n':=4294967296) J J J J J)<|dt (Cd J J J)<|go 7 ?_
 refine dt (Ew J J J)<|go 4 ?_
 exact Mi hsc () results144 (by rw [Ydn hx hy _ _ rfl rfl]) trivial Za
theorem Zwc(v w:Value)(x y:Nat)(hx:bl x≤4294967296)(hy:bl y≤4294967296):Cal prog 215 #[v,w] [Fb v x,Fb w y] false (G:=Value) (fun r=>True) (fun r=>r) (fun r=>[Fb r (x*y)]):=by
 refine Zh func215 ntmps215 fun w0 sc hw hsc=>?_
 have hX:=Ma x
 have hY:=Ma y
 refine go 12 ⟨O,?_⟩
 refine tt (Kt (i:=3) (n:=(dg U x).length+(dg U y).length) (by_:=8) (enc:=Me) 0 J J J J Pt ti111 J pU.cells pU.pos J J J hw.h) fun v _=>go 12 ?_
 refine lp (G:=Nat×List Nat) [1,5,20,21] [0,1,2] (fun q=>[(22,.int .i64 (q.1:Int))]) (fun q=>[(3,Ns 1 111 Me v q.2)]) (fun q=>(q.1≤(dg U x).length)∧(q.2.length=(dg U x).length+(dg U y).length)∧(∀d∈q.2,d<U)∧(∀j,q.1+(dg U y).length≤j→q.2.getD j 0=0)∧(Yc U (q.2.take (q.1+(dg U y).length))=Yc U ((dg U x).take q.1)*y)) (fun q=>(dg U x).length-q.1) (0,List.replicate ((dg U x).length+(dg U y).length) 0) ⟨O1,O5,Nc _ Xo,fun j _=>Kb _ j,by simp [Yc,List.take_replicate,Ha]⟩ K1 K1 ?_
 rintro⟨i,o⟩ ⟨hi,hol,hoa,hz,hv⟩
 dsimp only at hi hol hoa hz hv
 dsimp only
 refine go 6 ?_
 refine Zc J (fun h106=>?_) (fun h106=>?_)
 ·refine go 27 ⟨O2,O2,?_⟩
  refine lp (G:=Nat×List Nat×Nat) [1,5,6,7,20,21,22,27,28] [0,1,2] (fun q=>[(29,.int .i64 (q.1:Int)),(8,.int .u64 (q.2.2:Int))]) (fun q=>[(3,Ns 1 111 Me v q.2.1)]) (fun q=>(q.1≤(dg U y).length)∧(q.2.1.length=(dg U x).length+(dg U y).length)∧(∀d∈q.2.1,d<U)∧(∀j,i+(dg U y).length≤j→q.2.1.getD j 0=0)∧(q.2.2<U)∧(Yc U (q.2.1.take (i+(dg U y).length))+q.2.2*U^(i+q.1)=Yc U ((dg U x).take i)*y+(dg U x).getD i 0*U^i*Yc U ((dg U y).take q.1))) (fun q=>(dg U y).length-q.1) (0,o,0) ⟨O1,hol,hoa,hz,Xo,by rw [hv];simp [Yc]⟩ K2 K1 ?_
  rintro⟨k,p,c⟩ ⟨hk,hpl,hpa,hpz,hcU,hpv⟩
  dsimp only at hk hpl hpa hpz hcU hpv
  dsimp only
  have hdig:=Zzl (Xi Xo (Nn Xj x) i) (Xi Xo (Nn Xj y) k) (Xi Xo hpa (i+k)) hcU
  refine go 6 ?_
  refine Zc J (fun h108=>?_) (fun h108=>?_)
  ·refine go 17 ⟨O2,O2,?_⟩
   refine cl 3 [] (Yfp _ _ (Xi Xo (Nn Xj _) _) (Xi Xo (Nn Xj _) _)) fun _ _=>go 14 ⟨O,?_⟩
   refine dt (Zy (ii:=3) (i:=i+k) J J J J (Yw pU) Pt Lo)<|go 1 ⟨O2,?_⟩
   refine dt (Zot (c:=0) J J J J O Zgy)<|go 11 ?_
   refine dt (Cd J J J)<|go 7 ?_
   refine dt (Zot (c:=0) J J J J O Zgy)<|go 15 ⟨O,?_⟩
   refine dt (Cd J J J)<|dt (Zy (ii:=3) (i:=i+k) J J J J (Yw pU) Pt Lo)<|tt (Lz (i:=3) (enc:=Me) _ J J J J J J pU J hw.h O3 O2) fun _ _=>go 8 ⟨O,?_⟩
   exact Yq (k+1,_,_) ⟨O1,O9,Mx hpa _ _ (Nat.mod_lt _ Xo),fun j hj=>by rw [Ov _ _ _ _ _ O,if_neg O];exact hpz j hj,hdig.2,Ydm hpv O O hdig.1⟩ O1 K2 K1
  ·refine go 5 ?_
   obtain rfl:k=(dg U y).length:=O
   have hfin:=hpv
   rw [List.take_of_length_le (Nat.le_refl (dg U y).length),Mc Xj]at hfin
   refine go 7 ⟨O,?_⟩
   refine dt (Zy (ii:=3) (i:=i+(dg U y).length) J J J J (Yw pU) Pt Lo)<|tt (Lz (i:=3) (enc:=Me) _ J J J J J J pU J hw.h O3 O2) fun _ _=>go 7 ⟨O,?_⟩
   exact Yq (i+1,_) ⟨O1,O9,Mx hpa _ _ hcU,fun j hj=>by rw [Ov _ _ _ _ _ O,if_neg O];exact hpz j O,by dsimp only;rw [show i+1+(dg U y).length=i+(dg U y).length+1 by omega,Dd _ _ _ _ O,Qf,Nat.add_mul,←hfin]⟩ O1 K1 K1
 ·refine go 8 ?_
  refine cl 3 [3] (Oa _ _) fun _ _=>?_
  refine Xr (Zbb 3 J J pU)<|go 4 ?_
  obtain rfl:i=(dg U x).length:=O
  have hx:tz o=dg U (x*y):=by
   rw [←Kd Xj _ hoa]
   congr 1
   rw [Nx U o _ O,List.take_of_length_le (Nat.le_refl _),Mc Xj]at hv
   exact hv
  exact Xa hsc _ results215 J trivial (gow 3 Za hx)
set_option maxHeartbeats 1000000 in
theorem Yfq(x:Nat)(hx:x<U):Ok prog 214 #[.int .u64 (x:Int)] [] (.int .i64 (bl x:Int)):=by
 refine Zh func214 ntmps214 fun w0 sc hw hsc=>?_
 simp only [U]at hx
 have e32:=Ik x 32
 have e16:=Ik x 16
 have e8:=Ik x 8
 have e24:=Ik x 24
 have e40:=Ik x 40
 have e48:=Ik x 48
 have e56:=Ik x 56
 have f32:=Zba 32 x
 have f16:=Zba 16 x
 have f8:=Zba 8 x
 have f24:=Zba 24 x
 have f40:=Zba 40 x
 have f48:=Zba 48 x
 have f56:=Zba 56 x
 have d1:=Nat.div_div_eq_div_mul x (2^32) (2^16)
 have d2:=Nat.div_div_eq_div_mul x (2^32) (2^8)
 have d3:=Nat.div_div_eq_div_mul x (2^16) (2^8)
 have d4:=Nat.div_div_eq_div_mul (x/2^32) (2^16) (2^8)
 have d5:=Nat.div_div_eq_div_mul x (2^32) (2^16*2^8)
 simp only [Nat.reducePow,Nat.reduceMul]at *
 refine go 12 ?_
 refine Zc J (fun h338=>?_) (fun h338=>?_)
 ·refine go 3 ?_
  refine dt (Hm (n:=32) (n':=4294967296) J J J J J)<|go 14 ?_
  refine Zc J (fun h342=>?_) (fun h342=>?_)
  ·refine go 3 ?_
   refine dt (Hm (n:=16) (n':=65536) J J J J J)<|go 16 ⟨O,?_⟩
   refine Zc J (fun h346=>?_) (fun h346=>?_)
   ·refine go 3 ?_
    refine dt (Hm (n:=8) (n':=256) J J J J J)<|go 13 ⟨O,?_⟩
    refine dt (Zds J J Zbf uT5)<|dt (Zhm J J J uT9 J O O3 O8)<|dt (Za3 J J uT5 uT3 (Bg _))<|go 5 ⟨Eo _ O O,?_⟩
    exact Xa hsc () results214 (Bf (n:=x) O (by first | omega | (simp only [Nat.div_div_eq_div_mul,Nat.reduceMul,e32,e16,e8,e24,e40,e48,e56];omega))).symm trivial Za
   ·refine go 6 ?_
    refine dt (Zds J J Zbf uT5)<|dt (Zhm J J J uT9 J O O3 O8)<|dt (Za3 J J uT5 uT3 (Bg _))<|go 5 ⟨Eo _ O O,?_⟩
    exact Xa hsc () results214 (Bf (n:=x) O (by first | omega | (simp only [Nat.div_div_eq_div_mul,Nat.reduceMul,e32,e16,e8,e24,e40,e48,e56];omega))).symm trivial Za
  ·refine go 9 ?_
   refine Zc J (fun h346_2=>?_) (fun h346_2=>?_)
   ·refine go 3 ?_
    refine dt (Hm (n:=8) (n':=256) J J J J J)<|go 13 ⟨O,?_⟩
    refine dt (Zds J J Zbf uT5)<|dt (Zhm J J J uT9 J O O3 O8)<|dt (Za3 J J uT5 uT3 (Bg _))<|go 5 ⟨Eo _ O O,?_⟩
    exact Xa hsc () results214 (Bf (n:=x) O (by first | omega | (simp only [Nat.div_div_eq_div_mul,Nat.reduceMul,e32,e16,e8,e24,e40,e48,e56];omega))).symm trivial Za
   ·refine go 6 ?_
    refine dt (Zds J J Zbf uT5)<|dt (Zhm J J J uT9 J O O3 O8)<|dt (Za3 J J uT5 uT3 (Bg _))<|go 5 ⟨Eo _ O O,?_⟩
    exact Xa hsc () results214 (Bf (n:=x) O (by first | omega | (simp only [Nat.div_div_eq_div_mul,Nat.reduceMul,e32,e16,e8,e24,e40,e48,e56];omega))).symm trivial Za
 ·refine go 9 ?_
  refine Zc J (fun h342_2=>?_) (fun h342_2=>?_)
  ·refine go 3 ?_
   refine dt (Hm (n:=16) (n':=65536) J J J J J)<|go 16 ⟨O,?_⟩
   refine Zc J (fun h346_3=>?_) (fun h346_3=>?_)
   ·refine go 3 ?_
    refine dt (Hm (n:=8) (n':=256) J J J J J)<|go 13 ⟨O,?_⟩
    refine dt (Zds J J Zbf uT5)<|dt (Zhm J J J uT9 J O O3 O8)<|dt (Za3 J J uT5 uT3 (Bg _))<|go 5 ⟨Eo _ O O,?_⟩
    exact Xa hsc () results214 (Bf (n:=x) O (by first | omega | (simp only [Nat.div_div_eq_div_mul,Nat.reduceMul,e32,e16,e8,e24,e40,e48,e56];omega))).symm trivial Za
   ·refine go 6 ?_
    refine dt (Zds J J Zbf uT5)<|dt (Zhm J J J uT9 J O O3 O8)<|dt (Za3 J J uT5 uT3 (Bg _))<|go 5 ⟨Eo _ O O,?_⟩
    exact Xa hsc () results214 (Bf (n:=x) O (by first | omega | (simp only [Nat.div_div_eq_div_mul,Nat.reduceMul,e32,e16,e8,e24,e40,e48,e56];omega))).symm trivial Za
  ·refine go 9 ?_
   refine Zc J (fun h346_4=>?_) (fun h346_4=>?_)
   ·refine go 3 ?_
    refine dt (Hm (n:=8) (n':=256) J J J J J)<|go 13 ⟨O,?_⟩
    refine dt (Zds J J Zbf uT5)<|dt (Zhm J J J uT9 J O O3 O8)<|dt (Za3 J J uT5 uT3 (Bg _))<|go 5 ⟨Eo _ O O,?_⟩
    exact Xa hsc () results214 (Bf (n:=x) O (by first | omega | (simp only [Nat.div_div_eq_div_mul,Nat.reduceMul,e32,e16,e8,e24,e40,e48,e56];omega))).symm trivial Za
   ·refine go 6 ?_
    refine dt (Zds J J Zbf uT5)<|dt (Zhm J J J uT9 J O O3 O8)<|dt (Za3 J J uT5 uT3 (Bg _))<|go 5 ⟨Eo _ O O,?_⟩
    exact Xa hsc () results214 (Bf (n:=x) O (by first | omega | (simp only [Nat.div_div_eq_div_mul,Nat.reduceMul,e32,e16,e8,e24,e40,e48,e56];omega))).symm trivial Za
theorem Zpe(x:Nat)(hx:x<U):Ok prog 187 #[.int .u64 (x:Int)] [] (.int .i64 ((64-bl x:Nat):Int)):=by
 refine Zh func187 ntmps187 fun w0 sc hw hsc=>?_
 have hb:bl x≤64:=(Xn 64 x).2 hx
 refine go 8 ?_
 refine cl 0 [] (Yfq _ hx) fun _ _=>go 5 ⟨O,?_⟩
 exact Xa hsc () results187 (by congr 1;omega) trivial Za
theorem Zjt(v:Value)(x:Nat)(hx:bl x≤1099511627776:=by omega):Ok prog 151 #[v] [Fb v x] (.int .i64 (bl x:Int)):=by
 refine Zh func151 ntmps151 fun w0 sc hw hsc=>?_
 have hX:=Ma x
 refine go 13 ?_
 refine Zc J (fun h39=>?_) (fun h39=>?_)
 ·refine go 7 ?_
  have h0:x=0:=(Pv Xj x).1 O
  exact Xa hsc () results151 (by rw [h0];rfl) trivial Za
 ·have hp:0<x:=by rcases Nat.eq_zero_or_pos x with rfl | h;(simp [Iu]at h39);exact h
  obtain⟨z1,z2,z3,z4⟩:=Zu9 hp
  refine go 11 ⟨O,O,?_⟩
  refine dt (Zy (ii:=1) (i:=(dg U x).length-1) J J J J Zn Pt Lo)<|go 1 ⟨O2,?_⟩
  refine cl 1 [] (Zpe _ (Xi Xo (Nn Xj _) _)) fun _ _=>go 5 ⟨O,?_⟩
  exact Xa hsc () results151 (by congr 1;omega) trivial Za
theorem Yad(v:Value)(xs:List Nat)(hx:xs.length*8≤140737488355328):Yjn prog 237 #[v] [Xc 1 Me v xs] (G:=Value) (fun r=>True) (fun r=>r) (fun r=>Ns 1 111 Me r xs):=by
 refine Zx3 func237 J ntmps237 J K1 ?_
 intro w0 sc hw hsc;have hw:=Hw.mk hw
 simp only [Ox,Ob]
 refine Oc (f_nil (i:=1) J Zn) fun hnil=>go 9 ?_
 refine dt (Zxi J J J (i:=1) J Zn Pt)<|go 2 ?_
 refine Oy J (fun h357=>?_) (fun h357=>?_)
 ·refine go 7 ?_
  obtain rfl:xs=[]:=hnil (by simpa using h357)
  exact Zw (Px 9 1 111 Me)<|Zmw (.inl J) (.slice none 0 0) _ (fun a w hs=>Zgh hs results237 J) J trivial J 9 J J J
 ·refine go 4 ?_
  refine tt (t_bs0 (i:=2) (enc:=Me) J J J Pt pU J hw.h) fun v _=>go 1 ?_
  refine tt (Lk (i:=2) (j:=1) (by_:=8) J J J J J J O3 J Zn Pt ti111 J pU J J J O9 O3 J hw.h) fun v_2 _=>go 4 ?_
  exact Zmw (.inl J) _ _ (fun a w hs=>Zgh hs results237 J) J trivial J 2 J (by rfl) J
set_option maxHeartbeats 1600000 in
theorem Zsb(h l y:Nat)(hl:l<U)(hy:y<U)(hh:h<y):Ok prog 220 #[.int .u64 (h:Int),.int .u64 (l:Int),.int .u64 (y:Int)] [] (.tuple #[.int .u64 (((h*U+l)/y:Nat):Int),.int .u64 (((h*U+l)%y:Nat):Int)]):=by
 refine Zh func220 ntmps220 fun w0 sc hw hsc=>?_
 have hUe:U=18446744073709551616:=rfl
 have hp:0<y:=O
 have hbl:bl y≤64:=(Xn 64 y).2 hy
 obtain⟨s,hs⟩:∃s,s=64-bl y:=⟨_,rfl⟩
 obtain⟨Y,hYe⟩:∃Y,Y=y*2^s:=⟨_,rfl⟩
 obtain⟨hY1,hY2⟩:=Ydf hp hy hs
 rw [←hYe]at hY1 hY2
 have hYU:=hY2
 obtain⟨D,hD⟩:∃D,D=(h*U+l)*2^s:=⟨_,rfl⟩
 obtain⟨u,hue⟩:∃u,u=D/U:=⟨_,rfl⟩
 obtain⟨v,hve⟩:∃v,v=D%U:=⟨_,rfl⟩
 obtain⟨v1,hv1e⟩:∃x,x=v/4294967296:=⟨_,rfl⟩
 obtain⟨v0,hv0e⟩:∃x,x=v%4294967296:=⟨_,rfl⟩
 obtain⟨y1,hy1e⟩:∃x,x=Y/4294967296:=⟨_,rfl⟩
 obtain⟨y0,hy0e⟩:∃x,x=Y%4294967296:=⟨_,rfl⟩
 have hYs:Y=y1*4294967296+y0:=O
 have hhs:=shl_lt hh (show y*2^s<U by rw [←hYe];exact hY2)
 have huY:u<Y:=by rw [hue,hD,hYe];exact top_lt hl hh
 have hu:u<y1*4294967296+y0:=O
 have hvU:v<U:=by rw [hve];exact Nat.mod_lt _ Xo
 have hy1:2147483648≤y1:=O
 have hy1l:y1<4294967296:=O
 have hy0:y0<4294967296:=O
 have hv1:v1<4294967296:=O
 have hv0:v0<4294967296:=O
 obtain⟨Q1,hQ1⟩:∃x,x=(u*4294967296+v1)/Y:=⟨_,rfl⟩
 obtain⟨t,hte⟩:∃x,x=(u*4294967296+v1)%Y:=⟨_,rfl⟩
 have htY:t<Y:=by rw [hte];exact Nat.mod_lt _ O
 have ht:t<y1*4294967296+y0:=O
 obtain⟨Q0,hQ0⟩:∃x,x=(t*4294967296+v0)/Y:=⟨_,rfl⟩
 have hY0:0<Y:=O
 obtain⟨hd1,hd2⟩:=dv_two (D:=D) hY0 hue hve hv1e hv0e
 rw [←hQ1,←hte,←hQ0]at hd1
 rw [←hte]at hd2
 have hQ0l:Q0<4294967296:=by rw [hQ0,hYs];exact dv_Q hv0 ht
 have hQ1l:Q1<4294967296:=by rw [hQ1,hYs];exact dv_Q hv1 hu
 refine go 13 ?_
 refine Zc J (fun h519=>?_) (fun h519=>?_)
 ·exfalso;omega
 ·refine go 10 ?_
  refine Zc J (fun h522=>?_) (fun h522=>?_)
  ·exfalso;omega
  ·refine go 9 ?_
   refine Zc J (fun h527=>?_) (fun h527=>?_)
   ·refine go 1 ?_
    refine Xx (fun _=>False) [(0,0),(1,0),(2,0),(3,0),(4,0),(5,0),(6,0),(7,3)]<|go 2 ?_
    refine Qo J J (Qq (Yat J J J))<|go 2 ?_
    refine Qo J J (Qq (u_rem J J J O))<|go 6 ?_
    exact Mi hsc () results220 (by have h0:h=0:=O;rw [h0];simp) trivial Za
   ·refine go 5 ?_
    refine cl 0 [] (Zpe _ hy) fun _ _=>?_
    refine dt (Zud J J uT3 underlying155 (by simp only [U];omega))<|go 4 ?_
    refine Zg (Mz 8 (v':= .int .u64 (s:Int)) J (by rw [hs]))<|go 3 ?_
    refine dt (Zlk J J J J)<|go 4 ?_
    refine Zg (Mz 2 (v':= .int .u64 (Y:Int)) J (by rw [hYe,Nat.mod_eq_of_lt (by rw [←hYe];exact hYU)]))<|go 2 ?_
    refine dt (Hm (n:=32) (n':=4294967296) J J J J J)<|go 6 ?_
    refine dt (Zpr J J J)<|go 7 ?_
    refine dt (Zlk J J J J)<|go 2 ?_
    refine dt (Zdf J J J (by first | exact Nat.mod_lt _ Xo | omega))<|dt (Zlj J J (n:=64-s) J (by simp only [U];omega))<|dt (Ygb J J J (Nat.mod_lt _ Xo) (Nat.lt_of_le_of_lt (Nat.div_le_self _ _) hl))<|go 4 ?_
    refine Zg (Mz 11 (v':= .int .u64 (u:Int)) J (by rw [hue,hD,Yc5 O hhs hl]))<|go 3 ?_
    refine dt (Zlk J J J J)<|go 4 ?_
    refine Zg (Mz 12 (v':= .int .u64 (v:Int)) J (by rw [hve,hD,Zzn h l s]))<|go 2 ?_
    refine dt (Hm (n:=32) (n':=4294967296) J J J J J)<|go 4 ?_
    refine Zg (Mz 13 (v':= .int .u64 (v1:Int)) J (by rw [hv1e]))<|go 2 ?_
    refine dt (Zpr J J J)<|go 4 ?_
    refine Zg (Mz 14 (v':= .int .u64 (v0:Int)) J (by rw [Zsg,hv0e]))<|Zg (Mz 9 (v':= .int .u64 (y1:Int)) J (by rw [hy1e]))<|Zg (Mz 10 (v':= .int .u64 (y0:Int)) J (by rw [Zsg,hy0e]))<|go 3 ?_
    refine dt (Yat J J J)<|go 8 ?_
    refine dt (Ew J J J)<|dt (Zdf J J J (by first | exact Nat.mod_lt _ Xo | omega))<|go 3 ?_
    refine jn (G:=Unit) [2,8,9,10,11,13,14] [0] (fun _=>[(15,.int .u64 ((Q1:Nat):Int))]) (fun _=>[]) (fun _=>True) ?_ ?_
    ·refine go 1 ?_
     refine Zg (Mz 16 (v':= .int .u64 ((u%y1:Nat):Int)) J (by rw [rsub O O]))<|lp (G:=Nat×Nat) [2,8,9,10,11,13,14] [0] (fun q=>[(15,.int .u64 (q.1:Int)),(16,.int .u64 (q.2:Int))]) (fun q=>[]) (fun q=>(dvI u v1 y1 y0 q.1 q.2)∧(q.2<4294967296)) (fun q=>q.1) (u/y1,u%y1) ⟨dv0 hy1 hy1l hy0 hv1 hu,Nat.lt_trans (Nat.mod_lt _ O) hy1l⟩ K2 trivial ?_
     rintro⟨a,r⟩ ⟨hI,hr⟩
     dsimp only at hI hr
     dsimp only
     have hI1:=hI.1
     have hI2:=hI.2.1
     refine go 6 ?_
     refine Ys (d:=69) J (fun s547=>?_) (fun s547=>?_)
     ·refine go 16 ?_
      have hst:=Zij O hI hv1 hu O
      have hst1:=hst.1
      refine go 2 ?_
      refine dt (Zdf (n:=1) J J J)<|go 4 ?_
      refine Zg (Mz 15 (v':= .int .u64 ((a-1:Nat):Int)) J (Zab (Zry hst1 O)))<|go 3 ?_
      refine dt (Cd J J J)<|go 4 ?_
      refine Zg (Mz 16 (v':= .int .u64 ((r+y1:Nat):Int)) J (Zab (Nat.mod_eq_of_lt O)))<|go 5 ?_
      refine Zc J (fun h550=>?_) (fun h550=>?_)
      ·refine go 4 ?_
       have hq:Q1=a-1:=by rw [hQ1,hYs];exact(Zfp O hy0 hst.2 O O).symm
       exact Pw () trivial ⟨by rw [hq];rfl,trivial⟩ trivial
      ·refine go 2 ?_
       exact Yq (a-1,r+y1) ⟨hst.2,O6⟩ O1 K2 trivial
     ·have hm1:=Zq3 (show a<4294967296 by omega) hy0
      have e1:=Nat.mod_eq_of_lt (show a*y0<U from hm1)
      have e2:=Nat.mod_eq_of_lt (show 4294967296*r<U by omega)
      have e3:=Nat.mod_eq_of_lt (show 4294967296*r+v1<U by omega)
      refine go 2 ?_
      refine Dc (Ew J J J) J J<|go 1 ?_
      refine Dc (Ew J J J) J J<|go 1 ?_
      refine Dc (Cd J J J) J J<|go 4 ?_
      refine Zc J (fun h547=>?_) (fun h547=>?_)
      ·rw [e1,e2,e3]at h547
       refine go 4 ?_
       have hst:=Zij O hI hv1 hu O
       have hst1:=hst.1
       refine go 2 ?_
       refine dt (Zdf (n:=1) J J J)<|go 4 ?_
       refine Zg (Mz 15 (v':= .int .u64 ((a-1:Nat):Int)) J (Zab (Zry hst1 O)))<|go 3 ?_
       refine dt (Cd J J J)<|go 4 ?_
       refine Zg (Mz 16 (v':= .int .u64 ((r+y1:Nat):Int)) J (Zab (Nat.mod_eq_of_lt O)))<|go 5 ?_
       refine Zc J (fun h550_2=>?_) (fun h550_2=>?_)
       ·refine go 4 ?_
        have hq:Q1=a-1:=by rw [hQ1,hYs];exact(Zfp O hy0 hst.2 O O).symm
        exact Pw () trivial ⟨by rw [hq];rfl,trivial⟩ trivial
       ·refine go 2 ?_
        exact Yq (a-1,r+y1) ⟨hst.2,O6⟩ O1 K2 trivial
      ·rw [e1,e2,e3]at h547
       refine go 4 ?_
       have hq:Q1=a:=by rw [hQ1,hYs];exact(Zos O hI O).symm
       exact Pw () trivial ⟨by rw [hq];rfl,trivial⟩ trivial
    ·rintro _ -
     refine go 3 ?_
     refine dt (Ew J J J)<|go 1 ?_
     refine dt (Cd J J J)<|go 2 ?_
     refine dt (Ew J J J)<|dt (Zdf J J J (by first | exact Nat.mod_lt _ Xo | omega))<|go 4 ?_
     refine Zg (Mz 17 (v':= .int .u64 (t:Int)) J (by rw [hte,hQ1,Zw8 hY0 hYU]))<|go 3 ?_
     refine dt (Yat J J J)<|go 8 ?_
     refine dt (Ew J J J)<|dt (Zdf J J J (by first | exact Nat.mod_lt _ Xo | omega))<|go 3 ?_
     refine jn (G:=Unit) [2,8,14,15,17] [0] (fun _=>[(18,.int .u64 ((Q0:Nat):Int))]) (fun _=>[]) (fun _=>True) ?_ ?_
     ·refine go 1 ?_
      refine Zg (Mz 16 (v':= .int .u64 ((t%y1:Nat):Int)) J (by rw [rsub O O]))<|lp (G:=Nat×Nat) [2,8,9,10,14,15,17] [0] (fun q=>[(18,.int .u64 (q.1:Int)),(16,.int .u64 (q.2:Int))]) (fun q=>[]) (fun q=>(dvI t v0 y1 y0 q.1 q.2)∧(q.2<4294967296)) (fun q=>q.1) (t/y1,t%y1) ⟨dv0 hy1 hy1l hy0 hv0 ht,Nat.lt_trans (Nat.mod_lt _ O) hy1l⟩ K2 trivial ?_
      rintro⟨a,r⟩ ⟨hI,hr⟩
      dsimp only at hI hr
      dsimp only
      have hI1:=hI.1
      have hI2:=hI.2.1
      refine go 6 ?_
      refine Ys (d:=104) J (fun s559=>?_) (fun s559=>?_)
      ·refine go 16 ?_
       have hst:=Zij O hI hv0 ht O
       have hst1:=hst.1
       refine go 2 ?_
       refine dt (Zdf (n:=1) J J J)<|go 4 ?_
       refine Zg (Mz 18 (v':= .int .u64 ((a-1:Nat):Int)) J (Zab (Zry hst1 O)))<|go 3 ?_
       refine dt (Cd J J J)<|go 4 ?_
       refine Zg (Mz 16 (v':= .int .u64 ((r+y1:Nat):Int)) J (Zab (Nat.mod_eq_of_lt O)))<|go 5 ?_
       refine Zc J (fun h562=>?_) (fun h562=>?_)
       ·refine go 4 ?_
        have hq:Q0=a-1:=by rw [hQ0,hYs];exact(Zfp O hy0 hst.2 O O).symm
        exact Pw () trivial ⟨by rw [hq];rfl,trivial⟩ trivial
       ·refine go 2 ?_
        exact Yq (a-1,r+y1) ⟨hst.2,O6⟩ O1 K2 trivial
      ·have hm1:=Zq3 (show a<4294967296 by omega) hy0
       have e1:=Nat.mod_eq_of_lt (show a*y0<U from hm1)
       have e2:=Nat.mod_eq_of_lt (show 4294967296*r<U by omega)
       have e3:=Nat.mod_eq_of_lt (show 4294967296*r+v0<U by omega)
       refine go 2 ?_
       refine Dc (Ew J J J) J J<|go 1 ?_
       refine Dc (Ew J J J) J J<|go 1 ?_
       refine Dc (Cd J J J) J J<|go 4 ?_
       refine Zc J (fun h559=>?_) (fun h559=>?_)
       ·rw [e1,e2,e3]at h559
        refine go 4 ?_
        have hst:=Zij O hI hv0 ht O
        have hst1:=hst.1
        refine go 2 ?_
        refine dt (Zdf (n:=1) J J J)<|go 4 ?_
        refine Zg (Mz 18 (v':= .int .u64 ((a-1:Nat):Int)) J (Zab (Zry hst1 O)))<|go 3 ?_
        refine dt (Cd J J J)<|go 4 ?_
        refine Zg (Mz 16 (v':= .int .u64 ((r+y1:Nat):Int)) J (Zab (Nat.mod_eq_of_lt O)))<|go 5 ?_
        refine Zc J (fun h562_2=>?_) (fun h562_2=>?_)
        ·refine go 4 ?_
         have hq:Q0=a-1:=by rw [hQ0,hYs];exact(Zfp O hy0 hst.2 O O).symm
         exact Pw () trivial ⟨by rw [hq];rfl,trivial⟩ trivial
        ·refine go 2 ?_
         exact Yq (a-1,r+y1) ⟨hst.2,O6⟩ O1 K2 trivial
       ·rw [e1,e2,e3]at h559
        refine go 4 ?_
        have hq:Q0=a:=by rw [hQ0,hYs];exact(Zos O hI O).symm
        exact Pw () trivial ⟨by rw [hq];rfl,trivial⟩ trivial
     ·rintro _ -
      refine go 3 ?_
      refine dt (Ew J J J)<|go 1 ?_
      refine dt (Cd J J J)<|go 1 ?_
      refine dt (Ew J J J)<|go 1 ?_
      refine dt (Cd J J J)<|go 2 ?_
      refine dt (Ew J J J)<|dt (Zdf J J J (by first | exact Nat.mod_lt _ Xo | omega))<|go 1 ?_
      refine dt (Zlj J J J J)<|go 5 ?_
      have hA:(Q1*4294967296%U+Q0)%U=(h*U+l)/y:=by rw [←Zlt _ y s,←hD,←hYe,hd1];simp only [U];omega
      have hB:((t*4294967296%U+v0)%U+(U-(Q0*Y)%U))%U/2^s=(h*U+l)%y:=by rw [←Zls _ y s,←hD,←hYe,hd2,hQ0,Zw8 hY0 hYU]
      exact Mi hsc () results220 (by rw [hA,hB]) trivial Za
theorem Zzk(v:Value)(x d:Nat)(hx:bl x≤8589934592)(hd:0<d)(hdU:d<U):Cal prog 218 #[v,.int .u64 (d:Int)] [Fb v x] false (G:=Value) (fun r=>True) (fun r=> .tuple #[r,.int .u64 ((x%d:Nat):Int)]) (fun r=>[Fb r (x/d)]):=by
 refine Zh func218 ntmps218 fun w0 sc hw hsc=>?_
 have hX:=Ma x
 refine go 10 ?_
 refine tt (Kt (i:=2) (n:=(dg U x).length) (by_:=8) (enc:=Me) 0 J J J J Pt ti111 J pU.cells pU.pos J J J hw.h) fun v _=>go 18 ⟨O,?_⟩
 refine lp (G:=Nat×List Nat×Nat) [0,1,6] [0,1] (fun q=>[(8,.int .i64 ((q.1:Int)-1)),(7,.int .u64 (q.2.2:Int))]) (fun q=>[(2,Ns 1 111 Me v q.2.1)]) (fun q=>(q.1≤(dg U x).length)∧(q.2.1.length=(dg U x).length)∧(q.2.2<d)∧(∀d∈q.2.1,d<U)∧(Yc U (q.2.1.drop q.1)*d+q.2.2=Yc U ((dg U x).drop q.1))) (fun q=>q.1) ((dg U x).length,List.replicate (dg U x).length 0,0) ⟨Nat.le_refl _,O5,O1,Nc _ Xo,by simp [Yc]⟩ K2 K1 ?_
 rintro⟨k,o,r⟩ ⟨hk,hol,hr,hall,hv⟩
 dsimp only at hk hol hr hall hv
 dsimp only
 refine go 7 ?_
 refine Zc J (fun h158=>?_) (fun h158=>?_)
 ·refine go 10 ?_
  refine dt (Zy (ii:=1) (i:=k-1) J J J J Zn Pt Lo)<|go 2 ⟨O2,?_⟩
  refine cl 2 [] (Zsb _ _ _ (Xi Xo (Nn Xj _) _) hdU hr) fun _ _=>go 3 ?_
  refine dt (Zy (ii:=2) (i:=k-1) J J J J (Yw pU) Pt Lo)<|tt (Lz (i:=2) (enc:=Me) _ J J J J J J pU J hw.h O3 O2) fun _ _=>go 9 ⟨O,?_⟩
  exact Yq (k-1,_,_) ⟨O1,O9,Nat.mod_lt _ hd,Mx hall _ _ (Zro (Xi Xo (Nn Xj x) _) hr),Zsy hd O O (by rw [show k-1+1=k by omega];exact hv)⟩ O1 ⟨by rw [show(((k-1:Nat):Int)-1)=(k:Int)-1-1 by omega];rfl,rfl,trivial⟩ K1
 ·refine go 8 ?_
  refine cl 2 [2] (Oa _ _) fun _ _=>?_
  refine Xr (Zbb 2 J J pU)<|go 6 ?_
  obtain rfl:k=0:=O
  rw [List.drop_zero,List.drop_zero,Mc Xj]at hv
  have hq:tz o=dg U (x/d):=by
   rw [←Kd Xj _ hall,←hv,Nat.mul_comm,Nat.mul_add_div hd,Nat.div_eq_of_lt hr,Nat.add_zero]
  have hm:r=x%d:=by rw [←hv,Nat.mul_comm,Nat.mul_add_mod,Nat.mod_eq_of_lt hr]
  exact Mi hsc _ results218 (by rw [hm]) trivial (gow 2 Za hq)
theorem Zn2(v:Value)(x s:Nat)(hx:bl x≤4294967296:=by omega)(hs:s≤4294967296:=by omega):Cal prog 219 #[v,.int .i64 (s:Int)] [Fb v x] false (G:=Value) (fun r=>True) (fun r=>r) (fun r=>[Fb r (x*2^s)]):=by
 refine Zh func219 ntmps219 fun w0 sc hw hsc=>?_
 obtain⟨w,hwe⟩:∃w,w=s/64:=⟨_,rfl⟩
 obtain⟨b,hbe⟩:∃b,b=s%64:=⟨_,rfl⟩
 have hX:=Ma x
 refine go 13 ?_
 refine Zc J (fun h122=>?_) (fun h122=>?_)
 ·refine go 7 ?_
  refine Zw (Px 9 1 111 Me) ?_
  have hx0:x=0:=(Pv Xj x).1 O
  exact Xa hsc (.slice none 0 0) results219 J trivial (gow 9 Za (by rw [hx0,Nat.zero_mul];rfl))
 ·refine go 5 ?_
  refine dt (Zdq J J J)<|go 1 ?_
  refine dt (Zki J J J)<|go 5 ?_
  refine Zg (Mz 5 (v':= .int .i64 (w:Int)) J (by congr 1;omega))<|Zg (Mz 6 (v':= .int .i64 (b:Int)) J (by congr 1;omega))<|go 6 ⟨O,O,?_⟩
  refine tt (Kt (i:=2) (n:=(dg U x).length+w+1) (by_:=8) (enc:=Me) 0 J J J J Pt ti111 J pU.cells pU.pos J J J hw.h) fun v _=>go 12 ?_
  refine lp (G:=Nat×List Nat) [5,6,7,23,24] [0,1] (fun q=>[(25,.int .i64 (q.1:Int))]) (fun q=>[(2,Ns 1 111 Me v q.2)]) (fun q=>(q.1≤(dg U x).length)∧(q.2.length=(dg U x).length+w+1)∧(q.2.getD (w+q.1) 0<2^b)∧(∀j,w+q.1<j→q.2.getD j 0=0)∧(∀d∈q.2,d<U)∧(Yc U (q.2.take ((dg U x).length+w+1))=Yc U ((dg U x).take q.1)*2^b*U^w)) (fun q=>(dg U x).length-q.1) (0,List.replicate ((dg U x).length+w+1) 0) ⟨O1,O5,by rw [Kb];exact Nat.two_pow_pos b,fun j _=>Kb _ j,Nc _ Xo,by rw [List.take_replicate,Ha];simp [Yc]⟩ K1 K1 ?_
  rintro⟨i,o⟩ ⟨hi,hol,hc,hz,hall,hv⟩
  dsimp only at hi hol hc hz hall hv
  dsimp only
  have hst:i<(dg U x).length→_:=fun hlt=>Ybl (xs:=dg U x) (show b≤63 by omega) hol.symm (show w+i+1<_ by omega) hc (hz (w+i+1) O) (Xi Xo (Nn Xj x) i) hv
  refine go 6 ?_
  refine Zc J (fun h127=>?_) (fun h127=>?_)
  ·refine go 14 ⟨O2,O2,?_⟩
   have hX1:=Xi Xo (Nn Xj x) i
   refine Xx (fun _=>False) [(0,0),(1,0),(2,0),(3,0),(4,0),(5,0),(6,0),(7,0),(8,0),(9,0),(10,0),(11,3)]<|go 4 ⟨O,?_⟩
   refine Qo J J (Qq (Zy (ii:=2) (i:=w+i) J J J J (Yw pU) Pt Lo))<|go 3 ⟨O2,?_⟩
   refine Qo J J (Qq (Zlk J J (n:=b) J J))<|Qo J J (Qq (Ygb J J J (Xi Xo hall _) (Nat.mod_lt _ Xo)))<|Qo J J (Qq (Zy (ii:=2) (i:=w+i) J J J J (Yw pU) Pt Lo))<|r3' J (Lz (i:=2) (enc:=Me) _ J J J J J J pU J hw.h O3 O2) fun _ _=>go 8 ?_
   refine Zc J (fun h129=>?_) (fun h129=>?_)
   ·have hal2:=Mx (Mx hall (w+i) (o.getD (w+i) 0 ||| (dg U x).getD i 0*2^b%U) (Nat.or_lt_two_pow (n:=64) (Xi Xo hall _) (Nat.mod_lt _ Xo))) (w+i+1) ((dg U x).getD i 0/2^(64-b)) (Nat.lt_of_le_of_lt (Nat.div_le_self _ _) hX1)
    have hc2:((o.set (w+i) (o.getD (w+i) 0 ||| (dg U x).getD i 0*2^b%U)).set (w+i+1) ((dg U x).getD i 0/2^(64-b))).getD (w+i+1) 0<2^b:=by
     rw [Ov _ _ _ _ _ O9,if_pos rfl];exact Zed O hX1
    have hz2:∀j,w+i+1<j→((o.set (w+i) (o.getD (w+i) 0 ||| (dg U x).getD i 0*2^b%U)).set (w+i+1) ((dg U x).getD i 0/2^(64-b))).getD j 0=0:=fun j hj=>by
     rw [Ov _ _ _ _ _ O9,if_neg O,Ov _ _ _ _ _ O,if_neg O];exact hz j O
    have hv2:=hst O
    refine go 9 ⟨O,O,O,?_⟩
    refine dt (Zlj J J (n:=64-b) J O)<|dt (Zy (ii:=2) (i:=w+i+1) J J J J (Yw pU) Pt Lo O (by simp only [List.length_set];omega))<|tt (Lz (i:=2) (enc:=Me) _ J J J J J J pU J hw.h O3 (by simp only [List.length_set];omega)) fun _ _=>go 7 ⟨O,?_⟩
    exact Yq (i+1,_) ⟨O1,O9,by dsimp only;rw [show w+(i+1)=w+i+1 by omega];exact hc2,fun j hj=>by have hj2:w+(i+1)<j:=hj;dsimp only;exact hz2 j O,hal2,hv2⟩ O1 K1 K1
   ·obtain rfl:b=0:=O
    have hal2:=Mx hall (w+i) (o.getD (w+i) 0 ||| (dg U x).getD i 0*2^0%U) (Nat.or_lt_two_pow (n:=64) (Xi Xo hall _) (Nat.mod_lt _ Xo))
    have hc2:(o.set (w+i) (o.getD (w+i) 0 ||| (dg U x).getD i 0*2^0%U)).getD (w+i+1) 0<2^0:=by
     rw [Ov _ _ _ _ _ O,if_neg O,hz _ O];exact Nat.two_pow_pos 0
    have hz2:∀j,w+i+1<j→(o.set (w+i) (o.getD (w+i) 0 ||| (dg U x).getD i 0*2^0%U)).getD j 0=0:=fun j hj=>by
     rw [Ov _ _ _ _ _ O,if_neg O];exact hz j O
    have hv2:=hst O
    rw [show(dg U x).getD i 0/2^(64-0)=0 from Nat.div_eq_of_lt hX1]at hv2
    have hsame:=Zk6 (o.set (w+i) (o.getD (w+i) 0 ||| (dg U x).getD i 0*2^0%U)) (w+i+1) (by rw [Ov _ _ _ _ _ O,if_neg O,hz _ O])
    rw [hsame]at hv2
    refine go 7 ⟨O,?_⟩
    exact Yq (i+1,_) ⟨O1,O9,by dsimp only;rw [show w+(i+1)=w+i+1 by omega];exact hc2,fun j hj=>by have hj2:w+(i+1)<j:=hj;dsimp only;exact hz2 j O,hal2,hv2⟩ O1 K1 K1
  ·refine go 8 ?_
   refine cl 2 [2] (Oa _ _) fun _ _=>?_
   refine Xr (Zbb 2 J J pU)<|go 4 ?_
   obtain rfl:i=(dg U x).length:=O
   have hx2:tz o=dg U (x*2^s):=by
    rw [←Kd Xj _ hall]
    congr 1
    rw [Nx U o _ O,List.take_of_length_le (Nat.le_refl _),Mc Xj,Zcd,Nat.mul_assoc,←Nat.pow_add,show b+64*w=s by omega]at hv
    exact hv
   exact Xa hsc _ results219 J trivial (gow 2 Za hx2)
theorem Yhs(v:Value)(x s:Nat)(hx:bl x≤8589934592)(hs:s≤8589934592):Cal prog 221 #[v,.int .i64 (s:Int)] [Fb v x] false (G:=Value) (fun r=>True) (fun r=>r) (fun r=>[Fb r (x/2^s)]):=by
 refine Zh func221 ntmps221 fun w0 sc hw hsc=>?_
 obtain⟨w,hwe⟩:∃w,w=s/64:=⟨_,rfl⟩
 obtain⟨b,hbe⟩:∃b,b=s%64:=⟨_,rfl⟩
 have hX:=Ma x
 have hdl:((dg U x).drop w).length=(dg U x).length-w:=List.length_drop
 refine go 8 ?_
 refine dt (Zdq J J J)<|go 1 ?_
 refine dt (Zki J J J)<|go 6 ?_
 refine Zg (Mz 5 (v':= .int .i64 (w:Int)) J (by congr 1;omega))<|Zg (Mz 6 (v':= .int .i64 (b:Int)) J (by congr 1;omega))<|go 7 ?_
 refine Zc J (fun h139=>?_) (fun h139=>?_)
 ·refine go 7 ?_
  refine Zw (Px 9 1 111 Me) ?_
  have hx0:x/2^s=0:=by
   rw [Ac hwe hbe,Nat.div_eq_of_lt ((Xl Xj w x).1 O),Nat.zero_div]
  exact Xa hsc (.slice none 0 0) results221 J trivial (gow 9 Za (by rw [hx0];rfl))
 ·refine go 6 ?_
  refine dt (d_suf (ii:=1) (i:=w) J J J J Zn Pt Lo O)<|Xr (s_suf 1 2 (w) J J)<|tt (Zm3 (n:=3) (Yad _ _ (by simp only [List.length_drop];omega)) J J J K1 call237 (Zk 2 J J J Zo) J hw.h) fun v _=>go 3 ?_
  refine jn (G:=List Nat) [7] [0,1,2] (fun o=>[]) (fun o=>[(3,Ns 1 111 Me v o)]) (fun o=>(o.length=(dg U x).length-w)∧(∀j,j<o.length→o.getD j 0=x/2^s/U^j%U)) ?_ ?_
  ·refine go 6 ?_
   refine Zc J (fun h143=>?_) (fun h143=>?_)
   ·refine go 8 ?_
    refine lp (G:=Nat×List Nat) [0,5,6,7,24] [0,1,2] (fun q=>[(25,.int .i64 (q.1:Int))]) (fun q=>[(3,Ns 1 111 Me v q.2)]) (fun q=>(q.1≤(dg U x).length-w)∧(q.2.length=(dg U x).length-w)∧(∀j,j<q.1→q.2.getD j 0=x/2^s/U^j%U)∧(∀j,q.1≤j→q.2.getD j 0=x/U^w/U^j%U)∧(∀d∈q.2,d<U)) (fun q=>(dg U x).length-w-q.1) (0,(dg U x).drop w) ⟨Nat.zero_le _,O5,fun j hj=>absurd hj (Nat.not_lt_zero j),fun j _=>Zxb x w j,fun d hd=>Nn Xj x d (List.mem_of_mem_drop hd)⟩ K1 K1 ?_
    rintro⟨i,o⟩ ⟨hi,hol,hlo,hhi,hall⟩
    dsimp only at hi hol hlo hhi hall
    dsimp only
    refine go 6 ?_
    refine Zc J (fun h144=>?_) (fun h144=>?_)
    ·refine go 17 ⟨O2,O2,?_⟩
     refine dt (Zlj J J (n:=b) J J)<|go 1 ⟨O2,?_⟩
     refine tt (Lz (i:=3) (enc:=Me) _ J J J J J J pU J hw.h O3 O2) fun _ _=>go 11 ⟨O,?_⟩
     refine Zc J (fun h146=>?_) (fun h146=>?_)
     ·simp only [List.length_set]at h146
      have hnew:∀j,((o.set i (o.getD i 0/2^b)).set i ((o.set i (o.getD i 0/2^b)).getD i 0 ||| ((dg U x).getD (w+i+1) 0*2^(64-b))%U)).getD j 0=if i=j then x/2^s/U^i%U else o.getD j 0:=fun j=>by
       rw [Ov _ _ _ _ _ O9,Ov _ _ _ _ _ O,Ov _ _ _ _ _ O]
       split
       ·rw [if_pos rfl,hhi i (Nat.le_refl _),Iv Xj,Ac hwe hbe,Zrr,show x/U^(w+i+1)=x/U^w/U^i/U by rw [Nat.div_div_eq_div_mul,Nat.div_div_eq_div_mul,←Nat.pow_succ,←Nat.pow_add];rfl,Zp5 _ _ O]
       ·rfl
      have hal2:=Mx (Mx hall i (o.getD i 0/2^b) (Nat.lt_of_le_of_lt (Nat.div_le_self _ _) (Xi Xo hall _))) i ((o.set i (o.getD i 0/2^b)).getD i 0 ||| ((dg U x).getD (w+i+1) 0*2^(64-b))%U) (Nat.or_lt_two_pow (n:=64) (Xi Xo (Mx hall _ _ (Nat.lt_of_le_of_lt (Nat.div_le_self _ _) (Xi Xo hall _))) _) (Nat.mod_lt _ Xo))
      refine Xx (fun _=>False) [(0,0),(1,0),(2,0),(3,0),(4,0),(5,0),(6,0),(7,0),(8,0),(9,0),(10,0),(11,0),(12,0),(13,0),(14,0),(15,0),(16,3)]<|go 9 ⟨O2,O2,O,O,?_⟩
      refine Qo J J (Qq (Zy (ii:=1) (i:=w+i+1) J J J J Zn Pt Lo O O2))<|go 3 ⟨O2,O,?_⟩
      refine Qo J J (Qq (Zlk J J (n:=64-b) J O))<|Qo J J (Qq (Ygb J J J (Xi Xo (Mx hall _ _ (Nat.lt_of_le_of_lt (Nat.div_le_self _ _) (Xi Xo hall _))) _) (Nat.mod_lt _ Xo)))<|go 1 ⟨O2,?_⟩
      refine r3' J (Lz (i:=3) (enc:=Me) _ J J J J J J pU J hw.h O3 O2) fun _ _=>go 7 ⟨O,?_⟩
      exact Yq (i+1,_) ⟨O1,O9,fun j hj=>by dsimp only;rw [hnew j];split;(· rename_i e;rw [←e]);exact hlo j (by have:j<i+1:=hj;omega),fun j hj=>by dsimp only;rw [hnew j,if_neg (by have:i+1≤j:=hj;omega)];exact hhi j (by have:i+1≤j:=hj;omega),hal2⟩ O1 K1 K1
     ·have hnew:∀j,(o.set i (o.getD i 0/2^b)).getD j 0=if i=j then x/2^s/U^i%U else o.getD j 0:=fun j=>by
       rw [Ov _ _ _ _ _ O]
       split
       ·rw [hhi i (Nat.le_refl _),Ac hwe hbe,Zrr,Zys _ _ O]
        rw [Nat.div_div_eq_div_mul,←Nat.pow_succ]
        exact Nat.div_eq_of_lt (Zwn (by simp only [List.length_set]at h146;omega))
       ·rfl
      have hal2:=Mx hall i (o.getD i 0/2^b) (Nat.lt_of_le_of_lt (Nat.div_le_self _ _) (Xi Xo hall _))
      refine go 7 ⟨O,?_⟩
      exact Yq (i+1,_) ⟨O1,O9,fun j hj=>by dsimp only;rw [hnew j];split;(· rename_i e;rw [←e]);exact hlo j (by have:j<i+1:=hj;omega),fun j hj=>by dsimp only;rw [hnew j,if_neg (by have:i+1≤j:=hj;omega)];exact hhi j (by have:i+1≤j:=hj;omega),hal2⟩ O1 K1 K1
    ·refine go 4 ?_
     exact Pw _ ⟨O,by intro j hj;rw [hlo j O]⟩ trivial K1
   ·refine go 1 ?_
    exact Pw _ ⟨O5,by intro j hj;rw [Zxb,Ac hwe hbe,show b=0 by omega,Nat.pow_zero,Nat.div_one]⟩ trivial K1
  ·rintro o ⟨hol,hv⟩
   refine go 3 ?_
   refine cl 3 [3] (Oa _ _) fun _ _=>?_
   refine Xr (Zbb 3 J J pU)<|go 4 ?_
   have hx2:tz o=dg U (x/2^s):=Zsq Xj hv (by rw [hol,Ac hwe hbe];exact Nat.lt_of_le_of_lt (Nat.div_le_self _ _) (Zwn O))
   exact Xa hsc _ results221 J trivial (gow 3 Za hx2)
theorem Zmc(v:Value)(x:Nat)(hx:bl x≤4294967296:=by omega):Ok prog 152 #[v] [Fb v x] (.string (Qb x)):=by
 refine Zh func152 ntmps152 fun w0 sc hw hsc=>?_
 have hX:=Ma x
 have hL:=Zj5 x
 have hW:=lenU x
 have hrl:(List.replicate (dg 256 x).length (0:Nat)).length=(dg 256 x).length:=List.length_replicate
 refine go 8 ?_
 refine cl 1 [1] (Zjt _ _) fun _ _=>go 1 ⟨O,?_⟩
 refine dt (Zdq J J J)<|tt (Kt (i:=2) (n:=(dg 256 x).length) (by_:=1) (enc:=Zhz) 0 J J J J Zg1 ti5 J pB.cells pB.pos J J J hw.h) fun v _=>go 12 ?_
 refine lp (G:=Nat×List Nat) [0,3,12] [0,1] (fun q=>[(13,.int .i64 (q.1:Int))]) (fun q=>[(2,Ns 1 5 Zhz v q.2)]) (fun q=>(q.1≤(dg 256 x).length)∧(q.2.length=(dg 256 x).length)∧(∀j,j<q.1→q.2.getD j 0=x/256^((dg 256 x).length-1-j)%256)) (fun q=>(dg 256 x).length-q.1) (0,List.replicate (dg 256 x).length 0) ⟨O1,O5,fun j hj=>absurd hj (Nat.not_lt_zero j)⟩ K1 K1 ?_
 rintro⟨i,o⟩ ⟨hi,hol,hov⟩
 dsimp only at hi hol hov
 dsimp only
 refine go 6 ?_
 refine Zc J (fun h48=>?_) (fun h48=>?_)
 ·refine go 20 ⟨O,O,?_⟩
  refine Zg (Mz 5 (v':= .int .i64 (((dg 256 x).length-1-i:Nat):Int)) J (by congr 1;omega)) ?_
  have hbyte:=Zo6 x ((dg 256 x).length-1-i)
  rw [←Iv Xj]at hbyte
  refine go 5 ?_
  refine dt (Zdq J J J)<|dt (Zy (ii:=1) (i:=((dg 256 x).length-1-i)/8) J J J J Zn Pt Lo)<|go 2 ⟨O,?_⟩
  refine dt (Zki J J J)<|go 1 ⟨O,?_⟩
  refine dt (Zlj J J (n:=((dg 256 x).length-1-i)%8*8) J O)<|dt (Zds J J Zbf uT5)<|go 1 ⟨O2,?_⟩
  refine tt (Lz (i:=2) (enc:=Zhz) _ J J J J J J pB J hw.h O3 O2) fun _ _=>go 7 ⟨O,?_⟩
  exact Yq (i+1,_) ⟨O1,O9,fun j hj=>by dsimp only;rw [Ov _ _ _ _ _ O];split;(· rename_i e;rw [←e];exact hbyte);exact hov j O⟩ O1 K1 K1
 ·refine go 8 ?_
  refine dt (d_b2s J J (i:=2) J (Yw pB) Zg1 uT9 uT5)<|go 4 ?_
  have hb:Qb x=⟨(o.map UInt8.ofNat).toArray⟩:=by
   have ho:o=(dg 256 x).reverse:=by
    refine Zeb O9 (fun j hj=>?_)
    rw [hov j O,Zod _ _ _ O,Iv O]
   rw [ho];rfl
  exact Xa hsc () results152 (by rw [hb]) trivial Za
theorem Zcf(x:Nat)(hx:bl x≤4294967296:=by omega):Cal prog 159 #[.string (Qb x)] [] false (G:=Value) (fun r=>True) (fun r=>r) (fun r=>[Fb r x]):=by
 refine Zh func159 ntmps159 fun w0 sc hw hsc=>?_
 have hX:=Ma x
 have hL:=Zj5 x
 have hW:=lenU x
 have hbs:=Fo x
 refine go 10 ⟨O,?_⟩
 refine dt (Zdq J J J)<|tt (Kt (i:=1) (n:=(dg U x).length) (by_:=8) (enc:=Me) 0 J J J J Pt ti111 J pU.cells pU.pos J J J hw.h) fun v _=>go 12 ?_
 refine lp (G:=Nat×List Nat) [0,3,12] [0] (fun q=>[(13,.int .i64 (q.1:Int))]) (fun q=>[(1,Ns 1 111 Me v q.2)]) (fun q=>(q.1≤(dg 256 x).length)∧(q.2.length=(dg U x).length)∧(∀w,w<q.2.length→q.2.getD w 0=hi x ((dg 256 x).length-q.1) w)) (fun q=>(dg 256 x).length-q.1) (0,List.replicate (dg U x).length 0) ⟨O1,O5,fun w hw=>by dsimp only at *;rw [List.length_replicate]at hw;rw [Kb,hi_top O]⟩ K1 K1 ?_
 rintro⟨i,o⟩ ⟨hik,hol,hov⟩
 dsimp only at hik hol hov
 dsimp only
 refine go 6 ?_
 refine Zc J (fun h30=>?_) (fun h30=>?_)
 ·refine go 20 ⟨O,O,?_⟩
  refine Zg (Mz 5 (v':= .int .i64 (((dg 256 x).length-1-i:Nat):Int)) J (by congr 1;omega)) ?_
  have hget:=Zsa x i O
  have hw0:=hov (((dg 256 x).length-1-i)/8) O
  have hlt1:o.getD (((dg 256 x).length-1-i)/8) 0<U:=by rw [hw0];exact Nat.mod_lt _ Xo
  have hset:∀w,w<o.length→(o.set (((dg 256 x).length-1-i)/8) (o.getD (((dg 256 x).length-1-i)/8) 0 ||| (((Qb x).data.toList.getD i 0).toNat*2^(((dg 256 x).length-1-i)%8*8))%U)).getD w 0=hi x ((dg 256 x).length-(i+1)) w:=fun w hw=>by
   rw [hget,hw0,show(dg 256 x).length-i=(dg 256 x).length-1-i+1 by omega,Yh9,Ov _ _ _ _ _ O,show(dg 256 x).length-(i+1)=(dg 256 x).length-1-i by omega]
   split
   ·rename_i e;rw [e]
   ·rename_i e;rw [hov w hw,show(dg 256 x).length-i=(dg 256 x).length-1-i+1 by omega];exact Yeh e
  refine Xx (fun _=>False) [(0,0),(1,0),(2,0),(3,0),(4,0),(5,0),(6,0),(7,0),(8,0),(9,0),(10,0),(11,0),(12,0),(13,0),(14,0),(15,3)]<|go 2 ?_
  refine Qo J J (Qq (Zdq J J J))<|Qo J J (Qq (Zy (ii:=1) (i:=((dg 256 x).length-1-i)/8) J J J J (Yw pU) Pt Lo))<|go 3 ⟨O2,?_⟩
  refine Qo J J (Qq (Ye5 J J J uT9 J))<|Qo J J (Qq (Zud J J uT5 Zbf (by have:=(((Qb x).data.toList.getD i 0).toNat_lt);simp only [U];omega)))<|go 1 ?_
  refine Qo J J (Qq (Zki J J J))<|go 1 ⟨O,?_⟩
  refine Qo J J (Qq (Zlk J J (n:=((dg 256 x).length-1-i)%8*8) J O))<|Qo J J (Qq (Ygb J J J (hlt1) (Nat.mod_lt _ Xo)))<|Qo J J (Qq (Zy (ii:=1) (i:=((dg 256 x).length-1-i)/8) J J J J (Yw pU) Pt Lo))<|r3' J (Lz (i:=1) (enc:=Me) _ J J J J J J pU J hw.h O3 O2) fun _ _=>go 7 ⟨O,?_⟩
  exact Yq (i+1,_) ⟨O1,O9,fun w hw=>hset w (by simpa using hw)⟩ O1 K1 K1
 ·refine go 12 ?_
  have ho:o=dg U x:=Zeb hol (fun j hj=>by rw [hov j hj,Iv Xj,Yej O])
  exact Xa hsc _ results159 J trivial (gow 1 Za ho)
set_option maxHeartbeats 2000000 in
theorem Zwd(v w:Value)(x y:Nat)(hx:bl x≤4000000000)(hy0:bl y≤4000000000)(hy:0<y):Cal prog 192 #[v,w] [Fb v x,Fb w y] true (G:=Value×Value) (fun r=>True) (fun r=> .tuple #[r.1,r.2]) (fun r=>[Fb r.1 (x/y),Fb r.2 (x%y)]):=by
 refine Zh func192 ntmps192 fun w0 sc hw hsc=>?_
 have hX:=Ma x
 have hY:=Ma y
 refine go 11 ?_
 refine cl 2 [1,2] (Zbu _ _ _ _ O O) fun r hr=>go 3 ?_
 refine Zc J (fun h166=>?_) (fun h166=>?_)
 ·have hlt:x<y:=hr.1.1 O
  refine go 9 ?_
  exact Zw (Px 9 1 111 Me)<|Mi hsc (.slice none 0 0,v) results192 J trivial (gow 9 (Oe 1 Za (by rw [Nat.mod_eq_of_lt hlt])) (by rw [Nat.div_eq_of_lt hlt];rfl))
 ·have hge:y≤x:=by have:=hr.1;omega
  have hly:=Od hge
  refine go 10 ?_
  refine Zc J (fun h169=>?_) (fun h169=>?_)
  ·have hyU:y<U:=by have:=(Xl Xj 1 y).1 O;simpa using this
   have hd0:(dg U y).getD 0 0=y:=by rw [Iv Xj];simp [Nat.mod_eq_of_lt hyU]
   refine go 6 ⟨O,O2,?_⟩
   refine cl 3 [1] (Zzk _ _ _ O (by rw [hd0];exact hy) (by rw [hd0];exact hyU)) fun v _=>go 11 ?_
   refine tt (Qg (i:=4) (ivs:=[(0,_)]) (enc:=Me) [x%(dg U y).getD 0 0] J J K2 Pt ti111 J J J J J pU.cells J J hw.h) fun v_2 _=>cl 4 [4] (Oa _ _) fun _ _=>?_
   refine Xr (Zbb 4 J J pU)<|go 6 ?_
   exact Mi hsc (_,_) results192 J trivial (Oe 3 (gow 4 Za (by rw [Zf8 (Nat.lt_trans (Nat.mod_lt _ (by rw [hd0];exact hy)) (by rw [hd0];exact hyU)),hd0])) (by rw [hd0]<;>rfl))
  ·refine go 3 ?_
   obtain⟨k,hk⟩:∃k,k=(dg U y).length:=⟨_,rfl⟩
   have hkx:k≤(dg U x).length:=O
   obtain⟨b,hb⟩:∃b,b=64-bl ((dg U y).getD (k-1) 0):=⟨_,rfl⟩
   obtain⟨hkD0,_,hk1,hDk0,hb63,hD630⟩:=Yhp hy hk hb
   obtain⟨D,hDe⟩:∃D,D=y*2^b:=⟨_,rfl⟩
   have hkD:(dg U D).length=k:=by rw [hDe];exact hkD0
   have hDk:D<U^k:=by rw [hDe];exact hDk0
   have hD63:U^(k-1)*9223372036854775808≤D:=by rw [hDe];exact hD630
   have hD0:0<D:=by rw [hDe];exact Nat.mul_pos hy (Nat.two_pow_pos b)
   have hDb:bl D≤4000000064:=by rw [hDe,Zul _ _ hy];omega
   refine go 5 ⟨O,?_⟩
   refine dt (Zy (ii:=2) (i:=(dg U y).length-1) J J J J Zn Pt Lo)<|go 1 ⟨O2,?_⟩
   refine cl 4 [] (Zpe _ (Xi Xo (Nn Xj y) _)) fun _ _=>?_
   refine Xr (Mz 44 (v':= .int .i64 (b:Int)) J (by rw [hb,hk]))<|go 3 ?_
   refine jn (G:=Value×Value) [0,8] [0,1,2] (fun q=>[(9,q.1),(10,q.2)]) (fun q=>[(81,Fb q.1 D),(82,Ns 1 111 Me q.2 (List.replicate ((dg U x).length+1) 0))]) (fun q=>True) ?_ ?_
   ·refine Fw (fun _=>False) [8]<|Zl (n:=4) [(0,0),(1,0),(3,0),(4,0),(5,0)]<|go 6 ⟨O,?_⟩
    refine Qp (n:=3) 2 6 ?_ ?_
    ·refine Nb (Zj 81 [2] (Zn2 _ _ _)) fun v_3 _=>?_
     refine Zl (n:=0) [(7,0),(6,1),(8,3)]<|go 1 ?_
     refine Kg J (Kt (i:=82) (n:=(dg U x).length+1) (by_:=8) (enc:=Me) 0 J J J J Pt ti111 J pU.cells pU.pos J J J hw.h) fun v_4 _=>go 2 ?_
     exact Zp<|Pw (_,_) trivial K2 ⟨by rw [hDe];rfl,rfl,trivial⟩
    ·refine Lj J (Kt (i:=82) (n:=(dg U x).length+1) (by_:=8) (enc:=Me) 0 J J J J Pt ti111 J pU.cells pU.pos J J J hw.h) (fun v_5 _=>?_)
     refine Zl (n:=0) [(2,1),(7,0),(8,3)]<|Yh (Zj 81 [2] (Zn2 _ _ _)) fun v_6 _=>go 3 ?_
     exact Zp<|Pw (_,_) trivial K2 ⟨by rw [hDe];rfl,rfl,trivial⟩
   ·rintro⟨vd,vr⟩ -
    dsimp only
    refine go 1 ?_
    have hnl:(dg U (x*2^b)).length≤(dg U x).length+1:=(Xl Xj _ _).2 (by rw [Nat.pow_succ];exact Nat.mul_lt_mul_of_lt_of_le ((Xl Xj _ x).1 (Nat.le_refl _)) (by rw [Yf0];exact Nat.pow_le_pow_right O O) Xo)
    refine go 4 ?_
    refine cl 5 [1] (Zn2 _ _ _) fun v_7 _=>?_
    refine tt (t_cpy (i:=82) (j:=5) 0 J J J J J J O3 J Zn (Yex _ _ _) (by rw [List.length_replicate];exact hnl) (by rw [List.length_replicate];omega) (by rw [List.length_replicate];omega) Pt pU J hw.h) fun _ _=>go 3 ?_
    have hR0l:(spl (List.replicate ((dg U x).length+1) 0) 0 (dg U (x*2^b))).length=(dg U x).length+1:=by rw [Kk _ _ _ (by rw [List.length_replicate];omega),List.length_replicate]
    refine go 7 ?_
    have hql0:(List.replicate ((dg U x).length+1-k) (0:Nat)).length=(dg U x).length+1-k:=List.length_replicate
    refine Zg (Mz 11 (v':= .int .i64 (k:Int)) J (by rw [hkD]))<|go 5 ⟨O,?_⟩
    refine tt (Kt (i:=6) (n:=(dg U x).length+1-k) (by_:=8) (enc:=Me) 0 J J J J Pt ti111 J pU.cells pU.pos J J J hw.h) fun v_8 _=>go 13 ⟨O,?_⟩
    refine lp (G:=Nat×List Nat×List Nat) [8,9,10,11,12] [0,81,1,2,5] (fun q=>[(13,.int .i64 ((q.1:Int)-1))]) (fun q=>[(82,Ns 1 111 Me vr q.2.1),(6,Ns 1 111 Me v_8 q.2.2)]) (fun q=>(q.1≤(dg U x).length+1-k)∧(q.2.1.length=(dg U x).length+1)∧(∀d∈q.2.1,d<U)∧(q.2.2.length=(dg U x).length+1-k)∧(∀d∈q.2.2,d<U)∧(Yc U q.2.1<D*U^q.1)∧(Yc U (q.2.2.drop q.1)*U^q.1*D+Yc U q.2.1=x*2^b)) (fun q=>q.1) ((dg U x).length+1-k,spl (List.replicate ((dg U x).length+1) 0) 0 (dg U (x*2^b)),List.replicate ((dg U x).length+1-k) 0) ⟨Nat.le_refl _,hR0l,Zpi (Nc _ Xo) (Nn Xj _) 0,O5,Nc _ Xo,by rw [Zpq,Mc Xj];exact Ye1 ((Xl Xj _ x).1 (Nat.le_refl _)) hb63 hk1 O hD63,by rw [Zpq,Mc Xj];simp [Yc]⟩ ⟨by rw [List.length_replicate];rfl,trivial⟩ K2 ?_
    rintro⟨jj,R,q⟩ ⟨hj,hRl,hRa,hql,hqa,hV,hN⟩
    dsimp only at hj hRl hRa hql hqa hV hN
    dsimp only
    refine go 7 ?_
    refine Zc J (fun h179=>?_) (fun h179=>?_)
    ·refine go 5 ?_
     have hW1:Yc U R<U^(jj-1+k+1):=by
      refine Nat.lt_of_lt_of_le hV ?_
      rw [show jj-1+k+1=k+jj by omega,Nat.pow_add]
      exact Nat.mul_le_mul_right _ (Nat.le_of_lt hDk)
     have hWz:tz ((R.drop (jj-1)).take (jj-1+k+1-(jj-1)))=dg U (Yc U R/U^(jj-1)):=Yf8 hRa O (by rw [show jj-1+(jj-1+k+1-(jj-1))=jj-1+k+1 by omega];exact hW1)
     have hWD:Yc U R/U^(jj-1)<D*U:=by
      rw [Nat.div_lt_iff_lt_mul (Nat.pow_pos Xo),Nat.mul_assoc,←Nat.pow_succ',show(jj-1).succ=jj by omega];exact hV
     have hWb:bl (Yc U R/U^(jj-1))≤4294967296:=by
      have h1:=Od (Nat.le_of_lt hWD)
      have h2:=Zkt D U
      have h3:bl U≤65:=(Xn 65 U).2 (by simp [U])
      omega
     have htop:=Ygf hRa (j:=jj-1) hk1 hW1 O
     have hDt:(dg U D).getD (k-1) 0*U^(k-1)≤D:=by
      rw [Iv Xj];exact Nat.le_trans (Nat.mul_le_mul_right _ (Nat.mod_le _ _)) (Nat.div_mul_le_self _ _)
     have hQU:Yc U R/U^(jj-1)/D≤18446744073709551615:=by
      have:=(Nat.div_lt_iff_lt_mul hD0).2 (show _<U*D by rw [Nat.mul_comm];exact hWD)
      simp only [U]at this ⊢;omega
     refine go 4 ?_
     refine jn (G:=Nat) [8,9,10,11,12,13] [0,82,6,81,1,2,5] (fun g=>[(14,.int .u64 (g:Int))]) (fun g=>[]) (fun g=>(Yc U R/U^(jj-1)/D≤g)∧(g<U)) ?_ ?_
     ·refine go 1 ?_
      refine Xx (fun _=>False) [(0,0),(1,0),(2,0),(3,0),(4,0),(5,0),(6,0),(7,0),(8,0),(9,0),(10,0),(11,0)]<|go 4 ⟨O,?_⟩
      refine Qo J J (Qq (Zy (ii:=82) (i:=jj-1+k) J J J J (Yw pU) Pt Lo))<|go 4 ⟨O2,O,?_⟩
      refine Qo J J (Qq (Zy (ii:=81) (i:=k-1) J J J J Zn Pt Lo))<|go 4 ⟨O2,?_⟩
      refine Zc J (fun h182=>?_) (fun h182=>?_)
      ·refine Xx (fun _=>False) [(0,0),(1,0),(2,0),(3,0),(4,0),(5,0),(6,0),(7,0),(8,0),(9,0),(10,0),(11,0),(12,0),(13,0),(14,0),(15,0),(16,0),(17,0),(18,1),(19,0),(20,0),(21,0),(22,0)]<|go 4 ⟨O,?_⟩
       refine Qo J J (Qq (Zy (ii:=82) (i:=jj-1+k) J J J J (Yw pU) Pt Lo))<|go 6 ⟨O2,O,O,?_⟩
       refine Qo J J (Qq (Zy (ii:=82) (i:=jj-1+k-1) J J J J (Yw pU) Pt Lo))<|go 4 ⟨O2,O,?_⟩
       refine Qo J J (Qq (Zy (ii:=81) (i:=k-1) J J J J Zn Pt Lo))<|go 1 ⟨O2,?_⟩
       refine Yh (Zj 6 [] (Zsb _ _ _ (Xi Xo hRa _) (Xi Xo (Nn Xj _) _) O)) fun _ _=>go 5 ?_
       exact Pw _ ⟨Yek hDt O htop,Zro (Xi Xo hRa _) O⟩ K1 trivial
      ·refine go 1 ?_
       exact Pw 18446744073709551615 ⟨hQU,O3⟩ K1 trivial
     ·rintro g ⟨hg,hgU⟩
      refine go 8 ⟨O,O,?_⟩
      refine dt (d_mid (ii:=82) (i:=jj-1) (j:=jj-1+k+1) J J J J J (Yw pU) Pt Lo O O O O)<|go 7 ?_
      refine tt (Qg (i:=7) (ivs:=[(0,_)]) (enc:=Me) [g] J J K2 Pt ti111 J J J J J pU.cells J J hw.h) fun v_9 _=>cl 7 [7] (Oa _ _) fun _ _=>?_
      refine Xr (Zbb 7 J J pU)<|Xr (Zha 7 (Zf8 hgU) J J)<|cl 83 [81,7] (Zwc _ _ _ _ O (Nat.le_trans ((Xn 64 g).2 hgU) O)) fun v_10 _=>go 5 ?_
      refine lp (G:=Nat×Value) [8,9,10,11,12,13,15] [0,82,6,81,1,2,5,7] (fun q=>[(14,.int .u64 (q.1:Int)),(16,q.2)]) (fun q=>[(83,Fb q.2 (D*q.1))]) (fun q=>(Yc U R/U^(jj-1)/D≤q.1)∧(q.1<U)) (fun q=>q.1) (g,_) ⟨O1,O1⟩ K2 K1 ?_
      rintro⟨g,vp⟩ ⟨hg,hgU⟩
      dsimp only at hg hgU
      dsimp only
      have hPb:bl (D*g)≤4294967296:=by have h1:=Zkt D g;have h2:=(Xn 64 g).2 hgU;omega
      refine go 4 ?_
      refine tt (Yz (n:=7) (Oa _ _) J J J K1 call112 (Zcu 82 J J pU (Zh8 (jj-1) (jj-1+k+1)) (Zim _ _ _ _) Zo) J hw.h) fun _ _=>go 1 ?_
      refine tt (Yz (n:=7) (Zbu _ _ _ _ hWb hPb) J J J K2 call190 (Zcu 82 J J pU (Yb2 hWz (by rw [hWz]) (Zh8 (jj-1) (jj-1+k+1))) (by rw [Hc];exact(Zim _ _ _ _)) (Zk 83 J J J Zo)) J hw.h) fun r_2 hr_2=>go 3 ?_
      refine Zc J (fun h187=>?_) (fun h187=>?_)
      ·have hlt:Yc U R/U^(jj-1)<D*g:=hr_2.1.1 O
       have hg1:1≤g:=by rcases Nat.eq_zero_or_pos g with h | h;(rw [h,Nat.mul_zero]at hlt;exact absurd hlt (Nat.not_lt_zero _));exact h
       have hDg:D≤D*g:=Nat.le_mul_of_pos_right _ hg1
       have hQg:Yc U R/U^(jj-1)/D≤g-1:=by have:=(Nat.div_lt_iff_lt_mul hD0).2 (show _<g*D by rw [Nat.mul_comm];exact hlt);omega
       refine go 6 ?_
       refine dt (Zdf (n:=1) J J J)<|go 3 ?_
       refine Zg (Mz 14 (v':= .int .u64 ((g-1:Nat):Int)) J (Zab (Zry hg1 hgU)))<|go 3 ?_
       refine cl 8 [83,81] (Zfd _ _ _ _ hPb hDg) fun v_11 _=>go 3 ?_
       exact Zw (Xe 8 83 J J J)<|Yq (g-1,_) ⟨hQg,O6⟩ O1 K2 ⟨by rw [Nat.mul_sub_one];rfl,trivial⟩
      ·refine go 6 ?_
       have hQ:g=Yc U R/U^(jj-1)/D:=by
        have h1:=hr_2.1
        have h2:D*g≤Yc U R/U^(jj-1):=O
        exact Nat.le_antisymm ((Nat.le_div_iff_mul_le hD0).2 (by rw [Nat.mul_comm];exact h2)) hg
       refine go 2 ?_
       refine tt (Yz (n:=8) (Oa _ _) J J J K1 call112 (Zcu 82 J J pU (Zh8 (jj-1) (jj-1+k+1)) (Zim _ _ _ _) Zo) J hw.h) fun _ _=>go 1 ?_
       refine tt (Yz (n:=9) (Zfd _ _ _ _ hWb) J J J K2 call191 (Zcu 82 J J pU (Yb2 hWz (by rw [hWz]) (Zh8 (jj-1) (jj-1+k+1))) (by rw [Hc];exact(Zim _ _ _ _)) (Zk 83 J J J Zo)) J hw.h) fun v_12 _=>go 4 ?_
       have hll:(dg U (Yc U R/U^(jj-1)-D*g)).length≤jj-1+k+1-(jj-1):=by
        have:Yc U R/U^(jj-1)-D*g<D:=by rw [hQ];have h3:=Nat.div_add_mod (Yc U R/U^(jj-1)) D;have h4:=Nat.mod_lt (Yc U R/U^(jj-1)) hD0;omega
        have:=(Xl Xj k _).2 (Nat.lt_trans this hDk)
        omega
       refine go 2 ?_
       refine tt (t_clr (zv:= .bool false) (i:=82) (z:=0) (jj-1) J J J J O3 (Zw9 _ _ _ O) O O Pt pU (fun w=>zeroValue111 w) J J hw.h) fun _ _=>go 6 ?_
       refine tt (t_cpy (i:=82) (j:=9) (jj-1) J J J J J J O3 J Zn (Zw9 _ _ _ (by rw [Kk _ _ _ (by rw [List.length_replicate];omega)];omega)) hll (by rw [Kk _ _ _ (by rw [List.length_replicate];omega)];omega) (by rw [Kk _ _ _ (by rw [List.length_replicate];omega)];omega) Pt pU J hw.h) fun _ _=>go 2 ?_
       have hL1:jj-1+(List.replicate (jj-1+k+1-(jj-1)) 0).length≤R.length:=by rw [List.length_replicate];omega
       have hl1:=Kk R (jj-1) _ hL1
       have hL2:jj-1+(dg U (Yc U R/U^(jj-1)-D*g)).length≤(spl R (jj-1) (List.replicate (jj-1+k+1-(jj-1)) 0)).length:=O
       have hval:=Yga hRa (j:=jj-1) (n:=jj-1+k+1-(jj-1)) O (by rw [show jj-1+(jj-1+k+1-(jj-1))=jj-1+k+1 by omega];exact hW1) hll
       rw [Mc Xj]at hval
       have hst:=Yez (j:=jj-1) (N:=x*2^b) (Vq:=Yc U (q.drop jj)) hD0 hQ (by rw [show jj-1+1=jj by omega];exact hN)
       have hV2:=hst.1
       have hN2:=hst.2
       rw [←hval]at hV2 hN2
       have hdq:Yc U ((q.set (jj-1) g).drop (jj-1))=g+U*Yc U (q.drop jj):=by rw [drop_set _ _ _ O,show jj-1+1=jj by omega];rfl
       rw [←hdq]at hN2
       refine go 4 ?_
       refine dt (Zy (ii:=6) (i:=jj-1) J J J J (Yw pU) Pt Lo)<|tt (Lz (i:=6) (enc:=Me) _ J J J J J J pU J hw.h O3 O2) fun _ _=>go 8 ⟨O,?_⟩
       exact Yq (jj-1,_,_) ⟨O1,(Kk _ _ _ hL2).trans (hl1.trans hRl),Zpi (Zpi hRa (Nc _ Xo) _) (Nn Xj _) _,O9,Mx hqa _ _ hgU,hV2,hN2⟩ O1 ⟨by rw [show(((jj-1:Nat):Int)-1)=(jj:Int)-1-1 by omega];rfl,trivial⟩ K2
    ·refine go 6 ?_
     obtain rfl:jj=0:=O
     rw [Nat.pow_zero,Nat.mul_one]at hV
     have hVb:bl (Yc U R)≤8589934592:=by have:=Od (Nat.le_of_lt hV);omega
     refine go 2 ?_
     refine cl 9 [6] (Oa _ _) fun _ _=>?_
     refine Xr (Zbb 6 J J pU)<|go 1 ?_
     refine cl 9 [82] (Oa _ _) fun _ _=>?_
     refine Xr (Zbb 82 J J pU)<|Xr (Zha 82 (Kd Xj R hRa).symm J J)<|go 1 ?_
     refine cl 10 [82] (Yhs _ _ _ hVb O) fun v_13 _=>go 5 ?_
     rw [List.drop_zero,Nat.pow_zero,Nat.mul_one]at hN
     have hqq:tz q=dg U (x/y):=by
      rw [←Kd Xj _ hqa,←Zlt x y b,←hDe,←hN,Nat.mul_comm,Nat.mul_add_div hD0,Nat.div_eq_of_lt hV,Nat.add_zero]
     have hrr:Yc U R/2^b=x%y:=by
      rw [←Zls x y b,←hDe,←hN,Nat.mul_comm,Nat.mul_add_mod,Nat.mod_eq_of_lt hV]
     exact Mi hsc (_,_) results192 J trivial (gow 6 (Oe 10 Za (by rw [hrr])) hqq)
theorem Zn3(v w:Value)(x y:Nat)(hx:bl x≤4000000000:=by omega)(hy:bl y≤4000000000:=by omega):Cal prog 160 #[v,w] [Fb v x,Fb w y] true (G:=Value) (fun r=>True) (fun r=>r) (fun r=>[Fb r (Nat.gcd x y)]):=by
 refine Zh func160 ntmps160 fun w0 sc hw hsc=>?_
 have hX:=Ma x
 have hY:=Ma y
 refine go 7 ?_
 refine Zg (Xe 1 91 J J J)<|Zg (Xe 2 92 J J J)<|lp (G:=Value×Value×Nat×Nat) [] [0,1,2] (fun q=>[(0,q.1),(1,q.2.1)]) (fun q=>[(91,Fb q.1 q.2.2.1),(92,Fb q.2.1 q.2.2.2)]) (fun q=>(Nat.gcd q.2.2.1 q.2.2.2=Nat.gcd x y)∧(bl q.2.2.1≤4000000000)∧(bl q.2.2.2≤4000000000)) (fun q=>q.2.2.2) (v,w,x,y) ⟨J,hx,hy⟩ K2 K2 ?_
 rintro⟨va,vb,a,b⟩ ⟨hg,ha,hb⟩
 dsimp only at hg ha hb
 dsimp only
 refine go 8 ?_
 refine Zc J (fun h201=>?_) (fun h201=>?_)
 ·have hb0:0<b:=by rcases Nat.eq_zero_or_pos b with h | h;(subst h;simp [Iu]at h201);exact h
  refine go 7 ?_
  refine cl 3 [91,92] (Zwd _ _ _ _ ha hb hb0) fun g _=>go 14 ?_
  have hlt:a%b<b:=Nat.mod_lt _ hb0
  exact Zw (Xe 92 91 J J J)<|Zw (Xe 4 92 J J J)<|Yq (_,_,b,a%b) ⟨by dsimp only;rw [←hg,Nat.gcd_comm b,←Nat.gcd_rec,Nat.gcd_comm],hb,Nat.le_trans (Od (Nat.le_of_lt hlt)) hb⟩ hlt K2 K2
 ·have hb0:b=0:=(Pv Xj b).1 O
  refine go 12 ?_
  exact Xa hsc _ results160 J trivial (Oe 91 Za (by rw [←hg,hb0,Nat.gcd_zero_right]))
theorem Znz(s:Bool)(v:Value)(x:Int)(hs:sg s x):Cal prog 157 #[.agg #[.bool s,v]] [Fb v x.natAbs] true (G:=Bool×Value) (fun r=>sg r.1 (-x)) (fun r=> .agg #[.bool r.1,r.2]) (fun r=>[Fb r.2 (-x).natAbs]):=by
 refine Zh func157 ntmps157 fun w0 sc hw hsc=>go 2 ?_
 refine Ya (Yl 2) fun b _=>Ya (Zs 3) fun b_2 _=>go 9 ?_
 refine dt (Xh (ivs:=[(0,_),(1,_)]) J K4 (fun a w hs=>Ly ((Zu J) a w hs) ((Na (i:=1) J Zn) a w hs)))<|go 4 ?_
 exact Xa hsc (!s,v) results157 J (Ybo hs) (Oe 1 Za (by rw [Int.natAbs_neg]))
theorem Zcy(s t:Bool)(v w:Value)(x y:Int)(hs:sg s x)(ht:sg t y)(hx:bl x.natAbs≤4294967296:=by omega)(hy:bl y.natAbs≤4294967296:=by omega):Cal prog 188 #[.agg #[.bool s,v],.agg #[.bool t,w]] [Fb v x.natAbs,Fb w y.natAbs] true (G:=Bool×Value) (fun r=>sg r.1 (x*y)) (fun r=> .agg #[.bool r.1,r.2]) (fun r=>[Fb r.2 (x*y).natAbs]):=by
 refine Zh func188 ntmps188 fun w0 sc hw hsc=>go 2 ?_
 refine Ya (Yl 3) fun b _=>Ya (Yl 4) fun b_2 _=>Ya (Zs 5) fun b_3 _=>go 3 ?_
 refine Xx (fun _=>False) [(0,0),(1,0),(2,0),(3,0),(4,0),(5,0),(6,0),(7,0),(8,0),(9,1),(10,0),(11,3)]<|go 9 ?_
 refine Yh (Zj 6 [1,2] (Zwc _ _ _ _ hx hy)) fun v _=>?_
 refine Qo J J (Qq (Xh (ivs:=[(0,_),(1,_)]) J K4 (fun a w hs=>Ly ((Zu J) a w hs) ((Na (i:=6) J Zn) a w hs))))<|go 4 ?_
 exact Xa hsc (_,_) results188 J (Ybp hs ht) (Oe 6 Za (by rw [Int.natAbs_mul]))
theorem Zjr(s:Bool)(v:Value)(x:Int)(hs:sg s x)(hx:bl x.natAbs≤4294967296:=by omega):Cal prog 158 #[.agg #[.bool s,v]] [Fb v x.natAbs] true (G:=Unit) (fun _=>True) (fun _=> .int .i64 x.sign) (fun _=>[]):=by
 refine Zh func158 ntmps158 fun w0 sc hw hsc=>?_
 have hX:=Ma x.natAbs
 refine go 2 ?_
 refine Ya (Yl 2) fun b _=>go 14 ?_
 refine Zc J (fun h245=>?_) (fun h245=>?_)
 ·refine go 8 ?_
  exact Xa hsc () results158 (Zyr h245) trivial Za
 ·refine go 7 ?_
  refine Oy J (fun h247=>?_) (fun h247=>?_)
  ·refine go 8 ?_
   exact Xa hsc () results158 (Ybk hs h247 h245) trivial Za
  ·refine go 9 ?_
   exact Xa hsc () results158 (Ybj hs h247 h245) trivial Za
theorem Zfb(s t:Bool)(v w:Value)(x y:Int)(hs:sg s x)(ht:sg t y)(hx:bl x.natAbs≤4294967296:=by omega)(hy:bl y.natAbs≤4294967296:=by omega):Cal prog 156 #[.agg #[.bool s,v],.agg #[.bool t,w]] [Fb v x.natAbs,Fb w y.natAbs] true (G:=Bool×Value) (fun r=>sg r.1 (x+y)) (fun r=> .agg #[.bool r.1,r.2]) (fun r=>[Fb r.2 (x+y).natAbs]):=by
 refine Zh func156 ntmps156 fun w0 sc hw hsc=>go 2 ?_
 refine Ya (Yl 3) fun b _=>Ya (Yl 4) fun b_2 _=>Ya (Zs 5) fun b_3 _=>go 14 ?_
 refine Oy J (fun h231=>?_) (fun h231=>?_)
 ·have hst:s=t:=by simpa using h231
  refine go 1 ?_
  refine Xx (fun _=>False) [(0,0),(1,0),(2,0),(3,0),(4,0),(5,0),(6,1),(7,0),(8,3)]<|go 6 ?_
  refine Yh (Zj 6 [1,2] (Zwe _ _ _ _ hx hy)) fun v _=>?_
  refine Qo J J (Qq (Xh (ivs:=[(0,_),(1,_)]) J K4 (fun a w hs=>Ly ((Zu J) a w hs) ((Na (i:=6) J Zn) a w hs))))<|go 6 ?_
  exact Xa hsc (_,_) results156 J (Zvf hs (hst▸ht)) (Oe 6 Za (by rw [Zf5 hs (hst▸ht)]))
 ·have hst:s≠t:=by simpa using h231
  refine go 6 ?_
  refine cl 6 [1,2] (Zbu _ _ _ _ hx hy) fun r hr=>go 4 ?_
  refine Zc J (fun h233=>?_) (fun h233=>?_)
  ·have hge:y.natAbs≤x.natAbs:=by have:=hr.1;omega
   refine go 1 ?_
   refine Xx (fun _=>False) [(0,0),(1,0),(2,0),(3,0),(4,0),(5,0),(6,1),(7,0),(8,3)]<|go 6 ?_
   refine Yh (Zj 7 [1,2] (Zfd _ _ _ _ hx)) fun v_2 _=>?_
   refine Qo J J (Qq (Xh (ivs:=[(0,_),(1,_)]) J K4 (fun a w hs=>Ly ((Zu J) a w hs) ((Na (i:=7) J Zn) a w hs))))<|go 6 ?_
   exact Xa hsc (_,_) results156 J (Zh6 hs ht hst hge) (Oe 7 Za (by rw [Ax hs ht hst hge]))
  ·have hge:x.natAbs≤y.natAbs:=by have:=hr.1;omega
   refine go 4 ?_
   refine Xx (fun _=>False) [(0,0),(1,0),(2,0),(3,0),(4,0),(5,0),(6,1),(7,0),(8,3)]<|go 6 ?_
   refine Yh (Zj 8 [2,1] (Zfd _ _ _ _ hy)) fun v_3 _=>?_
   refine Qo J J (Qq (Xh (ivs:=[(0,_),(1,_)]) J K4 (fun a w hs=>Ly ((Zu J) a w hs) ((Na (i:=8) J Zn) a w hs))))<|go 4 ?_
   exact Xa hsc (_,_) results156 J (by rw [Int.add_comm];exact Zh6 ht hs (Ne.symm hst) hge) (Oe 8 Za (by rw [Int.add_comm,Ax ht hs (Ne.symm hst) hge]))
theorem Qk(s:Bool)(x:Int)(hs:sg s x)(hx:bl x.natAbs≤4294967296:=by omega):Cal prog 155 #[.agg #[.bool s,.string (Qb x.natAbs)]] [] true (G:=Bool×Value) (fun r=>sg r.1 x) (fun r=> .agg #[.bool r.1,r.2]) (fun r=>[Fb r.2 x.natAbs]):=by
 refine Zh func155 ntmps155 fun w0 sc hw hsc=>go 2 ?_
 refine Ya (Yl 1) fun b _=>Ya (Zs 2) fun b_2 _=>go 3 ?_
 refine Xx (fun _=>False) [(0,0),(1,0),(2,0),(3,0),(4,1),(5,0),(6,3)]<|go 4 ?_
 refine Yh (Zj 3 [] (Zcf _ hx)) fun v _=>?_
 refine Qo J J (Qq (Xh (ivs:=[(0,_),(1,_)]) J K4 (fun a w hs=>Ly ((Zu J) a w hs) ((Na (i:=3) J Zn) a w hs))))<|go 4 ?_
 exact Xa hsc (_,_) results155 J hs (Oe 3 Za J)
theorem Ig(s:Bool)(v:Value)(x:Int)(hs:sg s x)(hx:bl x.natAbs≤4294967296:=by omega):Ok prog 113 #[.agg #[.bool s,v]] [Fb v x.natAbs] (Zbe x):=by
 refine Zh func113 ntmps113 fun w0 sc hw hsc=>go 2 ?_
 refine Ya (Yl 2) fun b _=>Ya (Zs 3) fun b_2 _=>go 8 ?_
 refine cl 3 [1] (Zjt _ _) fun _ _=>go 3 ?_
 refine Zc J (fun h219=>?_) (fun h219=>?_)
 ·refine go 2 ?_
  refine dt (Xh (ivs:=[]) J trivial (fun a w hs=>b93_))<|go 6 ?_
  exact Mi hsc () results113 (Zyg h219) trivial Za
 ·refine go 3 ?_
  cases s
  ·refine Xx (fun _=>False) [(0,0),(1,0),(2,0),(3,2),(4,2),(5,2),(6,2),(7,0),(8,0),(9,0),(10,1),(11,0),(12,3),(13,3)]<|go 10 ?_
   refine Yh (Zj 3 [1] (Zmc _ _)) fun _ _=>?_
   refine Qo J J (Qq (Xh (ivs:=[(0,_),(1,_)]) J K4 (fun a w hs=>Zun ((Zu J) a w hs) ((Zu J) a w hs))))<|go 5 ?_
   exact Mi hsc () results113 (by first | exact Zpo hs h219 | exact Zpn hs h219) trivial Za
  ·refine Xx (fun _=>False) [(0,0),(1,0),(2,0),(3,0),(4,0),(5,0),(6,0),(7,0),(8,0),(9,0),(10,1),(11,0),(12,3),(13,3)]<|go 10 ?_
   refine Yh (Zj 3 [1] (Zmc _ _)) fun _ _=>?_
   refine Qo J J (Qq (Xh (ivs:=[(0,_),(1,_)]) J K4 (fun a w hs=>Zun ((Zu J) a w hs) ((Zu J) a w hs))))<|go 5 ?_
   exact Mi hsc () results113 (by first | exact Zpo hs h219 | exact Zpn hs h219) trivial Za
theorem Ng(s t:Bool)(v w:Value)(x y:Int)(hs:sg s x)(ht:sg t y)(hy0:y≠0)(hx:bl x.natAbs≤3000000000:=by omega)(hy:bl y.natAbs≤3000000000:=by omega):Cal prog 193 #[.agg #[.bool s,v],.agg #[.bool t,w]] [Fb v x.natAbs,Fb w y.natAbs] true (G:=Bool×Value×Value) (fun r=>sg r.1 (x/y)) (fun r=> .tuple #[.agg #[.bool r.1,r.2.1],.agg #[.bool false,r.2.2]]) (fun r=>[Fb r.2.1 (x/y).natAbs,Fb r.2.2 (x%y).natAbs]):=by
 refine Zh func193 ntmps193 fun w0 sc hw hsc=>?_
 have hX:=Ma x.natAbs
 have hY:=Ma y.natAbs
 have hyp:0<y.natAbs:=O
 have hrl:x.natAbs%y.natAbs<y.natAbs:=Nat.mod_lt _ hyp
 have hrb:=Od (Nat.le_of_lt hrl)
 have hqb:=Od (Nat.div_le_self x.natAbs y.natAbs)
 refine go 2 ?_
 refine Ya (Yl 3) fun b _=>Ya (Yl 4) fun b_2 _=>Ya (Zs 5) fun b_3 _=>Ya (Zs 6) fun b_4 _=>go 8 ?_
 refine cl 7 [1,2] (Zwd _ _ _ _ O O hyp) fun g _=>go 13 ?_
 refine Zfm (d:=18) J (fun s256=>?_) (fun s256=>?_)
 ·refine go 6 ?_
  refine Zc J (fun h256=>?_) (fun h256=>?_)
  ·subst s256
   have hR0:0<x.natAbs%y.natAbs:=by rcases Nat.eq_zero_or_pos (x.natAbs%y.natAbs)with h | h;(rw [h]at h256;simp [Iu]at h256);exact h
   have hD:=divA hs ht hy0 hR0
   refine Xx (fun _=>False) [(0,0),(3,0),(4,0),(5,0),(1,1),(2,1),(6,1),(7,0),(8,3)]<|go 4 ?_
   refine Kg J (Qg (i:=9) (ivs:=[(0,_)]) (enc:=Me) (dg U 1) J J K2 Pt ti111 J J J J J pU.cells J J hw.h) fun v _=>Yh (Zj 10 [7,9] (Zwe _ _ _ _ O (show bl 1≤4294967296 by decide))) fun v_2 _=>Yh (Zj 11 [2,8] (Zfd _ _ _ _ O)) fun v_3 _=>go 12 ?_
   refine dt (Xh (ivs:=[(0,_),(1,_)]) J K4 (fun a w hs=>Ly ((Zu J) a w hs) ((Na (i:=10) J Zn) a w hs)))<|go 1 ?_
   refine dt (Xh (ivs:=[(0,_),(1,_)]) J K4 (fun a w hs=>Ly ((Zu J) a w hs) ((Na (i:=11) J Zn) a w hs)))<|go 5 ?_
   exact Mi hsc (_,_,_) results193 J hD.1 (Oe 10 (Oe 11 Za (by rw [hD.2.2]<;>rfl)) (by rw [hD.2.1]<;>rfl))
  ·have hD:=divB hs ht hy0 (.inr ((Pv Xj _).1 O))
   refine go 10 ?_
   refine dt (Xh (ivs:=[(0,_),(1,_)]) J K4 (fun a w hs=>Ly ((Zu J) a w hs) ((Na (i:=7) J Zn) a w hs)))<|go 1 ?_
   refine dt (Xh (ivs:=[(0,_),(1,_)]) J K4 (fun a w hs=>Ly ((Zu J) a w hs) ((Na (i:=8) J Zn) a w hs)))<|go 5 ?_
   exact Mi hsc (_,_,_) results193 J hD.1 (Oe 7 (Oe 8 Za (by rw [hD.2.2]<;>rfl)) (by rw [hD.2.1]<;>rfl))
 ·have hD:=divB hs ht hy0 (.inl s256)
  refine go 17 ?_
  refine dt (Xh (ivs:=[(0,_),(1,_)]) J K4 (fun a w hs=>Ly ((Zu J) a w hs) ((Na (i:=7) J Zn) a w hs)))<|go 1 ?_
  refine dt (Xh (ivs:=[(0,_),(1,_)]) J K4 (fun a w hs=>Ly ((Zu J) a w hs) ((Na (i:=8) J Zn) a w hs)))<|go 5 ?_
  exact Mi hsc (_,_,_) results193 J hD.1 (Oe 7 (Oe 8 Za (by rw [hD.2.2]<;>rfl)) (by rw [hD.2.1]<;>rfl))
theorem Zaa(b:Bool)(s:ByteArray):Ok prog 166 #[.agg #[.bool b,.string s]] [] (.bool (okW b s)):=by
 refine Zh func166 ntmps166 fun w0 sc hw hsc=>go 2 ?_
 refine Ya (Yl 1) fun b _=>go 8 ?_
 refine dt (Zuc J J J J)<|go 2 ?_
 refine Zc J (fun h264=>?_) (fun h264=>?_)
 ·refine go 10 ?_
  exact Xa hsc () results166 (by unfold okW;rw [if_pos h264]) trivial Za
 ·refine go 6 ?_
  refine dt (Ye5 (i:=0) J J J uT9 J)<|go 2 ?_
  refine Ys (d:=13) J (fun s267=>?_) (fun s267=>?_)
  ·refine go 9 ?_
   exact Xa hsc () results166 (by unfold okW;rw [if_neg h264];simp_all<;>omega) trivial Za
  ·refine go 9 ?_
   exact Xa hsc () results166 (by unfold okW;rw [if_neg h264];simp_all<;>omega) trivial Za
theorem Bm(x:Int)(hx:bl x.natAbs≤65536):Cal prog 166 #[wv x] [] false (G:=Unit) (fun _=>True) (fun _=> .bool true) (fun _=>[]):=Zbt hx▸Zaa _ _
theorem Zlf(b:Bool)(s:ByteArray)(c:Bool)(t:ByteArray):Ok prog 154 #[.agg #[.bool b,.string s],.agg #[.bool c,.string t]] [] (.bool (okW b s && okW c t)):=by
 refine Zh func154 ntmps154 fun w0 sc hw hsc=>go 2 ?_
 refine Ya (Yl 1) fun b _=>Ya (Yl 2) fun b_2 _=>go 6 ?_
 refine cl 2 [] (Zaa _ _) fun _ _=>go 1 ?_
 refine Zfm (d:=7) J (fun s271=>?_) (fun s271=>?_)
 ·refine go 1 ?_
  refine Bl 2 [] (Zaa _ _) fun _ _=>go 5 ?_
  exact Xa hsc () results154 (by simp_all) trivial Za
 ·refine go 7 ?_
  exact Xa hsc () results154 (by simp_all) trivial Za
theorem Kj(x y:Int)(hx:bl x.natAbs≤65536)(hy:bl y.natAbs≤65536):Ok prog 154 #[wv x,wv y] [] (.bool true):=by
 have h:=Zlf (decide (x<0)) (Qb x.natAbs) (decide (y<0)) (Qb y.natAbs)
 rw [Zbt hx,Zbt hy]at h;exact h
theorem Il(x:Int)(hx:bl x.natAbs≤65536):Ok prog 194 #[wv x] [] (.int .i64 x.sign):=by
 refine Zh func194 ntmps194 fun w0 sc hw hsc=>go 2 ?_
 refine Ya (Yl 1) fun b _=>go 7 ?_
 refine cl 1 [] (Bm _ ‹_›) fun _ _=>go 9 ?_
 refine cl 2 [] (Qk _ _ (Xd _)) fun g hg=>cl 2 [2] (Zjr _ _ _ ‹_›) fun _ _=>go 4 ?_
 exact Xa hsc () results194 J trivial Za
theorem Ziq(x:Int)(hx:bl x.natAbs≤65536):Ok prog 196 #[wv x] [] (.int .i64 (bl x.natAbs:Int)):=by
 refine Zh func196 ntmps196 fun w0 sc hw hsc=>go 2 ?_
 refine Ya (Yl 1) fun b _=>go 7 ?_
 refine cl 1 [] (Bm _ ‹_›) fun _ _=>go 10 ?_
 refine cl 2 [] (Zcf _) fun v _=>cl 2 [2] (Zjt _ _) fun _ _=>go 4 ?_
 exact Xa hsc () results196 J trivial Za
theorem Ec(x y:Int)(hx:bl x.natAbs≤65536)(hy:bl y.natAbs≤65536):Ok prog 120 #[wv x,wv y] [] (Zbe (x+y)):=by
 refine Zh func120 ntmps120 fun w0 sc hw hsc=>?_
 have hb:=Ea x y
 refine go 2 ?_
 refine Ya (Yl 1) fun b _=>Ya (Yl 2) fun b_2 _=>Ya (Zs 3) fun b_3 _=>go 8 ?_
 refine cl 3 [] (Kj _ _ ‹_› ‹_›) fun _ _=>go 7 ?_
 refine Xx (fun _=>False) [(0,0),(2,0),(1,1),(3,1),(4,1),(5,1),(6,0),(7,0),(8,3),(9,3)]<|go 2 ?_
 refine Yh (Zj 4 [] (Qk _ _ (Xd _))) fun g hg=>Yh (Zj 5 [] (Qk _ _ (Xd _))) fun g_2 hg_2=>Yh (Zj 6 [4,5] (Zfb _ _ _ _ _ _ ‹_› ‹_›)) fun g_3 hg_3=>Yh (Zj 6 [6] (Ig _ _ _ ‹_›)) fun _ _=>go 7 ?_
 exact Mi hsc () results120 J trivial Za
theorem Yan(x y:Int)(hx:bl x.natAbs≤65536)(hy:bl y.natAbs≤65536):Ok prog 197 #[wv x,wv y] [] (Zbe (x-y)):=by
 refine Zh func197 ntmps197 fun w0 sc hw hsc=>?_
 have hb:=Dt x y
 have hny:=Zks y
 refine go 2 ?_
 refine Ya (Yl 1) fun b _=>Ya (Yl 2) fun b_2 _=>Ya (Zs 3) fun b_3 _=>go 8 ?_
 refine cl 3 [] (Kj _ _ ‹_› ‹_›) fun _ _=>go 7 ?_
 refine Xx (fun _=>False) [(0,0),(2,0),(1,1),(3,1),(4,1),(5,1),(6,1),(7,0),(8,0),(9,3),(10,3)]<|go 2 ?_
 refine Yh (Zj 4 [] (Qk _ _ (Xd _))) fun g hg=>Yh (Zj 5 [] (Qk _ _ (Xd _))) fun g_2 hg_2=>Yh (Zj 6 [5] (Znz _ _ _ ‹_›)) fun g_3 hg_3=>Yh (Zj 7 [4,6] (Zfb _ _ _ _ _ _ ‹_› ‹_›)) fun g_4 hg_4=>Yh (Zj 7 [7] (Ig _ _ _ ‹_› (by rw [←Int.sub_eq_add_neg];omega))) fun _ _=>go 7 ?_
 exact Mi hsc () results197 (by rw [Int.sub_eq_add_neg]<;>rfl) trivial Za
theorem Zej(x y:Int)(hx:bl x.natAbs≤65536)(hy:bl y.natAbs≤65536):Ok prog 153 #[wv x,wv y] [] (Zbe (x*y)):=by
 refine Zh func153 ntmps153 fun w0 sc hw hsc=>?_
 have hb:=Yd x y
 refine go 2 ?_
 refine Ya (Yl 1) fun b _=>Ya (Yl 2) fun b_2 _=>Ya (Zs 3) fun b_3 _=>go 8 ?_
 refine cl 3 [] (Kj _ _ ‹_› ‹_›) fun _ _=>go 7 ?_
 refine Xx (fun _=>False) [(0,0),(2,0),(1,1),(3,1),(4,1),(5,1),(6,0),(7,0),(8,3),(9,3)]<|go 2 ?_
 refine Yh (Zj 4 [] (Qk _ _ (Xd _))) fun g hg=>Yh (Zj 5 [] (Qk _ _ (Xd _))) fun g_2 hg_2=>Yh (Zj 6 [4,5] (Zcy _ _ _ _ _ _ ‹_› ‹_›)) fun g_3 hg_3=>Yh (Zj 6 [6] (Ig _ _ _ ‹_›)) fun _ _=>go 7 ?_
 exact Mi hsc () results153 J trivial Za
theorem Zpp(x y:Int)(hx:bl x.natAbs≤65536)(hy:bl y.natAbs≤65536):Ok prog 118 #[wv x,wv y] [] (Zbe (Int.gcd x y:Int)):=by
 refine Zh func118 ntmps118 fun w0 sc hw hsc=>?_
 have hb:=Zku x.natAbs y.natAbs
 refine go 2 ?_
 refine Ya (Yl 1) fun b _=>Ya (Yl 2) fun b_2 _=>Ya (Zs 3) fun b_3 _=>go 8 ?_
 refine cl 3 [] (Kj _ _ ‹_› ‹_›) fun _ _=>go 7 ?_
 refine Xx (fun _=>False) [(0,0),(1,0),(3,0),(4,0),(2,1),(5,1),(6,1),(7,0),(8,1),(9,0),(10,0),(11,3),(12,3)]<|go 4 ?_
 refine Yh (Zj 4 [] (Zcf _)) fun v _=>Yh (Zj 5 [] (Zcf _)) fun v_2 _=>Yh (Zj 6 [4,5] (Zn3 _ _ _ _)) fun v_3 _=>?_
 refine Qo J J (Qq (Xh (ivs:=[(0,_),(1,_)]) J K4 (fun a w hs=>Ly ((Zu J) a w hs) ((Na (i:=6) J Zn) a w hs))))<|Yh (Zj 6 [6] (Ig false _ (Int.gcd x y:Int) (by simp [sg]) (by show bl (Nat.gcd x.natAbs y.natAbs)≤_;omega))) fun _ _=>go 7 ?_
 exact Mi hsc () results118 J trivial Za
theorem Cc(x y:Int)(hx:bl x.natAbs≤65536)(hy:bl y.natAbs≤65536)(hy0:y≠0):Ok prog 198 #[wv x,wv y] [] (.tuple #[wv (Bs (x/y)),wv (Bs (x%y)),.int .i64 0]):=by
 refine Zh func198 ntmps198 fun w0 sc hw hsc=>?_
 have hb:=Zio x y
 have hb2:=Zpb x y hy0
 refine go 2 ?_
 refine Ya (Yl 1) fun b _=>Ya (Yl 2) fun b_2 _=>Ya (Zs 3) fun b_3 _=>Ya (Zs 4) fun b_4 _=>go 8 ?_
 refine cl 4 [] (Kj _ _ ‹_› ‹_›) fun _ _=>go 11 ?_
 refine dt (Zuc J J J J)<|go 2 ?_
 refine Zc J (fun h337=>?_) (fun h337=>?_)
 ·rw [Fo]at h337
  exfalso;exact hy0 (by have:=(Pv (by omega:2≤256) y.natAbs).1 h337;omega)
 ·refine go 2 ?_
  refine jn (G:=Bool×Value×Value×Nat×Nat) [4,5] [0,1,2,3,4] (fun q=>[(7,.pointer (some ⟨q.2.2.2.1,0,none⟩)),(8,.pointer (some ⟨q.2.2.2.2,0,none⟩))]) (fun q=>[(84,Fb q.2.1 (x/y).natAbs),(85,Fb q.2.2.1 (x%y).natAbs),(86,box q.2.2.2.1 171 #[.bool q.1,q.2.1]),(87,box q.2.2.2.2 171 #[.bool false,q.2.2.1])]) (fun q=>sg q.1 (x/y)) ?_ ?_
  ·refine Pm [1,2] [11]<|Zl (n:=10) [(0,0),(2,0)]<|go 3 ?_
   refine Zdt (n:=9) 1 8 9 ?_ ?_ ?_
   ·refine Nb (Zj 81 [] (Qk _ _ (Xd _))) fun g hg=>?_
    refine Zdt (n:=8) 3 8 9 ?_ ?_ ?_
    ·refine Nb (Zj 82 [] (Qk _ _ (Xd _))) fun g_2 hg_2=>?_
     refine Zdt (n:=7) 4 8 9 ?_ ?_ ?_
     ·refine Nb (Zj 84 [81,82] (Ng _ _ _ _ _ _ ‹_› ‹_› hy0)) fun g_3 hg_3=>?_
      refine Zl (n:=4) [(5,0),(6,0),(7,0)]<|go 4 ?_
      refine Qp (n:=3) 8 9 ?_ ?_
      ·refine Nb (Ql 86) fun b_5 ho=>?_
       refine Zl (n:=0) [(9,1),(10,1),(11,3)]<|Yh (Ql 87) fun b_6 ho2=>go 3 ?_
       exact Zp<|Pw (_,_,_,_,_) ‹_› K2 K4
      ·refine Nb (Ql 87) fun b_7 ho3=>?_
       refine Zl (n:=0) [(8,1),(10,1),(11,3)]<|Yh (Ql 86) fun b_8 ho4=>go 3 ?_
       exact Zp<|Pw (_,_,_,_,_) ‹_› K2 K4
     ·refine Nb (Ql 86) fun b_9 ho5=>?_
      refine Qp (n:=6) 4 9 ?_ ?_
      ·refine Nb (Zj 84 [81,82] (Ng _ _ _ _ _ _ ‹_› ‹_› hy0)) fun g_4 hg_4=>?_
       refine Zl (n:=0) [(5,0),(6,0),(7,0),(9,1),(10,1),(11,3)]<|go 3 ?_
       refine Yh (Ql 87) fun b_10 ho6=>go 3 ?_
       exact Zp<|Pw (_,_,_,_,_) ‹_› K2 K4
      ·refine Nb (Ql 87) fun b_11 ho7=>?_
       refine Zl (n:=0) [(4,1),(5,0),(6,0),(7,0),(10,1),(11,3)]<|Yh (Zj 84 [81,82] (Ng _ _ _ _ _ _ ‹_› ‹_› hy0)) fun g_5 hg_5=>go 6 ?_
       exact Zp<|Pw (_,_,_,_,_) ‹_› K2 K4
     ·refine Nb (Ql 87) fun b_12 ho8=>?_
      refine Qp (n:=6) 4 8 ?_ ?_
      ·refine Nb (Zj 84 [81,82] (Ng _ _ _ _ _ _ ‹_› ‹_› hy0)) fun g_6 hg_6=>?_
       refine Zl (n:=0) [(5,0),(6,0),(7,0),(8,1),(10,1),(11,3)]<|go 3 ?_
       refine Yh (Ql 86) fun b_13 ho9=>go 3 ?_
       exact Zp<|Pw (_,_,_,_,_) ‹_› K2 K4
      ·refine Nb (Ql 86) fun b_14 ho10=>?_
       refine Zl (n:=0) [(4,1),(5,0),(6,0),(7,0),(10,1),(11,3)]<|Yh (Zj 84 [81,82] (Ng _ _ _ _ _ _ ‹_› ‹_› hy0)) fun g_7 hg_7=>go 6 ?_
       exact Zp<|Pw (_,_,_,_,_) ‹_› K2 K4
    ·refine Nb (Ql 86) fun b_15 ho11=>?_
     refine Qp (n:=7) 3 9 ?_ ?_
     ·refine Nb (Zj 82 [] (Qk _ _ (Xd _))) fun g_8 hg_8=>?_
      refine Qp (n:=6) 4 9 ?_ ?_
      ·refine Nb (Zj 84 [81,82] (Ng _ _ _ _ _ _ ‹_› ‹_› hy0)) fun g_9 hg_9=>?_
       refine Zl (n:=0) [(5,0),(6,0),(7,0),(9,1),(10,1),(11,3)]<|go 3 ?_
       refine Yh (Ql 87) fun b_16 ho12=>go 3 ?_
       exact Zp<|Pw (_,_,_,_,_) ‹_› K2 K4
      ·refine Nb (Ql 87) fun b_17 ho13=>?_
       refine Zl (n:=0) [(4,1),(5,0),(6,0),(7,0),(10,1),(11,3)]<|Yh (Zj 84 [81,82] (Ng _ _ _ _ _ _ ‹_› ‹_› hy0)) fun g_10 hg_10=>go 6 ?_
       exact Zp<|Pw (_,_,_,_,_) ‹_› K2 K4
     ·refine Nb (Ql 87) fun b_18 ho14=>?_
      refine Zl (n:=0) [(3,1),(4,1),(5,0),(6,0),(7,0),(10,1),(11,3)]<|Yh (Zj 82 [] (Qk _ _ (Xd _))) fun g_11 hg_11=>Yh (Zj 84 [81,82] (Ng _ _ _ _ _ _ ‹_› ‹_› hy0)) fun g_12 hg_12=>go 6 ?_
      exact Zp<|Pw (_,_,_,_,_) ‹_› K2 K4
    ·refine Nb (Ql 87) fun b_19 ho15=>?_
     refine Qp (n:=7) 3 8 ?_ ?_
     ·refine Nb (Zj 82 [] (Qk _ _ (Xd _))) fun g_13 hg_13=>?_
      refine Qp (n:=6) 4 8 ?_ ?_
      ·refine Nb (Zj 84 [81,82] (Ng _ _ _ _ _ _ ‹_› ‹_› hy0)) fun g_14 hg_14=>?_
       refine Zl (n:=0) [(5,0),(6,0),(7,0),(8,1),(10,1),(11,3)]<|go 3 ?_
       refine Yh (Ql 86) fun b_20 ho16=>go 3 ?_
       exact Zp<|Pw (_,_,_,_,_) ‹_› K2 K4
      ·refine Nb (Ql 86) fun b_21 ho17=>?_
       refine Zl (n:=0) [(4,1),(5,0),(6,0),(7,0),(10,1),(11,3)]<|Yh (Zj 84 [81,82] (Ng _ _ _ _ _ _ ‹_› ‹_› hy0)) fun g_15 hg_15=>go 6 ?_
       exact Zp<|Pw (_,_,_,_,_) ‹_› K2 K4
     ·refine Nb (Ql 86) fun b_22 ho18=>?_
      refine Zl (n:=0) [(3,1),(4,1),(5,0),(6,0),(7,0),(10,1),(11,3)]<|Yh (Zj 82 [] (Qk _ _ (Xd _))) fun g_16 hg_16=>Yh (Zj 84 [81,82] (Ng _ _ _ _ _ _ ‹_› ‹_› hy0)) fun g_17 hg_17=>go 6 ?_
      exact Zp<|Pw (_,_,_,_,_) ‹_› K2 K4
   ·refine Nb (Ql 86) fun b_23 ho19=>?_
    refine Qp (n:=8) 1 9 ?_ ?_
    ·refine Nb (Zj 81 [] (Qk _ _ (Xd _))) fun g_18 hg_18=>?_
     refine Qp (n:=7) 3 9 ?_ ?_
     ·refine Nb (Zj 82 [] (Qk _ _ (Xd _))) fun g_19 hg_19=>?_
      refine Qp (n:=6) 4 9 ?_ ?_
      ·refine Nb (Zj 84 [81,82] (Ng _ _ _ _ _ _ ‹_› ‹_› hy0)) fun g_20 hg_20=>?_
       refine Zl (n:=0) [(5,0),(6,0),(7,0),(9,1),(10,1),(11,3)]<|go 3 ?_
       refine Yh (Ql 87) fun b_24 ho20=>go 3 ?_
       exact Zp<|Pw (_,_,_,_,_) ‹_› K2 K4
      ·refine Nb (Ql 87) fun b_25 ho21=>?_
       refine Zl (n:=0) [(4,1),(5,0),(6,0),(7,0),(10,1),(11,3)]<|Yh (Zj 84 [81,82] (Ng _ _ _ _ _ _ ‹_› ‹_› hy0)) fun g_21 hg_21=>go 6 ?_
       exact Zp<|Pw (_,_,_,_,_) ‹_› K2 K4
     ·refine Nb (Ql 87) fun b_26 ho22=>?_
      refine Zl (n:=0) [(3,1),(4,1),(5,0),(6,0),(7,0),(10,1),(11,3)]<|Yh (Zj 82 [] (Qk _ _ (Xd _))) fun g_22 hg_22=>Yh (Zj 84 [81,82] (Ng _ _ _ _ _ _ ‹_› ‹_› hy0)) fun g_23 hg_23=>go 6 ?_
      exact Zp<|Pw (_,_,_,_,_) ‹_› K2 K4
    ·refine Nb (Ql 87) fun b_27 ho23=>?_
     refine Zl (n:=0) [(1,1),(3,1),(4,1),(5,0),(6,0),(7,0),(10,1),(11,3)]<|Yh (Zj 81 [] (Qk _ _ (Xd _))) fun g_24 hg_24=>Yh (Zj 82 [] (Qk _ _ (Xd _))) fun g_25 hg_25=>Yh (Zj 84 [81,82] (Ng _ _ _ _ _ _ ‹_› ‹_› hy0)) fun g_26 hg_26=>go 6 ?_
     exact Zp<|Pw (_,_,_,_,_) ‹_› K2 K4
   ·refine Nb (Ql 87) fun b_28 ho24=>?_
    refine Qp (n:=8) 1 8 ?_ ?_
    ·refine Nb (Zj 81 [] (Qk _ _ (Xd _))) fun g_27 hg_27=>?_
     refine Qp (n:=7) 3 8 ?_ ?_
     ·refine Nb (Zj 82 [] (Qk _ _ (Xd _))) fun g_28 hg_28=>?_
      refine Qp (n:=6) 4 8 ?_ ?_
      ·refine Nb (Zj 84 [81,82] (Ng _ _ _ _ _ _ ‹_› ‹_› hy0)) fun g_29 hg_29=>?_
       refine Zl (n:=0) [(5,0),(6,0),(7,0),(8,1),(10,1),(11,3)]<|go 3 ?_
       refine Yh (Ql 86) fun b_29 ho25=>go 3 ?_
       exact Zp<|Pw (_,_,_,_,_) ‹_› K2 K4
      ·refine Nb (Ql 86) fun b_30 ho26=>?_
       refine Zl (n:=0) [(4,1),(5,0),(6,0),(7,0),(10,1),(11,3)]<|Yh (Zj 84 [81,82] (Ng _ _ _ _ _ _ ‹_› ‹_› hy0)) fun g_30 hg_30=>go 6 ?_
       exact Zp<|Pw (_,_,_,_,_) ‹_› K2 K4
     ·refine Nb (Ql 86) fun b_31 ho27=>?_
      refine Zl (n:=0) [(3,1),(4,1),(5,0),(6,0),(7,0),(10,1),(11,3)]<|Yh (Zj 82 [] (Qk _ _ (Xd _))) fun g_31 hg_31=>Yh (Zj 84 [81,82] (Ng _ _ _ _ _ _ ‹_› ‹_› hy0)) fun g_32 hg_32=>go 6 ?_
      exact Zp<|Pw (_,_,_,_,_) ‹_› K2 K4
    ·refine Nb (Ql 86) fun b_32 ho28=>?_
     refine Zl (n:=0) [(1,1),(3,1),(4,1),(5,0),(6,0),(7,0),(10,1),(11,3)]<|Yh (Zj 81 [] (Qk _ _ (Xd _))) fun g_33 hg_33=>Yh (Zj 82 [] (Qk _ _ (Xd _))) fun g_34 hg_34=>Yh (Zj 84 [81,82] (Ng _ _ _ _ _ _ ‹_› ‹_› hy0)) fun g_35 hg_35=>go 6 ?_
     exact Zp<|Pw (_,_,_,_,_) ‹_› K2 K4
  ·rintro⟨qb,qv,rv,b7,b8⟩ hq
   dsimp only at hq
   dsimp only
   refine go 3 ?_
   refine cl 4 [84] (Ig _ _ _ ‹_›) fun _ _=>go 9 ?_
   refine cl 4 [85] (Ig _ _ _ (Ygw x hy0)) fun _ _=>go 7 ?_
   refine Pm [4] [3,4]<|Zl (n:=0) [(1,0),(0,1),(2,1),(3,3),(4,3)]<|go 6 ?_
   refine Zp<|go 2 ?_
   exact xe3 hsc () results198 J trivial Za
theorem Zbd(s t:Bool)(v w:Value)(x y:Int)(hs:sg s x)(ht:sg t y)(hy0:y≠0)(hx:bl x.natAbs≤1000000000:=by omega)(hy:bl y.natAbs≤1000000000:=by omega):Ok prog 161 #[.agg #[.bool s,v],.agg #[.bool t,w]] [Fb v x.natAbs,Fb w y.natAbs] (Zap x y):=by
 refine Zh func161 ntmps161 fun w0 sc hw hsc=>?_
 have hb:=Zku x.natAbs y.natAbs
 have hg0:Pa x y≠0:=Zwl hy0
 have hgs:sg t (Pa x y):=Ygu ht hy0
 have hga:=Am x y
 have hq1:=Zio x (Pa x y)
 have hq2:=Zio y (Pa x y)
 refine go 2 ?_
 refine Ya (Yl 3) fun b _=>Ya (Yl 4) fun b_2 _=>Ya (Zs 5) fun b_3 _=>go 4 ?_
 refine Fw (fun _=>False) [9]<|Zl (n:=4) [(0,0),(1,0),(2,0),(3,0),(4,0),(5,0)]<|go 7 ?_
 refine Qp (n:=3) 6 8 ?_ ?_
 ·refine Nb (Zj 81 [1,2] (Zn3 _ _ _ _)) fun v _=>?_
  refine Zl (n:=0) [(7,0),(8,1),(9,3)]<|Qo J J (Qq (Xh (ivs:=[(0,_),(1,_)]) J K4 (fun a w hs=>Ly ((Zu J) a w hs) ((Na (i:=81) J Zn) a w hs))))<|Yh (Zs 82) fun b_4 _=>go 2 ?_
  refine Zp<|go 2 ?_
  refine Zg (Ia 81 (Zwk _ x y) J J)<|go 3 ?_
  refine cl 6 [1,81] (Ng _ _ _ _ x (Pa x y) hs hgs hg0 O (by rw [hga];omega)) fun g hg=>go 10 ?_
  refine cl 8 [2,81] (Ng _ _ _ _ y (Pa x y) ht hgs hg0 O (by rw [hga];omega)) fun g_2 hg_2=>go 9 ?_
  refine cl 9 [6] (Ig _ _ _ ‹_›) fun _ _=>go 3 ?_
  refine Ya (Zs 10) fun b_5 _=>go 7 ?_
  refine cl 10 [8] (Ig _ _ _ ‹_›) fun _ _=>go 3 ?_
  refine Ya (Zs 11) fun b_6 _=>go 10 ?_
  refine Ys (d:=43) J (fun s460=>?_) (fun s460=>?_)
  ·refine go 8 ?_
   refine dt (Xh (ivs:=[]) J trivial (fun a w hs=>Zse))<|go 6 ?_
   exact Mi hsc () results161 (Zao (by unfold Lg;first | exact .inl (Bh ‹_›) | exact .inr (Bh ‹_›))) trivial Za
  ·refine go 5 ?_
   refine Zc J (fun h460=>?_) (fun h460=>?_)
   ·refine go 2 ?_
    refine dt (Xh (ivs:=[]) J trivial (fun a w hs=>Zse))<|go 6 ?_
    exact Mi hsc () results161 (Zao (by unfold Lg;first | exact .inl (Bh ‹_›) | exact .inr (Bh ‹_›))) trivial Za
   ·refine go 6 ?_
    refine dt (Xh (ivs:=[(0,_),(1,_)]) J K4 (fun a w hs=>Zf2))<|go 5 ?_
    exact Mi hsc () results161 (Zql (Decidable.byContradiction ‹_›) (Decidable.byContradiction ‹_›)) trivial Za
 ·refine Nb (Zs 82) fun b_7 _=>?_
  refine Zl (n:=0) [(6,1),(7,0),(9,3)]<|Yh (Zj 81 [1,2] (Zn3 _ _ _ _)) fun v_2 _=>?_
  refine Qo J J (Qq (Xh (ivs:=[(0,_),(1,_)]) J K4 (fun a w hs=>Ly ((Zu J) a w hs) ((Na (i:=81) J Zn) a w hs))))<|go 2 ?_
  refine Zp<|go 2 ?_
  refine Zg (Ia 81 (Zwk _ x y) J J)<|go 3 ?_
  refine cl 12 [1,81] (Ng _ _ _ _ x (Pa x y) hs hgs hg0 O (by rw [hga];omega)) fun g_3 hg_3=>go 10 ?_
  refine cl 14 [2,81] (Ng _ _ _ _ y (Pa x y) ht hgs hg0 O (by rw [hga];omega)) fun g_4 hg_4=>go 9 ?_
  refine cl 15 [12] (Ig _ _ _ ‹_›) fun _ _=>go 3 ?_
  refine Ya (Zs 16) fun b_8 _=>go 7 ?_
  refine cl 16 [14] (Ig _ _ _ ‹_›) fun _ _=>go 3 ?_
  refine Ya (Zs 17) fun b_9 _=>go 10 ?_
  refine Ys (d:=43) J (fun s460_2=>?_) (fun s460_2=>?_)
  ·refine go 8 ?_
   refine dt (Xh (ivs:=[]) J trivial (fun a w hs=>Zse))<|go 6 ?_
   exact Mi hsc () results161 (Zao (by unfold Lg;first | exact .inl (Bh ‹_›) | exact .inr (Bh ‹_›))) trivial Za
  ·refine go 5 ?_
   refine Zc J (fun h460_2=>?_) (fun h460_2=>?_)
   ·refine go 2 ?_
    refine dt (Xh (ivs:=[]) J trivial (fun a w hs=>Zse))<|go 6 ?_
    exact Mi hsc () results161 (Zao (by unfold Lg;first | exact .inl (Bh ‹_›) | exact .inr (Bh ‹_›))) trivial Za
   ·refine go 6 ?_
    refine dt (Xh (ivs:=[(0,_),(1,_)]) J K4 (fun a w hs=>Zf2))<|go 5 ?_
    exact Mi hsc () results161 (Zql (Decidable.byContradiction ‹_›) (Decidable.byContradiction ‹_›)) trivial Za
theorem Cb(x y:Int)(hx:bl x.natAbs≤65536)(hy:bl y.natAbs≤65536)(hy0:y≠0:=by omega):Ok prog 122 #[wv x,wv y] [] (Zap x y):=by
 refine Zh func122 ntmps122 fun w0 sc hw hsc=>go 2 ?_
 refine Ya (Yl 1) fun b _=>Ya (Yl 2) fun b_2 _=>Ya (Zs 3) fun b_3 _=>go 8 ?_
 refine cl 3 [] (Kj _ _ ‹_› ‹_›) fun _ _=>go 11 ?_
 refine dt (Zuc J J J J)<|go 2 ?_
 refine Zc J (fun h471=>?_) (fun h471=>?_)
 ·rw [Fo]at h471
  exfalso;exact hy0 (by have:=(Pv (by omega:2≤256) y.natAbs).1 h471;omega)
 ·refine go 3 ?_
  refine Xx (fun _=>False) [(0,0),(2,0),(1,1),(3,1),(4,1),(5,0),(6,0),(7,3),(8,3)]<|go 2 ?_
  refine Yh (Zj 4 [] (Qk _ _ (Xd _))) fun g hg=>Yh (Zj 5 [] (Qk _ _ (Xd _))) fun g_2 hg_2=>Yh (Zj 5 [4,5] (Zbd _ _ _ _ _ _ ‹_› ‹_› hy0)) fun _ _=>go 7 ?_
  exact Mi hsc () results122 J trivial Za
theorem Zhq(b:Bool)(s:ByteArray)(c:Bool)(t:ByteArray):Ok prog 199 #[.agg #[.bool b,.string s,.bool c,.string t]] [] (.bool (okR b s c t)):=by
 refine Zh func199 ntmps199 fun w0 sc hw hsc=>go 2 ?_
 refine Ya (Yl 1) fun b _=>go 9 ?_
 refine cl 1 [] (Zlf _ _ _ _) fun _ _=>go 1 ?_
 refine Zfm (d:=8) J (fun s451=>?_) (fun s451=>?_)
 ·have hcc:okW c t=true:=by simp_all
  have hok:=Znw hcc
  obtain⟨hk1,hk2,hk3⟩:=Classical.choose_spec hok
  generalize Classical.choose hok=z at hk1 hk2 hk3 ⊢
  subst hk2;subst hk3
  try clear hok
  refine go 2 ?_
  refine Bl 1 [] (Il z hk1) fun _ _=>go 6 ?_
  exact Xa hsc () results199 (by first | rw [Zqz (by simp_all) hk1] | (unfold okR;simp_all)) trivial Za
 ·refine go 9 ?_
  exact Xa hsc () results199 (by first | rw [Zqz (by simp_all) hk1] | (unfold okR;simp_all)) trivial Za
theorem Mq(x y:Int)(hx:bl x.natAbs≤65536)(hy:bl y.natAbs≤65536)(hy0:0<y):Cal prog 199 #[rX x y] [] false (G:=Unit) (fun _=>True) (fun _=> .bool true) (fun _=>[]):=okR_wv hx hy hy0▸Zhq _ _ _ _
theorem Ye(x:Int)(hx:Pu x):Ok prog 71 #[.int .i64 x] [] (wv x):=by
 refine Zh func71 ntmps71 fun w0 sc hw hsc=>?_
 have hxa:=hx.1
 have hxb:=hx.2
 have hxU:x.natAbs<U:=by simp only [U];omega
 have hxl:bl x.natAbs≤64:=(Xn 64 _).2 (by rw [←Yf0];exact hxU)
 refine go 2 ?_
 refine Ya (Zs 1) fun b _=>go 5 ?_
 refine dt (Yis (r:=x%18446744073709551616) J J uT3 Zbf J)<|go 3 ?_
 refine jn (G:=Unit) [0,2] [0,1] (fun _=>[(3,.int .u64 ((x.natAbs:Nat):Int))]) (fun _=>[]) (fun _=>True) ?_ ?_
 ·refine go 6 ?_
  refine Zc J (fun h276=>?_) (fun h276=>?_)
  ·refine go 2 ?_
   refine dt (u_negm (r:=x.natAbs) J J O)<|go 2 ?_
   exact Pw () trivial ⟨by first | rfl | (rw [show x%18446744073709551616=((x.natAbs:Nat):Int) by omega];rfl),trivial⟩ trivial
  ·refine go 1 ?_
   exact Pw () trivial ⟨by first | rfl | (rw [show x%18446744073709551616=((x.natAbs:Nat):Int) by omega];rfl),trivial⟩ trivial
 ·rintro _ -
  refine go 5 ?_
  refine tt (Qg (i:=2) (ivs:=[(0,_)]) (enc:=Me) [x.natAbs] J J K2 Pt ti111 J J J J J pU.cells J J hw.h) fun v _=>cl 2 [2] (Oa _ _) fun _ _=>?_
  refine Xr (Zbb 2 J J pU)<|Xr (Zha 2 (Zf8 hxU) J J)<|dt (Xh (ivs:=[(0,_),(1,_)]) J K4 (fun a w hs=>Ly ((Zu J) a w hs) ((Na (i:=2) J (Yw pU)) a w hs)))<|cl 2 [2] (Ig _ _ x (Xd _)) fun _ _=>go 3 ?_
  refine Ya (Zs 3) fun b_2 _=>go 11 ?_
  exact Xa hsc () results71 (by rw [Mw O]<;>rfl) trivial Za
end Go.Sky

