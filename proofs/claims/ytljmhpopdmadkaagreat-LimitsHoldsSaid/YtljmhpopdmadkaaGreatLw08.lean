/- Rules, arithmetic and contracts: part 9. No conditions but those that each theorem names. -/
import Derived.Test.YtljmhpopdmadkaaGreatLw07
set_option linter.all false
namespace Go.Sky
open Go.Proofs.Tryz
open Go.Proofs
set_option synthInstance.maxHeartbeats 0
set_option synthInstance.maxSize 100000
set_option maxRecDepth 20000
set_option maxHeartbeats 4000000
set_option linter.unusedSimpArgs false
theorem Ydi(v:Value)(xs:List Nat):Cal prog 112 #[v] [Ym 1 Nt v xs] true (G:=Unit) (fun _=>True) (fun _=>Ld v (tz xs).length) (fun _=>[Ym 1 Nt (Ld v (tz xs).length) (tz xs)]):=by
 refine Zd func112 ntmps112 fun w0 sc hw hsc=>?_
 refine Nd (Zuc (i:=1) J Zo) (fun hself=>?_)
 refine Nd (Hq (i:=1) J Zo) fun hlen=>go 7 ?_
 refine lp (G:=Nat) [] [0] (fun k=>[(0,Ld v k)]) (fun k=>[(1,Ym 1 Nt (Ld v k) (xs.take k))]) (fun k=>(k≤xs.length)∧(tz (xs.take k)=tz xs)) (fun k=>k) xs.length ⟨Nat.le_refl _,by rw [List.take_length]⟩ ⟨by rw [hself];rfl,trivial⟩ ⟨by rw [hself,List.take_length];rfl,trivial⟩ ?_
 rintro k ⟨hk,ht⟩
 have hl:(xs.take k).length=k:=by rw [List.length_take];omega
 refine go 7 ?_
 refine Yu (d:=6) J (fun s21=>?_) (fun s21=>?_)
 ·refine go 4 ⟨O,?_⟩
  refine Ly (Yf (ii:=1) (i:=k-1) J J J J Zo Pe Lh) J J<|go 5 ⟨O,?_⟩
  refine Zc J (fun h21=>?_) (fun h21=>?_)
  ·have hstep:=Zvc hk O (by omega:(xs.take k).getD (k-1) 0=0)
   refine go 8 ⟨O,?_⟩
   refine dt (Zxl (ii:=1) (i:=k-1) J J J J Zo Pe Lh)<|go 3 ?_
   exact Yn (Yb2 1 1 (k-1) J J)<|Xb (k-1) ⟨O1,by rw [←ht,←hstep]⟩ O1 ⟨by rw [←Gh v k (k-1)];rfl,trivial⟩ ⟨by rw [Gh,List.take_take,Nat.min_eq_left O];rfl,trivial⟩
  ·refine go 12 ?_
   have hx:tz xs=xs.take k:=by rw [←ht];exact Zed hk O
   exact Xj hsc () results112 (by rw [hx,hl]) trivial (Mm 1 Za (by rw [hx,hl]))
 ·refine go 23 ?_
  have hx:tz xs=xs.take k:=by rw [←ht];exact Zed hk O
  exact Xj hsc () results112 (by rw [hx,hl]) trivial (Mm 1 Za (by rw [hx,hl]))
theorem Pn(v:Value)(xs:List Nat):Cal prog 112 #[v] [Ym 1 Nt v xs] false (G:=Unit) (fun _=>True) (fun _=>Ld v (tz xs).length) (fun _=>[]):=(Ydi v xs).bare
theorem Zwl(v w:Value)(x y:Nat)(hx:bl x≤4294967296)(hy:bl y≤4294967296):Cal prog 189 #[v,w] [Fj v x,Fj w y] false (G:=Value) (fun r=>True) (fun r=>r) (fun r=>[Fj r (x+y)]):=by
 refine Zd func189 ntmps189 fun w0 sc hw hsc=>?_
 have hX:=Ni x
 have hY:=Ni y
 refine go 5 ?_
 refine jn (G:=Value×Value×Nat×Nat) [] [0,1,2] (fun q=>[(0,q.1),(1,q.2.1)]) (fun q=>[(91,Fj q.1 q.2.2.1),(92,Fj q.2.1 q.2.2.2)]) (fun q=>(q.2.2.1+q.2.2.2=x+y)∧((dg U q.2.2.2).length≤(dg U q.2.2.1).length)∧((dg U q.2.2.1).length≤1099511627776)) ?_ ?_
 ·refine go 9 ?_
  refine Zc J (fun h73=>?_) (fun h73=>?_)
  ·refine go 6 ?_
   exact Yn (Pb 2 91 J J J)<|Yn (Pb 1 92 J J J)<|Qu (w,v,y,x) ⟨O1,O1,O1⟩ K2 K2
  ·refine go 1 ?_
   exact Yn (Pb 1 91 J J J)<|Yn (Pb 2 92 J J J)<|Qu (v,w,x,y) ⟨O1,O1,O1⟩ K2 K2
 ·rintro⟨va,vb,a,b⟩ ⟨hs,hl,hla⟩
  dsimp only at hs hl hla
  dsimp only
  refine go 5 ⟨O,?_⟩
  refine tt (Gf (i:=3) (n:=(dg U a).length+1) (by_:=8) (enc:=Nt) 0 J J J J Pe ti111 J pU.cells pU.pos J J J hw.h) J fun v _=>go 17 ?_
  refine lp (G:=Nat×List Nat×Nat) [0,1,5,21] [0,91,92,1,2] (fun q=>[(22,.int .i64 (q.1:Int)),(6,.int .u64 (q.2.2:Int))]) (fun q=>[(3,Ma 1 111 Nt v q.2.1)]) (fun q=>(q.1≤(dg U a).length)∧(q.2.1.length=(dg U a).length+1)∧(∀d∈q.2.1,d<U)∧(q.2.2≤1)∧(Yc U (q.2.1.take q.1)+q.2.2*U^q.1=Yc U ((dg U a).take q.1)+Yc U ((dg U b).take q.1))) (fun q=>(dg U a).length-q.1) (0,List.replicate ((dg U a).length+1) 0,0) ⟨O1,O5,Oa _ Xh,O1,by simp [Yc]⟩ K2 K1 ?_
  rintro⟨k,o,c⟩ ⟨hk,hol,hoa,hc,hv⟩
  dsimp only at hk hol hoa hc hv
  dsimp only
  refine go 6 ?_
  refine Zc J (fun h78=>?_) (fun h78=>?_)
  ·refine go 15 ?_
   refine jn (G:=Unit) [0,1,5,6,7,21,22] [0,3,91,92,1,2] (fun _=>[(8,.int .u64 ((dg U b).getD k 0:Int))]) (fun _=>[]) (fun _=>True) ?_ ?_
   ·refine go 8 ?_
    refine Zc J (fun h80=>?_) (fun h80=>?_)
    ·refine go 7 ⟨O2,O2,?_⟩
     try (have hz:(dg U b).getD k 0=0:=by simp [List.getD,List.getElem?_eq_none (by omega:(dg U b).length≤k)])
     exact Qu () trivial ⟨by first | rfl | (rw [hz];rfl),trivial⟩ trivial
    ·refine go 1 ?_
     try (have hz:(dg U b).getD k 0=0:=by simp [List.getD,List.getElem?_eq_none (by omega:(dg U b).length≤k)])
     exact Qu () trivial ⟨by first | rfl | (rw [hz];rfl),trivial⟩ trivial
   ·rintro _ -
    refine go 9 ⟨O2,O2,?_⟩
    refine dt (Zo2 J J J J O Zgq)<|go 4 ⟨O2,?_⟩
    refine tt (Mx (i:=3) (enc:=Nt) _ J J J J J J pU J hw.h O3 O2) J fun _ _=>go 8 ⟨O,?_⟩
    exact Xb (k+1,_,_) ⟨O1,O8,Ms hoa _ _ (Nat.mod_lt _ Xh),by have h1:=Xd Xh (Ok Xe a) k;have h2:=Xd Xh (Ok Xe b) k;simp only [U]at *;omega,Yge hv O⟩ O1 K2 K1
  ·refine go 6 ?_
   obtain rfl:k=(dg U a).length:=O
   refine go 6 ⟨O2,?_⟩
   refine tt (Mx (i:=3) (enc:=Nt) _ J J J J J J pU J hw.h O3 O2) J fun _ _=>go 5 ?_
   refine cl 3 [3] (Pn _ _) fun _ _=>?_
   refine Qn (Za1 3 J J pU)<|go 4 ?_
   have hx:tz (o.set (dg U a).length c)=dg U (x+y):=by
    rw [←Lt Xe _ (Ms hoa _ _ (by simp only [U];omega)),←hs]
    congr 1
    conv=>rhs;rw [←Nm Xe a,←Nm Xe b]
    rw [List.take_of_length_le (Nat.le_refl (dg U a).length),Nf U (dg U b) _ hl]at hv
    rw [←hv,←Ez U o _ c O,Nf _ _ _ O8]
   exact Xj hsc _ results189 J trivial (gow 3 Za hx)
theorem Ze2(v w:Value)(x y:Nat)(hx:bl x≤4294967296)(hxy:y≤x:=by omega):Cal prog 191 #[v,w] [Fj v x,Fj w y] false (G:=Value) (fun r=>True) (fun r=>r) (fun r=>[Fj r (x-y)]):=by
 refine Zd func191 ntmps191 fun w0 sc hw hsc=>?_
 have hX:=Ni x
 have hY:=Ni y
 have hm:=Ps hxy
 refine go 9 ?_
 refine tt (Gf (i:=3) (n:=(dg U x).length) (by_:=8) (enc:=Nt) 0 J J J J Pe ti111 J pU.cells pU.pos J J J hw.h) J fun v _=>go 17 ?_
 refine lp (G:=Nat×List Nat×Nat) [0,1,5,13] [0,1,2] (fun q=>[(14,.int .i64 (q.1:Int)),(6,.int .u64 (q.2.2:Int))]) (fun q=>[(3,Ma 1 111 Nt v q.2.1)]) (fun q=>(q.1≤(dg U x).length)∧(q.2.1.length=(dg U x).length)∧(∀d∈q.2.1,d<U)∧(q.2.2≤1)∧(Yc U (q.2.1.take q.1)+Yc U ((dg U y).take q.1)=Yc U ((dg U x).take q.1)+q.2.2*U^q.1)) (fun q=>(dg U x).length-q.1) (0,List.replicate ((dg U x).length) 0,0) ⟨O1,O5,Oa _ Xh,O1,by simp [Yc]⟩ K2 K1 ?_
 rintro⟨k,o,c⟩ ⟨hk,hol,hoa,hc,hv⟩
 dsimp only at hk hol hoa hc hv
 dsimp only
 refine go 6 ?_
 refine Zc J (fun h93=>?_) (fun h93=>?_)
 ·refine go 15 ?_
  refine jn (G:=Unit) [0,1,5,6,7,13,14] [0,3,1,2] (fun _=>[(8,.int .u64 ((dg U y).getD k 0:Int))]) (fun _=>[]) (fun _=>True) ?_ ?_
  ·refine go 8 ?_
   refine Zc J (fun h95=>?_) (fun h95=>?_)
   ·refine go 7 ⟨O2,O2,?_⟩
    try (have hz:(dg U y).getD k 0=0:=by simp [List.getD,List.getElem?_eq_none (by omega:(dg U y).length≤k)])
    exact Qu () trivial ⟨by first | rfl | (rw [hz];rfl),trivial⟩ trivial
   ·refine go 1 ?_
    try (have hz:(dg U y).getD k 0=0:=by simp [List.getD,List.getElem?_eq_none (by omega:(dg U y).length≤k)])
    exact Qu () trivial ⟨by first | rfl | (rw [hz];rfl),trivial⟩ trivial
  ·rintro _ -
   refine go 9 ⟨O2,O2,?_⟩
   refine dt (Yje J J J J O Zyr)<|go 4 ⟨O2,?_⟩
   refine tt (Mx (i:=3) (enc:=Nt) _ J J J J J J pU J hw.h O3 O2) J fun _ _=>go 8 ⟨O,?_⟩
   exact Xb (k+1,_,_) ⟨O1,O8,Ms hoa _ _ (Nat.mod_lt _ Xh),Yfz _ _ _,Ya9 hc (Xd Xh (Ok Xe x) k) (Xd Xh (Ok Xe y) k) hv O⟩ O1 K2 K1
 ·refine go 8 ?_
  refine cl 3 [3] (Pn _ _) fun _ _=>?_
  refine Qn (Za1 3 J J pU)<|go 4 ?_
  obtain rfl:k=(dg U x).length:=O
  have hx:tz o=dg U (x-y):=by
   rw [←Lt Xe _ hoa]
   congr 1
   have hly:(dg U y).length≤(dg U x).length:=O
   rw [Nf U o _ O,Nf U (dg U y) _ hly,Nf U (dg U x) _ (Nat.le_refl _),Nm Xe,Nm Xe]at hv
   have h1:=Zfw Xh o hoa
   rw [hol]at h1
   have h0:c=0∨c=1:=O
   rcases h0 with rfl | rfl<;>omega
  exact Xj hsc _ results191 J trivial (gow 3 Za hx)
theorem Zbk(v w:Value)(x y:Nat)(hx:bl x≤4294967296)(hy:bl y≤4294967296):Cal prog 190 #[v,w] [Fj v x,Fj w y] false (G:=Int) (fun r=>(r<0↔x<y)∧(0<r↔y<x)) (fun r=> .int .i64 r) (fun r=>[]):=by
 refine Zd func190 ntmps190 fun w0 sc hw hsc=>?_
 have hX:=Ni x
 have hY:=Ni y
 refine go 15 ?_
 refine Zc J (fun h57=>?_) (fun h57=>?_)
 ·refine go 12 ⟨O,?_⟩
  exact Xj hsc _ results190 J ⟨⟨fun h=>Af Xe O,fun h=>by have:=Ps (Nat.le_of_lt h);omega⟩,⟨fun h=>Af Xe O,fun h=>by have:=Ps (Nat.le_of_lt h);omega⟩⟩ Za
 ·have hlen:(dg U x).length=(dg U y).length:=O
  refine go 12 ⟨O,?_⟩
  refine lp (G:=Nat) [0,1] [0,1,2] (fun k=>[(5,.int .i64 ((k:Int)-1))]) (fun k=>[]) (fun k=>(k≤(dg U x).length)∧((dg U x).drop k=(dg U y).drop k)) (fun k=>k) (dg U x).length ⟨O1,by rw [List.drop_length,hlen,List.drop_length]⟩ K1 trivial ?_
  rintro k ⟨hk,hd⟩
  refine go 7 ?_
  refine Zc J (fun h60=>?_) (fun h60=>?_)
  ·refine go 6 ?_
   refine Xw (fun _=>False) [(0,0),(1,0),(2,0),(3,0),(4,0),(5,0),(6,0),(7,0),(8,0),(9,0)]<|go 2 ?_
   refine Qe J J (Qa (Yf (ii:=1) (i:=k-1) J J J J Zo Pe Lh))<|go 3 ⟨O2,?_⟩
   refine Qe J J (Qa (Yf (ii:=2) (i:=k-1) J J J J Zo Pe Lh))<|go 5 ⟨O2,?_⟩
   refine Zc J (fun h62=>?_) (fun h62=>?_)
   ·refine go 12 ?_
    have hlt:=Zo8 Xh (xs:=dg U x) (ys:=dg U y) (Ok Xe x) (k:=k-1) O O (by rw [show k-1+1=k by omega];exact hd) O
    rw [Nm Xe,Nm Xe]at hlt
    exact Xj hsc (-1) results190 J O Za
   ·refine go 1 ?_
    refine Xw (fun _=>False) [(0,0),(1,0),(2,0),(3,0),(4,0),(5,0),(6,0),(7,0),(8,0),(9,0)]<|go 2 ?_
    refine Qe J J (Qa (Yf (ii:=1) (i:=k-1) J J J J Zo Pe Lh))<|go 3 ⟨O2,?_⟩
    refine Qe J J (Qa (Yf (ii:=2) (i:=k-1) J J J J Zo Pe Lh))<|go 5 ⟨O2,?_⟩
    refine Zc J (fun h64=>?_) (fun h64=>?_)
    ·refine go 12 ?_
     have hlt:=Zo8 Xh (xs:=dg U y) (ys:=dg U x) (Ok Xe y) (k:=k-1) O O (by rw [show k-1+1=k by omega];exact hd.symm) O
     rw [Nm Xe,Nm Xe]at hlt
     exact Xj hsc 1 results190 J O Za
    ·refine go 9 ⟨O,?_⟩
     exact Xb (k-1) ⟨O1,by have:=Zfh (xs:=dg U x) (ys:=dg U y) (k:=k-1) O O (by rw [show k-1+1=k by omega];exact hd) O;exact this⟩ O1 ⟨by rw [show(((k-1:Nat):Int)-1)=(k:Int)-1-1 by omega];rfl,trivial⟩ trivial
  ·refine go 11 ?_
   obtain rfl:k=0:=O
   have heq:x=y:=(Zgl Xe).1 (by simpa using hd)
   exact Xj hsc 0 results190 J O Za
theorem Yf7(x y:Nat)(hx:x<U)(hy:y<U):Oo prog 144 #[.int .u64 (x:Int),.int .u64 (y:Int)] [] (.tuple #[.int .u64 ((x*y/U:Nat):Int),.int .u64 ((x*y%U:Nat):Int)]):=by
 refine Zd func144 ntmps144 fun w0 sc hw hsc=>?_
 simp only [U]at hx hy
 refine go 9 ?_
 refine dt (Zpx J J J hx)<|go 6 ?_
 refine dt (Ga (n:=32) (n':=4294967296) J J J J J)<|go 6 ?_
 refine dt (Zpx J J J hy)<|go 6 ?_
 refine dt (Ga (n:=32) (n':=4294967296) J J J J J)<|go 7 ?_
 refine dt (Ev J J J)<|go 7 ?_
 refine dt (Ev J J J)<|go 1 ?_
 refine dt (Ga (n:=32) (n':=4294967296) J J J J J)<|dt (Dy J J J)<|go 6 ?_
 refine dt (Zpx J J J (Nat.mod_lt _ Xh))<|go 6 ?_
 refine dt (Ga (n:=32) (n':=4294967296) J J J J J)<|go 8 ?_
 refine dt (Ev J J J)<|dt (Dy J J J)<|go 7 ?_
 refine dt (Ev J J J)<|go 1 ?_
 refine dt (Dy J J J)<|go 1 ?_
 refine dt (Ga (n:=32) (n':=4294967296) J J J J J)<|dt (Dy J J J)<|go 7 ?_
 refine dt (Ev J J J)<|go 4 ?_
 exact Nz hsc () results144 (by rw [Ydl hx hy _ _ rfl rfl]) trivial Za
theorem Zwj(v w:Value)(x y:Nat)(hx:bl x≤4294967296)(hy:bl y≤4294967296):Cal prog 215 #[v,w] [Fj v x,Fj w y] false (G:=Value) (fun r=>True) (fun r=>r) (fun r=>[Fj r (x*y)]):=by
 refine Zd func215 ntmps215 fun w0 sc hw hsc=>?_
 have hX:=Ni x
 have hY:=Ni y
 refine go 12 ⟨O,?_⟩
 refine tt (Gf (i:=3) (n:=(dg U x).length+(dg U y).length) (by_:=8) (enc:=Nt) 0 J J J J Pe ti111 J pU.cells pU.pos J J J hw.h) J fun v _=>go 12 ?_
 refine lp (G:=Nat×List Nat) [1,5,20,21] [0,1,2] (fun q=>[(22,.int .i64 (q.1:Int))]) (fun q=>[(3,Ma 1 111 Nt v q.2)]) (fun q=>(q.1≤(dg U x).length)∧(q.2.length=(dg U x).length+(dg U y).length)∧(∀d∈q.2,d<U)∧(∀j,q.1+(dg U y).length≤j→q.2.getD j 0=0)∧(Yc U (q.2.take (q.1+(dg U y).length))=Yc U ((dg U x).take q.1)*y)) (fun q=>(dg U x).length-q.1) (0,List.replicate ((dg U x).length+(dg U y).length) 0) ⟨O1,O5,Oa _ Xh,fun j _=>Lq _ j,by simp [Yc,List.take_replicate,Hh]⟩ K1 K1 ?_
 rintro⟨i,o⟩ ⟨hi,hol,hoa,hz,hv⟩
 dsimp only at hi hol hoa hz hv
 dsimp only
 refine go 6 ?_
 refine Zc J (fun h106=>?_) (fun h106=>?_)
 ·refine go 27 ⟨O2,O2,?_⟩
  refine lp (G:=Nat×List Nat×Nat) [1,5,6,7,20,21,22,27,28] [0,1,2] (fun q=>[(29,.int .i64 (q.1:Int)),(8,.int .u64 (q.2.2:Int))]) (fun q=>[(3,Ma 1 111 Nt v q.2.1)]) (fun q=>(q.1≤(dg U y).length)∧(q.2.1.length=(dg U x).length+(dg U y).length)∧(∀d∈q.2.1,d<U)∧(∀j,i+(dg U y).length≤j→q.2.1.getD j 0=0)∧(q.2.2<U)∧(Yc U (q.2.1.take (i+(dg U y).length))+q.2.2*U^(i+q.1)=Yc U ((dg U x).take i)*y+(dg U x).getD i 0*U^i*Yc U ((dg U y).take q.1))) (fun q=>(dg U y).length-q.1) (0,o,0) ⟨O1,hol,hoa,hz,Xh,by rw [hv];simp [Yc]⟩ K2 K1 ?_
  rintro⟨k,p,c⟩ ⟨hk,hpl,hpa,hpz,hcU,hpv⟩
  dsimp only at hk hpl hpa hpz hcU hpv
  dsimp only
  have hdig:=Zzk (Xd Xh (Ok Xe x) i) (Xd Xh (Ok Xe y) k) (Xd Xh hpa (i+k)) hcU
  refine go 6 ?_
  refine Zc J (fun h108=>?_) (fun h108=>?_)
  ·refine go 17 ⟨O2,O2,?_⟩
   refine cl 3 [] (Yf7 _ _ (Xd Xh (Ok Xe _) _) (Xd Xh (Ok Xe _) _)) fun _ _=>go 14 ⟨O,?_⟩
   refine dt (Yf (ii:=3) (i:=i+k) J J J J (Xa pU) Pe Lh)<|go 1 ⟨O2,?_⟩
   refine dt (Zo2 (c:=0) J J J J O Zgq)<|go 11 ?_
   refine dt (Dy J J J)<|go 7 ?_
   refine dt (Zo2 (c:=0) J J J J O Zgq)<|go 15 ⟨O,?_⟩
   refine dt (Dy J J J)<|dt (Yf (ii:=3) (i:=i+k) J J J J (Xa pU) Pe Lh)<|tt (Mx (i:=3) (enc:=Nt) _ J J J J J J pU J hw.h O3 O2) J fun _ _=>go 8 ⟨O,?_⟩
   exact Xb (k+1,_,_) ⟨O1,O8,Ms hpa _ _ (Nat.mod_lt _ Xh),fun j hj=>by rw [Px _ _ _ _ _ O,if_neg O];exact hpz j hj,hdig.2,Ydk hpv O O hdig.1⟩ O1 K2 K1
  ·refine go 5 ?_
   obtain rfl:k=(dg U y).length:=O
   have hfin:=hpv
   rw [List.take_of_length_le (Nat.le_refl (dg U y).length),Nm Xe]at hfin
   refine go 7 ⟨O,?_⟩
   refine dt (Yf (ii:=3) (i:=i+(dg U y).length) J J J J (Xa pU) Pe Lh)<|tt (Mx (i:=3) (enc:=Nt) _ J J J J J J pU J hw.h O3 O2) J fun _ _=>go 7 ⟨O,?_⟩
   exact Xb (i+1,_) ⟨O1,O8,Ms hpa _ _ hcU,fun j hj=>by rw [Px _ _ _ _ _ O,if_neg O];exact hpz j O,by dsimp only;rw [show i+1+(dg U y).length=i+(dg U y).length+1 by omega,Ez _ _ _ _ O,Xs,Nat.add_mul,←hfin]⟩ O1 K1 K1
 ·refine go 8 ?_
  refine cl 3 [3] (Pn _ _) fun _ _=>?_
  refine Qn (Za1 3 J J pU)<|go 4 ?_
  obtain rfl:i=(dg U x).length:=O
  have hx:tz o=dg U (x*y):=by
   rw [←Lt Xe _ hoa]
   congr 1
   rw [Nf U o _ O,List.take_of_length_le (Nat.le_refl _),Nm Xe]at hv
   exact hv
  exact Xj hsc _ results215 J trivial (gow 3 Za hx)
set_option maxHeartbeats 1000000 in
theorem Yf8(x:Nat)(hx:x<U):Oo prog 214 #[.int .u64 (x:Int)] [] (.int .i64 (bl x:Int)):=by
 refine Zd func214 ntmps214 fun w0 sc hw hsc=>?_
 simp only [U]at hx
 have e32:=It x 32
 have e16:=It x 16
 have e8:=It x 8
 have e24:=It x 24
 have e40:=It x 40
 have e48:=It x 48
 have e56:=It x 56
 have f32:=Zaz 32 x
 have f16:=Zaz 16 x
 have f8:=Zaz 8 x
 have f24:=Zaz 24 x
 have f40:=Zaz 40 x
 have f48:=Zaz 48 x
 have f56:=Zaz 56 x
 have d1:=Nat.div_div_eq_div_mul x (2^32) (2^16)
 have d2:=Nat.div_div_eq_div_mul x (2^32) (2^8)
 have d3:=Nat.div_div_eq_div_mul x (2^16) (2^8)
 have d4:=Nat.div_div_eq_div_mul (x/2^32) (2^16) (2^8)
 have d5:=Nat.div_div_eq_div_mul x (2^32) (2^16*2^8)
 simp only [Nat.reducePow,Nat.reduceMul]at *
 refine go 12 ?_
 refine Zc J (fun h338=>?_) (fun h338=>?_)
 ·refine go 3 ?_
  refine dt (Ga (n:=32) (n':=4294967296) J J J J J)<|go 14 ?_
  refine Zc J (fun h342=>?_) (fun h342=>?_)
  ·refine go 3 ?_
   refine dt (Ga (n:=16) (n':=65536) J J J J J)<|go 16 ⟨O,?_⟩
   refine Zc J (fun h346=>?_) (fun h346=>?_)
   ·refine go 3 ?_
    refine dt (Ga (n:=8) (n':=256) J J J J J)<|go 13 ⟨O,?_⟩
    refine dt (Zdb J J Za7 uT5)<|dt (Zhe J J J uT9 J O O3 O7)<|dt (Zaq J J uT5 uT3 (Be _))<|go 5 ⟨Er _ O O,?_⟩
    exact Xj hsc () results214 (Bd (n:=x) O (by first | omega | (simp only [Nat.div_div_eq_div_mul,Nat.reduceMul,e32,e16,e8,e24,e40,e48,e56];omega))).symm trivial Za
   ·refine go 6 ?_
    refine dt (Zdb J J Za7 uT5)<|dt (Zhe J J J uT9 J O O3 O7)<|dt (Zaq J J uT5 uT3 (Be _))<|go 5 ⟨Er _ O O,?_⟩
    exact Xj hsc () results214 (Bd (n:=x) O (by first | omega | (simp only [Nat.div_div_eq_div_mul,Nat.reduceMul,e32,e16,e8,e24,e40,e48,e56];omega))).symm trivial Za
  ·refine go 9 ?_
   refine Zc J (fun h346_2=>?_) (fun h346_2=>?_)
   ·refine go 3 ?_
    refine dt (Ga (n:=8) (n':=256) J J J J J)<|go 13 ⟨O,?_⟩
    refine dt (Zdb J J Za7 uT5)<|dt (Zhe J J J uT9 J O O3 O7)<|dt (Zaq J J uT5 uT3 (Be _))<|go 5 ⟨Er _ O O,?_⟩
    exact Xj hsc () results214 (Bd (n:=x) O (by first | omega | (simp only [Nat.div_div_eq_div_mul,Nat.reduceMul,e32,e16,e8,e24,e40,e48,e56];omega))).symm trivial Za
   ·refine go 6 ?_
    refine dt (Zdb J J Za7 uT5)<|dt (Zhe J J J uT9 J O O3 O7)<|dt (Zaq J J uT5 uT3 (Be _))<|go 5 ⟨Er _ O O,?_⟩
    exact Xj hsc () results214 (Bd (n:=x) O (by first | omega | (simp only [Nat.div_div_eq_div_mul,Nat.reduceMul,e32,e16,e8,e24,e40,e48,e56];omega))).symm trivial Za
 ·refine go 9 ?_
  refine Zc J (fun h342_2=>?_) (fun h342_2=>?_)
  ·refine go 3 ?_
   refine dt (Ga (n:=16) (n':=65536) J J J J J)<|go 16 ⟨O,?_⟩
   refine Zc J (fun h346_3=>?_) (fun h346_3=>?_)
   ·refine go 3 ?_
    refine dt (Ga (n:=8) (n':=256) J J J J J)<|go 13 ⟨O,?_⟩
    refine dt (Zdb J J Za7 uT5)<|dt (Zhe J J J uT9 J O O3 O7)<|dt (Zaq J J uT5 uT3 (Be _))<|go 5 ⟨Er _ O O,?_⟩
    exact Xj hsc () results214 (Bd (n:=x) O (by first | omega | (simp only [Nat.div_div_eq_div_mul,Nat.reduceMul,e32,e16,e8,e24,e40,e48,e56];omega))).symm trivial Za
   ·refine go 6 ?_
    refine dt (Zdb J J Za7 uT5)<|dt (Zhe J J J uT9 J O O3 O7)<|dt (Zaq J J uT5 uT3 (Be _))<|go 5 ⟨Er _ O O,?_⟩
    exact Xj hsc () results214 (Bd (n:=x) O (by first | omega | (simp only [Nat.div_div_eq_div_mul,Nat.reduceMul,e32,e16,e8,e24,e40,e48,e56];omega))).symm trivial Za
  ·refine go 9 ?_
   refine Zc J (fun h346_4=>?_) (fun h346_4=>?_)
   ·refine go 3 ?_
    refine dt (Ga (n:=8) (n':=256) J J J J J)<|go 13 ⟨O,?_⟩
    refine dt (Zdb J J Za7 uT5)<|dt (Zhe J J J uT9 J O O3 O7)<|dt (Zaq J J uT5 uT3 (Be _))<|go 5 ⟨Er _ O O,?_⟩
    exact Xj hsc () results214 (Bd (n:=x) O (by first | omega | (simp only [Nat.div_div_eq_div_mul,Nat.reduceMul,e32,e16,e8,e24,e40,e48,e56];omega))).symm trivial Za
   ·refine go 6 ?_
    refine dt (Zdb J J Za7 uT5)<|dt (Zhe J J J uT9 J O O3 O7)<|dt (Zaq J J uT5 uT3 (Be _))<|go 5 ⟨Er _ O O,?_⟩
    exact Xj hsc () results214 (Bd (n:=x) O (by first | omega | (simp only [Nat.div_div_eq_div_mul,Nat.reduceMul,e32,e16,e8,e24,e40,e48,e56];omega))).symm trivial Za
theorem Zpk(x:Nat)(hx:x<U):Oo prog 187 #[.int .u64 (x:Int)] [] (.int .i64 ((64-bl x:Nat):Int)):=by
 refine Zd func187 ntmps187 fun w0 sc hw hsc=>?_
 have hb:bl x≤64:=(Xo 64 x).2 hx
 refine go 8 ?_
 refine cl 0 [] (Yf8 _ hx) fun _ _=>go 5 ⟨O,?_⟩
 exact Xj hsc () results187 (by congr 1;omega) trivial Za
theorem Zjq(v:Value)(x:Nat)(hx:bl x≤1099511627776:=by omega):Oo prog 151 #[v] [Fj v x] (.int .i64 (bl x:Int)):=by
 refine Zd func151 ntmps151 fun w0 sc hw hsc=>?_
 have hX:=Ni x
 refine go 13 ?_
 refine Zc J (fun h39=>?_) (fun h39=>?_)
 ·refine go 7 ?_
  have h0:x=0:=(Ph Xe x).1 O
  exact Xj hsc () results151 (by rw [h0];rfl) trivial Za
 ·have hp:0<x:=by rcases Nat.eq_zero_or_pos x with rfl | h;(simp [Hb]at h39);exact h
  obtain⟨z1,z2,z3,z4⟩:=Zvp hp
  refine go 11 ⟨O,O,?_⟩
  refine dt (Yf (ii:=1) (i:=(dg U x).length-1) J J J J Zo Pe Lh)<|go 1 ⟨O2,?_⟩
  refine cl 1 [] (Zpk _ (Xd Xh (Ok Xe _) _)) fun _ _=>go 5 ⟨O,?_⟩
  exact Xj hsc () results151 (by congr 1;omega) trivial Za
theorem Yab(v:Value)(xs:List Nat)(hx:xs.length*8≤140737488355328):Ykk prog 237 #[v] [Ym 1 Nt v xs] (G:=Value) (fun r=>True) (fun r=>r) (fun r=>Ma 1 111 Nt r xs):=by
 refine Zx3 func237 J ntmps237 J K1 ?_
 intro w0 sc hw hsc;have hw:=Hw.mk hw
 simp only [Po,Xx]
 refine Nd (f_nil (i:=1) J Zo) fun hnil=>go 9 ?_
 refine dt (Zxn J J J (i:=1) J Zo Pe)<|go 2 ?_
 refine Nw J (fun h357=>?_) (fun h357=>?_)
 ·refine go 7 ?_
  obtain rfl:xs=[]:=hnil (by simpa using h357)
  exact Yn (Np 9 1 111 Nt)<|Zm3 (.inl J) (.slice none 0 0) _ (fun a w hs=>Zep hs results237 J) J trivial J 9 J J J
 ·refine go 4 ?_
  refine tt (t_bs0 (i:=2) (enc:=Nt) J J J Pe pU J hw.h) J fun v _=>go 1 ?_
  refine tt (Kq (i:=2) (j:=1) (by_:=8) J J J J J J O3 J Zo Pe ti111 J pU J J J O8 O3 J hw.h) J fun v_2 _=>go 4 ?_
  exact Zm3 (.inl J) _ _ (fun a w hs=>Zep hs results237 J) J trivial J 2 J (by rfl) J
set_option maxHeartbeats 1600000 in
theorem Zsi(h l y:Nat)(hl:l<U)(hy:y<U)(hh:h<y):Oo prog 220 #[.int .u64 (h:Int),.int .u64 (l:Int),.int .u64 (y:Int)] [] (.tuple #[.int .u64 (((h*U+l)/y:Nat):Int),.int .u64 (((h*U+l)%y:Nat):Int)]):=by
 refine Zd func220 ntmps220 fun w0 sc hw hsc=>?_
 have hUe:U=18446744073709551616:=rfl
 have hp:0<y:=O
 have hbl:bl y≤64:=(Xo 64 y).2 hy
 obtain⟨s,hs⟩:∃s,s=64-bl y:=⟨_,rfl⟩
 obtain⟨Y,hYe⟩:∃Y,Y=y*2^s:=⟨_,rfl⟩
 obtain⟨hY1,hY2⟩:=Ydd hp hy hs
 rw [←hYe]at hY1 hY2
 have hYU:=hY2
 obtain⟨D,hD⟩:∃D,D=(h*U+l)*2^s:=⟨_,rfl⟩
 obtain⟨u,hue⟩:∃u,u=D/U:=⟨_,rfl⟩
 obtain⟨v,hve⟩:∃v,v=D%U:=⟨_,rfl⟩
 obtain⟨v1,hv1e⟩:∃x,x=v/4294967296:=⟨_,rfl⟩
 obtain⟨v0,hv0e⟩:∃x,x=v%4294967296:=⟨_,rfl⟩
 obtain⟨y1,hy1e⟩:∃x,x=Y/4294967296:=⟨_,rfl⟩
 obtain⟨y0,hy0e⟩:∃x,x=Y%4294967296:=⟨_,rfl⟩
 have hYs:Y=y1*4294967296+y0:=O
 have hhs:=shl_lt hh (show y*2^s<U by rw [←hYe];exact hY2)
 have huY:u<Y:=by rw [hue,hD,hYe];exact top_lt hl hh
 have hu:u<y1*4294967296+y0:=O
 have hvU:v<U:=by rw [hve];exact Nat.mod_lt _ Xh
 have hy1:2147483648≤y1:=O
 have hy1l:y1<4294967296:=O
 have hy0:y0<4294967296:=O
 have hv1:v1<4294967296:=O
 have hv0:v0<4294967296:=O
 obtain⟨Q1,hQ1⟩:∃x,x=(u*4294967296+v1)/Y:=⟨_,rfl⟩
 obtain⟨t,hte⟩:∃x,x=(u*4294967296+v1)%Y:=⟨_,rfl⟩
 have htY:t<Y:=by rw [hte];exact Nat.mod_lt _ O
 have ht:t<y1*4294967296+y0:=O
 obtain⟨Q0,hQ0⟩:∃x,x=(t*4294967296+v0)/Y:=⟨_,rfl⟩
 have hY0:0<Y:=O
 obtain⟨hd1,hd2⟩:=dv_two (D:=D) hY0 hue hve hv1e hv0e
 rw [←hQ1,←hte,←hQ0]at hd1
 rw [←hte]at hd2
 have hQ0l:Q0<4294967296:=by rw [hQ0,hYs];exact dv_Q hv0 ht
 have hQ1l:Q1<4294967296:=by rw [hQ1,hYs];exact dv_Q hv1 hu
 refine go 13 ?_
 refine Zc J (fun h519=>?_) (fun h519=>?_)
 ·exfalso;omega
 ·refine go 10 ?_
  refine Zc J (fun h522=>?_) (fun h522=>?_)
  ·exfalso;omega
  ·refine go 9 ?_
   refine Zc J (fun h527=>?_) (fun h527=>?_)
   ·refine go 1 ?_
    refine Xw (fun _=>False) [(0,0),(1,0),(2,0),(3,0),(4,0),(5,0),(6,0),(7,3)]<|go 2 ?_
    refine Qe J J (Qa (Yau J J J))<|go 2 ?_
    refine Qe J J (Qa (u_rem J J J O))<|go 6 ?_
    exact Nz hsc () results220 (by have h0:h=0:=O;rw [h0];simp) trivial Za
   ·refine go 5 ?_
    refine cl 0 [] (Zpk _ hy) fun _ _=>?_
    refine dt (Zun J J uT3 underlying155 (by simp only [U];omega))<|go 4 ?_
    refine Ze (My 8 (v':= .int .u64 (s:Int)) J (by rw [hs]))<|go 3 ?_
    refine dt (Zlp J J J J)<|go 4 ?_
    refine Ze (My 2 (v':= .int .u64 (Y:Int)) J (by rw [hYe,Nat.mod_eq_of_lt (by rw [←hYe];exact hYU)]))<|go 2 ?_
    refine dt (Ga (n:=32) (n':=4294967296) J J J J J)<|go 6 ?_
    refine dt (Zpx J J J)<|go 7 ?_
    refine dt (Zlp J J J J)<|go 2 ?_
    refine dt (Zc3 J J J (by first | exact Nat.mod_lt _ Xh | omega))<|dt (Zlo J J (n:=64-s) J (by simp only [U];omega))<|dt (Ygw J J J (Nat.mod_lt _ Xh) (Nat.lt_of_le_of_lt (Nat.div_le_self _ _) hl))<|go 4 ?_
    refine Ze (My 11 (v':= .int .u64 (u:Int)) J (by rw [hue,hD,Yc4 O hhs hl]))<|go 3 ?_
    refine dt (Zlp J J J J)<|go 4 ?_
    refine Ze (My 12 (v':= .int .u64 (v:Int)) J (by rw [hve,hD,Zzm h l s]))<|go 2 ?_
    refine dt (Ga (n:=32) (n':=4294967296) J J J J J)<|go 4 ?_
    refine Ze (My 13 (v':= .int .u64 (v1:Int)) J (by rw [hv1e]))<|go 2 ?_
    refine dt (Zpx J J J)<|go 4 ?_
    refine Ze (My 14 (v':= .int .u64 (v0:Int)) J (by rw [Zsm,hv0e]))<|Ze (My 9 (v':= .int .u64 (y1:Int)) J (by rw [hy1e]))<|Ze (My 10 (v':= .int .u64 (y0:Int)) J (by rw [Zsm,hy0e]))<|go 3 ?_
    refine dt (Yau J J J)<|go 8 ?_
    refine dt (Ev J J J)<|dt (Zc3 J J J (by first | exact Nat.mod_lt _ Xh | omega))<|go 3 ?_
    refine jn (G:=Unit) [2,8,9,10,11,13,14] [0] (fun _=>[(15,.int .u64 ((Q1:Nat):Int))]) (fun _=>[]) (fun _=>True) ?_ ?_
    ·refine go 1 ?_
     refine Ze (My 16 (v':= .int .u64 ((u%y1:Nat):Int)) J (by rw [rsub O O]))<|lp (G:=Nat×Nat) [2,8,9,10,11,13,14] [0] (fun q=>[(15,.int .u64 (q.1:Int)),(16,.int .u64 (q.2:Int))]) (fun q=>[]) (fun q=>(dvI u v1 y1 y0 q.1 q.2)∧(q.2<4294967296)) (fun q=>q.1) (u/y1,u%y1) ⟨dv0 hy1 hy1l hy0 hv1 hu,Nat.lt_trans (Nat.mod_lt _ O) hy1l⟩ K2 trivial ?_
     rintro⟨a,r⟩ ⟨hI,hr⟩
     dsimp only at hI hr
     dsimp only
     have hI1:=hI.1
     have hI2:=hI.2.1
     refine go 6 ?_
     refine Yu (d:=69) J (fun s547=>?_) (fun s547=>?_)
     ·refine go 16 ?_
      have hst:=Zh8 O hI hv1 hu O
      have hst1:=hst.1
      refine go 2 ?_
      refine dt (Zc3 (n:=1) J J J)<|go 4 ?_
      refine Ze (My 15 (v':= .int .u64 ((a-1:Nat):Int)) J (Ap (Zr0 hst1 O)))<|go 3 ?_
      refine dt (Dy J J J)<|go 4 ?_
      refine Ze (My 16 (v':= .int .u64 ((r+y1:Nat):Int)) J (Ap (Nat.mod_eq_of_lt O)))<|go 5 ?_
      refine Zc J (fun h550=>?_) (fun h550=>?_)
      ·refine go 4 ?_
       have hq:Q1=a-1:=by rw [hQ1,hYs];exact(Zff O hy0 hst.2 O O).symm
       exact Qu () trivial ⟨by rw [hq];rfl,trivial⟩ trivial
      ·refine go 2 ?_
       exact Xb (a-1,r+y1) ⟨hst.2,O9⟩ O1 K2 trivial
     ·have hm1:=Zq4 (show a<4294967296 by omega) hy0
      have e1:=Nat.mod_eq_of_lt (show a*y0<U from hm1)
      have e2:=Nat.mod_eq_of_lt (show 4294967296*r<U by omega)
      have e3:=Nat.mod_eq_of_lt (show 4294967296*r+v1<U by omega)
      refine go 2 ?_
      refine Ly (Ev J J J) J J<|go 1 ?_
      refine Ly (Ev J J J) J J<|go 1 ?_
      refine Ly (Dy J J J) J J<|go 4 ?_
      refine Zc J (fun h547=>?_) (fun h547=>?_)
      ·rw [e1,e2,e3]at h547
       refine go 4 ?_
       have hst:=Zh8 O hI hv1 hu O
       have hst1:=hst.1
       refine go 2 ?_
       refine dt (Zc3 (n:=1) J J J)<|go 4 ?_
       refine Ze (My 15 (v':= .int .u64 ((a-1:Nat):Int)) J (Ap (Zr0 hst1 O)))<|go 3 ?_
       refine dt (Dy J J J)<|go 4 ?_
       refine Ze (My 16 (v':= .int .u64 ((r+y1:Nat):Int)) J (Ap (Nat.mod_eq_of_lt O)))<|go 5 ?_
       refine Zc J (fun h550_2=>?_) (fun h550_2=>?_)
       ·refine go 4 ?_
        have hq:Q1=a-1:=by rw [hQ1,hYs];exact(Zff O hy0 hst.2 O O).symm
        exact Qu () trivial ⟨by rw [hq];rfl,trivial⟩ trivial
       ·refine go 2 ?_
        exact Xb (a-1,r+y1) ⟨hst.2,O9⟩ O1 K2 trivial
      ·rw [e1,e2,e3]at h547
       refine go 4 ?_
       have hq:Q1=a:=by rw [hQ1,hYs];exact(Zo1 O hI O).symm
       exact Qu () trivial ⟨by rw [hq];rfl,trivial⟩ trivial
    ·rintro _ -
     refine go 3 ?_
     refine dt (Ev J J J)<|go 1 ?_
     refine dt (Dy J J J)<|go 2 ?_
     refine dt (Ev J J J)<|dt (Zc3 J J J (by first | exact Nat.mod_lt _ Xh | omega))<|go 4 ?_
     refine Ze (My 17 (v':= .int .u64 (t:Int)) J (by rw [hte,hQ1,Zxf hY0 hYU]))<|go 3 ?_
     refine dt (Yau J J J)<|go 8 ?_
     refine dt (Ev J J J)<|dt (Zc3 J J J (by first | exact Nat.mod_lt _ Xh | omega))<|go 3 ?_
     refine jn (G:=Unit) [2,8,14,15,17] [0] (fun _=>[(18,.int .u64 ((Q0:Nat):Int))]) (fun _=>[]) (fun _=>True) ?_ ?_
     ·refine go 1 ?_
      refine Ze (My 16 (v':= .int .u64 ((t%y1:Nat):Int)) J (by rw [rsub O O]))<|lp (G:=Nat×Nat) [2,8,9,10,14,15,17] [0] (fun q=>[(18,.int .u64 (q.1:Int)),(16,.int .u64 (q.2:Int))]) (fun q=>[]) (fun q=>(dvI t v0 y1 y0 q.1 q.2)∧(q.2<4294967296)) (fun q=>q.1) (t/y1,t%y1) ⟨dv0 hy1 hy1l hy0 hv0 ht,Nat.lt_trans (Nat.mod_lt _ O) hy1l⟩ K2 trivial ?_
      rintro⟨a,r⟩ ⟨hI,hr⟩
      dsimp only at hI hr
      dsimp only
      have hI1:=hI.1
      have hI2:=hI.2.1
      refine go 6 ?_
      refine Yu (d:=104) J (fun s559=>?_) (fun s559=>?_)
      ·refine go 16 ?_
       have hst:=Zh8 O hI hv0 ht O
       have hst1:=hst.1
       refine go 2 ?_
       refine dt (Zc3 (n:=1) J J J)<|go 4 ?_
       refine Ze (My 18 (v':= .int .u64 ((a-1:Nat):Int)) J (Ap (Zr0 hst1 O)))<|go 3 ?_
       refine dt (Dy J J J)<|go 4 ?_
       refine Ze (My 16 (v':= .int .u64 ((r+y1:Nat):Int)) J (Ap (Nat.mod_eq_of_lt O)))<|go 5 ?_
       refine Zc J (fun h562=>?_) (fun h562=>?_)
       ·refine go 4 ?_
        have hq:Q0=a-1:=by rw [hQ0,hYs];exact(Zff O hy0 hst.2 O O).symm
        exact Qu () trivial ⟨by rw [hq];rfl,trivial⟩ trivial
       ·refine go 2 ?_
        exact Xb (a-1,r+y1) ⟨hst.2,O9⟩ O1 K2 trivial
      ·have hm1:=Zq4 (show a<4294967296 by omega) hy0
       have e1:=Nat.mod_eq_of_lt (show a*y0<U from hm1)
       have e2:=Nat.mod_eq_of_lt (show 4294967296*r<U by omega)
       have e3:=Nat.mod_eq_of_lt (show 4294967296*r+v0<U by omega)
       refine go 2 ?_
       refine Ly (Ev J J J) J J<|go 1 ?_
       refine Ly (Ev J J J) J J<|go 1 ?_
       refine Ly (Dy J J J) J J<|go 4 ?_
       refine Zc J (fun h559=>?_) (fun h559=>?_)
       ·rw [e1,e2,e3]at h559
        refine go 4 ?_
        have hst:=Zh8 O hI hv0 ht O
        have hst1:=hst.1
        refine go 2 ?_
        refine dt (Zc3 (n:=1) J J J)<|go 4 ?_
        refine Ze (My 18 (v':= .int .u64 ((a-1:Nat):Int)) J (Ap (Zr0 hst1 O)))<|go 3 ?_
        refine dt (Dy J J J)<|go 4 ?_
        refine Ze (My 16 (v':= .int .u64 ((r+y1:Nat):Int)) J (Ap (Nat.mod_eq_of_lt O)))<|go 5 ?_
        refine Zc J (fun h562_2=>?_) (fun h562_2=>?_)
        ·refine go 4 ?_
         have hq:Q0=a-1:=by rw [hQ0,hYs];exact(Zff O hy0 hst.2 O O).symm
         exact Qu () trivial ⟨by rw [hq];rfl,trivial⟩ trivial
        ·refine go 2 ?_
         exact Xb (a-1,r+y1) ⟨hst.2,O9⟩ O1 K2 trivial
       ·rw [e1,e2,e3]at h559
        refine go 4 ?_
        have hq:Q0=a:=by rw [hQ0,hYs];exact(Zo1 O hI O).symm
        exact Qu () trivial ⟨by rw [hq];rfl,trivial⟩ trivial
     ·rintro _ -
      refine go 3 ?_
      refine dt (Ev J J J)<|go 1 ?_
      refine dt (Dy J J J)<|go 1 ?_
      refine dt (Ev J J J)<|go 1 ?_
      refine dt (Dy J J J)<|go 2 ?_
      refine dt (Ev J J J)<|dt (Zc3 J J J (by first | exact Nat.mod_lt _ Xh | omega))<|go 1 ?_
      refine dt (Zlo J J J J)<|go 5 ?_
      have hA:(Q1*4294967296%U+Q0)%U=(h*U+l)/y:=by rw [←Zlw _ y s,←hD,←hYe,hd1];simp only [U];omega
      have hB:((t*4294967296%U+v0)%U+(U-(Q0*Y)%U))%U/2^s=(h*U+l)%y:=by rw [←Zlv _ y s,←hD,←hYe,hd2,hQ0,Zxf hY0 hYU]
      exact Nz hsc () results220 (by rw [hA,hB]) trivial Za
theorem Zzj(v:Value)(x d:Nat)(hx:bl x≤8589934592)(hd:0<d)(hdU:d<U):Cal prog 218 #[v,.int .u64 (d:Int)] [Fj v x] false (G:=Value) (fun r=>True) (fun r=> .tuple #[r,.int .u64 ((x%d:Nat):Int)]) (fun r=>[Fj r (x/d)]):=by
 refine Zd func218 ntmps218 fun w0 sc hw hsc=>?_
 have hX:=Ni x
 refine go 10 ?_
 refine tt (Gf (i:=2) (n:=(dg U x).length) (by_:=8) (enc:=Nt) 0 J J J J Pe ti111 J pU.cells pU.pos J J J hw.h) J fun v _=>go 18 ⟨O,?_⟩
 refine lp (G:=Nat×List Nat×Nat) [0,1,6] [0,1] (fun q=>[(8,.int .i64 ((q.1:Int)-1)),(7,.int .u64 (q.2.2:Int))]) (fun q=>[(2,Ma 1 111 Nt v q.2.1)]) (fun q=>(q.1≤(dg U x).length)∧(q.2.1.length=(dg U x).length)∧(q.2.2<d)∧(∀d∈q.2.1,d<U)∧(Yc U (q.2.1.drop q.1)*d+q.2.2=Yc U ((dg U x).drop q.1))) (fun q=>q.1) ((dg U x).length,List.replicate (dg U x).length 0,0) ⟨Nat.le_refl _,O5,O1,Oa _ Xh,by simp [Yc]⟩ K2 K1 ?_
 rintro⟨k,o,r⟩ ⟨hk,hol,hr,hall,hv⟩
 dsimp only at hk hol hr hall hv
 dsimp only
 refine go 7 ?_
 refine Zc J (fun h158=>?_) (fun h158=>?_)
 ·refine go 10 ?_
  refine dt (Yf (ii:=1) (i:=k-1) J J J J Zo Pe Lh)<|go 2 ⟨O2,?_⟩
  refine cl 2 [] (Zsi _ _ _ (Xd Xh (Ok Xe _) _) hdU hr) fun _ _=>go 3 ?_
  refine dt (Yf (ii:=2) (i:=k-1) J J J J (Xa pU) Pe Lh)<|tt (Mx (i:=2) (enc:=Nt) _ J J J J J J pU J hw.h O3 O2) J fun _ _=>go 9 ⟨O,?_⟩
  exact Xb (k-1,_,_) ⟨O1,O8,Nat.mod_lt _ hd,Ms hall _ _ (Zrr (Xd Xh (Ok Xe x) _) hr),Zs3 hd O O (by rw [show k-1+1=k by omega];exact hv)⟩ O1 ⟨by rw [show(((k-1:Nat):Int)-1)=(k:Int)-1-1 by omega];rfl,rfl,trivial⟩ K1
 ·refine go 8 ?_
  refine cl 2 [2] (Pn _ _) fun _ _=>?_
  refine Qn (Za1 2 J J pU)<|go 6 ?_
  obtain rfl:k=0:=O
  rw [List.drop_zero,List.drop_zero,Nm Xe]at hv
  have hq:tz o=dg U (x/d):=by
   rw [←Lt Xe _ hall,←hv,Nat.mul_comm,Nat.mul_add_div hd,Nat.div_eq_of_lt hr,Nat.add_zero]
  have hm:r=x%d:=by rw [←hv,Nat.mul_comm,Nat.mul_add_mod,Nat.mod_eq_of_lt hr]
  exact Nz hsc _ results218 (by rw [hm]) trivial (gow 2 Za hq)
theorem Zn7(v:Value)(x s:Nat)(hx:bl x≤4294967296:=by omega)(hs:s≤4294967296:=by omega):Cal prog 219 #[v,.int .i64 (s:Int)] [Fj v x] false (G:=Value) (fun r=>True) (fun r=>r) (fun r=>[Fj r (x*2^s)]):=by
 refine Zd func219 ntmps219 fun w0 sc hw hsc=>?_
 obtain⟨w,hwe⟩:∃w,w=s/64:=⟨_,rfl⟩
 obtain⟨b,hbe⟩:∃b,b=s%64:=⟨_,rfl⟩
 have hX:=Ni x
 refine go 13 ?_
 refine Zc J (fun h122=>?_) (fun h122=>?_)
 ·refine go 7 ?_
  refine Yn (Np 9 1 111 Nt) ?_
  have hx0:x=0:=(Ph Xe x).1 O
  exact Xj hsc (.slice none 0 0) results219 J trivial (gow 9 Za (by rw [hx0,Nat.zero_mul];rfl))
 ·refine go 5 ?_
  refine dt (Zda J J J)<|go 1 ?_
  refine dt (Zkk J J J)<|go 5 ?_
  refine Ze (My 5 (v':= .int .i64 (w:Int)) J (by congr 1;omega))<|Ze (My 6 (v':= .int .i64 (b:Int)) J (by congr 1;omega))<|go 6 ⟨O,O,?_⟩
  refine tt (Gf (i:=2) (n:=(dg U x).length+w+1) (by_:=8) (enc:=Nt) 0 J J J J Pe ti111 J pU.cells pU.pos J J J hw.h) J fun v _=>go 12 ?_
  refine lp (G:=Nat×List Nat) [5,6,7,23,24] [0,1] (fun q=>[(25,.int .i64 (q.1:Int))]) (fun q=>[(2,Ma 1 111 Nt v q.2)]) (fun q=>(q.1≤(dg U x).length)∧(q.2.length=(dg U x).length+w+1)∧(q.2.getD (w+q.1) 0<2^b)∧(∀j,w+q.1<j→q.2.getD j 0=0)∧(∀d∈q.2,d<U)∧(Yc U (q.2.take ((dg U x).length+w+1))=Yc U ((dg U x).take q.1)*2^b*U^w)) (fun q=>(dg U x).length-q.1) (0,List.replicate ((dg U x).length+w+1) 0) ⟨O1,O5,by rw [Lq];exact Nat.two_pow_pos b,fun j _=>Lq _ j,Oa _ Xh,by rw [List.take_replicate,Hh];simp [Yc]⟩ K1 K1 ?_
  rintro⟨i,o⟩ ⟨hi,hol,hc,hz,hall,hv⟩
  dsimp only at hi hol hc hz hall hv
  dsimp only
  have hst:i<(dg U x).length→_:=fun hlt=>Ybq (xs:=dg U x) (show b≤63 by omega) hol.symm (show w+i+1<_ by omega) hc (hz (w+i+1) O) (Xd Xh (Ok Xe x) i) hv
  refine go 6 ?_
  refine Zc J (fun h127=>?_) (fun h127=>?_)
  ·refine go 14 ⟨O2,O2,?_⟩
   have hX1:=Xd Xh (Ok Xe x) i
   refine Xw (fun _=>False) [(0,0),(1,0),(2,0),(3,0),(4,0),(5,0),(6,0),(7,0),(8,0),(9,0),(10,0),(11,3)]<|go 4 ⟨O,?_⟩
   refine Qe J J (Qa (Yf (ii:=2) (i:=w+i) J J J J (Xa pU) Pe Lh))<|go 3 ⟨O2,?_⟩
   refine Qe J J (Qa (Zlp J J (n:=b) J J))<|Qe J J (Qa (Ygw J J J (Xd Xh hall _) (Nat.mod_lt _ Xh)))<|Qe J J (Qa (Yf (ii:=2) (i:=w+i) J J J J (Xa pU) Pe Lh))<|r3' J (Mx (i:=2) (enc:=Nt) _ J J J J J J pU J hw.h O3 O2) fun _ _=>go 8 ?_
   refine Zc J (fun h129=>?_) (fun h129=>?_)
   ·have hal2:=Ms (Ms hall (w+i) (o.getD (w+i) 0 ||| (dg U x).getD i 0*2^b%U) (Nat.or_lt_two_pow (n:=64) (Xd Xh hall _) (Nat.mod_lt _ Xh))) (w+i+1) ((dg U x).getD i 0/2^(64-b)) (Nat.lt_of_le_of_lt (Nat.div_le_self _ _) hX1)
    have hc2:((o.set (w+i) (o.getD (w+i) 0 ||| (dg U x).getD i 0*2^b%U)).set (w+i+1) ((dg U x).getD i 0/2^(64-b))).getD (w+i+1) 0<2^b:=by
     rw [Px _ _ _ _ _ O8,if_pos rfl];exact Zdy O hX1
    have hz2:∀j,w+i+1<j→((o.set (w+i) (o.getD (w+i) 0 ||| (dg U x).getD i 0*2^b%U)).set (w+i+1) ((dg U x).getD i 0/2^(64-b))).getD j 0=0:=fun j hj=>by
     rw [Px _ _ _ _ _ O8,if_neg O,Px _ _ _ _ _ O,if_neg O];exact hz j O
    have hv2:=hst O
    refine go 9 ⟨O,O,O,?_⟩
    refine dt (Zlo J J (n:=64-b) J O)<|dt (Yf (ii:=2) (i:=w+i+1) J J J J (Xa pU) Pe Lh O (by simp only [List.length_set];omega))<|tt (Mx (i:=2) (enc:=Nt) _ J J J J J J pU J hw.h O3 (by simp only [List.length_set];omega)) J fun _ _=>go 7 ⟨O,?_⟩
    exact Xb (i+1,_) ⟨O1,O8,by dsimp only;rw [show w+(i+1)=w+i+1 by omega];exact hc2,fun j hj=>by have hj2:w+(i+1)<j:=hj;dsimp only;exact hz2 j O,hal2,hv2⟩ O1 K1 K1
   ·obtain rfl:b=0:=O
    have hal2:=Ms hall (w+i) (o.getD (w+i) 0 ||| (dg U x).getD i 0*2^0%U) (Nat.or_lt_two_pow (n:=64) (Xd Xh hall _) (Nat.mod_lt _ Xh))
    have hc2:(o.set (w+i) (o.getD (w+i) 0 ||| (dg U x).getD i 0*2^0%U)).getD (w+i+1) 0<2^0:=by
     rw [Px _ _ _ _ _ O,if_neg O,hz _ O];exact Nat.two_pow_pos 0
    have hz2:∀j,w+i+1<j→(o.set (w+i) (o.getD (w+i) 0 ||| (dg U x).getD i 0*2^0%U)).getD j 0=0:=fun j hj=>by
     rw [Px _ _ _ _ _ O,if_neg O];exact hz j O
    have hv2:=hst O
    rw [show(dg U x).getD i 0/2^(64-0)=0 from Nat.div_eq_of_lt hX1]at hv2
    have hsame:=Zlc (o.set (w+i) (o.getD (w+i) 0 ||| (dg U x).getD i 0*2^0%U)) (w+i+1) (by rw [Px _ _ _ _ _ O,if_neg O,hz _ O])
    rw [hsame]at hv2
    refine go 7 ⟨O,?_⟩
    exact Xb (i+1,_) ⟨O1,O8,by dsimp only;rw [show w+(i+1)=w+i+1 by omega];exact hc2,fun j hj=>by have hj2:w+(i+1)<j:=hj;dsimp only;exact hz2 j O,hal2,hv2⟩ O1 K1 K1
  ·refine go 8 ?_
   refine cl 2 [2] (Pn _ _) fun _ _=>?_
   refine Qn (Za1 2 J J pU)<|go 4 ?_
   obtain rfl:i=(dg U x).length:=O
   have hx2:tz o=dg U (x*2^s):=by
    rw [←Lt Xe _ hall]
    congr 1
    rw [Nf U o _ O,List.take_of_length_le (Nat.le_refl _),Nm Xe,Zb5,Nat.mul_assoc,←Nat.pow_add,show b+64*w=s by omega]at hv
    exact hv
   exact Xj hsc _ results219 J trivial (gow 2 Za hx2)
theorem Yif(v:Value)(x s:Nat)(hx:bl x≤8589934592)(hs:s≤8589934592):Cal prog 221 #[v,.int .i64 (s:Int)] [Fj v x] false (G:=Value) (fun r=>True) (fun r=>r) (fun r=>[Fj r (x/2^s)]):=by
 refine Zd func221 ntmps221 fun w0 sc hw hsc=>?_
 obtain⟨w,hwe⟩:∃w,w=s/64:=⟨_,rfl⟩
 obtain⟨b,hbe⟩:∃b,b=s%64:=⟨_,rfl⟩
 have hX:=Ni x
 have hdl:((dg U x).drop w).length=(dg U x).length-w:=List.length_drop
 refine go 8 ?_
 refine dt (Zda J J J)<|go 1 ?_
 refine dt (Zkk J J J)<|go 6 ?_
 refine Ze (My 5 (v':= .int .i64 (w:Int)) J (by congr 1;omega))<|Ze (My 6 (v':= .int .i64 (b:Int)) J (by congr 1;omega))<|go 7 ?_
 refine Zc J (fun h139=>?_) (fun h139=>?_)
 ·refine go 7 ?_
  refine Yn (Np 9 1 111 Nt) ?_
  have hx0:x/2^s=0:=by
   rw [Bq hwe hbe,Nat.div_eq_of_lt ((Xg Xe w x).1 O),Nat.zero_div]
  exact Xj hsc (.slice none 0 0) results221 J trivial (gow 9 Za (by rw [hx0];rfl))
 ·refine go 6 ?_
  refine dt (d_suf (ii:=1) (i:=w) J J J J Zo Pe Lh O)<|Qn (s_suf 1 2 (w) J J)<|tt (Zm8 (n:=3) (Yab _ _ (by simp only [List.length_drop];omega)) J J J K1 call237 (Zk 2 J J J Zw) J hw.h) J fun v _=>go 3 ?_
  refine jn (G:=List Nat) [7] [0,1,2] (fun o=>[]) (fun o=>[(3,Ma 1 111 Nt v o)]) (fun o=>(o.length=(dg U x).length-w)∧(∀j,j<o.length→o.getD j 0=x/2^s/U^j%U)) ?_ ?_
  ·refine go 6 ?_
   refine Zc J (fun h143=>?_) (fun h143=>?_)
   ·refine go 8 ?_
    refine lp (G:=Nat×List Nat) [0,5,6,7,24] [0,1,2] (fun q=>[(25,.int .i64 (q.1:Int))]) (fun q=>[(3,Ma 1 111 Nt v q.2)]) (fun q=>(q.1≤(dg U x).length-w)∧(q.2.length=(dg U x).length-w)∧(∀j,j<q.1→q.2.getD j 0=x/2^s/U^j%U)∧(∀j,q.1≤j→q.2.getD j 0=x/U^w/U^j%U)∧(∀d∈q.2,d<U)) (fun q=>(dg U x).length-w-q.1) (0,(dg U x).drop w) ⟨Nat.zero_le _,O5,fun j hj=>absurd hj (Nat.not_lt_zero j),fun j _=>Zxi x w j,fun d hd=>Ok Xe x d (List.mem_of_mem_drop hd)⟩ K1 K1 ?_
    rintro⟨i,o⟩ ⟨hi,hol,hlo,hhi,hall⟩
    dsimp only at hi hol hlo hhi hall
    dsimp only
    refine go 6 ?_
    refine Zc J (fun h144=>?_) (fun h144=>?_)
    ·refine go 17 ⟨O2,O2,?_⟩
     refine dt (Zlo J J (n:=b) J J)<|go 1 ⟨O2,?_⟩
     refine tt (Mx (i:=3) (enc:=Nt) _ J J J J J J pU J hw.h O3 O2) J fun _ _=>go 11 ⟨O,?_⟩
     refine Zc J (fun h146=>?_) (fun h146=>?_)
     ·simp only [List.length_set]at h146
      have hnew:∀j,((o.set i (o.getD i 0/2^b)).set i ((o.set i (o.getD i 0/2^b)).getD i 0 ||| ((dg U x).getD (w+i+1) 0*2^(64-b))%U)).getD j 0=if i=j then x/2^s/U^i%U else o.getD j 0:=fun j=>by
       rw [Px _ _ _ _ _ O8,Px _ _ _ _ _ O,Px _ _ _ _ _ O]
       split
       ·rw [if_pos rfl,hhi i (Nat.le_refl _),Hc Xe,Bq hwe hbe,Zrs,show x/U^(w+i+1)=x/U^w/U^i/U by rw [Nat.div_div_eq_div_mul,Nat.div_div_eq_div_mul,←Nat.pow_succ,←Nat.pow_add];rfl,Zqa _ _ O]
       ·rfl
      have hal2:=Ms (Ms hall i (o.getD i 0/2^b) (Nat.lt_of_le_of_lt (Nat.div_le_self _ _) (Xd Xh hall _))) i ((o.set i (o.getD i 0/2^b)).getD i 0 ||| ((dg U x).getD (w+i+1) 0*2^(64-b))%U) (Nat.or_lt_two_pow (n:=64) (Xd Xh (Ms hall _ _ (Nat.lt_of_le_of_lt (Nat.div_le_self _ _) (Xd Xh hall _))) _) (Nat.mod_lt _ Xh))
      refine Xw (fun _=>False) [(0,0),(1,0),(2,0),(3,0),(4,0),(5,0),(6,0),(7,0),(8,0),(9,0),(10,0),(11,0),(12,0),(13,0),(14,0),(15,0),(16,3)]<|go 9 ⟨O2,O2,O,O,?_⟩
      refine Qe J J (Qa (Yf (ii:=1) (i:=w+i+1) J J J J Zo Pe Lh O O2))<|go 3 ⟨O2,O,?_⟩
      refine Qe J J (Qa (Zlp J J (n:=64-b) J O))<|Qe J J (Qa (Ygw J J J (Xd Xh (Ms hall _ _ (Nat.lt_of_le_of_lt (Nat.div_le_self _ _) (Xd Xh hall _))) _) (Nat.mod_lt _ Xh)))<|go 1 ⟨O2,?_⟩
      refine r3' J (Mx (i:=3) (enc:=Nt) _ J J J J J J pU J hw.h O3 O2) fun _ _=>go 7 ⟨O,?_⟩
      exact Xb (i+1,_) ⟨O1,O8,fun j hj=>by dsimp only;rw [hnew j];split;(· rename_i e;rw [←e]);exact hlo j (by have:j<i+1:=hj;omega),fun j hj=>by dsimp only;rw [hnew j,if_neg (by have:i+1≤j:=hj;omega)];exact hhi j (by have:i+1≤j:=hj;omega),hal2⟩ O1 K1 K1
     ·have hnew:∀j,(o.set i (o.getD i 0/2^b)).getD j 0=if i=j then x/2^s/U^i%U else o.getD j 0:=fun j=>by
       rw [Px _ _ _ _ _ O]
       split
       ·rw [hhi i (Nat.le_refl _),Bq hwe hbe,Zrs,Zyx _ _ O]
        rw [Nat.div_div_eq_div_mul,←Nat.pow_succ]
        exact Nat.div_eq_of_lt (Zwt (by simp only [List.length_set]at h146;omega))
       ·rfl
      have hal2:=Ms hall i (o.getD i 0/2^b) (Nat.lt_of_le_of_lt (Nat.div_le_self _ _) (Xd Xh hall _))
      refine go 7 ⟨O,?_⟩
      exact Xb (i+1,_) ⟨O1,O8,fun j hj=>by dsimp only;rw [hnew j];split;(· rename_i e;rw [←e]);exact hlo j (by have:j<i+1:=hj;omega),fun j hj=>by dsimp only;rw [hnew j,if_neg (by have:i+1≤j:=hj;omega)];exact hhi j (by have:i+1≤j:=hj;omega),hal2⟩ O1 K1 K1
    ·refine go 4 ?_
     exact Qu _ ⟨O,by intro j hj;rw [hlo j O]⟩ trivial K1
   ·refine go 1 ?_
    exact Qu _ ⟨O5,by intro j hj;rw [Zxi,Bq hwe hbe,show b=0 by omega,Nat.pow_zero,Nat.div_one]⟩ trivial K1
  ·rintro o ⟨hol,hv⟩
   refine go 3 ?_
   refine cl 3 [3] (Pn _ _) fun _ _=>?_
   refine Qn (Za1 3 J J pU)<|go 4 ?_
   have hx2:tz o=dg U (x/2^s):=Zsw Xe hv (by rw [hol,Bq hwe hbe];exact Nat.lt_of_le_of_lt (Nat.div_le_self _ _) (Zwt O))
   exact Xj hsc _ results221 J trivial (gow 3 Za hx2)
theorem Zmh(v:Value)(x:Nat)(hx:bl x≤4294967296:=by omega):Oo prog 152 #[v] [Fj v x] (.string (Xp x)):=by
 refine Zd func152 ntmps152 fun w0 sc hw hsc=>?_
 have hX:=Ni x
 have hL:=Zj5 x
 have hW:=lenU x
 have hrl:(List.replicate (dg 256 x).length (0:Nat)).length=(dg 256 x).length:=List.length_replicate
 refine go 8 ?_
 refine cl 1 [1] (Zjq _ _) fun _ _=>go 1 ⟨O,?_⟩
 refine dt (Zda J J J)<|tt (Gf (i:=2) (n:=(dg 256 x).length) (by_:=1) (enc:=Zhq) 0 J J J J Zgt ti5 J pB.cells pB.pos J J J hw.h) J fun v _=>go 12 ?_
 refine lp (G:=Nat×List Nat) [0,3,12] [0,1] (fun q=>[(13,.int .i64 (q.1:Int))]) (fun q=>[(2,Ma 1 5 Zhq v q.2)]) (fun q=>(q.1≤(dg 256 x).length)∧(q.2.length=(dg 256 x).length)∧(∀j,j<q.1→q.2.getD j 0=x/256^((dg 256 x).length-1-j)%256)) (fun q=>(dg 256 x).length-q.1) (0,List.replicate (dg 256 x).length 0) ⟨O1,O5,fun j hj=>absurd hj (Nat.not_lt_zero j)⟩ K1 K1 ?_
 rintro⟨i,o⟩ ⟨hi,hol,hov⟩
 dsimp only at hi hol hov
 dsimp only
 refine go 6 ?_
 refine Zc J (fun h48=>?_) (fun h48=>?_)
 ·refine go 20 ⟨O,O,?_⟩
  refine Ze (My 5 (v':= .int .i64 (((dg 256 x).length-1-i:Nat):Int)) J (by congr 1;omega)) ?_
  have hbyte:=Zpd x ((dg 256 x).length-1-i)
  rw [←Hc Xe]at hbyte
  refine go 5 ?_
  refine dt (Zda J J J)<|dt (Yf (ii:=1) (i:=((dg 256 x).length-1-i)/8) J J J J Zo Pe Lh)<|go 2 ⟨O,?_⟩
  refine dt (Zkk J J J)<|go 1 ⟨O,?_⟩
  refine dt (Zlo J J (n:=((dg 256 x).length-1-i)%8*8) J O)<|dt (Zdb J J Za7 uT5)<|go 1 ⟨O2,?_⟩
  refine tt (Mx (i:=2) (enc:=Zhq) _ J J J J J J pB J hw.h O3 O2) J fun _ _=>go 7 ⟨O,?_⟩
  exact Xb (i+1,_) ⟨O1,O8,fun j hj=>by dsimp only;rw [Px _ _ _ _ _ O];split;(· rename_i e;rw [←e];exact hbyte);exact hov j O⟩ O1 K1 K1
 ·refine go 8 ?_
  refine dt (d_b2s J J (i:=2) J (Xa pB) Zgt uT9 uT5)<|go 4 ?_
  have hb:Xp x=⟨(o.map UInt8.ofNat).toArray⟩:=by
   have ho:o=(dg 256 x).reverse:=by
    refine Zdw O8 (fun j hj=>?_)
    rw [hov j O,Zoi _ _ _ O,Hc O]
   rw [ho];rfl
  exact Xj hsc () results152 (by rw [hb]) trivial Za
theorem Zb8(x:Nat)(hx:bl x≤4294967296:=by omega):Cal prog 159 #[.string (Xp x)] [] false (G:=Value) (fun r=>True) (fun r=>r) (fun r=>[Fj r x]):=by
 refine Zd func159 ntmps159 fun w0 sc hw hsc=>?_
 have hX:=Ni x
 have hL:=Zj5 x
 have hW:=lenU x
 have hbs:=Fx x
 refine go 10 ⟨O,?_⟩
 refine dt (Zda J J J)<|tt (Gf (i:=1) (n:=(dg U x).length) (by_:=8) (enc:=Nt) 0 J J J J Pe ti111 J pU.cells pU.pos J J J hw.h) J fun v _=>go 12 ?_
 refine lp (G:=Nat×List Nat) [0,3,12] [0] (fun q=>[(13,.int .i64 (q.1:Int))]) (fun q=>[(1,Ma 1 111 Nt v q.2)]) (fun q=>(q.1≤(dg 256 x).length)∧(q.2.length=(dg U x).length)∧(∀w,w<q.2.length→q.2.getD w 0=hi x ((dg 256 x).length-q.1) w)) (fun q=>(dg 256 x).length-q.1) (0,List.replicate (dg U x).length 0) ⟨O1,O5,fun w hw=>by dsimp only at *;rw [List.length_replicate]at hw;rw [Lq,hi_top O]⟩ K1 K1 ?_
 rintro⟨i,o⟩ ⟨hik,hol,hov⟩
 dsimp only at hik hol hov
 dsimp only
 refine go 6 ?_
 refine Zc J (fun h30=>?_) (fun h30=>?_)
 ·refine go 20 ⟨O,O,?_⟩
  refine Ze (My 5 (v':= .int .i64 (((dg 256 x).length-1-i:Nat):Int)) J (by congr 1;omega)) ?_
  have hget:=Zsh x i O
  have hw0:=hov (((dg 256 x).length-1-i)/8) O
  have hlt1:o.getD (((dg 256 x).length-1-i)/8) 0<U:=by rw [hw0];exact Nat.mod_lt _ Xh
  have hset:∀w,w<o.length→(o.set (((dg 256 x).length-1-i)/8) (o.getD (((dg 256 x).length-1-i)/8) 0 ||| (((Xp x).data.toList.getD i 0).toNat*2^(((dg 256 x).length-1-i)%8*8))%U)).getD w 0=hi x ((dg 256 x).length-(i+1)) w:=fun w hw=>by
   rw [hget,hw0,show(dg 256 x).length-i=(dg 256 x).length-1-i+1 by omega,Yi1,Px _ _ _ _ _ O,show(dg 256 x).length-(i+1)=(dg 256 x).length-1-i by omega]
   split
   ·rename_i e;rw [e]
   ·rename_i e;rw [hov w hw,show(dg 256 x).length-i=(dg 256 x).length-1-i+1 by omega];exact Yen e
  refine Xw (fun _=>False) [(0,0),(1,0),(2,0),(3,0),(4,0),(5,0),(6,0),(7,0),(8,0),(9,0),(10,0),(11,0),(12,0),(13,0),(14,0),(15,3)]<|go 2 ?_
  refine Qe J J (Qa (Zda J J J))<|Qe J J (Qa (Yf (ii:=1) (i:=((dg 256 x).length-1-i)/8) J J J J (Xa pU) Pe Lh))<|go 3 ⟨O2,?_⟩
  refine Qe J J (Qa (Yfj J J J uT9 J))<|Qe J J (Qa (Zun J J uT5 Za7 (by have:=(((Xp x).data.toList.getD i 0).toNat_lt);simp only [U];omega)))<|go 1 ?_
  refine Qe J J (Qa (Zkk J J J))<|go 1 ⟨O,?_⟩
  refine Qe J J (Qa (Zlp J J (n:=((dg 256 x).length-1-i)%8*8) J O))<|Qe J J (Qa (Ygw J J J (hlt1) (Nat.mod_lt _ Xh)))<|Qe J J (Qa (Yf (ii:=1) (i:=((dg 256 x).length-1-i)/8) J J J J (Xa pU) Pe Lh))<|r3' J (Mx (i:=1) (enc:=Nt) _ J J J J J J pU J hw.h O3 O2) fun _ _=>go 7 ⟨O,?_⟩
  exact Xb (i+1,_) ⟨O1,O8,fun w hw=>hset w (by simpa using hw)⟩ O1 K1 K1
 ·refine go 12 ?_
  have ho:o=dg U x:=Zdw hol (fun j hj=>by rw [hov j hj,Hc Xe,Yep O])
  exact Xj hsc _ results159 J trivial (gow 1 Za ho)
set_option maxHeartbeats 2000000 in
theorem Zwk(v w:Value)(x y:Nat)(hx:bl x≤4000000000)(hy0:bl y≤4000000000)(hy:0<y):Cal prog 192 #[v,w] [Fj v x,Fj w y] true (G:=Value×Value) (fun r=>True) (fun r=> .tuple #[r.1,r.2]) (fun r=>[Fj r.1 (x/y),Fj r.2 (x%y)]):=by
 refine Zd func192 ntmps192 fun w0 sc hw hsc=>?_
 have hX:=Ni x
 have hY:=Ni y
 refine go 11 ?_
 refine cl 2 [1,2] (Zbk _ _ _ _ O O) fun r hr=>go 3 ?_
 refine Zc J (fun h166=>?_) (fun h166=>?_)
 ·have hlt:x<y:=hr.1.1 O
  refine go 9 ?_
  exact Yn (Np 9 1 111 Nt)<|Nz hsc (.slice none 0 0,v) results192 J trivial (gow 9 (Mm 1 Za (by rw [Nat.mod_eq_of_lt hlt])) (by rw [Nat.div_eq_of_lt hlt];rfl))
 ·have hge:y≤x:=by have:=hr.1;omega
  have hly:=Ps hge
  refine go 10 ?_
  refine Zc J (fun h169=>?_) (fun h169=>?_)
  ·have hyU:y<U:=by have:=(Xg Xe 1 y).1 O;simpa using this
   have hd0:(dg U y).getD 0 0=y:=by rw [Hc Xe];simp [Nat.mod_eq_of_lt hyU]
   refine go 6 ⟨O,O2,?_⟩
   refine cl 3 [1] (Zzj _ _ _ O (by rw [hd0];exact hy) (by rw [hd0];exact hyU)) fun v _=>go 11 ?_
   refine tt (Qd (i:=4) (ivs:=[(0,_)]) (enc:=Nt) [x%(dg U y).getD 0 0] J J K2 Pe ti111 J J J J J pU.cells J J hw.h) J fun v_2 _=>cl 4 [4] (Pn _ _) fun _ _=>?_
   refine Qn (Za1 4 J J pU)<|go 6 ?_
   exact Nz hsc (_,_) results192 J trivial (Mm 3 (gow 4 Za (by rw [Zfy (Nat.lt_trans (Nat.mod_lt _ (by rw [hd0];exact hy)) (by rw [hd0];exact hyU)),hd0])) (by rw [hd0]<;>rfl))
  ·refine go 3 ?_
   obtain⟨k,hk⟩:∃k,k=(dg U y).length:=⟨_,rfl⟩
   have hkx:k≤(dg U x).length:=O
   obtain⟨b,hb⟩:∃b,b=64-bl ((dg U y).getD (k-1) 0):=⟨_,rfl⟩
   obtain⟨hkD0,_,hk1,hDk0,hb63,hD630⟩:=Yic hy hk hb
   obtain⟨D,hDe⟩:∃D,D=y*2^b:=⟨_,rfl⟩
   have hkD:(dg U D).length=k:=by rw [hDe];exact hkD0
   have hDk:D<U^k:=by rw [hDe];exact hDk0
   have hD63:U^(k-1)*9223372036854775808≤D:=by rw [hDe];exact hD630
   have hD0:0<D:=by rw [hDe];exact Nat.mul_pos hy (Nat.two_pow_pos b)
   have hDb:bl D≤4000000064:=by rw [hDe,Zuz _ _ hy];omega
   refine go 5 ⟨O,?_⟩
   refine dt (Yf (ii:=2) (i:=(dg U y).length-1) J J J J Zo Pe Lh)<|go 1 ⟨O2,?_⟩
   refine cl 4 [] (Zpk _ (Xd Xh (Ok Xe y) _)) fun _ _=>?_
   refine Qn (My 44 (v':= .int .i64 (b:Int)) J (by rw [hb,hk]))<|go 3 ?_
   refine jn (G:=Value×Value) [0,8] [0,1,2] (fun q=>[(9,q.1),(10,q.2)]) (fun q=>[(81,Fj q.1 D),(82,Ma 1 111 Nt q.2 (List.replicate ((dg U x).length+1) 0))]) (fun q=>True) ?_ ?_
   ·refine Ec (fun _=>False) [8]<|Zm (n:=4) [(0,0),(1,0),(3,0),(4,0),(5,0)]<|go 6 ⟨O,?_⟩
    refine Qq (n:=3) 2 6 ?_ ?_
    ·refine Ny (Zh 81 [2] (Zn7 _ _ _)) fun v_3 _=>?_
     refine Zm (n:=0) [(7,0),(6,1),(8,3)]<|go 1 ?_
     refine Fm J (Gf (i:=82) (n:=(dg U x).length+1) (by_:=8) (enc:=Nt) 0 J J J J Pe ti111 J pU.cells pU.pos J J J hw.h) fun v_4 _=>go 2 ?_
     exact Zy<|Qu (_,_) trivial K2 ⟨by rw [hDe];rfl,rfl,trivial⟩
    ·refine Hd J (Gf (i:=82) (n:=(dg U x).length+1) (by_:=8) (enc:=Nt) 0 J J J J Pe ti111 J pU.cells pU.pos J J J hw.h) (fun v_5 _=>?_)
     refine Zm (n:=0) [(2,1),(7,0),(8,3)]<|Yx (Zh 81 [2] (Zn7 _ _ _)) fun v_6 _=>go 3 ?_
     exact Zy<|Qu (_,_) trivial K2 ⟨by rw [hDe];rfl,rfl,trivial⟩
   ·rintro⟨vd,vr⟩ -
    dsimp only
    refine go 1 ?_
    have hnl:(dg U (x*2^b)).length≤(dg U x).length+1:=(Xg Xe _ _).2 (by rw [Nat.pow_succ];exact Nat.mul_lt_mul_of_lt_of_le ((Xg Xe _ x).1 (Nat.le_refl _)) (by rw [Ygk];exact Nat.pow_le_pow_right O O) Xh)
    refine go 4 ?_
    refine cl 5 [1] (Zn7 _ _ _) fun v_7 _=>?_
    refine tt (t_cpy (i:=82) (j:=5) 0 J J J J J J O3 J Zo (Ye8 _ _ _) (by rw [List.length_replicate];exact hnl) (by rw [List.length_replicate];omega) (by rw [List.length_replicate];omega) Pe pU J hw.h) J fun _ _=>go 3 ?_
    have hR0l:(spl (List.replicate ((dg U x).length+1) 0) 0 (dg U (x*2^b))).length=(dg U x).length+1:=by rw [Kc _ _ _ (by rw [List.length_replicate];omega),List.length_replicate]
    refine go 7 ?_
    have hql0:(List.replicate ((dg U x).length+1-k) (0:Nat)).length=(dg U x).length+1-k:=List.length_replicate
    refine Ze (My 11 (v':= .int .i64 (k:Int)) J (by rw [hkD]))<|go 5 ⟨O,?_⟩
    refine tt (Gf (i:=6) (n:=(dg U x).length+1-k) (by_:=8) (enc:=Nt) 0 J J J J Pe ti111 J pU.cells pU.pos J J J hw.h) J fun v_8 _=>go 13 ⟨O,?_⟩
    refine lp (G:=Nat×List Nat×List Nat) [8,9,10,11,12] [0,81,1,2,5] (fun q=>[(13,.int .i64 ((q.1:Int)-1))]) (fun q=>[(82,Ma 1 111 Nt vr q.2.1),(6,Ma 1 111 Nt v_8 q.2.2)]) (fun q=>(q.1≤(dg U x).length+1-k)∧(q.2.1.length=(dg U x).length+1)∧(∀d∈q.2.1,d<U)∧(q.2.2.length=(dg U x).length+1-k)∧(∀d∈q.2.2,d<U)∧(Yc U q.2.1<D*U^q.1)∧(Yc U (q.2.2.drop q.1)*U^q.1*D+Yc U q.2.1=x*2^b)) (fun q=>q.1) ((dg U x).length+1-k,spl (List.replicate ((dg U x).length+1) 0) 0 (dg U (x*2^b)),List.replicate ((dg U x).length+1-k) 0) ⟨Nat.le_refl _,hR0l,Zpn (Oa _ Xh) (Ok Xe _) 0,O5,Oa _ Xh,by rw [Zpw,Nm Xe];exact Yfc ((Xg Xe _ x).1 (Nat.le_refl _)) hb63 hk1 O hD63,by rw [Zpw,Nm Xe];simp [Yc]⟩ ⟨by rw [List.length_replicate];rfl,trivial⟩ K2 ?_
    rintro⟨jj,R,q⟩ ⟨hj,hRl,hRa,hql,hqa,hV,hN⟩
    dsimp only at hj hRl hRa hql hqa hV hN
    dsimp only
    refine go 7 ?_
    refine Zc J (fun h179=>?_) (fun h179=>?_)
    ·refine go 5 ?_
     have hW1:Yc U R<U^(jj-1+k+1):=by
      refine Nat.lt_of_lt_of_le hV ?_
      rw [show jj-1+k+1=k+jj by omega,Nat.pow_add]
      exact Nat.mul_le_mul_right _ (Nat.le_of_lt hDk)
     have hWz:tz ((R.drop (jj-1)).take (jj-1+k+1-(jj-1)))=dg U (Yc U R/U^(jj-1)):=Ygr hRa O (by rw [show jj-1+(jj-1+k+1-(jj-1))=jj-1+k+1 by omega];exact hW1)
     have hWD:Yc U R/U^(jj-1)<D*U:=by
      rw [Nat.div_lt_iff_lt_mul (Nat.pow_pos Xh),Nat.mul_assoc,←Nat.pow_succ',show(jj-1).succ=jj by omega];exact hV
     have hWb:bl (Yc U R/U^(jj-1))≤4294967296:=by
      have h1:=Ps (Nat.le_of_lt hWD)
      have h2:=Zkz D U
      have h3:bl U≤65:=(Xo 65 U).2 (by simp [U])
      omega
     have htop:=Yg2 hRa (j:=jj-1) hk1 hW1 O
     have hDt:(dg U D).getD (k-1) 0*U^(k-1)≤D:=by
      rw [Hc Xe];exact Nat.le_trans (Nat.mul_le_mul_right _ (Nat.mod_le _ _)) (Nat.div_mul_le_self _ _)
     have hQU:Yc U R/U^(jj-1)/D≤18446744073709551615:=by
      have:=(Nat.div_lt_iff_lt_mul hD0).2 (show _<U*D by rw [Nat.mul_comm];exact hWD)
      simp only [U]at this ⊢;omega
     refine go 4 ?_
     refine jn (G:=Nat) [8,9,10,11,12,13] [0,82,6,81,1,2,5] (fun g=>[(14,.int .u64 (g:Int))]) (fun g=>[]) (fun g=>(Yc U R/U^(jj-1)/D≤g)∧(g<U)) ?_ ?_
     ·refine go 1 ?_
      refine Xw (fun _=>False) [(0,0),(1,0),(2,0),(3,0),(4,0),(5,0),(6,0),(7,0),(8,0),(9,0),(10,0),(11,0)]<|go 4 ⟨O,?_⟩
      refine Qe J J (Qa (Yf (ii:=82) (i:=jj-1+k) J J J J (Xa pU) Pe Lh))<|go 4 ⟨O2,O,?_⟩
      refine Qe J J (Qa (Yf (ii:=81) (i:=k-1) J J J J Zo Pe Lh))<|go 4 ⟨O2,?_⟩
      refine Zc J (fun h182=>?_) (fun h182=>?_)
      ·refine Xw (fun _=>False) [(0,0),(1,0),(2,0),(3,0),(4,0),(5,0),(6,0),(7,0),(8,0),(9,0),(10,0),(11,0),(12,0),(13,0),(14,0),(15,0),(16,0),(17,0),(18,1),(19,0),(20,0),(21,0),(22,0)]<|go 4 ⟨O,?_⟩
       refine Qe J J (Qa (Yf (ii:=82) (i:=jj-1+k) J J J J (Xa pU) Pe Lh))<|go 6 ⟨O2,O,O,?_⟩
       refine Qe J J (Qa (Yf (ii:=82) (i:=jj-1+k-1) J J J J (Xa pU) Pe Lh))<|go 4 ⟨O2,O,?_⟩
       refine Qe J J (Qa (Yf (ii:=81) (i:=k-1) J J J J Zo Pe Lh))<|go 1 ⟨O2,?_⟩
       refine Yx (Zh 6 [] (Zsi _ _ _ (Xd Xh hRa _) (Xd Xh (Ok Xe _) _) O)) fun _ _=>go 5 ?_
       exact Qu _ ⟨Yeq hDt O htop,Zrr (Xd Xh hRa _) O⟩ K1 trivial
      ·refine go 1 ?_
       exact Qu 18446744073709551615 ⟨hQU,O3⟩ K1 trivial
     ·rintro g ⟨hg,hgU⟩
      refine go 8 ⟨O,O,?_⟩
      refine dt (d_mid (ii:=82) (i:=jj-1) (j:=jj-1+k+1) J J J J J (Xa pU) Pe Lh O O O O)<|go 7 ?_
      refine tt (Qd (i:=7) (ivs:=[(0,_)]) (enc:=Nt) [g] J J K2 Pe ti111 J J J J J pU.cells J J hw.h) J fun v_9 _=>cl 7 [7] (Pn _ _) fun _ _=>?_
      refine Qn (Za1 7 J J pU)<|Qn (Zg1 7 (Zfy hgU) J J)<|cl 83 [81,7] (Zwj _ _ _ _ O (Nat.le_trans ((Xo 64 g).2 hgU) O)) fun v_10 _=>go 5 ?_
      refine lp (G:=Nat×Value) [8,9,10,11,12,13,15] [0,82,6,81,1,2,5,7] (fun q=>[(14,.int .u64 (q.1:Int)),(16,q.2)]) (fun q=>[(83,Fj q.2 (D*q.1))]) (fun q=>(Yc U R/U^(jj-1)/D≤q.1)∧(q.1<U)) (fun q=>q.1) (g,_) ⟨O1,O1⟩ K2 K1 ?_
      rintro⟨g,vp⟩ ⟨hg,hgU⟩
      dsimp only at hg hgU
      dsimp only
      have hPb:bl (D*g)≤4294967296:=by have h1:=Zkz D g;have h2:=(Xo 64 g).2 hgU;omega
      refine go 4 ?_
      refine tt (Pk (n:=7) (Pn _ _) J J J K1 call112 (Zcg 82 J J pU (Zh1 (jj-1) (jj-1+k+1)) (Zic _ _ _ _) Zw) J hw.h) J fun _ _=>go 1 ?_
      refine tt (Pk (n:=7) (Zbk _ _ _ _ hWb hPb) J J J K2 call190 (Zcg 82 J J pU (Yb7 hWz (by rw [hWz]) (Zh1 (jj-1) (jj-1+k+1))) (by rw [Hk];exact(Zic _ _ _ _)) (Zk 83 J J J Zw)) J hw.h) J fun r_2 hr_2=>go 3 ?_
      refine Zc J (fun h187=>?_) (fun h187=>?_)
      ·have hlt:Yc U R/U^(jj-1)<D*g:=hr_2.1.1 O
       have hg1:1≤g:=by rcases Nat.eq_zero_or_pos g with h | h;(rw [h,Nat.mul_zero]at hlt;exact absurd hlt (Nat.not_lt_zero _));exact h
       have hDg:D≤D*g:=Nat.le_mul_of_pos_right _ hg1
       have hQg:Yc U R/U^(jj-1)/D≤g-1:=by have:=(Nat.div_lt_iff_lt_mul hD0).2 (show _<g*D by rw [Nat.mul_comm];exact hlt);omega
       refine go 6 ?_
       refine dt (Zc3 (n:=1) J J J)<|go 3 ?_
       refine Ze (My 14 (v':= .int .u64 ((g-1:Nat):Int)) J (Ap (Zr0 hg1 hgU)))<|go 3 ?_
       refine cl 8 [83,81] (Ze2 _ _ _ _ hPb hDg) fun v_11 _=>go 3 ?_
       exact Yn (Pb 8 83 J J J)<|Xb (g-1,_) ⟨hQg,O9⟩ O1 K2 ⟨by rw [Nat.mul_sub_one];rfl,trivial⟩
      ·refine go 6 ?_
       have hQ:g=Yc U R/U^(jj-1)/D:=by
        have h1:=hr_2.1
        have h2:D*g≤Yc U R/U^(jj-1):=O
        exact Nat.le_antisymm ((Nat.le_div_iff_mul_le hD0).2 (by rw [Nat.mul_comm];exact h2)) hg
       refine go 2 ?_
       refine tt (Pk (n:=8) (Pn _ _) J J J K1 call112 (Zcg 82 J J pU (Zh1 (jj-1) (jj-1+k+1)) (Zic _ _ _ _) Zw) J hw.h) J fun _ _=>go 1 ?_
       refine tt (Pk (n:=9) (Ze2 _ _ _ _ hWb) J J J K2 call191 (Zcg 82 J J pU (Yb7 hWz (by rw [hWz]) (Zh1 (jj-1) (jj-1+k+1))) (by rw [Hk];exact(Zic _ _ _ _)) (Zk 83 J J J Zw)) J hw.h) J fun v_12 _=>go 4 ?_
       have hll:(dg U (Yc U R/U^(jj-1)-D*g)).length≤jj-1+k+1-(jj-1):=by
        have:Yc U R/U^(jj-1)-D*g<D:=by rw [hQ];have h3:=Nat.div_add_mod (Yc U R/U^(jj-1)) D;have h4:=Nat.mod_lt (Yc U R/U^(jj-1)) hD0;omega
        have:=(Xg Xe k _).2 (Nat.lt_trans this hDk)
        omega
       refine go 2 ?_
       refine tt (t_clr (zv:= .bool false) (i:=82) (z:=0) (jj-1) J J J J O3 (Zxg _ _ _ O) O O Pe pU (fun w=>zeroValue111 w) J J hw.h) J fun _ _=>go 6 ?_
       refine tt (t_cpy (i:=82) (j:=9) (jj-1) J J J J J J O3 J Zo (Zxg _ _ _ (by rw [Kc _ _ _ (by rw [List.length_replicate];omega)];omega)) hll (by rw [Kc _ _ _ (by rw [List.length_replicate];omega)];omega) (by rw [Kc _ _ _ (by rw [List.length_replicate];omega)];omega) Pe pU J hw.h) J fun _ _=>go 2 ?_
       have hL1:jj-1+(List.replicate (jj-1+k+1-(jj-1)) 0).length≤R.length:=by rw [List.length_replicate];omega
       have hl1:=Kc R (jj-1) _ hL1
       have hL2:jj-1+(dg U (Yc U R/U^(jj-1)-D*g)).length≤(spl R (jj-1) (List.replicate (jj-1+k+1-(jj-1)) 0)).length:=O
       have hval:=Ygv hRa (j:=jj-1) (n:=jj-1+k+1-(jj-1)) O (by rw [show jj-1+(jj-1+k+1-(jj-1))=jj-1+k+1 by omega];exact hW1) hll
       rw [Nm Xe]at hval
       have hst:=Yfb (j:=jj-1) (N:=x*2^b) (Vq:=Yc U (q.drop jj)) hD0 hQ (by rw [show jj-1+1=jj by omega];exact hN)
       have hV2:=hst.1
       have hN2:=hst.2
       rw [←hval]at hV2 hN2
       have hdq:Yc U ((q.set (jj-1) g).drop (jj-1))=g+U*Yc U (q.drop jj):=by rw [drop_set _ _ _ O,show jj-1+1=jj by omega];rfl
       rw [←hdq]at hN2
       refine go 4 ?_
       refine dt (Yf (ii:=6) (i:=jj-1) J J J J (Xa pU) Pe Lh)<|tt (Mx (i:=6) (enc:=Nt) _ J J J J J J pU J hw.h O3 O2) J fun _ _=>go 8 ⟨O,?_⟩
       exact Xb (jj-1,_,_) ⟨O1,(Kc _ _ _ hL2).trans (hl1.trans hRl),Zpn (Zpn hRa (Oa _ Xh) _) (Ok Xe _) _,O8,Ms hqa _ _ hgU,hV2,hN2⟩ O1 ⟨by rw [show(((jj-1:Nat):Int)-1)=(jj:Int)-1-1 by omega];rfl,trivial⟩ K2
    ·refine go 6 ?_
     obtain rfl:jj=0:=O
     rw [Nat.pow_zero,Nat.mul_one]at hV
     have hVb:bl (Yc U R)≤8589934592:=by have:=Ps (Nat.le_of_lt hV);omega
     refine go 2 ?_
     refine cl 9 [6] (Pn _ _) fun _ _=>?_
     refine Qn (Za1 6 J J pU)<|go 1 ?_
     refine cl 9 [82] (Pn _ _) fun _ _=>?_
     refine Qn (Za1 82 J J pU)<|Qn (Zg1 82 (Lt Xe R hRa).symm J J)<|go 1 ?_
     refine cl 10 [82] (Yif _ _ _ hVb O) fun v_13 _=>go 5 ?_
     rw [List.drop_zero,Nat.pow_zero,Nat.mul_one]at hN
     have hqq:tz q=dg U (x/y):=by
      rw [←Lt Xe _ hqa,←Zlw x y b,←hDe,←hN,Nat.mul_comm,Nat.mul_add_div hD0,Nat.div_eq_of_lt hV,Nat.add_zero]
     have hrr:Yc U R/2^b=x%y:=by
      rw [←Zlv x y b,←hDe,←hN,Nat.mul_comm,Nat.mul_add_mod,Nat.mod_eq_of_lt hV]
     exact Nz hsc (_,_) results192 J trivial (gow 6 (Mm 10 Za (by rw [hrr])) hqq)
theorem Zn8(v w:Value)(x y:Nat)(hx:bl x≤4000000000:=by omega)(hy:bl y≤4000000000:=by omega):Cal prog 160 #[v,w] [Fj v x,Fj w y] true (G:=Value) (fun r=>True) (fun r=>r) (fun r=>[Fj r (Nat.gcd x y)]):=by
 refine Zd func160 ntmps160 fun w0 sc hw hsc=>?_
 have hX:=Ni x
 have hY:=Ni y
 refine go 7 ?_
 refine Ze (Pb 1 91 J J J)<|Ze (Pb 2 92 J J J)<|lp (G:=Value×Value×Nat×Nat) [] [0,1,2] (fun q=>[(0,q.1),(1,q.2.1)]) (fun q=>[(91,Fj q.1 q.2.2.1),(92,Fj q.2.1 q.2.2.2)]) (fun q=>(Nat.gcd q.2.2.1 q.2.2.2=Nat.gcd x y)∧(bl q.2.2.1≤4000000000)∧(bl q.2.2.2≤4000000000)) (fun q=>q.2.2.2) (v,w,x,y) ⟨J,hx,hy⟩ K2 K2 ?_
 rintro⟨va,vb,a,b⟩ ⟨hg,ha,hb⟩
 dsimp only at hg ha hb
 dsimp only
 refine go 8 ?_
 refine Zc J (fun h201=>?_) (fun h201=>?_)
 ·have hb0:0<b:=by rcases Nat.eq_zero_or_pos b with h | h;(subst h;simp [Hb]at h201);exact h
  refine go 7 ?_
  refine cl 3 [91,92] (Zwk _ _ _ _ ha hb hb0) fun g _=>go 14 ?_
  have hlt:a%b<b:=Nat.mod_lt _ hb0
  exact Yn (Pb 92 91 J J J)<|Yn (Pb 4 92 J J J)<|Xb (_,_,b,a%b) ⟨by dsimp only;rw [←hg,Nat.gcd_comm b,←Nat.gcd_rec,Nat.gcd_comm],hb,Nat.le_trans (Ps (Nat.le_of_lt hlt)) hb⟩ hlt K2 K2
 ·have hb0:b=0:=(Ph Xe b).1 O
  refine go 12 ?_
  exact Xj hsc _ results160 J trivial (Mm 91 Za (by rw [←hg,hb0,Nat.gcd_zero_right]))
theorem Zn3(s:Bool)(v:Value)(x:Int)(hs:sg s x):Cal prog 157 #[.agg #[.bool s,v]] [Fj v x.natAbs] true (G:=Bool×Value) (fun r=>sg r.1 (-x)) (fun r=> .agg #[.bool r.1,r.2]) (fun r=>[Fj r.2 (-x).natAbs]):=by
 refine Zd func157 ntmps157 fun w0 sc hw hsc=>go 2 ?_
 refine Yd (Yg 2) fun b _=>Yd (Zs 3) fun b_2 _=>go 9 ?_
 refine dt (Xl (ivs:=[(0,_),(1,_)]) J K4 (fun a w hs=>Lk ((Zn J) a w hs) ((Pt (i:=1) J Zo) a w hs)))<|go 4 ?_
 exact Xj hsc (!s,v) results157 J (Ybu hs) (Mm 1 Za (by rw [Int.natAbs_neg]))
theorem Zck(s t:Bool)(v w:Value)(x y:Int)(hs:sg s x)(ht:sg t y)(hx:bl x.natAbs≤4294967296:=by omega)(hy:bl y.natAbs≤4294967296:=by omega):Cal prog 188 #[.agg #[.bool s,v],.agg #[.bool t,w]] [Fj v x.natAbs,Fj w y.natAbs] true (G:=Bool×Value) (fun r=>sg r.1 (x*y)) (fun r=> .agg #[.bool r.1,r.2]) (fun r=>[Fj r.2 (x*y).natAbs]):=by
 refine Zd func188 ntmps188 fun w0 sc hw hsc=>go 2 ?_
 refine Yd (Yg 3) fun b _=>Yd (Yg 4) fun b_2 _=>Yd (Zs 5) fun b_3 _=>go 3 ?_
 refine Xw (fun _=>False) [(0,0),(1,0),(2,0),(3,0),(4,0),(5,0),(6,0),(7,0),(8,0),(9,1),(10,0),(11,3)]<|go 9 ?_
 refine Yx (Zh 6 [1,2] (Zwj _ _ _ _ hx hy)) fun v _=>?_
 refine Qe J J (Qa (Xl (ivs:=[(0,_),(1,_)]) J K4 (fun a w hs=>Lk ((Zn J) a w hs) ((Pt (i:=6) J Zo) a w hs))))<|go 4 ?_
 exact Xj hsc (_,_) results188 J (Ybv hs ht) (Mm 6 Za (by rw [Int.natAbs_mul]))
theorem Zjn(s:Bool)(v:Value)(x:Int)(hs:sg s x)(hx:bl x.natAbs≤4294967296:=by omega):Cal prog 158 #[.agg #[.bool s,v]] [Fj v x.natAbs] true (G:=Unit) (fun _=>True) (fun _=> .int .i64 x.sign) (fun _=>[]):=by
 refine Zd func158 ntmps158 fun w0 sc hw hsc=>?_
 have hX:=Ni x.natAbs
 refine go 2 ?_
 refine Yd (Yg 2) fun b _=>go 14 ?_
 refine Zc J (fun h245=>?_) (fun h245=>?_)
 ·refine go 8 ?_
  exact Xj hsc () results158 (Zyw h245) trivial Za
 ·refine go 7 ?_
  refine Nw J (fun h247=>?_) (fun h247=>?_)
  ·refine go 8 ?_
   exact Xj hsc () results158 (Ybp hs h247 h245) trivial Za
  ·refine go 9 ?_
   exact Xj hsc () results158 (Ybo hs h247 h245) trivial Za
theorem Ze1(s t:Bool)(v w:Value)(x y:Int)(hs:sg s x)(ht:sg t y)(hx:bl x.natAbs≤4294967296:=by omega)(hy:bl y.natAbs≤4294967296:=by omega):Cal prog 156 #[.agg #[.bool s,v],.agg #[.bool t,w]] [Fj v x.natAbs,Fj w y.natAbs] true (G:=Bool×Value) (fun r=>sg r.1 (x+y)) (fun r=> .agg #[.bool r.1,r.2]) (fun r=>[Fj r.2 (x+y).natAbs]):=by
 refine Zd func156 ntmps156 fun w0 sc hw hsc=>go 2 ?_
 refine Yd (Yg 3) fun b _=>Yd (Yg 4) fun b_2 _=>Yd (Zs 5) fun b_3 _=>go 14 ?_
 refine Nw J (fun h231=>?_) (fun h231=>?_)
 ·have hst:s=t:=by simpa using h231
  refine go 1 ?_
  refine Xw (fun _=>False) [(0,0),(1,0),(2,0),(3,0),(4,0),(5,0),(6,1),(7,0),(8,3)]<|go 6 ?_
  refine Yx (Zh 6 [1,2] (Zwl _ _ _ _ hx hy)) fun v _=>?_
  refine Qe J J (Qa (Xl (ivs:=[(0,_),(1,_)]) J K4 (fun a w hs=>Lk ((Zn J) a w hs) ((Pt (i:=6) J Zo) a w hs))))<|go 6 ?_
  exact Xj hsc (_,_) results156 J (Zvv hs (hst▸ht)) (Mm 6 Za (by rw [Zfu hs (hst▸ht)]))
 ·have hst:s≠t:=by simpa using h231
  refine go 6 ?_
  refine cl 6 [1,2] (Zbk _ _ _ _ hx hy) fun r hr=>go 4 ?_
  refine Zc J (fun h233=>?_) (fun h233=>?_)
  ·have hge:y.natAbs≤x.natAbs:=by have:=hr.1;omega
   refine go 1 ?_
   refine Xw (fun _=>False) [(0,0),(1,0),(2,0),(3,0),(4,0),(5,0),(6,1),(7,0),(8,3)]<|go 6 ?_
   refine Yx (Zh 7 [1,2] (Ze2 _ _ _ _ hx)) fun v_2 _=>?_
   refine Qe J J (Qa (Xl (ivs:=[(0,_),(1,_)]) J K4 (fun a w hs=>Lk ((Zn J) a w hs) ((Pt (i:=7) J Zo) a w hs))))<|go 6 ?_
   exact Xj hsc (_,_) results156 J (Zhz hs ht hst hge) (Mm 7 Za (by rw [Al hs ht hst hge]))
  ·have hge:x.natAbs≤y.natAbs:=by have:=hr.1;omega
   refine go 4 ?_
   refine Xw (fun _=>False) [(0,0),(1,0),(2,0),(3,0),(4,0),(5,0),(6,1),(7,0),(8,3)]<|go 6 ?_
   refine Yx (Zh 8 [2,1] (Ze2 _ _ _ _ hy)) fun v_3 _=>?_
   refine Qe J J (Qa (Xl (ivs:=[(0,_),(1,_)]) J K4 (fun a w hs=>Lk ((Zn J) a w hs) ((Pt (i:=8) J Zo) a w hs))))<|go 4 ?_
   exact Xj hsc (_,_) results156 J (by rw [Int.add_comm];exact Zhz ht hs (Ne.symm hst) hge) (Mm 8 Za (by rw [Int.add_comm,Al ht hs (Ne.symm hst) hge]))
theorem Xu(s:Bool)(x:Int)(hs:sg s x)(hx:bl x.natAbs≤4294967296:=by omega):Cal prog 155 #[.agg #[.bool s,.string (Xp x.natAbs)]] [] true (G:=Bool×Value) (fun r=>sg r.1 x) (fun r=> .agg #[.bool r.1,r.2]) (fun r=>[Fj r.2 x.natAbs]):=by
 refine Zd func155 ntmps155 fun w0 sc hw hsc=>go 2 ?_
 refine Yd (Yg 1) fun b _=>Yd (Zs 2) fun b_2 _=>go 3 ?_
 refine Xw (fun _=>False) [(0,0),(1,0),(2,0),(3,0),(4,1),(5,0),(6,3)]<|go 4 ?_
 refine Yx (Zh 3 [] (Zb8 _ hx)) fun v _=>?_
 refine Qe J J (Qa (Xl (ivs:=[(0,_),(1,_)]) J K4 (fun a w hs=>Lk ((Zn J) a w hs) ((Pt (i:=3) J Zo) a w hs))))<|go 4 ?_
 exact Xj hsc (_,_) results155 J hs (Mm 3 Za J)
theorem Ih(s:Bool)(v:Value)(x:Int)(hs:sg s x)(hx:bl x.natAbs≤4294967296:=by omega):Oo prog 113 #[.agg #[.bool s,v]] [Fj v x.natAbs] (Za5 x):=by
 refine Zd func113 ntmps113 fun w0 sc hw hsc=>go 2 ?_
 refine Yd (Yg 2) fun b _=>Yd (Zs 3) fun b_2 _=>go 8 ?_
 refine cl 3 [1] (Zjq _ _) fun _ _=>go 3 ?_
 refine Zc J (fun h219=>?_) (fun h219=>?_)
 ·refine go 2 ?_
  refine dt (Xl (ivs:=[]) J trivial (fun a w hs=>b93_))<|go 6 ?_
  exact Nz hsc () results113 (Zym h219) trivial Za
 ·refine go 3 ?_
  cases s
  ·refine Xw (fun _=>False) [(0,0),(1,0),(2,0),(3,2),(4,2),(5,2),(6,2),(7,0),(8,0),(9,0),(10,1),(11,0),(12,3),(13,3)]<|go 10 ?_
   refine Yx (Zh 3 [1] (Zmh _ _)) fun _ _=>?_
   refine Qe J J (Qa (Xl (ivs:=[(0,_),(1,_)]) J K4 (fun a w hs=>Zu1 ((Zn J) a w hs) ((Zn J) a w hs))))<|go 5 ?_
   exact Nz hsc () results113 (by first | exact Zps hs h219 | exact Zpr hs h219) trivial Za
  ·refine Xw (fun _=>False) [(0,0),(1,0),(2,0),(3,0),(4,0),(5,0),(6,0),(7,0),(8,0),(9,0),(10,1),(11,0),(12,3),(13,3)]<|go 10 ?_
   refine Yx (Zh 3 [1] (Zmh _ _)) fun _ _=>?_
   refine Qe J J (Qa (Xl (ivs:=[(0,_),(1,_)]) J K4 (fun a w hs=>Zu1 ((Zn J) a w hs) ((Zn J) a w hs))))<|go 5 ?_
   exact Nz hsc () results113 (by first | exact Zps hs h219 | exact Zpr hs h219) trivial Za
theorem Of(s t:Bool)(v w:Value)(x y:Int)(hs:sg s x)(ht:sg t y)(hy0:y≠0)(hx:bl x.natAbs≤3000000000:=by omega)(hy:bl y.natAbs≤3000000000:=by omega):Cal prog 193 #[.agg #[.bool s,v],.agg #[.bool t,w]] [Fj v x.natAbs,Fj w y.natAbs] true (G:=Bool×Value×Value) (fun r=>sg r.1 (x/y)) (fun r=> .tuple #[.agg #[.bool r.1,r.2.1],.agg #[.bool false,r.2.2]]) (fun r=>[Fj r.2.1 (x/y).natAbs,Fj r.2.2 (x%y).natAbs]):=by
 refine Zd func193 ntmps193 fun w0 sc hw hsc=>?_
 have hX:=Ni x.natAbs
 have hY:=Ni y.natAbs
 have hyp:0<y.natAbs:=O
 have hrl:x.natAbs%y.natAbs<y.natAbs:=Nat.mod_lt _ hyp
 have hrb:=Ps (Nat.le_of_lt hrl)
 have hqb:=Ps (Nat.div_le_self x.natAbs y.natAbs)
 refine go 2 ?_
 refine Yd (Yg 3) fun b _=>Yd (Yg 4) fun b_2 _=>Yd (Zs 5) fun b_3 _=>Yd (Zs 6) fun b_4 _=>go 8 ?_
 refine cl 7 [1,2] (Zwk _ _ _ _ O O hyp) fun g _=>go 13 ?_
 refine Zbq (d:=18) J (fun s256=>?_) (fun s256=>?_)
 ·refine go 6 ?_
  refine Zc J (fun h256=>?_) (fun h256=>?_)
  ·subst s256
   have hR0:0<x.natAbs%y.natAbs:=by rcases Nat.eq_zero_or_pos (x.natAbs%y.natAbs)with h | h;(rw [h]at h256;simp [Hb]at h256);exact h
   have hD:=divA hs ht hy0 hR0
   refine Xw (fun _=>False) [(0,0),(3,0),(4,0),(5,0),(1,1),(2,1),(6,1),(7,0),(8,3)]<|go 4 ?_
   refine Fm J (Qd (i:=9) (ivs:=[(0,_)]) (enc:=Nt) (dg U 1) J J K2 Pe ti111 J J J J J pU.cells J J hw.h) fun v _=>Yx (Zh 10 [7,9] (Zwl _ _ _ _ O (show bl 1≤4294967296 by decide))) fun v_2 _=>Yx (Zh 11 [2,8] (Ze2 _ _ _ _ O)) fun v_3 _=>go 12 ?_
   refine dt (Xl (ivs:=[(0,_),(1,_)]) J K4 (fun a w hs=>Lk ((Zn J) a w hs) ((Pt (i:=10) J Zo) a w hs)))<|go 1 ?_
   refine dt (Xl (ivs:=[(0,_),(1,_)]) J K4 (fun a w hs=>Lk ((Zn J) a w hs) ((Pt (i:=11) J Zo) a w hs)))<|go 5 ?_
   exact Nz hsc (_,_,_) results193 J hD.1 (Mm 10 (Mm 11 Za (by rw [hD.2.2]<;>rfl)) (by rw [hD.2.1]<;>rfl))
  ·have hD:=divB hs ht hy0 (.inr ((Ph Xe _).1 O))
   refine go 10 ?_
   refine dt (Xl (ivs:=[(0,_),(1,_)]) J K4 (fun a w hs=>Lk ((Zn J) a w hs) ((Pt (i:=7) J Zo) a w hs)))<|go 1 ?_
   refine dt (Xl (ivs:=[(0,_),(1,_)]) J K4 (fun a w hs=>Lk ((Zn J) a w hs) ((Pt (i:=8) J Zo) a w hs)))<|go 5 ?_
   exact Nz hsc (_,_,_) results193 J hD.1 (Mm 7 (Mm 8 Za (by rw [hD.2.2]<;>rfl)) (by rw [hD.2.1]<;>rfl))
 ·have hD:=divB hs ht hy0 (.inl s256)
  refine go 17 ?_
  refine dt (Xl (ivs:=[(0,_),(1,_)]) J K4 (fun a w hs=>Lk ((Zn J) a w hs) ((Pt (i:=7) J Zo) a w hs)))<|go 1 ?_
  refine dt (Xl (ivs:=[(0,_),(1,_)]) J K4 (fun a w hs=>Lk ((Zn J) a w hs) ((Pt (i:=8) J Zo) a w hs)))<|go 5 ?_
  exact Nz hsc (_,_,_) results193 J hD.1 (Mm 7 (Mm 8 Za (by rw [hD.2.2]<;>rfl)) (by rw [hD.2.1]<;>rfl))
theorem Ao(b:Bool)(s:ByteArray):Oo prog 166 #[.agg #[.bool b,.string s]] [] (.bool (okW b s)):=by
 refine Zd func166 ntmps166 fun w0 sc hw hsc=>go 2 ?_
 refine Yd (Yg 1) fun b _=>go 8 ?_
 refine dt (Zul J J J J)<|go 2 ?_
 refine Zc J (fun h264=>?_) (fun h264=>?_)
 ·refine go 10 ?_
  exact Xj hsc () results166 (by unfold okW;rw [if_pos h264]) trivial Za
 ·refine go 6 ?_
  refine dt (Yfj (i:=0) J J J uT9 J)<|go 2 ?_
  refine Yu (d:=13) J (fun s267=>?_) (fun s267=>?_)
  ·refine go 9 ?_
   exact Xj hsc () results166 (by unfold okW;rw [if_neg h264];simp_all<;>omega) trivial Za
  ·refine go 9 ?_
   exact Xj hsc () results166 (by unfold okW;rw [if_neg h264];simp_all<;>omega) trivial Za
theorem Lb(x:Int)(hx:bl x.natAbs≤65536):Cal prog 166 #[wv x] [] false (G:=Unit) (fun _=>True) (fun _=> .bool true) (fun _=>[]):=Zbj hx▸Ao _ _
theorem Zlk(b:Bool)(s:ByteArray)(c:Bool)(t:ByteArray):Oo prog 154 #[.agg #[.bool b,.string s],.agg #[.bool c,.string t]] [] (.bool (okW b s && okW c t)):=by
 refine Zd func154 ntmps154 fun w0 sc hw hsc=>go 2 ?_
 refine Yd (Yg 1) fun b _=>Yd (Yg 2) fun b_2 _=>go 6 ?_
 refine cl 2 [] (Ao _ _) fun _ _=>go 1 ?_
 refine Zbq (d:=7) J (fun s271=>?_) (fun s271=>?_)
 ·refine go 1 ?_
  refine Fl 2 [] (Ao _ _) fun _ _=>go 5 ?_
  exact Xj hsc () results154 (by simp_all) trivial Za
 ·refine go 7 ?_
  exact Xj hsc () results154 (by simp_all) trivial Za
theorem Ka(x y:Int)(hx:bl x.natAbs≤65536)(hy:bl y.natAbs≤65536):Oo prog 154 #[wv x,wv y] [] (.bool true):=by
 have h:=Zlk (decide (x<0)) (Xp x.natAbs) (decide (y<0)) (Xp y.natAbs)
 rw [Zbj hx,Zbj hy]at h;exact h
theorem Kl(x:Int)(hx:bl x.natAbs≤65536):Oo prog 194 #[wv x] [] (.int .i64 x.sign):=by
 refine Zd func194 ntmps194 fun w0 sc hw hsc=>go 2 ?_
 refine Yd (Yg 1) fun b _=>go 7 ?_
 refine cl 1 [] (Lb _ ‹_›) fun _ _=>go 9 ?_
 refine cl 2 [] (Xu _ _ (Yz _)) fun g hg=>cl 2 [2] (Zjn _ _ _ ‹_›) fun _ _=>go 4 ?_
 exact Xj hsc () results194 J trivial Za
theorem Zih(x:Int)(hx:bl x.natAbs≤65536):Oo prog 196 #[wv x] [] (.int .i64 (bl x.natAbs:Int)):=by
 refine Zd func196 ntmps196 fun w0 sc hw hsc=>go 2 ?_
 refine Yd (Yg 1) fun b _=>go 7 ?_
 refine cl 1 [] (Lb _ ‹_›) fun _ _=>go 10 ?_
 refine cl 2 [] (Zb8 _) fun v _=>cl 2 [2] (Zjq _ _) fun _ _=>go 4 ?_
 exact Xj hsc () results196 J trivial Za
theorem Ek(x y:Int)(hx:bl x.natAbs≤65536)(hy:bl y.natAbs≤65536):Oo prog 120 #[wv x,wv y] [] (Za5 (x+y)):=by
 refine Zd func120 ntmps120 fun w0 sc hw hsc=>?_
 have hb:=Hy x y
 refine go 2 ?_
 refine Yd (Yg 1) fun b _=>Yd (Yg 2) fun b_2 _=>Yd (Zs 3) fun b_3 _=>go 8 ?_
 refine cl 3 [] (Ka _ _ ‹_› ‹_›) fun _ _=>go 7 ?_
 refine Xw (fun _=>False) [(0,0),(2,0),(1,1),(3,1),(4,1),(5,1),(6,0),(7,0),(8,3),(9,3)]<|go 2 ?_
 refine Yx (Zh 4 [] (Xu _ _ (Yz _))) fun g hg=>Yx (Zh 5 [] (Xu _ _ (Yz _))) fun g_2 hg_2=>Yx (Zh 6 [4,5] (Ze1 _ _ _ _ _ _ ‹_› ‹_›)) fun g_3 hg_3=>Yx (Zh 6 [6] (Ih _ _ _ ‹_›)) fun _ _=>go 7 ?_
 exact Nz hsc () results120 J trivial Za
theorem Yao(x y:Int)(hx:bl x.natAbs≤65536)(hy:bl y.natAbs≤65536):Oo prog 197 #[wv x,wv y] [] (Za5 (x-y)):=by
 refine Zd func197 ntmps197 fun w0 sc hw hsc=>?_
 have hb:=Bh x y
 have hny:=Zpi y
 refine go 2 ?_
 refine Yd (Yg 1) fun b _=>Yd (Yg 2) fun b_2 _=>Yd (Zs 3) fun b_3 _=>go 8 ?_
 refine cl 3 [] (Ka _ _ ‹_› ‹_›) fun _ _=>go 7 ?_
 refine Xw (fun _=>False) [(0,0),(2,0),(1,1),(3,1),(4,1),(5,1),(6,1),(7,0),(8,0),(9,3),(10,3)]<|go 2 ?_
 refine Yx (Zh 4 [] (Xu _ _ (Yz _))) fun g hg=>Yx (Zh 5 [] (Xu _ _ (Yz _))) fun g_2 hg_2=>Yx (Zh 6 [5] (Zn3 _ _ _ ‹_›)) fun g_3 hg_3=>Yx (Zh 7 [4,6] (Ze1 _ _ _ _ _ _ ‹_› ‹_›)) fun g_4 hg_4=>Yx (Zh 7 [7] (Ih _ _ _ ‹_› (by rw [←Int.sub_eq_add_neg];omega))) fun _ _=>go 7 ?_
 exact Nz hsc () results197 (by rw [Int.sub_eq_add_neg]<;>rfl) trivial Za
theorem Zd6(x y:Int)(hx:bl x.natAbs≤65536)(hy:bl y.natAbs≤65536):Oo prog 153 #[wv x,wv y] [] (Za5 (x*y)):=by
 refine Zd func153 ntmps153 fun w0 sc hw hsc=>?_
 have hb:=Yv x y
 refine go 2 ?_
 refine Yd (Yg 1) fun b _=>Yd (Yg 2) fun b_2 _=>Yd (Zs 3) fun b_3 _=>go 8 ?_
 refine cl 3 [] (Ka _ _ ‹_› ‹_›) fun _ _=>go 7 ?_
 refine Xw (fun _=>False) [(0,0),(2,0),(1,1),(3,1),(4,1),(5,1),(6,0),(7,0),(8,3),(9,3)]<|go 2 ?_
 refine Yx (Zh 4 [] (Xu _ _ (Yz _))) fun g hg=>Yx (Zh 5 [] (Xu _ _ (Yz _))) fun g_2 hg_2=>Yx (Zh 6 [4,5] (Zck _ _ _ _ _ _ ‹_› ‹_›)) fun g_3 hg_3=>Yx (Zh 6 [6] (Ih _ _ _ ‹_›)) fun _ _=>go 7 ?_
 exact Nz hsc () results153 J trivial Za
theorem Zpu(x y:Int)(hx:bl x.natAbs≤65536)(hy:bl y.natAbs≤65536):Oo prog 118 #[wv x,wv y] [] (Za5 (Int.gcd x y:Int)):=by
 refine Zd func118 ntmps118 fun w0 sc hw hsc=>?_
 have hb:=Zpj x.natAbs y.natAbs
 refine go 2 ?_
 refine Yd (Yg 1) fun b _=>Yd (Yg 2) fun b_2 _=>Yd (Zs 3) fun b_3 _=>go 8 ?_
 refine cl 3 [] (Ka _ _ ‹_› ‹_›) fun _ _=>go 7 ?_
 refine Xw (fun _=>False) [(0,0),(1,0),(3,0),(4,0),(2,1),(5,1),(6,1),(7,0),(8,1),(9,0),(10,0),(11,3),(12,3)]<|go 4 ?_
 refine Yx (Zh 4 [] (Zb8 _)) fun v _=>Yx (Zh 5 [] (Zb8 _)) fun v_2 _=>Yx (Zh 6 [4,5] (Zn8 _ _ _ _)) fun v_3 _=>?_
 refine Qe J J (Qa (Xl (ivs:=[(0,_),(1,_)]) J K4 (fun a w hs=>Lk ((Zn J) a w hs) ((Pt (i:=6) J Zo) a w hs))))<|Yx (Zh 6 [6] (Ih false _ (Int.gcd x y:Int) (by simp [sg]) (by show bl (Nat.gcd x.natAbs y.natAbs)≤_;omega))) fun _ _=>go 7 ?_
 exact Nz hsc () results118 J trivial Za
theorem Dx(x y:Int)(hx:bl x.natAbs≤65536)(hy:bl y.natAbs≤65536)(hy0:y≠0):Oo prog 198 #[wv x,wv y] [] (.tuple #[wv (Bl (x/y)),wv (Bl (x%y)),.int .i64 0]):=by
 refine Zd func198 ntmps198 fun w0 sc hw hsc=>?_
 have hb:=Zig x y
 have hb2:=Zx9 x y hy0
 refine go 2 ?_
 refine Yd (Yg 1) fun b _=>Yd (Yg 2) fun b_2 _=>Yd (Zs 3) fun b_3 _=>Yd (Zs 4) fun b_4 _=>go 8 ?_
 refine cl 4 [] (Ka _ _ ‹_› ‹_›) fun _ _=>go 11 ?_
 refine dt (Zul J J J J)<|go 2 ?_
 refine Zc J (fun h337=>?_) (fun h337=>?_)
 ·rw [Fx]at h337
  exfalso;exact hy0 (by have:=(Ph (by omega:2≤256) y.natAbs).1 h337;omega)
 ·refine go 2 ?_
  refine jn (G:=Bool×Value×Value×Nat×Nat) [4,5] [0,1,2,3,4] (fun q=>[(7,.pointer (some ⟨q.2.2.2.1,0,none⟩)),(8,.pointer (some ⟨q.2.2.2.2,0,none⟩))]) (fun q=>[(84,Fj q.2.1 (x/y).natAbs),(85,Fj q.2.2.1 (x%y).natAbs),(86,box q.2.2.2.1 171 #[.bool q.1,q.2.1]),(87,box q.2.2.2.2 171 #[.bool false,q.2.2.1])]) (fun q=>sg q.1 (x/y)) ?_ ?_
  ·refine Mq [1,2] [11]<|Zm (n:=10) [(0,0),(2,0)]<|go 3 ?_
   refine Zk4 (n:=9) 1 8 9 ?_ ?_ ?_
   ·refine Ny (Zh 81 [] (Xu _ _ (Yz _))) fun g hg=>?_
    refine Zk4 (n:=8) 3 8 9 ?_ ?_ ?_
    ·refine Ny (Zh 82 [] (Xu _ _ (Yz _))) fun g_2 hg_2=>?_
     refine Zk4 (n:=7) 4 8 9 ?_ ?_ ?_
     ·refine Ny (Zh 84 [81,82] (Of _ _ _ _ _ _ ‹_› ‹_› hy0)) fun g_3 hg_3=>?_
      refine Zm (n:=4) [(5,0),(6,0),(7,0)]<|go 4 ?_
      refine Qq (n:=3) 8 9 ?_ ?_
      ·refine Ny (Oj 86) fun b_5 ho=>?_
       refine Zm (n:=0) [(9,1),(10,1),(11,3)]<|Yx (Oj 87) fun b_6 ho2=>go 3 ?_
       exact Zy<|Qu (_,_,_,_,_) ‹_› K2 K4
      ·refine Ny (Oj 87) fun b_7 ho3=>?_
       refine Zm (n:=0) [(8,1),(10,1),(11,3)]<|Yx (Oj 86) fun b_8 ho4=>go 3 ?_
       exact Zy<|Qu (_,_,_,_,_) ‹_› K2 K4
     ·refine Ny (Oj 86) fun b_9 ho5=>?_
      refine Qq (n:=6) 4 9 ?_ ?_
      ·refine Ny (Zh 84 [81,82] (Of _ _ _ _ _ _ ‹_› ‹_› hy0)) fun g_4 hg_4=>?_
       refine Zm (n:=0) [(5,0),(6,0),(7,0),(9,1),(10,1),(11,3)]<|go 3 ?_
       refine Yx (Oj 87) fun b_10 ho6=>go 3 ?_
       exact Zy<|Qu (_,_,_,_,_) ‹_› K2 K4
      ·refine Ny (Oj 87) fun b_11 ho7=>?_
       refine Zm (n:=0) [(4,1),(5,0),(6,0),(7,0),(10,1),(11,3)]<|Yx (Zh 84 [81,82] (Of _ _ _ _ _ _ ‹_› ‹_› hy0)) fun g_5 hg_5=>go 6 ?_
       exact Zy<|Qu (_,_,_,_,_) ‹_› K2 K4
     ·refine Ny (Oj 87) fun b_12 ho8=>?_
      refine Qq (n:=6) 4 8 ?_ ?_
      ·refine Ny (Zh 84 [81,82] (Of _ _ _ _ _ _ ‹_› ‹_› hy0)) fun g_6 hg_6=>?_
       refine Zm (n:=0) [(5,0),(6,0),(7,0),(8,1),(10,1),(11,3)]<|go 3 ?_
       refine Yx (Oj 86) fun b_13 ho9=>go 3 ?_
       exact Zy<|Qu (_,_,_,_,_) ‹_› K2 K4
      ·refine Ny (Oj 86) fun b_14 ho10=>?_
       refine Zm (n:=0) [(4,1),(5,0),(6,0),(7,0),(10,1),(11,3)]<|Yx (Zh 84 [81,82] (Of _ _ _ _ _ _ ‹_› ‹_› hy0)) fun g_7 hg_7=>go 6 ?_
       exact Zy<|Qu (_,_,_,_,_) ‹_› K2 K4
    ·refine Ny (Oj 86) fun b_15 ho11=>?_
     refine Qq (n:=7) 3 9 ?_ ?_
     ·refine Ny (Zh 82 [] (Xu _ _ (Yz _))) fun g_8 hg_8=>?_
      refine Qq (n:=6) 4 9 ?_ ?_
      ·refine Ny (Zh 84 [81,82] (Of _ _ _ _ _ _ ‹_› ‹_› hy0)) fun g_9 hg_9=>?_
       refine Zm (n:=0) [(5,0),(6,0),(7,0),(9,1),(10,1),(11,3)]<|go 3 ?_
       refine Yx (Oj 87) fun b_16 ho12=>go 3 ?_
       exact Zy<|Qu (_,_,_,_,_) ‹_› K2 K4
      ·refine Ny (Oj 87) fun b_17 ho13=>?_
       refine Zm (n:=0) [(4,1),(5,0),(6,0),(7,0),(10,1),(11,3)]<|Yx (Zh 84 [81,82] (Of _ _ _ _ _ _ ‹_› ‹_› hy0)) fun g_10 hg_10=>go 6 ?_
       exact Zy<|Qu (_,_,_,_,_) ‹_› K2 K4
     ·refine Ny (Oj 87) fun b_18 ho14=>?_
      refine Zm (n:=0) [(3,1),(4,1),(5,0),(6,0),(7,0),(10,1),(11,3)]<|Yx (Zh 82 [] (Xu _ _ (Yz _))) fun g_11 hg_11=>Yx (Zh 84 [81,82] (Of _ _ _ _ _ _ ‹_› ‹_› hy0)) fun g_12 hg_12=>go 6 ?_
      exact Zy<|Qu (_,_,_,_,_) ‹_› K2 K4
    ·refine Ny (Oj 87) fun b_19 ho15=>?_
     refine Qq (n:=7) 3 8 ?_ ?_
     ·refine Ny (Zh 82 [] (Xu _ _ (Yz _))) fun g_13 hg_13=>?_
      refine Qq (n:=6) 4 8 ?_ ?_
      ·refine Ny (Zh 84 [81,82] (Of _ _ _ _ _ _ ‹_› ‹_› hy0)) fun g_14 hg_14=>?_
       refine Zm (n:=0) [(5,0),(6,0),(7,0),(8,1),(10,1),(11,3)]<|go 3 ?_
       refine Yx (Oj 86) fun b_20 ho16=>go 3 ?_
       exact Zy<|Qu (_,_,_,_,_) ‹_› K2 K4
      ·refine Ny (Oj 86) fun b_21 ho17=>?_
       refine Zm (n:=0) [(4,1),(5,0),(6,0),(7,0),(10,1),(11,3)]<|Yx (Zh 84 [81,82] (Of _ _ _ _ _ _ ‹_› ‹_› hy0)) fun g_15 hg_15=>go 6 ?_
       exact Zy<|Qu (_,_,_,_,_) ‹_› K2 K4
     ·refine Ny (Oj 86) fun b_22 ho18=>?_
      refine Zm (n:=0) [(3,1),(4,1),(5,0),(6,0),(7,0),(10,1),(11,3)]<|Yx (Zh 82 [] (Xu _ _ (Yz _))) fun g_16 hg_16=>Yx (Zh 84 [81,82] (Of _ _ _ _ _ _ ‹_› ‹_› hy0)) fun g_17 hg_17=>go 6 ?_
      exact Zy<|Qu (_,_,_,_,_) ‹_› K2 K4
   ·refine Ny (Oj 86) fun b_23 ho19=>?_
    refine Qq (n:=8) 1 9 ?_ ?_
    ·refine Ny (Zh 81 [] (Xu _ _ (Yz _))) fun g_18 hg_18=>?_
     refine Qq (n:=7) 3 9 ?_ ?_
     ·refine Ny (Zh 82 [] (Xu _ _ (Yz _))) fun g_19 hg_19=>?_
      refine Qq (n:=6) 4 9 ?_ ?_
      ·refine Ny (Zh 84 [81,82] (Of _ _ _ _ _ _ ‹_› ‹_› hy0)) fun g_20 hg_20=>?_
       refine Zm (n:=0) [(5,0),(6,0),(7,0),(9,1),(10,1),(11,3)]<|go 3 ?_
       refine Yx (Oj 87) fun b_24 ho20=>go 3 ?_
       exact Zy<|Qu (_,_,_,_,_) ‹_› K2 K4
      ·refine Ny (Oj 87) fun b_25 ho21=>?_
       refine Zm (n:=0) [(4,1),(5,0),(6,0),(7,0),(10,1),(11,3)]<|Yx (Zh 84 [81,82] (Of _ _ _ _ _ _ ‹_› ‹_› hy0)) fun g_21 hg_21=>go 6 ?_
       exact Zy<|Qu (_,_,_,_,_) ‹_› K2 K4
     ·refine Ny (Oj 87) fun b_26 ho22=>?_
      refine Zm (n:=0) [(3,1),(4,1),(5,0),(6,0),(7,0),(10,1),(11,3)]<|Yx (Zh 82 [] (Xu _ _ (Yz _))) fun g_22 hg_22=>Yx (Zh 84 [81,82] (Of _ _ _ _ _ _ ‹_› ‹_› hy0)) fun g_23 hg_23=>go 6 ?_
      exact Zy<|Qu (_,_,_,_,_) ‹_› K2 K4
    ·refine Ny (Oj 87) fun b_27 ho23=>?_
     refine Zm (n:=0) [(1,1),(3,1),(4,1),(5,0),(6,0),(7,0),(10,1),(11,3)]<|Yx (Zh 81 [] (Xu _ _ (Yz _))) fun g_24 hg_24=>Yx (Zh 82 [] (Xu _ _ (Yz _))) fun g_25 hg_25=>Yx (Zh 84 [81,82] (Of _ _ _ _ _ _ ‹_› ‹_› hy0)) fun g_26 hg_26=>go 6 ?_
     exact Zy<|Qu (_,_,_,_,_) ‹_› K2 K4
   ·refine Ny (Oj 87) fun b_28 ho24=>?_
    refine Qq (n:=8) 1 8 ?_ ?_
    ·refine Ny (Zh 81 [] (Xu _ _ (Yz _))) fun g_27 hg_27=>?_
     refine Qq (n:=7) 3 8 ?_ ?_
     ·refine Ny (Zh 82 [] (Xu _ _ (Yz _))) fun g_28 hg_28=>?_
      refine Qq (n:=6) 4 8 ?_ ?_
      ·refine Ny (Zh 84 [81,82] (Of _ _ _ _ _ _ ‹_› ‹_› hy0)) fun g_29 hg_29=>?_
       refine Zm (n:=0) [(5,0),(6,0),(7,0),(8,1),(10,1),(11,3)]<|go 3 ?_
       refine Yx (Oj 86) fun b_29 ho25=>go 3 ?_
       exact Zy<|Qu (_,_,_,_,_) ‹_› K2 K4
      ·refine Ny (Oj 86) fun b_30 ho26=>?_
       refine Zm (n:=0) [(4,1),(5,0),(6,0),(7,0),(10,1),(11,3)]<|Yx (Zh 84 [81,82] (Of _ _ _ _ _ _ ‹_› ‹_› hy0)) fun g_30 hg_30=>go 6 ?_
       exact Zy<|Qu (_,_,_,_,_) ‹_› K2 K4
     ·refine Ny (Oj 86) fun b_31 ho27=>?_
      refine Zm (n:=0) [(3,1),(4,1),(5,0),(6,0),(7,0),(10,1),(11,3)]<|Yx (Zh 82 [] (Xu _ _ (Yz _))) fun g_31 hg_31=>Yx (Zh 84 [81,82] (Of _ _ _ _ _ _ ‹_› ‹_› hy0)) fun g_32 hg_32=>go 6 ?_
      exact Zy<|Qu (_,_,_,_,_) ‹_› K2 K4
    ·refine Ny (Oj 86) fun b_32 ho28=>?_
     refine Zm (n:=0) [(1,1),(3,1),(4,1),(5,0),(6,0),(7,0),(10,1),(11,3)]<|Yx (Zh 81 [] (Xu _ _ (Yz _))) fun g_33 hg_33=>Yx (Zh 82 [] (Xu _ _ (Yz _))) fun g_34 hg_34=>Yx (Zh 84 [81,82] (Of _ _ _ _ _ _ ‹_› ‹_› hy0)) fun g_35 hg_35=>go 6 ?_
     exact Zy<|Qu (_,_,_,_,_) ‹_› K2 K4
  ·rintro⟨qb,qv,rv,b7,b8⟩ hq
   dsimp only at hq
   dsimp only
   refine go 3 ?_
   refine cl 4 [84] (Ih _ _ _ ‹_›) fun _ _=>go 9 ?_
   refine cl 4 [85] (Ih _ _ _ (Yhk x hy0)) fun _ _=>go 7 ?_
   refine Mq [4] [3,4]<|Zm (n:=0) [(1,0),(0,1),(2,1),(3,3),(4,3)]<|go 6 ?_
   refine Zy<|go 2 ?_
   exact xe3 hsc () results198 J trivial Za
theorem Za4(s t:Bool)(v w:Value)(x y:Int)(hs:sg s x)(ht:sg t y)(hy0:y≠0)(hx:bl x.natAbs≤1000000000:=by omega)(hy:bl y.natAbs≤1000000000:=by omega):Oo prog 161 #[.agg #[.bool s,v],.agg #[.bool t,w]] [Fj v x.natAbs,Fj w y.natAbs] (Zab x y):=by
 refine Zd func161 ntmps161 fun w0 sc hw hsc=>?_
 have hb:=Zpj x.natAbs y.natAbs
 have hg0:Nh x y≠0:=Yin hy0
 have hgs:sg t (Nh x y):=Yhi ht hy0
 have hga:=Zbn x y
 have hq1:=Zig x (Nh x y)
 have hq2:=Zig y (Nh x y)
 refine go 2 ?_
 refine Yd (Yg 3) fun b _=>Yd (Yg 4) fun b_2 _=>Yd (Zs 5) fun b_3 _=>go 4 ?_
 refine Ec (fun _=>False) [9]<|Zm (n:=4) [(0,0),(1,0),(2,0),(3,0),(4,0),(5,0)]<|go 7 ?_
 refine Qq (n:=3) 6 8 ?_ ?_
 ·refine Ny (Zh 81 [1,2] (Zn8 _ _ _ _)) fun v _=>?_
  refine Zm (n:=0) [(7,0),(8,1),(9,3)]<|Qe J J (Qa (Xl (ivs:=[(0,_),(1,_)]) J K4 (fun a w hs=>Lk ((Zn J) a w hs) ((Pt (i:=81) J Zo) a w hs))))<|Yx (Zs 82) fun b_4 _=>go 2 ?_
  refine Zy<|go 2 ?_
  refine Ze (Mt 81 (Zws _ x y) J J)<|go 3 ?_
  refine cl 6 [1,81] (Of _ _ _ _ x (Nh x y) hs hgs hg0 O (by rw [hga];omega)) fun g hg=>go 10 ?_
  refine cl 8 [2,81] (Of _ _ _ _ y (Nh x y) ht hgs hg0 O (by rw [hga];omega)) fun g_2 hg_2=>go 9 ?_
  refine cl 9 [6] (Ih _ _ _ ‹_›) fun _ _=>go 3 ?_
  refine Yd (Zs 10) fun b_5 _=>go 7 ?_
  refine cl 10 [8] (Ih _ _ _ ‹_›) fun _ _=>go 3 ?_
  refine Yd (Zs 11) fun b_6 _=>go 10 ?_
  refine Yu (d:=43) J (fun s460=>?_) (fun s460=>?_)
  ·refine go 8 ?_
   refine dt (Xl (ivs:=[]) J trivial (fun a w hs=>Zsk))<|go 6 ?_
   exact Nz hsc () results161 (Zaa (by unfold Mz;first | exact .inl (Bf ‹_›) | exact .inr (Bf ‹_›))) trivial Za
  ·refine go 5 ?_
   refine Zc J (fun h460=>?_) (fun h460=>?_)
   ·refine go 2 ?_
    refine dt (Xl (ivs:=[]) J trivial (fun a w hs=>Zsk))<|go 6 ?_
    exact Nz hsc () results161 (Zaa (by unfold Mz;first | exact .inl (Bf ‹_›) | exact .inr (Bf ‹_›))) trivial Za
   ·refine go 6 ?_
    refine dt (Xl (ivs:=[(0,_),(1,_)]) J K4 (fun a w hs=>Zfr))<|go 5 ?_
    exact Nz hsc () results161 (Zqn (Decidable.byContradiction ‹_›) (Decidable.byContradiction ‹_›)) trivial Za
 ·refine Ny (Zs 82) fun b_7 _=>?_
  refine Zm (n:=0) [(6,1),(7,0),(9,3)]<|Yx (Zh 81 [1,2] (Zn8 _ _ _ _)) fun v_2 _=>?_
  refine Qe J J (Qa (Xl (ivs:=[(0,_),(1,_)]) J K4 (fun a w hs=>Lk ((Zn J) a w hs) ((Pt (i:=81) J Zo) a w hs))))<|go 2 ?_
  refine Zy<|go 2 ?_
  refine Ze (Mt 81 (Zws _ x y) J J)<|go 3 ?_
  refine cl 12 [1,81] (Of _ _ _ _ x (Nh x y) hs hgs hg0 O (by rw [hga];omega)) fun g_3 hg_3=>go 10 ?_
  refine cl 14 [2,81] (Of _ _ _ _ y (Nh x y) ht hgs hg0 O (by rw [hga];omega)) fun g_4 hg_4=>go 9 ?_
  refine cl 15 [12] (Ih _ _ _ ‹_›) fun _ _=>go 3 ?_
  refine Yd (Zs 16) fun b_8 _=>go 7 ?_
  refine cl 16 [14] (Ih _ _ _ ‹_›) fun _ _=>go 3 ?_
  refine Yd (Zs 17) fun b_9 _=>go 10 ?_
  refine Yu (d:=43) J (fun s460_2=>?_) (fun s460_2=>?_)
  ·refine go 8 ?_
   refine dt (Xl (ivs:=[]) J trivial (fun a w hs=>Zsk))<|go 6 ?_
   exact Nz hsc () results161 (Zaa (by unfold Mz;first | exact .inl (Bf ‹_›) | exact .inr (Bf ‹_›))) trivial Za
  ·refine go 5 ?_
   refine Zc J (fun h460_2=>?_) (fun h460_2=>?_)
   ·refine go 2 ?_
    refine dt (Xl (ivs:=[]) J trivial (fun a w hs=>Zsk))<|go 6 ?_
    exact Nz hsc () results161 (Zaa (by unfold Mz;first | exact .inl (Bf ‹_›) | exact .inr (Bf ‹_›))) trivial Za
   ·refine go 6 ?_
    refine dt (Xl (ivs:=[(0,_),(1,_)]) J K4 (fun a w hs=>Zfr))<|go 5 ?_
    exact Nz hsc () results161 (Zqn (Decidable.byContradiction ‹_›) (Decidable.byContradiction ‹_›)) trivial Za
theorem Dw(x y:Int)(hx:bl x.natAbs≤65536)(hy:bl y.natAbs≤65536)(hy0:y≠0:=by omega):Oo prog 122 #[wv x,wv y] [] (Zab x y):=by
 refine Zd func122 ntmps122 fun w0 sc hw hsc=>go 2 ?_
 refine Yd (Yg 1) fun b _=>Yd (Yg 2) fun b_2 _=>Yd (Zs 3) fun b_3 _=>go 8 ?_
 refine cl 3 [] (Ka _ _ ‹_› ‹_›) fun _ _=>go 11 ?_
 refine dt (Zul J J J J)<|go 2 ?_
 refine Zc J (fun h471=>?_) (fun h471=>?_)
 ·rw [Fx]at h471
  exfalso;exact hy0 (by have:=(Ph (by omega:2≤256) y.natAbs).1 h471;omega)
 ·refine go 3 ?_
  refine Xw (fun _=>False) [(0,0),(2,0),(1,1),(3,1),(4,1),(5,0),(6,0),(7,3),(8,3)]<|go 2 ?_
  refine Yx (Zh 4 [] (Xu _ _ (Yz _))) fun g hg=>Yx (Zh 5 [] (Xu _ _ (Yz _))) fun g_2 hg_2=>Yx (Zh 5 [4,5] (Za4 _ _ _ _ _ _ ‹_› ‹_› hy0)) fun _ _=>go 7 ?_
  exact Nz hsc () results122 J trivial Za
theorem Zhh(b:Bool)(s:ByteArray)(c:Bool)(t:ByteArray):Oo prog 199 #[.agg #[.bool b,.string s,.bool c,.string t]] [] (.bool (okR b s c t)):=by
 refine Zd func199 ntmps199 fun w0 sc hw hsc=>go 2 ?_
 refine Yd (Yg 1) fun b _=>go 9 ?_
 refine cl 1 [] (Zlk _ _ _ _) fun _ _=>go 1 ?_
 refine Zbq (d:=8) J (fun s451=>?_) (fun s451=>?_)
 ·have hcc:okW c t=true:=by simp_all
  have hok:=Zn1 hcc
  obtain⟨hk1,hk2,hk3⟩:=Classical.choose_spec hok
  generalize Classical.choose hok=z at hk1 hk2 hk3 ⊢
  subst hk2;subst hk3
  try clear hok
  refine go 2 ?_
  refine Fl 1 [] (Kl z hk1) fun _ _=>go 6 ?_
  exact Xj hsc () results199 (by first | rw [Zq0 (by simp_all) hk1] | (unfold okR;simp_all)) trivial Za
 ·refine go 9 ?_
  exact Xj hsc () results199 (by first | rw [Zq0 (by simp_all) hk1] | (unfold okR;simp_all)) trivial Za
theorem Mn(x y:Int)(hx:bl x.natAbs≤65536)(hy:bl y.natAbs≤65536)(hy0:0<y):Cal prog 199 #[rX x y] [] false (G:=Unit) (fun _=>True) (fun _=> .bool true) (fun _=>[]):=okR_wv hx hy hy0▸Zhh _ _ _ _
theorem Zp(x:Int)(hx:Qx x:=by exact⟨O,O⟩):Oo prog 71 #[.int .i64 x] [] (wv x):=by
 refine Zd func71 ntmps71 fun w0 sc hw hsc=>?_
 have hxa:=hx.1
 have hxb:=hx.2
 have hxU:x.natAbs<U:=by simp only [U];omega
 have hxl:bl x.natAbs≤64:=(Xo 64 _).2 (by rw [←Ygk];exact hxU)
 refine go 2 ?_
 refine Yd (Zs 1) fun b _=>go 5 ?_
 refine dt (Yjh (r:=x%18446744073709551616) J J uT3 Za7 J)<|go 3 ?_
 refine jn (G:=Unit) [0,2] [0,1] (fun _=>[(3,.int .u64 ((x.natAbs:Nat):Int))]) (fun _=>[]) (fun _=>True) ?_ ?_
 ·refine go 6 ?_
  refine Zc J (fun h276=>?_) (fun h276=>?_)
  ·refine go 2 ?_
   refine dt (Yav (r:=x.natAbs) J J O)<|go 2 ?_
   exact Qu () trivial ⟨by first | rfl | (rw [show x%18446744073709551616=((x.natAbs:Nat):Int) by omega];rfl),trivial⟩ trivial
  ·refine go 1 ?_
   exact Qu () trivial ⟨by first | rfl | (rw [show x%18446744073709551616=((x.natAbs:Nat):Int) by omega];rfl),trivial⟩ trivial
 ·rintro _ -
  refine go 5 ?_
  refine tt (Qd (i:=2) (ivs:=[(0,_)]) (enc:=Nt) [x.natAbs] J J K2 Pe ti111 J J J J J pU.cells J J hw.h) J fun v _=>cl 2 [2] (Pn _ _) fun _ _=>?_
  refine Qn (Za1 2 J J pU)<|Qn (Zg1 2 (Zfy hxU) J J)<|dt (Xl (ivs:=[(0,_),(1,_)]) J K4 (fun a w hs=>Lk ((Zn J) a w hs) ((Pt (i:=2) J (Xa pU)) a w hs)))<|cl 2 [2] (Ih _ _ x (Yz _)) fun _ _=>go 3 ?_
  refine Yd (Zs 3) fun b_2 _=>go 11 ?_
  exact Xj hsc () results71 (by rw [Mr O]<;>rfl) trivial Za
end Go.Sky

