/- Rules, arithmetic and contracts: part 11. No conditions but those that each theorem names. -/
import Derived.Test.YtljmhpopdmadkaaGreatLw09
set_option linter.all false
set_option maxHeartbeats 4000000
namespace Go.Sky
open Go.Proofs.Tryz
open Go.Proofs
set_option synthInstance.maxHeartbeats 0
set_option synthInstance.maxSize 100000
set_option maxRecDepth 20000
set_option maxHeartbeats 4000000
set_option linter.unusedSimpArgs false
theorem r_trim(v:Value)(xs:List Nat):Cal prog 77 #[v] [Ym 1 Ha v xs] true (G:=Unit) (fun _=>True) (fun _=>Ld v (tz xs).length) (fun _=>[Ym 1 Ha (Ld v (tz xs).length) (tz xs)]):=by
 refine Zd func77 ntmps77 fun w0 sc hw hsc=>?_
 refine Nd (Zuc (i:=1) J Zo) (fun hself=>?_)
 refine Nd (Hq (i:=1) J Zo) fun hlen=>go 7 ?_
 refine lp (G:=Nat) [] [0] (fun k=>[(0,Ld v k)]) (fun k=>[(1,Ym 1 Ha (Ld v k) (xs.take k))]) (fun k=>(k≤xs.length)∧(tz (xs.take k)=tz xs)) (fun k=>k) xs.length ⟨Nat.le_refl _,by rw [List.take_length]⟩ ⟨by rw [hself];rfl,trivial⟩ ⟨by rw [hself,List.take_length];rfl,trivial⟩ ?_
 rintro k ⟨hk,ht⟩
 have hl:(xs.take k).length=k:=by rw [List.length_take];omega
 refine go 7 ?_
 refine Yu (d:=6) J (fun s33=>?_) (fun s33=>?_)
 ·refine go 4 ⟨O,?_⟩
  refine Ly (Yf (ii:=1) (i:=k-1) J J J J Zo Et zT3) J J<|go 5 ⟨O,?_⟩
  refine Zc J (fun h33=>?_) (fun h33=>?_)
  ·have hstep:=Zvc hk O (by omega:(xs.take k).getD (k-1) 0=0)
   refine go 8 ⟨O,?_⟩
   refine dt (Zxl (ii:=1) (i:=k-1) J J J J Zo Et zT3)<|go 3 ?_
   exact Yn (Yb2 1 1 (k-1) J J)<|Xb (k-1) ⟨O1,by rw [←ht,←hstep]⟩ O1 ⟨by rw [←Gh v k (k-1)];rfl,trivial⟩ ⟨by rw [Gh,List.take_take,Nat.min_eq_left O];rfl,trivial⟩
  ·refine go 12 ?_
   have hx:tz xs=xs.take k:=by rw [←ht];exact Zed hk O
   exact Xj hsc () results77 (by rw [hx,hl]) trivial (Mm 1 Za (by rw [hx,hl]))
 ·refine go 23 ?_
  have hx:tz xs=xs.take k:=by rw [←ht];exact Zed hk O
  exact Xj hsc () results77 (by rw [hx,hl]) trivial (Mm 1 Za (by rw [hx,hl]))
theorem Gc(v:Value)(xs:List Nat):Cal prog 77 #[v] [Ym 1 Ha v xs] false (G:=Unit) (fun _=>True) (fun _=>Ld v (tz xs).length) (fun _=>[]):=(r_trim v xs).bare
theorem Znn(v w:Value)(x y:Nat)(hx:bl x≤4294967296:=by omega)(hy:bl y≤4294967296:=by omega):Oo prog 124 #[v,w] [Hg v x,Hg w y] (.int .i64 (Zhr x y)):=by
 refine Zd func124 ntmps124 fun w0 sc hw hsc=>?_
 have hX:=Kd x
 have hY:=Kd y
 refine go 15 ?_
 refine Zc J (fun h41=>?_) (fun h41=>?_)
 ·refine go 10 ?_
  refine Zc J (fun h42=>?_) (fun h42=>?_)
  ·have hlt:x<y:=Af Ql O
   refine go 8 ?_
   exact Xj hsc () results124 (by unfold Zhr;rw [if_pos hlt]) trivial Za
  ·have hlt:y<x:=Af Ql O
   refine go 9 ?_
   exact Xj hsc () results124 (by unfold Zhr;rw [if_neg O,if_pos hlt]) trivial Za
 ·have hlen:(dg 1000000000 x).length=(dg 1000000000 y).length:=O
  refine go 12 ⟨O,?_⟩
  refine lp (G:=Nat) [0,1] [0,1,2] (fun k=>[(5,.int .i64 ((k:Int)-1))]) (fun k=>[]) (fun k=>(k≤(dg 1000000000 x).length)∧((dg 1000000000 x).drop k=(dg 1000000000 y).drop k)) (fun k=>k) (dg 1000000000 x).length ⟨O1,by rw [List.drop_length,hlen,List.drop_length]⟩ K1 trivial ?_
  rintro k ⟨hk,hd⟩
  refine go 7 ?_
  refine Zc J (fun h47=>?_) (fun h47=>?_)
  ·refine go 6 ?_
   refine Xw (fun _=>False) [(0,0),(1,0),(2,0),(3,0),(4,0),(5,0),(6,0),(7,0),(8,0)]<|go 2 ?_
   refine Qe J J (Qa (Yf (ii:=1) (i:=k-1) J J J J Zo Et zT3))<|go 3 ⟨O2,?_⟩
   refine Qe J J (Qa (Yf (ii:=2) (i:=k-1) J J J J Zo Et zT3))<|go 4 ⟨O2,?_⟩
   refine Zc J (fun h48=>?_) (fun h48=>?_)
   ·have hlt:=Zo8 Lz (xs:=(dg 1000000000 x)) (ys:=(dg 1000000000 y)) (Ok Ql x) (k:=k-1) O O (by rw [show k-1+1=k by omega];exact hd) O
    rw [Nm Ql,Nm Ql]at hlt
    refine go 12 ?_
    exact Xj hsc () results124 (by unfold Zhr;rw [if_pos hlt]) trivial Za
   ·refine go 3 ?_
    refine Xw (fun _=>False) [(0,0),(1,0),(2,0),(3,0),(4,0),(5,0),(6,0),(7,0),(8,0)]<|go 2 ?_
    refine Qe J J (Qa (Yf (ii:=1) (i:=k-1) J J J J Zo Et zT3))<|go 3 ⟨O2,?_⟩
    refine Qe J J (Qa (Yf (ii:=2) (i:=k-1) J J J J Zo Et zT3))<|go 4 ⟨O2,?_⟩
    refine Zc J (fun h51=>?_) (fun h51=>?_)
    ·have hlt:=Zo8 Lz (xs:=(dg 1000000000 y)) (ys:=(dg 1000000000 x)) (Ok Ql y) (k:=k-1) O O (by rw [show k-1+1=k by omega];exact hd.symm) O
     rw [Nm Ql,Nm Ql]at hlt
     refine go 11 ?_
     exact Xj hsc () results124 (by unfold Zhr;rw [if_neg O,if_pos hlt]) trivial Za
    ·refine go 8 ⟨O,?_⟩
     exact Xb (k-1) ⟨O1,by have:=Zfh (xs:=(dg 1000000000 x)) (ys:=(dg 1000000000 y)) (k:=k-1) O O (by rw [show k-1+1=k by omega];exact hd) O;exact this⟩ O1 ⟨by rw [show(((k-1:Nat):Int)-1)=(k:Int)-1-1 by omega];rfl,trivial⟩ trivial
  ·refine go 11 ?_
   obtain rfl:k=0:=O
   have heq:x=y:=(Zgl Ql).1 (by simpa using hd)
   exact Xj hsc () results124 (by unfold Zhr;rw [if_neg O,if_neg O]) trivial Za
theorem r_plus(v w:Value)(x y:Nat)(hx:bl x≤4294967296)(hy:bl y≤4294967296):Cal prog 123 #[v,w] [Hg v x,Hg w y] false (G:=Value) (fun r=>True) (fun r=>r) (fun r=>[Hg r (x+y)]):=by
 refine Zd func123 ntmps123 fun w0 sc hw hsc=>?_
 have hX:=Kd x
 have hY:=Kd y
 refine go 22 ?_
 refine Ze (Np 70 1 3 Ha)<|lp (G:=Nat×List Nat×Nat×Value) [0,1] [0,1,2] (fun q=>[(7,.int .i64 (q.1:Int)),(6,.int .i64 (q.2.2.1:Int)),(5,q.2.2.2)]) (fun q=>[(70,Ma 1 3 Ha q.2.2.2 q.2.1)]) (fun q=>(q.1≤max (dg 1000000000 x).length (dg 1000000000 y).length+1∧(q.1=max (dg 1000000000 x).length (dg 1000000000 y).length+1→q.2.2.1=0))∧(q.2.1.length=q.1)∧(∀d∈q.2.1,d<1000000000)∧(q.2.2.1≤1)∧(Yc 1000000000 q.2.1+q.2.2.1*1000000000^q.1=Yc 1000000000 ((dg 1000000000 x).take q.1)+Yc 1000000000 ((dg 1000000000 y).take q.1))∧(q.1=0∨1000000000^(q.1-1)≤x+y)) (fun q=>max (dg 1000000000 x).length (dg 1000000000 y).length+1-q.1) (0,[],0,.slice none 0 0) ⟨⟨O,O⟩,J,O5,O1,by simp [Yc],.inl rfl⟩ K3 K1 ?_
 rintro⟨i,o,c,vo⟩ ⟨hi,hol,hoa,hc,hv,hge⟩
 dsimp only at hi hol hoa hc hv hge
 dsimp only
 refine go 1 ?_
 refine jn (G:=Unit) [0,1,5,6,7] [0,70,1,2] (fun _=>[(21,.bool (decide (i<(dg 1000000000 x).length∨i<(dg 1000000000 y).length∨0<c)))]) (fun _=>[]) (fun _=>True) ?_ ?_
 ·refine go 6 ?_
  refine Yu (d:=12) J (fun s62=>?_) (fun s62=>?_)
  ·refine go 10 ?_
   exact Qu () trivial ⟨by first | exact congrArg some (vB (decide_eq_decide.2 O)) | exact congrArg some (vB (decide_eq_true O).symm),trivial⟩ trivial
  ·refine go 6 ?_
   refine Yu (d:=18) J (fun s62_2=>?_) (fun s62_2=>?_)
   ·refine go 4 ?_
    exact Qu () trivial ⟨by first | exact congrArg some (vB (decide_eq_decide.2 O)) | exact congrArg some (vB (decide_eq_true O).symm),trivial⟩ trivial
   ·refine go 4 ?_
    exact Qu () trivial ⟨by first | exact congrArg some (vB (decide_eq_decide.2 O)) | exact congrArg some (vB (decide_eq_true O).symm),trivial⟩ trivial
 ·rintro _ -
  refine Zc J (fun h62=>?_) (fun h62=>?_)
  ·have hgn:1000000000^i≤x+y:=by
    rcases h62 with h1 | h1 | h1
    ·have:=Bx Ql h1;omega
    ·have:=Bx Ql h1;omega
    ·by_cases h2:i<(dg 1000000000 x).length
     ·have:=Bx Ql h2;omega
     ·by_cases h3:i<(dg 1000000000 y).length
      ·have:=Bx Ql h3;omega
      ·rw [Ge Ql O,Ge Ql O]at hv
       have:1000000000^i≤c*1000000000^i:=Nat.le_mul_of_pos_left _ h1
       omega
   refine go 4 ?_
   refine jn (G:=Unit) [0,1,5,7] [0,70,1,2] (fun _=>[(6,.int .i64 ((c+(dg 1000000000 x).getD i 0:Nat):Int))]) (fun _=>[]) (fun _=>True) ?_ ?_
   ·refine go 8 ?_
    refine Zc J (fun h63=>?_) (fun h63=>?_)
    ·refine go 6 ⟨O2,O2,?_⟩
     refine dt (Ze3 J J J (by have h1:=(Xd Lz (Ok Ql x) i);omega))<|go 2 ?_
     try (have hz:(dg 1000000000 x).getD i 0=0:=by simp [List.getD,List.getElem?_eq_none (by omega:(dg 1000000000 x).length≤i)])
     exact Qu () trivial ⟨by first | rfl | (rw [hz];rfl),trivial⟩ trivial
    ·refine go 1 ?_
     try (have hz:(dg 1000000000 x).getD i 0=0:=by simp [List.getD,List.getElem?_eq_none (by omega:(dg 1000000000 x).length≤i)])
     exact Qu () trivial ⟨by first | rfl | (rw [hz];rfl),trivial⟩ trivial
   ·rintro _ -
    refine jn (G:=Unit) [0,1,5,7] [0,70,1,2] (fun _=>[(6,.int .i64 ((c+(dg 1000000000 x).getD i 0+(dg 1000000000 y).getD i 0:Nat):Int))]) (fun _=>[]) (fun _=>True) ?_ ?_
    ·refine go 8 ?_
     refine Zc J (fun h66=>?_) (fun h66=>?_)
     ·refine go 6 ⟨O2,O2,?_⟩
      refine dt (Ze3 J J J (by have h1:=(Xd Lz (Ok Ql x) i);have h2:=(Xd Lz (Ok Ql y) i);omega))<|go 2 ?_
      try (have hz:(dg 1000000000 y).getD i 0=0:=by simp [List.getD,List.getElem?_eq_none (by omega:(dg 1000000000 y).length≤i)])
      exact Qu () trivial ⟨by first | rfl | (rw [hz];rfl),trivial⟩ trivial
     ·refine go 1 ?_
      try (have hz:(dg 1000000000 y).getD i 0=0:=by simp [List.getD,List.getElem?_eq_none (by omega:(dg 1000000000 y).length≤i)])
      exact Qu () trivial ⟨by first | rfl | (rw [hz];rfl),trivial⟩ trivial
    ·rintro _ -
     refine go 4 ?_
     refine dt (Zq3 (n:=1000000000) J J J O)<|tt (Qd (i:=3) (ivs:=[(0,_)]) (enc:=Ha) [(c+(dg 1000000000 x).getD i 0+(dg 1000000000 y).getD i 0)%1000000000] J J K2 Et ti3 J J J J J pN.cells J J hw.h) J (fun v _=>?_)
     refine tt (Kq (i:=70) (j:=3) (by_:=8) J J J J J J O3 J (Xa pN) Et ti3 J pN J J J O8 O3 J hw.h) J fun v_2 _=>go 5 ?_
     refine dt (Zjr (n:=1000000000) J J J (by have h1:=(Xd Lz (Ok Ql x) i);have h2:=(Xd Lz (Ok Ql y) i);omega) O)<|go 9 ⟨O,?_⟩
     exact Xb (i+1,o ++ [(c+(dg 1000000000 x).getD i 0+(dg 1000000000 y).getD i 0)%1000000000],(c+(dg 1000000000 x).getD i 0+(dg 1000000000 y).getD i 0)/1000000000,_) ⟨⟨O9,fun h=>by dsimp only at h ⊢;rw [Zbw (by omega:(dg 1000000000 x).length≤i),Zbw (by omega:(dg 1000000000 y).length≤i)];omega⟩,by simp [hol],Zk3 hoa (Nat.mod_lt _ Lz),by have h1:=(Xd Lz (Ok Ql x) i);have h2:=(Xd Lz (Ok Ql y) i);dsimp only;omega,Zze hol hv,.inr hgn⟩ O1 K3 K1
  ·refine go 12 ?_
   have hc0:c=0:=O
   have hv2:Yc 1000000000 o=x+y:=by
    rw [Ge Ql O,Ge Ql O,hc0,Nat.zero_mul,Nat.add_zero]at hv
    exact hv
   have hx:o=dg 1000000000 (x+y):=Zvd Ql hoa hv2 (by rw [hol];exact hge)
   exact Xj hsc _ results123 J trivial (gow 70 Za (by rw [←hx]<;>rfl))
theorem Zno(v w:Value)(x y:Nat)(hxy:y≤x)(hx:bl x≤4294967296:=by omega):Cal prog 125 #[v,w] [Hg v x,Hg w y] false (G:=Value) (fun r=>True) (fun r=>r) (fun r=>[Hg r (x-y)]):=by
 refine Zd func125 ntmps125 fun w0 sc hw hsc=>?_
 have hX:=Kd x
 have hm:=Ps hxy
 have hY:=Kd y
 have hly:(dg 1000000000 y).length≤(dg 1000000000 x).length:=Zrv Ql hxy
 refine go 22 ?_
 refine Ze (Np 70 1 3 Ha)<|lp (G:=Nat×List Nat×Nat×Value) [0,1] [0,1,2] (fun q=>[(7,.int .i64 (q.1:Int)),(6,.int .i64 (q.2.2.1:Int)),(5,q.2.2.2)]) (fun q=>[(70,Ma 1 3 Ha q.2.2.2 q.2.1)]) (fun q=>(q.1≤(dg 1000000000 x).length)∧(q.2.1.length=q.1)∧(∀d∈q.2.1,d<1000000000)∧(q.2.2.1≤1)∧(Yc 1000000000 q.2.1+Yc 1000000000 ((dg 1000000000 y).take q.1)=Yc 1000000000 ((dg 1000000000 x).take q.1)+q.2.2.1*1000000000^q.1)) (fun q=>(dg 1000000000 x).length-q.1) (0,[],0,.slice none 0 0) ⟨O1,rfl,O5,O1,by simp [Yc]⟩ K3 K1 ?_
 rintro⟨i,o,c,vo⟩ ⟨hi,hol,hoa,hc,hv⟩
 dsimp only at hi hol hoa hc hv
 dsimp only
 have hda:=(Xd Lz (Ok Ql x) i)
 have hdb:=(Xd Lz (Ok Ql y) i)
 refine go 9 ?_
 refine Zc J (fun h79=>?_) (fun h79=>?_)
 ·refine go 15 ⟨O2,O2,O,?_⟩
  refine jn (G:=Unit) [0,1,5,7] [0,70,1,2] (fun _=>[(8,.int .i64 (((dg 1000000000 x).getD i 0:Int)-(c:Int)-((dg 1000000000 y).getD i 0:Int)))]) (fun _=>[]) (fun _=>True) ?_ ?_
  ·refine go 8 ?_
   refine Zc J (fun h81=>?_) (fun h81=>?_)
   ·refine go 9 ⟨O2,O2,O,?_⟩
    try (have hz:(dg 1000000000 y).getD i 0=0:=by simp [List.getD,List.getElem?_eq_none (by omega:(dg 1000000000 y).length≤i)])
    exact Qu () trivial ⟨by first | rfl | (rw [hz];exact congrArg some (Zbs O)),trivial⟩ trivial
   ·refine go 1 ?_
    try (have hz:(dg 1000000000 y).getD i 0=0:=by simp [List.getD,List.getElem?_eq_none (by omega:(dg 1000000000 y).length≤i)])
    exact Qu () trivial ⟨by first | rfl | (rw [hz];exact congrArg some (Zbs O)),trivial⟩ trivial
  ·rintro _ -
   refine go 5 ?_
   refine jn (G:=Unit) [0,1,5,7] [0,70,1,2] (fun _=>[(8,.int .i64 ((d9s ((dg 1000000000 x).getD i 0) ((dg 1000000000 y).getD i 0) c:Nat):Int)),(6,.int .i64 ((brw ((dg 1000000000 x).getD i 0) ((dg 1000000000 y).getD i 0) c:Nat):Int))]) (fun _=>[]) (fun _=>True) ?_ ?_
   ·refine go 6 ?_
    refine Zc J (fun h85=>?_) (fun h85=>?_)
    ·refine go 6 ⟨O,?_⟩
     exact Qu () trivial ⟨by exact congrArg some (Zbs (by unfold d9s;split<;>omega)),by exact congrArg some (Zbs (by unfold brw;split<;>omega)),trivial⟩ trivial
    ·refine go 1 ?_
     exact Qu () trivial ⟨by exact congrArg some (Zbs (by unfold d9s;split<;>omega)),by exact congrArg some (Zbs (by unfold brw;split<;>omega)),trivial⟩ trivial
   ·rintro _ -
    refine go 3 ?_
    refine tt (Qd (i:=3) (ivs:=[(0,_)]) (enc:=Ha) [d9s ((dg 1000000000 x).getD i 0) ((dg 1000000000 y).getD i 0) c] J J K2 Et ti3 J J J J J pN.cells J J hw.h) J (fun v _=>?_)
    refine tt (Kq (i:=70) (j:=3) (by_:=8) J J J J J J O3 J (Xa pN) Et ti3 J pN J J J O8 O3 J hw.h) J fun v_2 _=>go 9 ⟨O,?_⟩
    exact Xb (i+1,o ++ [d9s ((dg 1000000000 x).getD i 0) ((dg 1000000000 y).getD i 0) c],brw ((dg 1000000000 x).getD i 0) ((dg 1000000000 y).getD i 0) c,_) ⟨O1,by simp [hol],Zk3 hoa (Zxo hda hdb hc).1,Yfz _ _ _,Ztr hc hda hdb hol hv⟩ O1 K3 K1
 ·refine go 8 ?_
  refine cl 3 [70] (Gc _ _) fun _ _=>?_
  refine Qn (Za1 70 J J pN)<|go 4 ?_
  obtain rfl:i=(dg 1000000000 x).length:=O
  have hx:tz o=dg 1000000000 (x-y):=by
   rw [←Lt Ql _ hoa]
   congr 1
   rw [Nf _ (dg 1000000000 y) _ hly,Nf _ (dg 1000000000 x) _ (Nat.le_refl _),Nm Ql,Nm Ql]at hv
   have h1:=Zfw Lz o hoa
   rw [hol]at h1
   have h0:c=0∨c=1:=O
   rcases h0 with rfl | rfl<;>omega
  exact Xj hsc _ results125 J trivial (gow 70 Za (by rw [hx]<;>rfl))
theorem Zv4(v w:Value)(x y:Nat)(hx:bl x≤4294967296)(hy:bl y≤4294967296):Cal prog 79 #[v,w] [Hg v x,Hg w y] false (G:=Value) (fun r=>True) (fun r=>r) (fun r=>[Hg r (x*y)]):=by
 refine Zd func79 ntmps79 fun w0 sc hw hsc=>?_
 have hX:=Kd x
 have hY:=Kd y
 refine go 12 ⟨O,?_⟩
 refine tt (Gf (i:=3) (n:=((dg 1000000000 x).length+(dg 1000000000 y).length)) (by_:=8) (enc:=Ha) 0 J J J J Et ti3 J pN.cells pN.pos J J J hw.h) J fun v _=>go 10 ?_
 refine lp (G:=Nat×List Nat) [0,1,5] [0,1,2] (fun q=>[(6,.int .i64 (q.1:Int))]) (fun q=>[(3,Ma 1 3 Ha v q.2)]) (fun q=>(q.1≤(dg 1000000000 x).length)∧(q.2.length=((dg 1000000000 x).length+(dg 1000000000 y).length))∧(∀d∈q.2,d<1000000000)∧(∀j,q.1+(dg 1000000000 y).length≤j→q.2.getD j 0=0)∧(Yc 1000000000 q.2=Yc 1000000000 ((dg 1000000000 x).take q.1)*y)) (fun q=>(dg 1000000000 x).length-q.1) (0,List.replicate ((dg 1000000000 x).length+(dg 1000000000 y).length) 0) ⟨O1,O5,Oa _ Lz,fun j _=>Lq _ j,by simp [Yc,Hh]⟩ K1 K1 ?_
 rintro⟨i,o⟩ ⟨hi,hol,hoa,hz0,hv⟩
 dsimp only at hi hol hoa hz0 hv
 dsimp only
 refine go 9 ?_
 refine Zc J (fun h96=>?_) (fun h96=>?_)
 ·refine go 15 ?_
  refine lp (G:=Nat×List Nat×Nat) [0,1,5,6] [0,1,2] (fun q=>[(8,.int .i64 (q.1:Int)),(7,.int .i64 (q.2.2:Int))]) (fun q=>[(3,Ma 1 3 Ha v q.2.1)]) (fun q=>(q.1≤(dg 1000000000 y).length+1∧(q.1=(dg 1000000000 y).length+1→q.2.2=0))∧(q.2.1.length=((dg 1000000000 x).length+(dg 1000000000 y).length))∧(∀d∈q.2.1,d<1000000000)∧(∀j,i+q.1≤j→i+(dg 1000000000 y).length≤j→q.2.1.getD j 0=0)∧(q.2.2<1000000000)∧(Yc 1000000000 q.2.1+q.2.2*1000000000^(i+q.1)=Yc 1000000000 ((dg 1000000000 x).take i)*y+(dg 1000000000 x).getD i 0*1000000000^i*Yc 1000000000 ((dg 1000000000 y).take q.1))) (fun q=>(dg 1000000000 y).length+1-q.1) (0,o,0) ⟨⟨O,O⟩,hol,hoa,fun j _ h=>hz0 j h,O1,by rw [hv];simp [Yc]⟩ K2 K1 ?_
  rintro⟨k,p,c⟩ ⟨hk,hpl,hpa,hpz,hcU,hpv⟩
  dsimp only at hk hpl hpa hpz hcU hpv
  dsimp only
  have hdig:=Zp0 (Xd Lz (Ok Ql x) i) (Xd Lz (Ok Ql y) k) (Xd Lz hpa (i+k)) hcU
  refine go 1 ?_
  refine jn (G:=Unit) [0,1,5,6,7,8] [0,3,1,2] (fun _=>[(29,.bool (decide (k<(dg 1000000000 y).length∨0<c)))]) (fun _=>[]) (fun _=>True) ?_ ?_
  ·refine go 6 ?_
   refine Yu (d:=26) J (fun s98=>?_) (fun s98=>?_)
   ·refine go 4 ?_
    exact Qu () trivial ⟨by first | exact congrArg some (vB (decide_eq_decide.2 O)) | exact congrArg some (vB (decide_eq_true O).symm),trivial⟩ trivial
   ·refine go 4 ?_
    exact Qu () trivial ⟨by first | exact congrArg some (vB (decide_eq_decide.2 O)) | exact congrArg some (vB (decide_eq_true O).symm),trivial⟩ trivial
  ·rintro _ -
   refine Zc J (fun h98=>?_) (fun h98=>?_)
   ·refine go 9 ?_
    refine dt (Ze3 J J J O)<|dt (Yf (ii:=3) (i:=(i+k)) J J J J (Xa pN) Et zT3)<|go 2 ⟨O,?_⟩
    refine dt (Ze3 J J J (by have h1:=Xd Lz hpa (i+k);omega))<|go 3 ?_
    refine jn (G:=Unit) [0,1,5,6,8] [0,3,1,2] (fun _=>[(9,.int .i64 ((p.getD (i+k) 0+c+(dg 1000000000 x).getD i 0*(dg 1000000000 y).getD k 0:Nat):Int))]) (fun _=>[]) (fun _=>True) ?_ ?_
    ·refine go 8 ?_
     refine Zc J (fun h100=>?_) (fun h100=>?_)
     ·refine Xw (fun _=>False) [(0,0),(1,0),(2,0),(3,0),(4,0),(5,0),(6,0),(7,0),(8,0),(9,0),(10,0),(11,3)]<|go 9 ⟨O2,O2,O2,O2,?_⟩
      refine Qe J J (Qa (n_mul J J J (by have h1:=hdig.2;omega)))<|Qe J J (Qa (Ze3 J J J hdig.2))<|go 2 ?_
      try (have hz:(dg 1000000000 y).getD k 0=0:=Zbw O)
      exact Qu () trivial ⟨by first | rfl | (rw [hz,Nat.mul_zero];rfl),trivial⟩ trivial
     ·refine go 1 ?_
      try (have hz:(dg 1000000000 y).getD k 0=0:=Zbw O)
      exact Qu () trivial ⟨by first | rfl | (rw [hz,Nat.mul_zero];rfl),trivial⟩ trivial
    ·rintro _ -
     refine go 5 ?_
     refine dt (Ze3 J J J O)<|go 1 ?_
     refine dt (Zq3 (n:=1000000000) J J J O)<|dt (Yf (ii:=3) (i:=(i+k)) J J J J (Xa pN) Et zT3)<|tt (Mx (i:=3) (enc:=Ha) _ J J J J J J pN J hw.h) J fun _ _=>go 4 ?_
     refine dt (Zjr (n:=1000000000) J J J hdig.2 O)<|go 9 ⟨O,?_⟩
     exact Xb (k+1,_,_) ⟨⟨O9,fun h=>by dsimp only at h ⊢;rw [Zbw (by omega:(dg 1000000000 y).length≤k),hpz (i+k) O O,Nat.mul_zero];omega⟩,O8,Ms hpa _ _ (Nat.mod_lt _ Lz),fun j hj hj2=>by dsimp only at hj ⊢;rw [Px _ _ _ _ _ O,if_neg O];exact hpz j O hj2,hdig.1,Zsy hpv O⟩ O1 K2 K1
   ·refine go 11 ⟨O,?_⟩
    have hc0:c=0:=O
    have hvf:=hpv
    rw [hc0,Nat.zero_mul,Nat.add_zero,Ge (x:=y) (k:=k) Ql O]at hvf
    exact Xb (i+1,_) ⟨O1,hpl,hpa,fun j hj=>hpz j (by dsimp only at hj;omega) (by dsimp only at hj;omega),by dsimp only;rw [hvf,Xs,Nat.add_mul]⟩ O1 K1 K1
 ·refine go 8 ?_
  refine cl 3 [3] (Gc _ _) fun _ _=>?_
  refine Qn (Za1 3 J J pN)<|go 4 ?_
  obtain rfl:i=(dg 1000000000 x).length:=O
  have hx:tz o=dg 1000000000 (x*y):=by
   rw [←Lt Ql _ hoa,hv,Ge Ql (Nat.le_refl _)]
  exact Xj hsc _ results79 J trivial (gow 3 Za (by rw [hx]<;>rfl))
theorem Zv5(v:Value)(x n:Nat)(hx:bl x≤4294967296:=by omega)(hn:n<1000000000:=by omega):Cal prog 126 #[v,.int .i64 (n:Int)] [Hg v x] true (G:=Value) (fun r=>True) (fun r=>r) (fun r=>[Hg r (x*n)]):=by
 refine Zd func126 ntmps126 fun w0 sc hw hsc=>go 12 ?_
 refine Zc J (fun h112=>?_) (fun h112=>?_)
 ·refine go 7 ?_
  exact Yn (Np 9 1 3 Ha)<|Xj hsc (.slice none 0 0) results126 J trivial (gow 9 Za (by rw [show n=0 by omega,Nat.mul_zero]<;>rfl))
 ·have hn0:n≠0:=O
  refine go 6 ?_
  refine tt (Qd (i:=70) (ivs:=[(0,_)]) (enc:=Ha) [n] J J K2 Et ti3 J J J J J pN.cells J J hw.h) J (fun v _=>?_)
  refine Qn (Zg1 70 (Yfd Ql hn hn0).symm J J)<|cl 2 [1,70] (Zv4 _ _ _ n hx (by have:=(Xo 30 n).2 O;omega)) fun v_2 _=>go 4 ?_
  exact Xj hsc _ results126 J trivial (Mm 2 Za)
theorem Ycf(v w:Value)(x y:Nat)(hy0:0<y)(hx:bl x≤4000000000:=by omega)(hy:bl y≤4000000000:=by omega):Cal prog 82 #[v,w] [Hg v x,Hg w y] true (G:=Value×Value) (fun r=>True) (fun r=> .tuple #[r.1,r.2]) (fun r=>[Hg r.1 (x/y),Hg r.2 (x%y)]):=by
 refine Zd func82 ntmps82 fun w0 sc hw hsc=>?_
 have hX:=Kd x
 have hY:=Kd y
 refine go 10 ?_
 refine tt (Gf (i:=3) (n:=(dg 1000000000 x).length) (by_:=8) (enc:=Ha) 0 J J J J Et ti3 J pN.cells pN.pos J J J hw.h) J fun v _=>go 18 ⟨O,?_⟩
 refine Ze (Np 71 1 3 Ha)<|Ze (Pf 71 J J pN)<|lp (G:=Nat×List Nat×Nat×Value) [0,1,6] [0,1,2] (fun q=>[(8,.int .i64 ((q.1:Int)-1)),(7,q.2.2.2)]) (fun q=>[(3,Ma 1 3 Ha v q.2.1),(71,Hg q.2.2.2 q.2.2.1)]) (fun q=>(q.1≤(dg 1000000000 x).length)∧(q.2.1.length=(dg 1000000000 x).length)∧(∀d∈q.2.1,d<1000000000)∧(∀j,j<q.1→q.2.1.getD j 0=0)∧(Yc 1000000000 (q.2.1.drop q.1)*y+q.2.2.1=x/1000000000^q.1)∧(q.2.2.1<y)) (fun q=>q.1) ((dg 1000000000 x).length,List.replicate (dg 1000000000 x).length 0,0,.slice none 0 0) ⟨Nat.le_refl _,O5,Oa _ Lz,fun j _=>Lq _ j,by dsimp only;rw [Nat.div_eq_of_lt ((Xg Ql _ x).1 (Nat.le_refl _))];simp [Yc],hy0⟩ K2 K2 ?_
 rintro⟨k,q,r,vr⟩ ⟨hk,hql,hqa,hqz,hv,hr⟩
 dsimp only at hk hql hqa hqz hv hr
 dsimp only
 refine go 7 ?_
 refine Zc J (fun h122=>?_) (fun h122=>?_)
 ·have hk0:0<k:=O
  have ha9:=Xd Lz (Ok Ql x) (k-1)
  have hdig:x/1000000000^(k-1)=x/1000000000^k*1000000000+(dg 1000000000 x).getD (k-1) 0:=by rw [Hc Ql];exact(Ztl hk0).symm
  rw [←hv,Nat.add_mul]at hdig
  have hrb:=Ykb hr ha9
  have hQ9:=over_Q hr ha9
  refine go 8 ?_
  refine dt (Yf (ii:=1) (i:=(k-1)) J J J J Zo Et zT3)<|go 1 ⟨O,?_⟩
  refine tt (Qd (i:=72) (ivs:=[(0,_)]) (enc:=Ha) [(dg 1000000000 x).getD (k-1) 0] J J K2 Et ti3 J J J J J pN.cells J J hw.h) J fun v_2 _=>go 1 ?_
  refine tt (Kq (i:=72) (j:=71) (by_:=8) J J J J J J O3 J Zo Et ti3 J pN J J J (by have h8:=Kd r;have h9:=Ps (Nat.le_of_lt hr);simp;omega) O3 J hw.h) J fun v_3 _=>cl 3 [72] (Gc _ _) fun _ _=>?_
  refine Qn (Za1 72 J J pN)<|Qn (Zg1 72 (Yg0 Ql ha9) J J)<|Qn (Pf 72 J J pN)<|go 8 ?_
  refine cl 3 [72,2] (Znn _ _ _ _) fun _ _=>go 3 ?_
  refine Zc J (fun h124=>?_) (fun h124=>?_)
  ·have hlt:(r*1000000000+(dg 1000000000 x).getD (k-1) 0)<y:=Zsc.1 h124
   refine go 9 ⟨O,?_⟩
   refine Yn (Pb 72 71 J J J) ?_
   have h2:=Zz4 hk0 (by omega:k≤q.length) (hqz (k-1) O)
   exact Xb (k-1,q,r*1000000000+(dg 1000000000 x).getD (k-1) 0,_) ⟨O1,O1,O1,fun j hj=>hqz j (by dsimp only at hj;omega),by have h9:1000000000*Yc 1000000000 (q.drop k)*y=Yc 1000000000 (q.drop k)*y*1000000000:=(by rw [Nat.mul_assoc,Nat.mul_comm]);dsimp only;rw [h2,hdig,h9];omega,hlt⟩ O1 ⟨by rw [show(((k-1:Nat):Int)-1)=(k:Int)-1-1 by omega];rfl,rfl,trivial⟩ K2
  ·have hge:y≤(r*1000000000+(dg 1000000000 x).getD (k-1) 0):=by have:=mt Zsc.2 h124;omega
   refine go 10 ?_
   refine lp (G:=Nat×Nat) [0,1,6,7,8] [0,3,71,1,2,72] (fun q=>[(9,.int .i64 (q.1:Int)),(10,.int .i64 (q.2:Int))]) (fun q=>[]) (fun q=>(q.1≤(r*1000000000+(dg 1000000000 x).getD (k-1) 0)/y)∧((r*1000000000+(dg 1000000000 x).getD (k-1) 0)/y≤q.2)∧(q.2<1000000000)) (fun q=>q.2-q.1) (0,999999999) ⟨Nat.zero_le _,O,O1⟩ K2 trivial ?_
   rintro⟨lo,hi⟩ ⟨hlo,hhi,hh9⟩
   dsimp only at hlo hhi hh9
   dsimp only
   have hmid:(lo+hi+1)/2<1000000000:=O
   refine go 8 ?_
   refine Zc J (fun h128=>?_) (fun h128=>?_)
   ·refine go 7 ?_
    refine dt (Ze3 J J J O)<|dt (Ze3 (n:=1) J J J O)<|dt (Zjr (n:=2) J J J O O)<|go 7 ?_
    refine cl 4 [2] (Zv5 _ _ _) fun v_4 _=>go 1 ?_
    refine cl 4 [4,72] (Znn _ _ _ _ (by have:=Yf1 (y:=y) hmid;omega)) fun _ _=>go 3 ?_
    refine Zc J (fun h130=>?_) (fun h130=>?_)
    ·have hcm:y*((lo+hi+1)/2)≤(r*1000000000+(dg 1000000000 x).getD (k-1) 0):=Zxt.1 h130
     refine go 5 ?_
     exact Xb ((lo+hi+1)/2,hi) ⟨(Nat.le_div_iff_mul_le hy0).2 (by rw [Nat.mul_comm];exact hcm),O1,O1⟩ O1 K2 trivial
    ·have hcm:(r*1000000000+(dg 1000000000 x).getD (k-1) 0)<y*((lo+hi+1)/2):=by have:=mt Zxt.2 h130;omega
     refine go 6 ⟨O,?_⟩
     exact Xb (lo,(lo+hi+1)/2-1) ⟨O1,by have h7:=(Nat.div_lt_iff_lt_mul hy0).2 (show(r*1000000000+(dg 1000000000 x).getD (k-1) 0)<(lo+hi+1)/2*y by have h6:=Nat.mul_comm ((lo+hi+1)/2) y;omega);dsimp only;omega,O1⟩ O1 ⟨J,by rw [show(((lo+hi+1)/2-1:Nat):Int)=(((lo+hi+1)/2:Nat):Int)-1 by omega];rfl,trivial⟩ trivial
   ·have hloQ:lo=(r*1000000000+(dg 1000000000 x).getD (k-1) 0)/y:=O
    refine go 10 ?_
    refine dt (Yf (ii:=3) (i:=(k-1)) J J J J (Xa pN) Et zT3)<|tt (Mx (i:=3) (enc:=Ha) _ J J J J J J pN J hw.h) J fun _ _=>go 6 ?_
    refine cl 5 [2] (Zv5 _ _ _) fun v_5 _=>cl 6 [72,5] (Zno _ _ _ _ (by rw [hloQ];exact Nat.mul_div_le _ _)) fun v_6 _=>go 9 ⟨O,?_⟩
    refine Yn (Pb 6 71 J J J) ?_
    have h2:=Zfg (d:=lo) hk0 (by omega:k≤q.length)
    have h16:y*lo≤(r*1000000000+(dg 1000000000 x).getD (k-1) 0):=by rw [hloQ];exact Nat.mul_div_le _ _
    exact Xb (k-1,_,(r*1000000000+(dg 1000000000 x).getD (k-1) 0)-y*lo,_) ⟨O1,by simp [hql],Ms hqa _ _ O,fun j hj=>by dsimp only at hj ⊢;rw [Px _ _ _ _ _ O,if_neg O];exact hqz j O,by have h9:1000000000*Yc 1000000000 (q.drop k)*y=Yc 1000000000 (q.drop k)*y*1000000000:=(by rw [Nat.mul_assoc,Nat.mul_comm]);dsimp only;rw [h2,hdig,Nat.add_mul,h9];have h5:lo*y=y*lo:=Nat.mul_comm _ _;omega,by dsimp only;rw [hloQ];have h5:=Nat.div_add_mod (r*1000000000+(dg 1000000000 x).getD (k-1) 0) y;have h6:=Nat.mod_lt (r*1000000000+(dg 1000000000 x).getD (k-1) 0) hy0;omega⟩ O1 ⟨by rw [show(((k-1:Nat):Int)-1)=(k:Int)-1-1 by omega];rfl,rfl,trivial⟩ K2
 ·refine go 8 ?_
  refine cl 6 [3] (Gc _ _) fun _ _=>?_
  refine Qn (Za1 3 J J pN)<|go 6 ?_
  obtain rfl:k=0:=O
  rw [List.drop_zero,Nat.pow_zero,Nat.div_one]at hv
  have hq:Yc 1000000000 q=x/y:=by rw [←hv,Nat.mul_comm,Nat.mul_add_div hy0,Nat.div_eq_of_lt hr,Nat.add_zero]
  have hr2:r=x%y:=by rw [←hv,Nat.mul_comm,Nat.mul_add_mod,Nat.mod_eq_of_lt hr]
  have hx:tz q=dg 1000000000 (x/y):=by rw [←Lt Ql _ hqa,hq]
  exact Nz hsc (_,_) results82 J trivial (gow 3 (Mm 71 Za (by rw [hr2]<;>rfl)) (by rw [hx]<;>rfl))
theorem Zad(s:Bool)(v:Value)(n:Nat)(z:Int)(hn:n=z.natAbs)(hs:sg s z)(hb:bl n≤4294967296:=by omega):Oo prog 76 #[.bool s,v] [Hg v n] (.agg #[.bool (decide (z<0)),v]):=by
 refine Zd func76 ntmps76 fun w0 sc hw hsc=>?_
 have hl9:=Kd n
 refine go 2 ?_
 refine Yd (Zs 2) fun b _=>go 6 ?_
 refine Zbq (d:=6) J (fun s143=>?_) (fun s143=>?_)
 ·refine go 5 ?_
  refine dt (Xl (ivs:=[(0,_),(1,_)]) J K4 (fun a w hs=>Ygb ((Zn J) a w hs) ((Pt (i:=1) J Zo) a w hs)))<|go 4 ?_
  exact Xj hsc () results76 (by rw [←Ydu hn hs,←Zrd];simp_all) trivial Za
 ·refine go 5 ?_
  refine dt (Xl (ivs:=[(0,_),(1,_)]) J K4 (fun a w hs=>Ygb ((Zn J) a w hs) ((Pt (i:=1) J Zo) a w hs)))<|go 4 ?_
  exact Xj hsc () results76 (by rw [←Ydu hn hs,←Zrd];simp_all) trivial Za
theorem Ycg(v:Value)(x:Int)(hx:bl x.natAbs≤3000000000):Cal prog 44 #[.agg #[.bool (decide (x<0)),v]] [Hg v x.natAbs] true (G:=Value) (fun r=>True) (fun r=> .agg #[.bool (decide (-x<0)),r]) (fun r=>[Hg r (-x).natAbs]):=by
 refine Zd func44 ntmps44 fun w0 sc hw hsc=>go 2 ?_
 refine Yd (Yg 2) fun b _=>Yd (Zs 3) fun b_2 _=>go 6 ?_
 refine dt (Yp J J)<|go 2 ?_
 refine cl 3 [1] (Zad _ _ _ (-x) (Int.natAbs_neg x).symm (Ybu (Yz x))) fun _ _=>go 4 ?_
 exact Xj hsc _ results44 J trivial (Mm 1 Za (by rw [Int.natAbs_neg]<;>rfl))
theorem Zv6(v w:Value)(x y:Int)(hy:bl y.natAbs≤3000000000)(hx:bl x.natAbs≤3000000000:=by omega):Cal prog 80 #[.agg #[.bool (decide (x<0)),v],.agg #[.bool (decide (y<0)),w]] [Hg v x.natAbs,Hg w y.natAbs] true (G:=Value) (fun r=>True) (fun r=> .agg #[.bool (decide (x+y<0)),r]) (fun r=>[Hg r (x+y).natAbs]):=by
 refine Zd func80 ntmps80 fun w0 sc hw hsc=>?_
 have hb:=Hy x y
 refine go 2 ?_
 refine Yd (Yg 3) fun b _=>Yd (Yg 4) fun b_2 _=>Yd (Zs 5) fun b_3 _=>go 12 ?_
 refine Nw J (fun h189=>?_) (fun h189=>?_)
 ·replace h189:=Yke h189
  refine go 1 ?_
  refine Xw (fun _=>False) [(0,0),(1,0),(2,0),(3,0),(4,0),(5,0),(6,1),(7,1),(8,3)]<|go 6 ?_
  refine Yx (Zh 6 [1,2] (r_plus _ _ _ _ O O)) fun v _=>Yx (Zh 6 [6] (Zad _ _ _ (x+y) (Zfu (Yz x) (h189▸Yz y)).symm (Zvv (Yz x) (h189▸Yz y)) (by rw [←Zfu (Yz x) (h189▸Yz y)];omega))) fun _ _=>go 5 ?_
  exact Xj hsc _ results80 J trivial (Mm 6 Za (by rw [Zfu (Yz x) (h189▸Yz y)]<;>rfl))
 ·have hne:decide (x<0)≠decide (y<0):=by simpa using h189
  refine go 9 ?_
  refine cl 6 [1,2] (Znn _ _ _ _) fun _ _=>go 3 ?_
  refine Zc J (fun h192=>?_) (fun h192=>?_)
  ·have hge:y.natAbs≤x.natAbs:=Zxu.1 h192
   refine go 1 ?_
   refine Xw (fun _=>False) [(0,0),(1,0),(2,0),(3,0),(4,0),(5,0),(6,1),(7,1),(8,3)]<|go 6 ?_
   refine Yx (Zh 7 [1,2] (Zno _ _ _ _ hge)) fun v_2 _=>Yx (Zh 7 [7] (Zad _ _ _ (x+y) (Al (Yz x) (Yz y) hne hge).symm (Zhz (Yz x) (Yz y) hne hge) (by have:=Ps (Nat.sub_le x.natAbs y.natAbs);omega))) fun _ _=>go 5 ?_
   exact Xj hsc _ results80 J trivial (Mm 7 Za (by rw [Al (Yz x) (Yz y) hne hge]<;>rfl))
  ·have hge:x.natAbs≤y.natAbs:=by have:=mt Zxu.2 h192;omega
   refine go 3 ?_
   refine Xw (fun _=>False) [(0,0),(1,0),(2,0),(3,0),(4,0),(5,0),(6,1),(7,1),(8,3)]<|go 6 ?_
   refine Yx (Zh 8 [2,1] (Zno _ _ _ _ hge)) fun v_3 _=>Yx (Zh 8 [8] (Zad _ _ _ (x+y) (by rw [Int.add_comm x];exact(Al (Yz y) (Yz x) (Ne.symm hne) hge).symm) (by rw [Int.add_comm x];exact Zhz (Yz y) (Yz x) (Ne.symm hne) hge) (by have:=Ps (Nat.sub_le y.natAbs x.natAbs);omega))) fun _ _=>go 4 ?_
   exact Xj hsc _ results80 J trivial (Mm 8 Za (by rw [Int.add_comm x,Al (Yz y) (Yz x) (Ne.symm hne) hge]<;>rfl))
theorem Zg4(v w:Value)(x y:Int)(hx:bl x.natAbs≤3000000000:=by omega)(hy:bl y.natAbs≤3000000000:=by omega):Cal prog 78 #[.agg #[.bool (decide (x<0)),v],.agg #[.bool (decide (y<0)),w]] [Hg v x.natAbs,Hg w y.natAbs] true (G:=Value) (fun r=>True) (fun r=> .agg #[.bool (decide (x-y<0)),r]) (fun r=>[Hg r (x-y).natAbs]):=by
 refine Zd func78 ntmps78 fun w0 sc hw hsc=>?_
 have hb:=Bh x y
 have hn:=Zpi y
 refine go 2 ?_
 refine Yd (Yg 3) fun b _=>Yd (Yg 4) fun b_2 _=>Yd (Zs 5) fun b_3 _=>go 3 ?_
 refine Xw (fun _=>False) [(0,0),(1,0),(2,1),(3,1),(4,3)]<|go 2 ?_
 refine Yx (Zh 6 [2] (Ycg _ _ O)) fun v _=>Yx (Zh 7 [1,6] (Zv6 _ _ _ _ O)) fun v_2 _=>go 4 ?_
 exact Xj hsc _ results78 (by rw [Int.sub_eq_add_neg]<;>rfl) trivial (Mm 7 Za (by rw [Int.sub_eq_add_neg]<;>rfl))
theorem Bt(v w:Value)(x y:Int)(hx:bl x.natAbs≤1000000000:=by omega)(hy:bl y.natAbs≤1000000000:=by omega):Cal prog 39 #[.agg #[.bool (decide (x<0)),v],.agg #[.bool (decide (y<0)),w]] [Hg v x.natAbs,Hg w y.natAbs] true (G:=Value) (fun r=>True) (fun r=> .agg #[.bool (decide (x*y<0)),r]) (fun r=>[Hg r (x*y).natAbs]):=by
 refine Zd func39 ntmps39 fun w0 sc hw hsc=>?_
 have hb:=Yv x y
 refine go 2 ?_
 refine Yd (Yg 3) fun b _=>Yd (Yg 4) fun b_2 _=>Yd (Zs 5) fun b_3 _=>go 3 ?_
 refine Xw (fun _=>False) [(0,0),(1,0),(2,0),(3,0),(4,0),(5,0),(6,0),(7,0),(8,0),(9,1),(10,1),(11,3)]<|go 9 ?_
 refine Yx (Zh 6 [1,2] (Zv4 _ _ _ _ O O)) fun v _=>Yx (Zh 6 [6] (Zad _ _ _ (x*y) (Int.natAbs_mul x y).symm (Ybv (Yz x) (Yz y)) (by rw [←Int.natAbs_mul];omega))) fun _ _=>go 4 ?_
 exact Xj hsc _ results39 J trivial (Mm 6 Za (by rw [Int.natAbs_mul]<;>rfl))
theorem Znm(v:Value)(x:Int)(hx:bl x.natAbs≤3000000000:=by omega):Oo prog 83 #[.agg #[.bool (decide (x<0)),v]] [Hg v x.natAbs] (.int .i64 x.sign):=by
 refine Zd func83 ntmps83 fun w0 sc hw hsc=>?_
 have hl9:=Kd x.natAbs
 refine go 2 ?_
 refine Yd (Yg 2) fun b _=>go 12 ?_
 refine Zc J (fun h206=>?_) (fun h206=>?_)
 ·refine go 7 ?_
  exact Xj hsc () results83 (sign9 h206) trivial Za
 ·refine go 9 ?_
  refine Nw J (fun h209=>?_) (fun h209=>?_)
  ·refine go 7 ?_
   exact Xj hsc () results83 (by rw [Int.sign_eq_neg_one_of_neg (by simpa using h209)]) trivial Za
  ·refine go 8 ?_
   exact Xj hsc () results83 (by have h3:=Zj4 h206;have h4:¬x<0:=(by simpa using h209);rw [Int.sign_eq_one_of_pos O]) trivial Za
theorem Dq(v w:Value)(x y:Int)(hx:bl x.natAbs≤2000000000)(hy:bl y.natAbs≤2000000000):Oo prog 43 #[.agg #[.bool (decide (x<0)),v],.agg #[.bool (decide (y<0)),w]] [Hg v x.natAbs,Hg w y.natAbs] (.int .i64 (x-y).sign):=by
 refine Zd func43 ntmps43 fun w0 sc hw hsc=>?_
 have hb:=Bh x y
 refine go 2 ?_
 refine Yd (Yg 3) fun b _=>Yd (Yg 4) fun b_2 _=>go 7 ?_
 refine cl 5 [1,2] (Zg4 _ _ _ _) fun v _=>cl 5 [5] (Znm _ _) fun _ _=>go 4 ?_
 exact Xj hsc () results43 J trivial Za
theorem Em(x:Int)(hx:Qx x:=by exact⟨O,O⟩):Cal prog 38 #[.int .i64 x] [] true (G:=Value) (fun r=>True) (fun r=> .agg #[.bool (decide (x<0)),r]) (fun r=>[Hg r (x).natAbs]):=by
 refine Zd func38 ntmps38 fun w0 sc hw hsc=>?_
 have hxa:=hx.1
 have hxb:=hx.2
 refine Ze (Np 60 1 3 Ha)<|Ze (Pf 60 J J pN)<|go 2 ?_
 refine Yd (Zs 1) fun b _=>go 9 ?_
 refine Zc J (fun h147=>?_) (fun h147=>?_)
 ·obtain⟨m,rfl⟩:∃m:Nat,x=(m:Int):=⟨x.natAbs,O⟩
  have hbm:bl m≤64:=(Xo 64 m).2 O
  refine go 3 ?_
  refine dt (Zq3 (n:=1000000000) J J J O)<|go 1 ?_
  refine dt (Zjr (n:=1000000000) J J J O O)<|dt (Zq3 (n:=1000000000) J J J O)<|go 1 ?_
  refine dt (Zjr (n:=1000000000) J J J O O)<|dt (Zjr (n:=1000000000) J J J O O)<|tt (Qd (i:=70) (ivs:=[(0,_),(1,_),(2,_)]) (enc:=Ha) [m%1000000000,m/1000000000%1000000000,m/1000000000/1000000000] J J K6 Et ti3 J J J J J pN.cells J J hw.h) J fun v _=>cl 1 [70] (Gc _ _) fun _ _=>?_
  refine Qn (Za1 70 J J pN)<|Qn (Zg1 70 (Zpz O) J J)<|cl 1 [70] (Zad _ _ _ ((m:Int)) O (by simp [sg])) fun _ _=>go 5 ?_
  exact Xj hsc _ results38 J trivial (gow 70 Za (by rw [Int.natAbs_natCast]<;>rfl))
 ·obtain⟨m,rfl⟩:∃m:Nat,x=-(m:Int):=⟨x.natAbs,O⟩
  have hbm:bl m≤64:=(Xo 64 m).2 O
  refine go 5 ?_
  refine dt (Yde (n:=1000000000) J J J O)<|dt (Ydj J J O)<|go 1 ?_
  refine dt (Ztq (n:=1000000000) J J J O O)<|dt (Yde (n:=1000000000) J J J O)<|dt (Ydj J J O)<|go 1 ?_
  refine dt (Ztq (n:=1000000000) J J J O O)<|dt (Ztq (n:=1000000000) J J J O O)<|dt (Ydj J J O)<|tt (Qd (i:=70) (ivs:=[(0,_),(1,_),(2,_)]) (enc:=Ha) [m%1000000000,m/1000000000%1000000000,m/1000000000/1000000000] J J K6 Et ti3 J J J J J pN.cells J J hw.h) J fun v_2 _=>cl 1 [70] (Gc _ _) fun _ _=>?_
  refine Qn (Za1 70 J J pN)<|Qn (Zg1 70 (Zpz O) J J)<|Qn (Zg1 70 (ys:=dg 1000000000 (-(m:Int)).natAbs) (by rw [Int.natAbs_neg,Int.natAbs_natCast]) J J)<|Qn (Pf 70 J J pN)<|cl 1 [70] (Zad _ _ _ ((-(m:Int))) J (by simp [sg]) (by rw [Int.natAbs_neg,Int.natAbs_natCast];omega)) fun _ _=>?_
  refine dt (Xl (ivs:=[]) J trivial (fun a w hs=>b77_))<|cl 2 [70,60] (Zg4 _ _ (-(m:Int)) 0 (by rw [Int.natAbs_neg,Int.natAbs_natCast];omega) O3) fun v_3 _=>go 4 ?_
  exact Xj hsc _ results38 (by rw [Int.sub_zero]<;>rfl) trivial (Mm 2 Za (by rw [Int.sub_zero]<;>rfl))
theorem Yce(v:Value)(x:Int)(hx:bl x.natAbs≤4000000000):Oo prog 50 #[.agg #[.bool (decide (x<0)),v]] [Hg v x.natAbs] (wv x):=by
 refine Zd func50 ntmps50 fun w0 sc hw hsc=>?_
 obtain⟨n,hn⟩:∃n,n=x.natAbs:=⟨_,rfl⟩
 have hxn:bl n≤4000000000:=by rw [hn];exact hx
 have hlx:=Kd x.natAbs
 refine go 2 ?_
 refine Yd (Yg 2) fun b _=>Yd (Zs 3) fun b_2 _=>go 11 ?_
 refine Qn (Np 81 1 3 Ha)<|tt (Kq (i:=81) (j:=1) (by_:=8) J J J J J J O3 J Zo Et ti3 J pN J J J O8 O3 J hw.h) J fun v _=>go 5 ?_
 refine Ze (Np 80 1 5 Zhq)<|lp (G:=Nat×List Nat×Value×Value) [1,2] [0,1,2,3] (fun q=>[(3,q.2.2.1),(4,q.2.2.2)]) (fun q=>[(80,Ma 1 5 Zhq q.2.2.1 q.2.1),(81,Ma 1 3 Ha q.2.2.2 (dg 1000000000 q.1))]) (fun q=>(Yc 256 q.2.1+256^q.2.1.length*q.1=n)∧(∀d∈q.2.1,d<256)∧(q.2.1.length=0∨256^(q.2.1.length-1)≤n)∧(bl q.1≤bl n)) (fun q=>q.1) (n,[],.slice none 0 0,_) ⟨by simp [Yc],O5,.inl rfl,Nat.le_refl _⟩ K2 ⟨J,by rw [hn];rfl,trivial⟩ ?_
 rintro⟨m,bs,vb,vd⟩ ⟨hv,hba,hge,hmn⟩
 dsimp only at hv hba hge hmn
 dsimp only
 have hlm:=Kd m
 refine go 8 ?_
 refine Zc J (fun h167=>?_) (fun h167=>?_)
 ·have hm0:0<m:=Zj4 O
  have hgn:=to_ge hv hm0
  have hbl:=to_len hgn
  refine go 18 ⟨O,?_⟩
  refine lp (G:=Nat×List Nat×Nat) [1,2,3,4] [0,80,1,2,3] (fun q=>[(6,.int .i64 ((q.1:Int)-1)),(5,.int .i64 (q.2.2:Int))]) (fun q=>[(81,Ma 1 3 Ha vd q.2.1)]) (fun q=>(q.1≤(dg 1000000000 m).length)∧(q.2.1.length=(dg 1000000000 m).length)∧(∀d∈q.2.1,d<1000000000)∧(∀j,j<q.1→q.2.1.getD j 0=(dg 1000000000 m).getD j 0)∧(q.2.2<256)∧(Yc 1000000000 (q.2.1.drop q.1)*256+q.2.2=Yc 1000000000 ((dg 1000000000 m).drop q.1))) (fun q=>q.1) ((dg 1000000000 m).length,dg 1000000000 m,0) ⟨Nat.le_refl _,J,Ok Ql m,fun j _=>J,O1,by simp [List.drop_length,Yc]⟩ K2 K1 ?_
  rintro⟨k,p,r⟩ ⟨hk,hpl,hpa,hpk,hr,hpv⟩
  dsimp only at hk hpl hpa hpk hr hpv
  dsimp only
  have hda:=Xd Lz (Ok Ql m) (k-1)
  refine go 7 ?_
  refine Zc J (fun h169=>?_) (fun h169=>?_)
  ·refine go 7 ?_
   refine dt (n_mul (n:=1000000000) J J J O)<|go 2 ?_
   refine dt (Yf (ii:=81) (i:=(k-1)) J J J J (Xa pN) Et zT3)<|go 1 ⟨O,?_⟩
   refine dt (Ze3 J J J (by have:=Xd Lz hpa (k-1);omega))<|go 8 ?_
   refine dt (Zjr (n:=256) J J J (by have:=Xd Lz hpa (k-1);omega) O)<|dt (Yf (ii:=81) (i:=(k-1)) J J J J (Xa pN) Et zT3)<|tt (Mx (i:=81) (enc:=Ha) _ J J J J J J pN J hw.h) J fun _ _=>go 4 ?_
   refine dt (Zq3 (n:=256) J J J O)<|go 9 ⟨O,?_⟩
   exact Xb (k-1,_,_) ⟨O1,by simp [hpl],Ms hpa _ _ (Yay hr (Xd Lz hpa _)),fun j hj=>by dsimp only at hj ⊢;rw [Px _ _ _ _ _ O,if_neg O];exact hpk j O,Nat.mod_lt _ O,by dsimp only;rw [hpk (k-1) O];exact Yg3 O O O hpv⟩ O1 ⟨by rw [show(((k-1:Nat):Int)-1)=(k:Int)-1-1 by omega];rfl,rfl,trivial⟩ K1
  ·refine go 6 ?_
   obtain rfl:k=0:=O
   rw [List.drop_zero,List.drop_zero,Nm Ql]at hpv
   have hmr:m%256=r%256:=O
   have hdm:dg 1000000000 (m/256)=tz p:=by rw [←Lt Ql p hpa];congr 1;omega
   refine go 3 ?_
   refine dt (Zdb J J uT3 uT5)<|tt (Qd (i:=4) (ivs:=[(0,_)]) (enc:=Zhq) [r%256] J J K2 Zgt ti5 J J J J J pB.cells J J hw.h) J (fun v_2 _=>?_)
   refine tt (Kq (i:=80) (j:=4) (by_:=1) J J J J J J O3 J (Xa pB) Zgt ti5 J pB J J J O8 O3 J hw.h) J fun v_3 _=>go 5 ?_
   refine cl 4 [81] (Gc _ _) fun _ _=>?_
   refine Qn (Za1 81 J J pN)<|go 3 ?_
   exact Xb (m/256,bs ++ [m%256],_,_) ⟨Yg4 hv,Zk3 hba (Nat.mod_lt _ O),.inr (by simpa using hgn),Nat.le_trans (Ps (Nat.div_le_self _ _)) hmn⟩ (Nat.div_lt_self hm0 O) K2 ⟨by rw [hmr];rfl,by rw [hdm];rfl,trivial⟩
 ·have hm0:m=0:=(Ph Ql m).1 O
  have hbs:bs=dg 256 n:=Zvd O hba (by rw [hm0,Nat.mul_zero,Nat.add_zero]at hv;exact hv) hge
  have hlb:bs.length≤4000000000:=by rw [hbs,Zj5];omega
  refine go 20 ⟨O,?_⟩
  refine Ze (Np 82 1 5 Zhq)<|lp (G:=Nat×Value) [1,2,3] [0,80,81,1,2,3] (fun q=>[(8,.int .i64 ((q.1:Int)-1)),(7,q.2)]) (fun q=>[(82,Ma 1 5 Zhq q.2 (bs.drop q.1).reverse)]) (fun q=>q.1≤bs.length) (fun q=>q.1) (bs.length,.slice none 0 0) (Nat.le_refl _) K2 ⟨by rw [List.drop_length];rfl,trivial⟩ ?_
  rintro⟨k,vo⟩ hk
  dsimp only at hk
  dsimp only
  have hdl:(bs.drop k).length=bs.length-k:=List.length_drop
  refine go 7 ?_
  refine Zc J (fun h178=>?_) (fun h178=>?_)
  ·refine go 8 ?_
   refine dt (Yf (ii:=80) (i:=(k-1)) J J J J (Xa pB) Zgt sizeOf5)<|go 1 ⟨O,?_⟩
   refine tt (Qd (i:=5) (ivs:=[(0,_)]) (enc:=Zhq) [bs.getD (k-1) 0] J J K2 Zgt ti5 J J J J J pB.cells J J hw.h) J (fun v_4 _=>?_)
   refine tt (Kq (i:=82) (j:=5) (by_:=1) J J J J J J O3 J (Xa pB) Zgt ti5 J pB J J J O8 O3 J hw.h) J fun v_5 _=>go 9 ⟨O,?_⟩
   exact Xb (k-1,_) O1 O1 ⟨by rw [show(((k-1:Nat):Int)-1)=(k:Int)-1-1 by omega];rfl,rfl,trivial⟩ ⟨by rw [←Ye9 O hk];rfl,trivial⟩
  ·refine go 10 ?_
   refine dt (d_b2s J J (i:=82) J (Xa pB) Zgt uT9 uT5)<|dt (Xl (ivs:=[(0,_),(1,_)]) J K4 (fun a w hs=>Zu1 ((Zn J) a w hs) ((Zn J) a w hs)))<|go 4 ?_
   obtain rfl:k=0:=O
   exact Xj hsc () results50 (by rw [Yj6 hbs,hn]<;>rfl) trivial Za
theorem r_gcd(v w:Value)(x y:Int)(hy:bl y.natAbs≤3000000000)(hx:bl x.natAbs≤3000000000:=by omega):Cal prog 42 #[.agg #[.bool (decide (x<0)),v],.agg #[.bool (decide (y<0)),w]] [Hg v x.natAbs,Hg w y.natAbs] true (G:=Value) (fun r=>True) (fun r=> .agg #[.bool (decide ((Int.gcd x y:Int)<0)),r]) (fun r=>[Hg r ((Int.gcd x y:Int)).natAbs]):=by
 refine Zd func42 ntmps42 fun w0 sc hw hsc=>go 2 ?_
 refine Yd (Yg 3) fun b _=>Yd (Yg 4) fun b_2 _=>Yd (Zs 5) fun b_3 _=>go 3 ?_
 refine Xw (fun _=>False) [(0,0),(1,0),(2,0),(3,0),(4,0),(5,3)]<|go 10 ?_
 refine Ze (Pb 1 91 J J J)<|Ze (Pb 2 92 J J J)<|lp (G:=Value×Value×Nat×Nat) [4] [0,1,2,3,4,5] (fun q=>[(5,q.1),(6,q.2.1)]) (fun q=>[(91,Hg q.1 q.2.2.1),(92,Hg q.2.1 q.2.2.2)]) (fun q=>(Nat.gcd q.2.2.1 q.2.2.2=Nat.gcd x.natAbs y.natAbs)∧(bl q.2.2.1≤3000000000)∧(bl q.2.2.2≤3000000000)) (fun q=>q.2.2.2) (v,w,x.natAbs,y.natAbs) ⟨J,hx,hy⟩ K2 K2 ?_
 rintro⟨va,vb,a,b⟩ ⟨hg,ha,hb⟩
 dsimp only at hg ha hb
 dsimp only
 refine go 8 ?_
 refine Zc J (fun h238=>?_) (fun h238=>?_)
 ·have hb0:0<b:=Zj4 O
  refine go 7 ?_
  refine cl 6 [91,92] (Ycf _ _ _ _ hb0) fun g _=>go 14 ?_
  have hlt:a%b<b:=Nat.mod_lt _ hb0
  exact Yn (Pb 92 91 J J J)<|Yn (Pb 7 92 J J J)<|Xb (_,_,b,a%b) ⟨by dsimp only;rw [←hg,Nat.gcd_comm b,←Nat.gcd_rec,Nat.gcd_comm],hb,Nat.le_trans (Ps (Nat.le_of_lt hlt)) hb⟩ hlt K2 K2
 ·have hb0:b=0:=(Ph Ql b).1 O
  have ha0:a=Nat.gcd x.natAbs y.natAbs:=by rw [←hg,hb0,Nat.gcd_zero_right]
  refine go 8 ?_
  refine cl 7 [91] (Zad _ _ _ ((Int.gcd x y:Int)) (by rw [ha0]<;>rfl) (by simp [sg])) fun _ _=>go 4 ?_
  exact Xj hsc _ results42 J trivial (Mm 91 Za (by rw [ha0]<;>rfl))
theorem Zl4(v w:Value)(x y:Int)(hx:bl x.natAbs≤500000000)(hy0:y≠0)(hy:bl y.natAbs≤500000000:=by omega):Cal prog 127 #[.agg #[.bool (decide (x<0)),v],.agg #[.bool (decide (y<0)),w]] [Hg v x.natAbs,Hg w y.natAbs] true (G:=Value×Value) (fun r=>True) (fun r=> .tuple #[.agg #[.bool (decide (x/y<0)),r.1],.agg #[.bool (decide (x%y<0)),r.2]]) (fun r=>[Hg r.1 (x/y).natAbs,Hg r.2 (x%y).natAbs]):=by
 refine Zd func127 ntmps127 fun w0 sc hw hsc=>?_
 have hyp:0<y.natAbs:=O
 have hb1:=Yka x y
 have hb2:=Zuy x y
 have hb3:=Bh x (x.tdiv y*y)
 have hsf:=Yg9 (x:=x) hy0
 have hb4:=Bh (x.tdiv y) 1
 have hb5:=Hy (x.tdiv y) 1
 have hb6:bl (1:Int).natAbs≤1:=O3
 have hb7:=Yv (x.tdiv y-1) y
 have hb8:=Yv (x.tdiv y+1) y
 refine go 2 ?_
 refine Yd (Yg 3) fun b _=>Yd (Yg 4) fun b_2 _=>Yd (Zs 5) fun b_3 _=>Yd (Zs 6) fun b_4 _=>go 8 ?_
 refine cl 70 [1,2] (Ycf _ _ _ _ hyp) fun g _=>go 15 ?_
 refine cl 6 [70] (Zad _ _ _ (x.tdiv y) (Zio x y) (Yhg x y) (by rw [Zio];omega)) fun _ _=>?_
 refine Qn (Mt 70 (congrArg (Hg _) (Zio x y)) J J)<|Yd (Zs 97) fun b_5 _=>go 3 ?_
 refine jn (G:=Value×Nat) [2,3,4,5,7,8] [0,1,2,3,4,5,6,70,71,97] (fun q=>[(9,.pointer (some ⟨q.2,0,none⟩))]) (fun q=>[(72,Hg q.1 (x-x.tdiv y*y).natAbs),(98,box q.2 77 #[.bool (decide ((x-x.tdiv y*y)<0)),q.1])]) (fun q=>True) ?_ ?_
 ·refine Ec (fun _=>False) [6]<|Zm (n:=4) [(0,0),(1,0),(2,0)]<|go 4 ?_
  refine Qq (n:=3) 3 5 ?_ ?_
  ·refine Ny (Zh 73 [70,2] (Bt _ _ _ _)) fun v _=>?_
   refine Qq (n:=2) 4 5 ?_ ?_
   ·refine Ny (Zh 72 [1,73] (Zg4 _ _ _ _)) fun v_2 _=>?_
    refine Zm (n:=0) [(5,1),(6,3)]<|Yx (Zs 98) fun b_6 _=>go 2 ?_
    exact Zy<|Qu (_,_) trivial K1 K2
   ·refine Ny (Zs 98) fun b_7 _=>?_
    refine Zm (n:=0) [(4,1),(6,3)]<|Yx (Zh 72 [1,73] (Zg4 _ _ _ _)) fun v_3 _=>go 2 ?_
    exact Zy<|Qu (_,_) trivial K1 K2
  ·refine Ny (Zs 98) fun b_8 _=>?_
   refine Zm (n:=0) [(3,1),(4,1),(6,3)]<|Yx (Zh 73 [70,2] (Bt _ _ _ _)) fun v_4 _=>Yx (Zh 72 [1,73] (Zg4 _ _ _ _)) fun v_5 _=>go 2 ?_
   exact Zy<|Qu (_,_) trivial K1 K2
 ·rintro⟨vr,b9⟩ -
  dsimp only
  refine jn (G:=Value×Value) [4,5,7,8,9] [0,72,1,2,3,4,5,6,70,71] (fun q=>[]) (fun q=>[(75,Hg q.1 (x/y).natAbs),(76,Hg q.2 (x%y).natAbs),(97,box b_5 77 #[.bool (decide (x/y<0)),q.1]),(98,box b9 77 #[.bool (decide (x%y<0)),q.2])]) (fun q=>True) ?_ ?_
  ·refine go 3 ?_
   refine cl 6 [72] (Znm _ _) fun _ _=>go 3 ?_
   refine Zc J (fun h223=>?_) (fun h223=>?_)
   ·have hrn:x.tmod y<0:=by rw [←hsf];exact(Pm _).1 h223
    refine go 4 ?_
    refine cl 6 [2] (Znm _ _) fun _ _=>go 3 ?_
    refine Zc J (fun h224=>?_) (fun h224=>?_)
    ·have hyp0:0<y:=by have h2:=decide_eq_decide.1 (Gq y);omega
     obtain⟨hq,hr⟩:=Yh0 hyp0 hrn
     refine Xw (fun _=>False) [(0,0),(1,1),(2,3),(3,3)]<|go 1 ?_
     refine Yx (Zh 7 [] (Em 1)) fun v_6 _=>r3x (Zh 8 [70,7] (Zg4 _ _ _ _)) fun v_7 _=>go 3 ?_
     refine Xw (fun _=>False) [(0,0),(1,0),(2,0),(3,1),(4,1),(5,3)]<|go 3 ?_
     refine Yx (Zh 9 [8,2] (Bt _ _ _ _)) fun v_8 _=>Yx (Zh 10 [1,9] (Zg4 _ _ _ _)) fun v_9 _=>go 2 ?_
     exact Yn (Pb 8 75 J J J)<|Yn (Pb 10 76 J J J)<|Qu (v_7,v_9) trivial trivial ⟨by rw [hq];rfl,by rw [hr];rfl,by rw [hq];rfl,by rw [hr];rfl,trivial⟩
    ·have hyn0:y<0:=by have h2:=decide_eq_decide.1 (Gq y);omega
     obtain⟨hq,hr⟩:=Yh1 hyn0 hrn
     refine Xw (fun _=>False) [(0,0),(1,1),(2,3),(3,3)]<|go 1 ?_
     refine Yx (Zh 11 [] (Em 1)) fun v_10 _=>r3x (Zh 12 [70,11] (Zv6 _ _ _ _ O)) fun v_11 _=>go 3 ?_
     refine Xw (fun _=>False) [(0,0),(1,0),(2,0),(3,1),(4,1),(5,3)]<|go 3 ?_
     refine Yx (Zh 13 [12,2] (Bt _ _ _ _)) fun v_12 _=>Yx (Zh 14 [1,13] (Zg4 _ _ _ _)) fun v_13 _=>go 2 ?_
     exact Yn (Pb 12 75 J J J)<|Yn (Pb 14 76 J J J)<|Qu (v_11,v_13) trivial trivial ⟨by rw [hq];rfl,by rw [hr];rfl,by rw [hq];rfl,by rw [hr];rfl,trivial⟩
   ·have hrn:¬x.tmod y<0:=by rw [←hsf];exact fun h=>h223 ((Pm _).2 h)
    obtain⟨hq,hr⟩:=Ycj hy0 hrn
    rw [←hsf]at hr
    refine go 1 ?_
    exact Yn (Pb 70 75 J J J)<|Yn (Pb 72 76 J J J)<|Qu (g.1,vr) trivial trivial ⟨by rw [hq];rfl,by rw [hr];rfl,by rw [hq];rfl,by rw [hr];rfl,trivial⟩
  ·rintro⟨v8,v9⟩ -
   dsimp only
   refine go 6 ?_
   refine Mq [97,98] [3]<|Zm (n:=0) [(0,0),(1,0),(2,1),(3,3)]<|go 5 ?_
   refine Zy<|go 2 ?_
   exact Nz hsc (_,_) results127 J trivial (Mm 75 (Mm 76 Za))
end Go.Sky

