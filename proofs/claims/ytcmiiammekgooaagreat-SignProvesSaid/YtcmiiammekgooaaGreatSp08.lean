/- Rules, arithmetic and contracts: part 9. No conditions but those that each theorem names. -/
import Derived.Test.YtcmiiammekgooaaGreatSp07
set_option linter.all false
set_option maxHeartbeats 4000000
namespace Go.Sky
open Go.Proofs.Tryz
open Go.Proofs
set_option maxRecDepth 20000
set_option maxHeartbeats 4000000
set_option linter.unusedSimpArgs false
theorem Zoj(b:Bool)(s:ByteArray):Od prog 35 #[.agg #[.bool b,.string s]] [] (.bool (okW b s)):=by
 refine Yg func35 J ntmps35 J trivial fun w0 sc hw hsc=>?_
 simp only [Zs,Zq]
 refine Zb<|Zf<|tt (Xp (i:=1) K5 hw) fun b _=>Zo J<|Zd<|Za<|Zb<|Zb<|Zf<|dt (Qy K2 Db J zT9 K2)<|dt (Mc (i:=1) K3 iA9 J)<|dt (Dk J J uT9)<|dt (Hf K3)<|Zd<|Za<|Zr J (fun h25=>?_) (fun h25=>?_)
 ·exact Zb<|Zf<|dt (Qy K2 Db J zT4 K2)<|dt (Mc (i:=1) K3 iA4 J)<|dt (Xh J J)<|Zo J<|Zd<|Za<|Zp<|Yp<|xU hsc results35 J J (by unfold okW;rw [if_pos (by omega)])
 ·refine Zl<|Za<|Zb<|Zf<|dt (Qy K2 Db J zT9 K2)<|dt (Mc (i:=1) K3 iA9 J)<|dt (Dk J J uT9)<|dt (Ev J J J)<|mv J<|Pb (d:=14) J (fun s28=>?_) (fun s28=>?_)
  ·exact Zx (Qy K2 Db J zT9 K2) K2<|Zx (Mc (i:=1) K3 iA9 J) K2<|Zx (Znk (i:=0) J J J uT9 J) K2<|Zx (Pk K3) K2<|dt (Om K3)<|Zo J<|Zd<|Za<|Zp<|xU hsc results35 J J (by unfold okW;rw [if_neg (by omega)];simp_all<;>omega)
  ·exact Yj K3<|Yj K3<|Yj K3<|Yj K3<|dt (Ql K3)<|Zo J<|Zd<|Za<|Zp<|xU hsc results35 J J (by unfold okW;rw [if_neg (by omega)];simp_all<;>omega)
theorem r_trim(v:Value)(xs:List Nat):Cal prog 77 #[v] [Pw 1 Hx v xs] true (G:=Unit) (fun _=>True) (fun _=>Ix v (tz xs).length) (fun _=>[Pw 1 Hx (Ix v (tz xs).length) (tz xs)]):=by
 refine Yg func77 J ntmps77 J K1 fun w0 sc hw hsc=>?_
 simp only [Zs,Zq]
 refine Mi (Zty (i:=1) J Zg) fun hself=>Mi (Hk (i:=1) J Zg) fun hlen=>Zb<|Zf<|Zo J<|Zd<|Za<|Zb<|Zn<|Px [] [(0,_)] (fun(k:Nat)=>[(0,Ix v k)]) (fun(k:Nat)=>[(1,Pw 1 Hx (Ix v k) (xs.take k))]) (fun(k:Nat)=>(k≤xs.length)∧(tz (xs.take k)=tz xs)) (fun(k:Nat)=>k) xs.length ⟨Nat.le_refl _,by rw [List.take_length]⟩ ⟨by rw [hself];rfl,trivial⟩ ⟨by rw [hself,List.take_length];rfl,rfl,trivial⟩ ?_
 rintro k ⟨hk,ht⟩
 simp only [CA,NA]
 have hl:(xs.take k).length=k:=by rw [List.length_take];omega
 refine Zb<|Zb<|Zf<|mv J<|dt (Yc J J (i:=1) J Zg Ol)<|dt (Fd K3)<|mv J<|Pb (d:=6) J (fun s33=>?_) (fun s33=>?_)
 ·refine Zx (Ya K2) K2<|Zx (Ya K2) K2<|Zx (Yc J J (i:=1) J Zg Ol) K2<|Zx (Pq K3) K2<|Zx (Nj (ii:=1) (i:=k-1) K4 Zg Ol zT3) K2<|Zx (Ms (ii:=1) 0 K3 Zg pN) K2<|Zx (Hf K3) K2<|dt (Om K3)<|Zd<|Za<|Zr J (fun h33=>?_) (fun h33=>?_)
  ·have hstep:=Zup hk (by omega) (by omega:(xs.take k).getD (k-1) 0=0)
   exact Zl<|Za<|Zn<|Zf<|mv J<|mv J<|dt (Yc J J (i:=1) J Zg Ol)<|dt (Pq K3)<|dt (Zwr (ii:=1) (i:=k-1) J J J J Zg Ol zT3)<|Zo J<|Zd<|Qh<|Qn (Yaa 1 1 (k-1) J J)<|Xg (k-1) ⟨by first | omega | (dsimp only<;>omega),by rw [←ht,←hstep]⟩ (by first | omega | (dsimp only<;>omega)) ⟨by rw [←Em v k (k-1)];rfl,trivial⟩ ⟨by rw [Em,List.take_take,Nat.min_eq_left (by omega)];rfl,rfl,trivial⟩
  ·refine Yt<|Zv<|Zv<|Pd<|Za<|Zb<|Zf<|mv J<|Zo J<|Zd<|Za<|Zp ?_
   have hx:tz xs=xs.take k:=by rw [←ht];exact Zfw hk (by omega)
   exact xG hsc () results77 J (by rw [hx,hl]) trivial J (Lg 1 K3 (by rw [hx,hl]) Zm)
 ·refine Yj K3<|Yj K3<|Yj K3<|Yj K3<|Yj K3<|Yj K3<|Yj K3<|dt (Ql K3)<|Zd<|Za<|Yk J<|Yt<|Zv<|Zv<|Pd<|Za<|Zb<|Zf<|mv J<|Zo J<|Zd<|Za<|Zp ?_
  have hx:tz xs=xs.take k:=by rw [←ht];exact Zfw hk (by omega)
  exact xG hsc () results77 J (by rw [hx,hl]) trivial J (Lg 1 K3 (by rw [hx,hl]) Zm)
theorem Hr(v:Value)(xs:List Nat):Cal prog 77 #[v] [Pw 1 Hx v xs] false (G:=Unit) (fun _=>True) (fun _=>Ix v (tz xs).length) (fun _=>[]):=(r_trim v xs).bare
theorem Zok(v w:Value)(x y:Nat)(hx:bl x≤4294967296:=by omega)(hy:bl y≤4294967296:=by omega):Od prog 90 #[v,w] [Me v x,Me w y] (.int .i64 (Ziy x y)):=by
 refine Yg func90 J ntmps90 J K2 fun w0 sc hw hsc=>?_
 simp only [Zs,Zq]
 have hX:=Hw x
 have hY:=Hw y
 refine Zb<|Zf<|Zo J<|Zd<|Za<|Zb<|Zb<|Zf<|mv J<|dt (Yc J J (i:=1) J Zg Ol)<|mv J<|dt (Yc J J (i:=2) J Zg Ol)<|dt (Pk K3)<|Zd<|Za<|Zr J (fun h41=>?_) (fun h41=>?_)
 ·refine Zb<|Zb<|Zf<|mv J<|dt (Yc J J (i:=1) J Zg Ol)<|mv J<|dt (Yc J J (i:=2) J Zg Ol)<|dt (Pa K3)<|Zd<|Za<|Zr J (fun h42=>?_) (fun h42=>?_)
  ·have hlt:x<y:=Zbk Nh (by omega)
   exact Zb<|Zf<|Zo J<|Zd<|Za<|Zp<|Yp<|Yp<|xU hsc results90 J J (by unfold Ziy;rw [if_pos hlt])
  ·have hlt:y<x:=Zbk Nh (by omega)
   exact Zl<|Za<|Zb<|Zf<|Zo J<|Zd<|Za<|Zp<|Yp<|xU hsc results90 J J (by unfold Ziy;rw [if_neg (by omega),if_pos hlt])
 ·have hlen:(dg 1000000000 x).length=(dg 1000000000 y).length:=by omega
  refine Zl<|Za<|Zb<|Zb<|Zf<|mv J<|dt (Yc J J (i:=1) J Zg Ol)<|dt (Pq K3)<|Zo J<|Zd<|Za<|Zn<|Px [(0,_),(1,_)] [(0,_),(1,_),(2,_)] (fun(k:Nat)=>[(5,.int .i64 ((k:Int)-1))]) (fun(k:Nat)=>[]) (fun(k:Nat)=>(k≤(dg 1000000000 x).length)∧((dg 1000000000 x).drop k=(dg 1000000000 y).drop k)) (fun(k:Nat)=>k) (dg 1000000000 x).length ⟨by first | omega | (dsimp only<;>omega),by rw [List.drop_length,hlen,List.drop_length]⟩ K3 K3 ?_
  rintro k ⟨hk,hd⟩
  simp only [CA,NA]
  refine Zb<|Zb<|Zf<|mv J<|dt (Lh J J J)<|Zd<|Za<|Zr J (fun h47=>?_) (fun h47=>?_)
  ·refine Zl<|Za<|Zb<|Zn<|Zb<|Zb<|Qj (fun _=>False) [(0,0),(1,0),(2,0),(3,0),(4,0),(5,0),(6,0),(7,0),(8,0)] ?_ ?_
   ·kernel_rfl
   refine Zh K2 (Yo (Ya K2))<|Zh K2 (Yo (Ya K2))<|Zh K2 (Yo (Nj (ii:=1) (i:=k-1) K4 Zg Ol zT3))<|Zh K2 (Yo (Ms (ii:=1) 0 K3 Zg pN (by first | omega | (simp only [List.length_set];omega))))<|Zh K2 (Yo (Ya K2))<|Zh K2 (Yo (Ya K2))<|Zh K2 (Yo (Nj (ii:=2) (i:=k-1) K4 Zg Ol zT3))<|Zh K2 (Yo (Ms (ii:=2) 0 K3 Zg pN (by first | omega | (simp only [List.length_set];omega))))<|Zh K2 (Yo (Pa K3))<|Pv<|Za<|Zr J (fun h48=>?_) (fun h48=>?_)
   ·have hlt:=Zpr Hl (xs:=(dg 1000000000 x)) (ys:=(dg 1000000000 y)) (Lc Nh x) (k:=k-1) (by omega) (by omega) (by rw [show k-1+1=k by omega];exact hd) (by omega)
    rw [Lv Nh,Lv Nh]at hlt
    exact Zb<|Zf<|Zo J<|Zd<|Za<|Zp<|Yp<|Md<|Yp<|Yp<|Md<|Yp<|xU hsc results90 J J (by unfold Ziy;rw [if_pos hlt])
   ·refine Zl<|Za<|Zb<|Qj (fun _=>False) [(0,0),(1,0),(2,0),(3,0),(4,0),(5,0),(6,0),(7,0),(8,0)] ?_ ?_
    ·kernel_rfl
    refine Zh K2 (Yo (Ya K2))<|Zh K2 (Yo (Ya K2))<|Zh K2 (Yo (Nj (ii:=1) (i:=k-1) K4 Zg Ol zT3))<|Zh K2 (Yo (Ms (ii:=1) 0 K3 Zg pN (by first | omega | (simp only [List.length_set];omega))))<|Zh K2 (Yo (Ya K2))<|Zh K2 (Yo (Ya K2))<|Zh K2 (Yo (Nj (ii:=2) (i:=k-1) K4 Zg Ol zT3))<|Zh K2 (Yo (Ms (ii:=2) 0 K3 Zg pN (by first | omega | (simp only [List.length_set];omega))))<|Zh K2 (Yo (Fd K3))<|Pv<|Za<|Zr J (fun h51=>?_) (fun h51=>?_)
    ·have hlt:=Zpr Hl (xs:=(dg 1000000000 y)) (ys:=(dg 1000000000 x)) (Lc Nh y) (k:=k-1) (by omega) (by omega) (by rw [show k-1+1=k by omega];exact hd.symm) (by omega)
     rw [Lv Nh,Lv Nh]at hlt
     exact Zb<|Zf<|Zo J<|Zd<|Za<|Zp<|Md<|Yp<|Yp<|Md<|Yp<|xU hsc results90 J J (by unfold Ziy;rw [if_neg (by omega),if_pos hlt])
    ·exact Zl<|Qh<|Za<|Zf<|mv J<|dt (Pq K3)<|Zo J<|Zd<|Xg (k-1) ⟨by first | omega | (dsimp only<;>omega),by have:=Zg0 (xs:=(dg 1000000000 x)) (ys:=(dg 1000000000 y)) (k:=k-1) (by omega) (by omega) (by rw [show k-1+1=k by omega];exact hd) (by omega);exact this⟩ (by first | omega | (dsimp only<;>omega)) ⟨by rw [show(((k-1:Nat):Int)-1)=(k:Int)-1-1 by omega];rfl,rfl,rfl,trivial⟩ K3
  ·refine Yt<|Zv<|Zv<|Pd<|Za<|Zb<|Zf<|Zo J<|Zd<|Za<|Zp ?_
   obtain rfl:k=0:=by omega
   have heq:x=y:=(Zh2 Nh).1 (by simpa using hd)
   exact xU hsc results90 J J (by unfold Ziy;rw [if_neg (by omega),if_neg (by omega)])
theorem Zth(v w:Value)(x y:Nat)(hx:bl x≤4294967296)(hy:bl y≤4294967296):Cal prog 75 #[v,w] [Me v x,Me w y] false (G:=Value) (fun r=>True) (fun r=>r) (fun r=>[Me r (x+y)]):=by
 refine Yg func75 J ntmps75 J K2 fun w0 sc hw hsc=>?_
 simp only [Zs,Zq]
 have hX:=Hw x
 have hY:=Hw y
 refine Zb<|Zf<|Zo J<|Zd<|Za<|Zb<|Zf<|Zo J<|Zd<|Za<|Zb<|Zf<|Zo J<|Zd<|Za<|Zb<|Zb<|Zf<|Zo J<|Zd<|Za<|Zn<|Yl (Nc 70 1 3 Hx)<|Px [(0,_),(1,_)] [(0,_),(1,_),(2,_)] (fun(q:Nat×List Nat×Nat×Value)=>[(7,.int .i64 (q.1:Int)),(6,.int .i64 (q.2.2.1:Int)),(5,q.2.2.2)]) (fun(q:Nat×List Nat×Nat×Value)=>[(70,Lf 1 3 Hx q.2.2.2 q.2.1)]) (fun(q:Nat×List Nat×Nat×Value)=>(q.1≤max (dg 1000000000 x).length (dg 1000000000 y).length+1∧(q.1=max (dg 1000000000 x).length (dg 1000000000 y).length+1→q.2.2.1=0))∧(q.2.1.length=q.1)∧(∀d∈q.2.1,d<1000000000)∧(q.2.2.1≤1)∧(Xz 1000000000 q.2.1+q.2.2.1*1000000000^q.1=Xz 1000000000 ((dg 1000000000 x).take q.1)+Xz 1000000000 ((dg 1000000000 y).take q.1))∧(q.1=0∨1000000000^(q.1-1)≤x+y)) (fun(q:Nat×List Nat×Nat×Value)=>max (dg 1000000000 x).length (dg 1000000000 y).length+1-q.1) (0,[],0,.slice none 0 0) ⟨⟨by omega,by omega⟩,J,by simp,by first | omega | (dsimp only<;>omega),by simp [Xz],.inl rfl⟩ K5 K4 ?_
 rintro⟨i,o,c,vo⟩ ⟨hi,hol,hoa,hc,hv,hge⟩
 dsimp only at hi hol hoa hc hv hge
 simp only [CA,NA]
 refine Zb<|Iy [(0,_),(1,_),(5,_),(6,_),(7,_)] [(0,_),(70,_),(1,_),(2,_)] (fun(_:Unit)=>[(21,.bool (decide (i<(dg 1000000000 x).length∨i<(dg 1000000000 y).length∨0<c)))]) (fun(_:Unit)=>[]) (fun(_:Unit)=>True) K5 K4 ?_ ?_
 ·refine Zf<|mv J<|mv J<|dt (Yc J J (i:=1) J Zg Ol)<|dt (Pa K3)<|mv J<|Pb (d:=12) J (fun s62=>?_) (fun s62=>?_)
  ·exact Yj K3<|Yj K3<|Yj K3<|Yj K3<|dt (Om K3)<|mv J<|Yj K3<|Yj K3<|dt (Om K3)<|Zd<|Xd () trivial ⟨by first | exact congrArg some (vB (decide_eq_decide.2 (by omega))) | exact congrArg some (vB (decide_eq_true (by omega)).symm),rfl,rfl,rfl,rfl,rfl,trivial⟩ K4
  ·refine Zx (Ya K2) K2<|Zx (Ya K2) K2<|Zx (Yc J J (i:=2) J Zg Ol) K2<|Zx (Pa K3) K2<|dt (Ql K3)<|mv J<|Pb (d:=18) J (fun s62_2=>?_) (fun s62_2=>?_)
   ·exact Yj K3<|Yj K3<|dt (Om K3)<|Zd<|Xd () trivial ⟨by first | exact congrArg some (vB (decide_eq_decide.2 (by omega))) | exact congrArg some (vB (decide_eq_true (by omega)).symm),rfl,rfl,rfl,rfl,rfl,trivial⟩ K4
   ·exact Zx (Ya K2) K2<|Zx (Fd K3) K2<|dt (Ql K3)<|Zd<|Xd () trivial ⟨by first | exact congrArg some (vB (decide_eq_decide.2 (by omega))) | exact congrArg some (vB (decide_eq_true (by omega)).symm),rfl,rfl,rfl,rfl,rfl,trivial⟩ K4
 ·rintro _ -
  simp only [CA,NA]
  refine Zr J (fun h62=>?_) (fun h62=>?_)
  ·have hgn:1000000000^i≤x+y:=by
    rcases h62 with h1 | h1 | h1
    ·have:=Za9 Nh h1;omega
    ·have:=Za9 Nh h1;omega
    ·by_cases h2:i<(dg 1000000000 x).length
     ·have:=Za9 Nh h2;omega
     ·by_cases h3:i<(dg 1000000000 y).length
      ·have:=Za9 Nh h3;omega
      ·rw [El Nh (by omega),El Nh (by omega)]at hv
       have:1000000000^i≤c*1000000000^i:=Nat.le_mul_of_pos_left _ h1
       omega
   refine Zl<|Za<|Zb<|Zn<|Iy [(0,_),(1,_),(5,_),(7,_)] [(0,_),(70,_),(1,_),(2,_)] (fun(_:Unit)=>[(6,.int .i64 ((c+(dg 1000000000 x).getD i 0:Nat):Int))]) (fun(_:Unit)=>[]) (fun(_:Unit)=>True) K4 K4 ?_ ?_
   ·refine Zb<|Zf<|mv J<|mv J<|dt (Yc J J (i:=1) J Zg Ol)<|dt (Pa K3)<|Zd<|Za<|Zr J (fun h63=>?_) (fun h63=>?_)
    ·refine Zf<|mv J<|mv J<|mv J<|dt (Nj (ii:=1) K4 Zg Ol zT3 J (by first | omega | (simp only [List.length_set];omega)))<|dt (Ms (ii:=1) 0 K3 Zg pN (by first | omega | (simp only [List.length_set];omega)))<|dt (Zgq J J J (by have h1:=(Pg Hl (Lc Nh x) i);omega))<|Zo J<|Zd ?_
     try (have hz:(dg 1000000000 x).getD i 0=0:=by simp [List.getD,List.getElem?_eq_none (by omega:(dg 1000000000 x).length≤i)])
     exact Xd () trivial ⟨by first | rfl | (rw [hz];rfl),rfl,rfl,rfl,rfl,trivial⟩ K4
    ·refine Zl ?_
     try (have hz:(dg 1000000000 x).getD i 0=0:=by simp [List.getD,List.getElem?_eq_none (by omega:(dg 1000000000 x).length≤i)])
     exact Xd () trivial ⟨by first | rfl | (rw [hz];rfl),rfl,rfl,rfl,rfl,trivial⟩ K4
   ·rintro _ -
    simp only [CA,NA]
    refine Iy [(0,_),(1,_),(5,_),(7,_)] [(0,_),(70,_),(1,_),(2,_)] (fun(_:Unit)=>[(6,.int .i64 ((c+(dg 1000000000 x).getD i 0+(dg 1000000000 y).getD i 0:Nat):Int))]) (fun(_:Unit)=>[]) (fun(_:Unit)=>True) K4 K4 ?_ ?_
    ·refine Zb<|Zf<|mv J<|mv J<|dt (Yc J J (i:=2) J Zg Ol)<|dt (Pa K3)<|Zd<|Za<|Zr J (fun h66=>?_) (fun h66=>?_)
     ·refine Zf<|mv J<|mv J<|mv J<|dt (Nj (ii:=2) K4 Zg Ol zT3 J (by first | omega | (simp only [List.length_set];omega)))<|dt (Ms (ii:=2) 0 K3 Zg pN (by first | omega | (simp only [List.length_set];omega)))<|dt (Zgq J J J (by have h1:=(Pg Hl (Lc Nh x) i);have h2:=(Pg Hl (Lc Nh y) i);omega))<|Zo J<|Zd ?_
      try (have hz:(dg 1000000000 y).getD i 0=0:=by simp [List.getD,List.getElem?_eq_none (by omega:(dg 1000000000 y).length≤i)])
      exact Xd () trivial ⟨by first | rfl | (rw [hz];rfl),rfl,rfl,rfl,rfl,trivial⟩ K4
     ·refine Zl ?_
      try (have hz:(dg 1000000000 y).getD i 0=0:=by simp [List.getD,List.getElem?_eq_none (by omega:(dg 1000000000 y).length≤i)])
      exact Xd () trivial ⟨by first | rfl | (rw [hz];rfl),rfl,rfl,rfl,rfl,trivial⟩ K4
    ·rintro _ -
     simp only [CA,NA]
     exact Zb<|Zf<|mv J<|mv J<|dt (Zrj (n:=1000000000) J J J (by omega))<|tt (Kp (i:=3) (ivs:=[(0,_)]) (enc:=Hx) [(c+(dg 1000000000 x).getD i 0+(dg 1000000000 y).getD i 0)%1000000000] K4 Ol ti3 K5 pN.cells K2 hw) fun v _=>tt (Ho (i:=70) (j:=3) (by_:=8) J J J J J J (by decide) J (Yu pN) Ol ti3 J pN J J J (by simp;omega) (by decide) J hw) fun v_2 _=>Zo J<|Zd<|Za<|Zf<|mv J<|dt (Zky (n:=1000000000) J J J (by have h1:=(Pg Hl (Lc Nh x) i);have h2:=(Pg Hl (Lc Nh y) i);omega) (by omega))<|Zo J<|Zd<|Qh<|Za<|Zf<|mv J<|dt (Ov K3)<|Zo J<|Zd<|Xg (i+1,o ++ [(c+(dg 1000000000 x).getD i 0+(dg 1000000000 y).getD i 0)%1000000000],(c+(dg 1000000000 x).getD i 0+(dg 1000000000 y).getD i 0)/1000000000,_) ⟨⟨by dsimp only;omega,fun h=>by dsimp only at h ⊢;rw [Zdl (by omega:(dg 1000000000 x).length≤i),Zdl (by omega:(dg 1000000000 y).length≤i)];omega⟩,by simp [hol],Zlw hoa (Nat.mod_lt _ Hl),by have h1:=(Pg Hl (Lc Nh x) i);have h2:=(Pg Hl (Lc Nh y) i);dsimp only;omega,Zyc hol hv,.inr hgn⟩ (by first | omega | (dsimp only<;>omega)) K5 K4
  ·refine Yt<|Zv<|Zv<|Pd<|Za<|Zb<|Zf<|mv J<|Zo J<|Zd<|Za<|Zp ?_
   have hc0:c=0:=by omega
   have hv2:Xz 1000000000 o=x+y:=by
    rw [El Nh (by omega),El Nh (by omega),hc0,Nat.zero_mul,Nat.add_zero]at hv
    exact hv
   have hx:o=dg 1000000000 (x+y):=Zuq Nh hoa hv2 (by rw [hol];exact hge)
   exact xG hsc _ results75 J J trivial J (Ng 70 J J pN (by rw [←hx]<;>rfl) Zm)
theorem Zol(v w:Value)(x y:Nat)(hxy:y≤x)(hx:bl x≤4294967296:=by omega):Cal prog 91 #[v,w] [Me v x,Me w y] false (G:=Value) (fun r=>True) (fun r=>r) (fun r=>[Me r (x-y)]):=by
 refine Yg func91 J ntmps91 J K2 fun w0 sc hw hsc=>?_
 simp only [Zs,Zq]
 have hX:=Hw x
 have hm:=Nu hxy
 have hY:=Hw y
 have hly:(dg 1000000000 y).length≤(dg 1000000000 x).length:=Zse Nh hxy
 refine Zb<|Zf<|Zo J<|Zd<|Za<|Zb<|Zf<|Zo J<|Zd<|Za<|Zb<|Zf<|Zo J<|Zd<|Za<|Zb<|Zb<|Zf<|Zo J<|Zd<|Za<|Zn<|Yl (Nc 70 1 3 Hx)<|Px [(0,_),(1,_)] [(0,_),(1,_),(2,_)] (fun(q:Nat×List Nat×Nat×Value)=>[(7,.int .i64 (q.1:Int)),(6,.int .i64 (q.2.2.1:Int)),(5,q.2.2.2)]) (fun(q:Nat×List Nat×Nat×Value)=>[(70,Lf 1 3 Hx q.2.2.2 q.2.1)]) (fun(q:Nat×List Nat×Nat×Value)=>(q.1≤(dg 1000000000 x).length)∧(q.2.1.length=q.1)∧(∀d∈q.2.1,d<1000000000)∧(q.2.2.1≤1)∧(Xz 1000000000 q.2.1+Xz 1000000000 ((dg 1000000000 y).take q.1)=Xz 1000000000 ((dg 1000000000 x).take q.1)+q.2.2.1*1000000000^q.1)) (fun(q:Nat×List Nat×Nat×Value)=>(dg 1000000000 x).length-q.1) (0,[],0,.slice none 0 0) ⟨by first | omega | (dsimp only<;>omega),rfl,by simp,by first | omega | (dsimp only<;>omega),by simp [Xz]⟩ K5 K4 ?_
 rintro⟨i,o,c,vo⟩ ⟨hi,hol,hoa,hc,hv⟩
 dsimp only at hi hol hoa hc hv
 simp only [CA,NA]
 have hda:=(Pg Hl (Lc Nh x) i)
 have hdb:=(Pg Hl (Lc Nh y) i)
 refine Zb<|Zb<|Zf<|mv J<|mv J<|dt (Yc J J (i:=1) J Zg Ol)<|dt (Pa K3)<|Zd<|Za<|Zr J (fun h79=>?_) (fun h79=>?_)
 ·refine Zl<|Za<|Zb<|Zn<|Zb<|Zf<|mv J<|mv J<|dt (Nj (ii:=1) K4 Zg Ol zT3 J (by first | omega | (simp only [List.length_set];omega)))<|dt (Ms (ii:=1) 0 K3 Zg pN (by first | omega | (simp only [List.length_set];omega)))<|mv J<|dt (Pq K3)<|Zo J<|Zd<|Za<|Iy [(0,_),(1,_),(5,_),(7,_)] [(0,_),(70,_),(1,_),(2,_)] (fun(_:Unit)=>[(8,.int .i64 (((dg 1000000000 x).getD i 0:Int)-(c:Int)-((dg 1000000000 y).getD i 0:Int)))]) (fun(_:Unit)=>[]) (fun(_:Unit)=>True) K4 K4 ?_ ?_
  ·refine Zb<|Zf<|mv J<|mv J<|dt (Yc J J (i:=2) J Zg Ol)<|dt (Pa K3)<|Zd<|Za<|Zr J (fun h81=>?_) (fun h81=>?_)
   ·refine Zf<|mv J<|mv J<|mv J<|dt (Nj (ii:=2) K4 Zg Ol zT3 J (by first | omega | (simp only [List.length_set];omega)))<|dt (Ms (ii:=2) 0 K3 Zg pN (by first | omega | (simp only [List.length_set];omega)))<|dt (Pq K3)<|Zo J<|Zd ?_
    try (have hz:(dg 1000000000 y).getD i 0=0:=by simp [List.getD,List.getElem?_eq_none (by omega:(dg 1000000000 y).length≤i)])
    exact Xd () trivial ⟨by first | rfl | (rw [hz];exact congrArg some (Zaw (by omega))),rfl,rfl,rfl,rfl,trivial⟩ K4
   ·refine Zl ?_
    try (have hz:(dg 1000000000 y).getD i 0=0:=by simp [List.getD,List.getElem?_eq_none (by omega:(dg 1000000000 y).length≤i)])
    exact Xd () trivial ⟨by first | rfl | (rw [hz];exact congrArg some (Zaw (by omega))),rfl,rfl,rfl,rfl,trivial⟩ K4
  ·rintro _ -
   simp only [CA,NA]
   refine Zb<|Zf<|Zo J<|Zd<|Za<|Iy [(0,_),(1,_),(5,_),(7,_)] [(0,_),(70,_),(1,_),(2,_)] (fun(_:Unit)=>[(8,.int .i64 ((d9s ((dg 1000000000 x).getD i 0) ((dg 1000000000 y).getD i 0) c:Nat):Int)),(6,.int .i64 ((brw ((dg 1000000000 x).getD i 0) ((dg 1000000000 y).getD i 0) c:Nat):Int))]) (fun(_:Unit)=>[]) (fun(_:Unit)=>True) K4 K4 ?_ ?_
   ·refine Zb<|Zf<|mv J<|dt (Pa K3)<|Zd<|Za<|Zr J (fun h85=>?_) (fun h85=>?_)
    ·exact Zf<|mv J<|dt (Ov K3)<|Zo J<|Zo J<|Zd<|Xd () trivial ⟨by exact congrArg some (Zaw (by unfold d9s;split<;>omega)),by exact congrArg some (Zaw (by unfold brw;split<;>omega)),rfl,rfl,rfl,rfl,trivial⟩ K4
    ·exact Zl<|Xd () trivial ⟨by exact congrArg some (Zaw (by unfold d9s;split<;>omega)),by exact congrArg some (Zaw (by unfold brw;split<;>omega)),rfl,rfl,rfl,rfl,trivial⟩ K4
   ·rintro _ -
    simp only [CA,NA]
    exact Zf<|mv J<|mv J<|tt (Kp (i:=3) (ivs:=[(0,_)]) (enc:=Hx) [d9s ((dg 1000000000 x).getD i 0) ((dg 1000000000 y).getD i 0) c] K4 Ol ti3 K5 pN.cells K2 hw) fun v _=>tt (Ho (i:=70) (j:=3) (by_:=8) J J J J J J (by decide) J (Yu pN) Ol ti3 J pN J J J (by simp;omega) (by decide) J hw) fun v_2 _=>Zo J<|Zd<|Qh<|Za<|Zf<|mv J<|dt (Ov K3)<|Zo J<|Zd<|Xg (i+1,o ++ [d9s ((dg 1000000000 x).getD i 0) ((dg 1000000000 y).getD i 0) c],brw ((dg 1000000000 x).getD i 0) ((dg 1000000000 y).getD i 0) c,_) ⟨by first | omega | (dsimp only<;>omega),by simp [hol],Zlw hoa (Zwv hda hdb hc).1,Yde _ _ _,Zts hc hda hdb hol hv⟩ (by first | omega | (dsimp only<;>omega)) K5 K4
 ·refine Yt<|Zv<|Zv<|Pd<|Za<|Zb<|Zf<|mv J<|tt (Zy (n:=3) (Hr _ _) K4 call77 (Qk 70 J J pN Ze) J hw) fun _ _=>Qx (Za6 70 J J pN)<|Zo J<|Zd<|Za<|Zp ?_
  obtain rfl:i=(dg 1000000000 x).length:=by omega
  have hx:tz o=dg 1000000000 (x-y):=by
   rw [←Iw Nh _ hoa]
   congr 1
   rw [Lo _ (dg 1000000000 y) _ hly,Lo _ (dg 1000000000 x) _ (Nat.le_refl _),Lv Nh,Lv Nh]at hv
   have h1:=Zhj Hl o hoa
   rw [hol]at h1
   have h0:c=0∨c=1:=by omega
   rcases h0 with rfl | rfl<;>omega
  exact xG hsc _ results91 J J trivial J (Ng 70 J J pN (by rw [hx]<;>rfl) Zm)
theorem Zvg(v w:Value)(x y:Nat)(hx:bl x≤4294967296)(hy:bl y≤4294967296):Cal prog 123 #[v,w] [Me v x,Me w y] false (G:=Value) (fun r=>True) (fun r=>r) (fun r=>[Me r (x*y)]):=by
 refine Yg func123 J ntmps123 J K2 fun w0 sc hw hsc=>?_
 simp only [Zs,Zq]
 have hX:=Hw x
 have hY:=Hw y
 refine Zb<|Zf<|Zo J<|Zd<|Za<|Zb<|Zf<|mv J<|dt (Yc J J (i:=1) J Zg Ol)<|mv J<|dt (Yc J J (i:=2) J Zg Ol)<|dt (Ov K3)<|tt (Gh (i:=3) (n:=((dg 1000000000 x).length+(dg 1000000000 y).length)) (by_:=8) (enc:=Hx) 0 J J J J Ol ti3 J pN.cells pN.pos J J J hw) fun v _=>Zo J<|Zd<|Za<|Zb<|Zb<|Zf<|Zo J<|Zd<|Za<|Zn<|Px [(0,_),(1,_),(5,_)] [(0,_),(1,_),(2,_)] (fun(q:Nat×List Nat)=>[(6,.int .i64 (q.1:Int))]) (fun(q:Nat×List Nat)=>[(3,Lf 1 3 Hx v q.2)]) (fun(q:Nat×List Nat)=>(q.1≤(dg 1000000000 x).length)∧(q.2.length=((dg 1000000000 x).length+(dg 1000000000 y).length))∧(∀d∈q.2,d<1000000000)∧(∀j,q.1+(dg 1000000000 y).length≤j→q.2.getD j 0=0)∧(Xz 1000000000 q.2=Xz 1000000000 ((dg 1000000000 x).take q.1)*y)) (fun(q:Nat×List Nat)=>(dg 1000000000 x).length-q.1) (0,List.replicate ((dg 1000000000 x).length+(dg 1000000000 y).length) 0) ⟨by first | omega | (dsimp only<;>omega),by simp,Mu _ Hl,fun j _=>Hg _ j,by simp [Xz,Fi]⟩ K4 K4 ?_
 rintro⟨i,o⟩ ⟨hi,hol,hoa,hz0,hv⟩
 dsimp only at hi hol hoa hz0 hv
 simp only [CA,NA]
 refine Zb<|Zb<|Zf<|mv J<|mv J<|dt (Yc J J (i:=1) J Zg Ol)<|dt (Pa K3)<|Zd<|Za<|Zr J (fun h96=>?_) (fun h96=>?_)
 ·refine Zl<|Za<|Zb<|Zn<|Zb<|Zf<|Zo J<|Zd<|Za<|Zb<|Zf<|Zo J<|Zd<|Za<|Zn<|Px [(0,_),(1,_),(5,_),(6,_)] [(0,_),(1,_),(2,_)] (fun(q:Nat×List Nat×Nat)=>[(8,.int .i64 (q.1:Int)),(7,.int .i64 (q.2.2:Int))]) (fun(q:Nat×List Nat×Nat)=>[(3,Lf 1 3 Hx v q.2.1)]) (fun(q:Nat×List Nat×Nat)=>(q.1≤(dg 1000000000 y).length+1∧(q.1=(dg 1000000000 y).length+1→q.2.2=0))∧(q.2.1.length=((dg 1000000000 x).length+(dg 1000000000 y).length))∧(∀d∈q.2.1,d<1000000000)∧(∀j,i+q.1≤j→i+(dg 1000000000 y).length≤j→q.2.1.getD j 0=0)∧(q.2.2<1000000000)∧(Xz 1000000000 q.2.1+q.2.2*1000000000^(i+q.1)=Xz 1000000000 ((dg 1000000000 x).take i)*y+(dg 1000000000 x).getD i 0*1000000000^i*Xz 1000000000 ((dg 1000000000 y).take q.1))) (fun(q:Nat×List Nat×Nat)=>(dg 1000000000 y).length+1-q.1) (0,o,0) ⟨⟨by omega,by omega⟩,hol,hoa,fun j _ h=>hz0 j h,by first | omega | (dsimp only<;>omega),by rw [hv];simp [Xz]⟩ K6 K4 ?_
  rintro⟨k,p,c⟩ ⟨hk,hpl,hpa,hpz,hcU,hpv⟩
  dsimp only at hk hpl hpa hpz hcU hpv
  simp only [CA,NA]
  have hdig:=Zqg (Pg Hl (Lc Nh x) i) (Pg Hl (Lc Nh y) k) (Pg Hl hpa (i+k)) hcU
  refine Zb<|Iy [(0,_),(1,_),(5,_),(6,_),(7,_),(8,_)] [(0,_),(3,_),(1,_),(2,_)] (fun(_:Unit)=>[(29,.bool (decide (k<(dg 1000000000 y).length∨0<c)))]) (fun(_:Unit)=>[]) (fun(_:Unit)=>True) K6 K4 ?_ ?_
  ·refine Zf<|mv J<|mv J<|dt (Yc J J (i:=2) J Zg Ol)<|dt (Pa K3)<|mv J<|Pb (d:=26) J (fun s98=>?_) (fun s98=>?_)
   ·exact Yj K3<|Yj K3<|dt (Om K3)<|Zd<|Xd () trivial ⟨by first | exact congrArg some (vB (decide_eq_decide.2 (by omega))) | exact congrArg some (vB (decide_eq_true (by omega)).symm),rfl,rfl,rfl,rfl,rfl,rfl,trivial⟩ K4
   ·exact Zx (Ya K2) K2<|Zx (Fd K3) K2<|dt (Ql K3)<|Zd<|Xd () trivial ⟨by first | exact congrArg some (vB (decide_eq_decide.2 (by omega))) | exact congrArg some (vB (decide_eq_true (by omega)).symm),rfl,rfl,rfl,rfl,rfl,rfl,trivial⟩ K4
  ·rintro _ -
   simp only [CA,NA]
   refine Zr J (fun h98=>?_) (fun h98=>?_)
   ·refine Zl<|Za<|Zb<|Zn<|Zb<|Zf<|mv J<|mv J<|mv J<|dt (Zgq J J J (by omega))<|dt (Nj (ii:=3) (i:=(i+k)) K4 (Yu pN) Ol zT3)<|dt (Ms (ii:=3) 0 K3 (Yu pN) pN)<|mv J<|dt (Zgq J J J (by have h1:=Pg Hl hpa (i+k);omega))<|Zo J<|Zd<|Za<|Iy [(0,_),(1,_),(5,_),(6,_),(8,_)] [(0,_),(3,_),(1,_),(2,_)] (fun(_:Unit)=>[(9,.int .i64 ((p.getD (i+k) 0+c+(dg 1000000000 x).getD i 0*(dg 1000000000 y).getD k 0:Nat):Int))]) (fun(_:Unit)=>[]) (fun(_:Unit)=>True) K5 K4 ?_ ?_
    ·refine Zb<|Zf<|mv J<|mv J<|dt (Yc J J (i:=2) J Zg Ol)<|dt (Pa K3)<|Zd<|Za<|Zr J (fun h100=>?_) (fun h100=>?_)
     ·refine Qj (fun _=>False) [(0,0),(1,0),(2,0),(3,0),(4,0),(5,0),(6,0),(7,0),(8,0),(9,0),(10,0),(11,3)] ?_ ?_
      ·kernel_rfl
      refine Zh K2 (Yo (Ya K2))<|Zh K2 (Yo (Ya K2))<|Zh K2 (Yo (Ya K2))<|Zh K2 (Yo (Nj (ii:=1) K4 Zg Ol zT3 J (by first | omega | (simp only [List.length_set];omega))))<|Zh K2 (Yo (Ms (ii:=1) 0 K3 Zg pN (by first | omega | (simp only [List.length_set];omega))))<|Zh K2 (Yo (Ya K2))<|Zh K2 (Yo (Ya K2))<|Zh K2 (Yo (Nj (ii:=2) K4 Zg Ol zT3 J (by first | omega | (simp only [List.length_set];omega))))<|Zh K2 (Yo (Ms (ii:=2) 0 K3 Zg pN (by first | omega | (simp only [List.length_set];omega))))<|Zh K2 (Yo (n_mul J J J (by have h1:=hdig.2;omega)))<|Zh K2 (Yo (Zgq J J J hdig.2))<|Qs J (Pu (Ok J J) J) fun _ _=>Pv ?_
      try (have hz:(dg 1000000000 y).getD k 0=0:=Zdl (by omega))
      exact Xd () trivial ⟨by first | rfl | (rw [hz,Nat.mul_zero];rfl),rfl,rfl,rfl,rfl,rfl,trivial⟩ K4
     ·refine Zl ?_
      try (have hz:(dg 1000000000 y).getD k 0=0:=Zdl (by omega))
      exact Xd () trivial ⟨by first | rfl | (rw [hz,Nat.mul_zero];rfl),rfl,rfl,rfl,rfl,rfl,trivial⟩ K4
    ·rintro _ -
     simp only [CA,NA]
     exact Zb<|Zf<|mv J<|mv J<|mv J<|dt (Zgq J J J (by omega))<|mv J<|dt (Zrj (n:=1000000000) J J J (by omega))<|dt (Nj (ii:=3) (i:=(i+k)) K4 (Yu pN) Ol zT3)<|tt (Ip (i:=3) (enc:=Hx) _ J J J J J J pN J hw) fun _ _=>Zd<|Za<|Zf<|mv J<|dt (Zky (n:=1000000000) J J J hdig.2 (by omega))<|Zo J<|Zd<|Qh<|Za<|Zf<|mv J<|dt (Ov K3)<|Zo J<|Zd<|Xg (k+1,_,_) ⟨⟨by dsimp only;omega,fun h=>by dsimp only at h ⊢;rw [Zdl (by omega:(dg 1000000000 y).length≤k),hpz (i+k) (by omega) (by omega),Nat.mul_zero];omega⟩,by simp;omega,Ib hpa _ _ (Nat.mod_lt _ Hl),fun j hj hj2=>by dsimp only at hj ⊢;rw [Mq _ _ _ _ _ (by omega),if_neg (by omega)];exact hpz j (by omega) hj2,hdig.1,Zs2 hpv (by omega)⟩ (by first | omega | (dsimp only<;>omega)) K6 K4
   ·refine Yt<|Zv<|Zv<|Pd<|Qh<|Za<|Zf<|mv J<|dt (Ov K3)<|Zo J<|Zd ?_
    have hc0:c=0:=by omega
    have hvf:=hpv
    rw [hc0,Nat.zero_mul,Nat.add_zero,El (x:=y) (k:=k) Nh (by omega)]at hvf
    exact Xg (i+1,_) ⟨by first | omega | (dsimp only<;>omega),hpl,hpa,fun j hj=>hpz j (by dsimp only at hj;omega) (by dsimp only at hj;omega),by dsimp only;rw [hvf,Oa,Nat.add_mul]⟩ (by first | omega | (dsimp only<;>omega)) K4 K4
 ·refine Yt<|Zv<|Zv<|Pd<|Za<|Zb<|Zf<|mv J<|tt (Zy (n:=3) (Hr _ _) K4 call77 (Qk 3 J J pN Ze) J hw) fun _ _=>Qx (Za6 3 J J pN)<|Zo J<|Zd<|Za<|Zp ?_
  obtain rfl:i=(dg 1000000000 x).length:=by omega
  have hx:tz o=dg 1000000000 (x*y):=by
   rw [←Iw Nh _ hoa,hv,El Nh (Nat.le_refl _)]
  exact xG hsc _ results123 J J trivial J (Ng 3 J J pN (by rw [hx]<;>rfl) Zm)
theorem Zja(v:Value)(x n:Nat)(hx:bl x≤4294967296:=by omega)(hn:n<1000000000:=by omega):Cal prog 76 #[v,.int .i64 (n:Int)] [Me v x] true (G:=Value) (fun r=>True) (fun r=>r) (fun r=>[Me r (x*n)]):=by
 refine Yg func76 J ntmps76 J K1 fun w0 sc hw hsc=>?_
 simp only [Zs,Zq]
 refine Zb<|Zf<|Zo J<|Zd<|Za<|Zb<|Zb<|Zf<|mv J<|dt (Hf K3)<|Zd<|Za<|Zr J (fun h112=>?_) (fun h112=>?_)
 ·exact Zb<|Zf<|Zo J<|Zd<|Za<|Zp<|Yp<|Qn (Nc 9 1 3 Hx)<|Yr (.inl J) hsc (.slice none 0 0) _ (fun a w hs=>Nr hs results76 J) J trivial J (Ng 9 J J pN (by rw [show n=0 by omega,Nat.mul_zero]<;>rfl) Zm)
 ·have hn0:n≠0:=by omega
  exact Zl<|Za<|Zb<|Zf<|mv J<|mv J<|tt (Kp (i:=70) (ivs:=[(0,_)]) (enc:=Hx) [n] K4 Ol ti3 K5 pN.cells K2 hw) fun v _=>Qx (Zeo 70 (Yc2 Nh hn hn0).symm J J)<|tt (Yf (n:=2) (Zvg _ _ _ n hx (by have:=(Mj 30 n).2 (by omega);omega)) K5 call123 (Zi 1 K3 (Qk 70 J J pN Ze)) J hw) fun v_2 _=>Zo J<|Zd<|Za<|Zp<|xG hsc _ results76 J J trivial J (Kg 2 K3 Zm)
theorem Yao(v w:Value)(x y:Nat)(hy0:0<y)(hx:bl x≤4000000000:=by omega)(hy:bl y≤4000000000:=by omega):Cal prog 124 #[v,w] [Me v x,Me w y] true (G:=Value×Value) (fun r=>True) (fun r=> .tuple #[r.1,r.2]) (fun r=>[Me r.1 (x/y),Me r.2 (x%y)]):=by
 refine Yg func124 J ntmps124 J K2 fun w0 sc hw hsc=>?_
 simp only [Zs,Zq]
 have hX:=Hw x
 have hY:=Hw y
 refine Zb<|Zf<|Zo J<|Zo J<|Zd<|Za<|Zb<|Zf<|mv J<|dt (Yc J J (i:=1) J Zg Ol)<|tt (Gh (i:=3) (n:=(dg 1000000000 x).length) (by_:=8) (enc:=Hx) 0 J J J J Ol ti3 J pN.cells pN.pos J J J hw) fun v _=>Zo J<|Zd<|Za<|Zb<|Zf<|Zo J<|Zd<|Za<|Zb<|Zb<|Zf<|mv J<|dt (Yc J J (i:=1) J Zg Ol)<|dt (Pq K3)<|Zo J<|Zd<|Za<|Zn<|Yl (Nc 71 1 3 Hx)<|Yl (Qw 71 J J pN)<|Px [(0,_),(1,_),(6,_)] [(0,_),(1,_),(2,_)] (fun(q:Nat×List Nat×Nat×Value)=>[(8,.int .i64 ((q.1:Int)-1)),(7,q.2.2.2)]) (fun(q:Nat×List Nat×Nat×Value)=>[(3,Lf 1 3 Hx v q.2.1),(71,Me q.2.2.2 q.2.2.1)]) (fun(q:Nat×List Nat×Nat×Value)=>(q.1≤(dg 1000000000 x).length)∧(q.2.1.length=(dg 1000000000 x).length)∧(∀d∈q.2.1,d<1000000000)∧(∀j,j<q.1→q.2.1.getD j 0=0)∧(Xz 1000000000 (q.2.1.drop q.1)*y+q.2.2.1=x/1000000000^q.1)∧(q.2.2.1<y)) (fun(q:Nat×List Nat×Nat×Value)=>q.1) ((dg 1000000000 x).length,List.replicate (dg 1000000000 x).length 0,0,.slice none 0 0) ⟨Nat.le_refl _,by simp,Mu _ Hl,fun j _=>Hg _ j,by dsimp only;rw [Nat.div_eq_of_lt ((Qv Nh _ x).1 (Nat.le_refl _))];simp [Xz],hy0⟩ K5 K5 ?_
 rintro⟨k,q,r,vr⟩ ⟨hk,hql,hqa,hqz,hv,hr⟩
 dsimp only at hk hql hqa hqz hv hr
 simp only [CA,NA]
 refine Zb<|Zb<|Zf<|mv J<|dt (Lh J J J)<|Zd<|Za<|Zr J (fun h122=>?_) (fun h122=>?_)
 ·have hk0:0<k:=by omega
  have ha9:=Pg Hl (Lc Nh x) (k-1)
  have hdig:x/1000000000^(k-1)=x/1000000000^k*1000000000+(dg 1000000000 x).getD (k-1) 0:=by rw [Gy Nh];exact(Ztn hk0).symm
  rw [←hv,Nat.add_mul]at hdig
  have hrb:=Ygo hr ha9
  have hQ9:=over_Q hr ha9
  refine Zl<|Za<|Zb<|Zn<|Zb<|Zf<|mv J<|mv J<|dt (Nj (ii:=1) (i:=(k-1)) K4 Zg Ol zT3)<|dt (Ms (ii:=1) 0 K3 Zg pN)<|tt (Kp (i:=72) (ivs:=[(0,_)]) (enc:=Hx) [(dg 1000000000 x).getD (k-1) 0] K4 Ol ti3 K5 pN.cells K2 hw) fun v_2 _=>mv J<|tt (Ho (i:=72) (j:=71) (by_:=8) J J J J J J (by decide) J Zg Ol ti3 J pN J J J (by have h8:=Hw r;have h9:=Nu (Nat.le_of_lt hr);simp;omega) (by decide) J hw) fun v_3 _=>tt (Zy (n:=3) (Hr _ _) K4 call77 (Qk 72 J J pN Ze) J hw) fun _ _=>Qx (Za6 72 J J pN)<|Qx (Zeo 72 (Ydy Nh ha9) J J)<|Qx (Qw 72 J J pN)<|Zo J<|Zd<|Za<|Zb<|Zb<|Zf<|mv J<|mv J<|tt (Yf (n:=3) (Zok _ _ _ _) K5 call90 (Zi 72 K3 (Zi 2 K3 Ze)) J hw) fun _ _=>dt (Pa K3)<|Zd<|Za<|Zr J (fun h124=>?_) (fun h124=>?_)
  ·have hlt:(r*1000000000+(dg 1000000000 x).getD (k-1) 0)<y:=Zsm.1 h124
   refine Yt<|Zv<|Pd<|Za<|Zf<|mv J<|dt (Pq K3)<|Zo J<|Zd<|Qn (Np 72 71 K3) ?_
   have h2:=Zy0 hk0 (by omega:k≤q.length) (hqz (k-1) (by omega))
   exact Xg (k-1,q,r*1000000000+(dg 1000000000 x).getD (k-1) 0,_) ⟨by first | omega | (dsimp only<;>omega),by first | omega | (dsimp only<;>omega),by first | omega | (dsimp only<;>omega),fun j hj=>hqz j (by dsimp only at hj;omega),by have h9:1000000000*Xz 1000000000 (q.drop k)*y=Xz 1000000000 (q.drop k)*y*1000000000:=(by rw [Nat.mul_assoc,Nat.mul_comm]);dsimp only;rw [h2,hdig,h9];omega,hlt⟩ (by first | omega | (dsimp only<;>omega)) ⟨by rw [show(((k-1:Nat):Int)-1)=(k:Int)-1-1 by omega];rfl,rfl,rfl,rfl,rfl,trivial⟩ K5
  ·have hge:y≤(r*1000000000+(dg 1000000000 x).getD (k-1) 0):=by have:=mt Zsm.2 h124;omega
   refine Zl<|Za<|Zb<|Zf<|Zo J<|Zo J<|Zd<|Za<|Zb<|Zn<|Px [(0,_),(1,_),(6,_),(7,_),(8,_)] [(0,_),(3,_),(71,_),(1,_),(2,_),(72,_)] (fun(q:Nat×Nat)=>[(9,.int .i64 (q.1:Int)),(10,.int .i64 (q.2:Int))]) (fun(q:Nat×Nat)=>[]) (fun(q:Nat×Nat)=>(q.1≤(r*1000000000+(dg 1000000000 x).getD (k-1) 0)/y)∧((r*1000000000+(dg 1000000000 x).getD (k-1) 0)/y≤q.2)∧(q.2<1000000000)) (fun(q:Nat×Nat)=>q.2-q.1) (0,999999999) ⟨Nat.zero_le _,by omega,by first | omega | (dsimp only<;>omega)⟩ K7 K6 ?_
   rintro⟨lo,hi⟩ ⟨hlo,hhi,hh9⟩
   dsimp only at hlo hhi hh9
   simp only [CA,NA]
   have hmid:(lo+hi+1)/2<1000000000:=by omega
   refine Zb<|Zb<|Zf<|mv J<|mv J<|dt (Pa K3)<|Zd<|Za<|Zr J (fun h128=>?_) (fun h128=>?_)
   ·refine Zl<|Za<|Zn<|Zb<|Zf<|mv J<|mv J<|dt (Zgq J J J (by omega))<|dt (Zgq (n:=1) J J J (by omega))<|dt (Zky (n:=2) J J J (by omega) (by omega))<|Zo J<|Zd<|Za<|Zb<|Zf<|mv J<|mv J<|tt (Yf (n:=4) (Zja _ _ _) K5 call76 (Zi 2 K3 Ze) J hw) fun v_4 _=>mv J<|tt (Yf (n:=4) (Zok _ _ _ _ (by have:=Zlq (y:=y) hmid;omega)) K5 call90 (Zi 4 K3 (Zi 72 K3 Ze)) J hw) fun _ _=>dt (Ev J J J)<|Zd<|Za<|Zr J (fun h130=>?_) (fun h130=>?_)
    ·have hcm:y*((lo+hi+1)/2)≤(r*1000000000+(dg 1000000000 x).getD (k-1) 0):=Zw2.1 h130
     exact Zf<|mv J<|Zo J<|Zd<|Qh<|Xg ((lo+hi+1)/2,hi) ⟨(Nat.le_div_iff_mul_le hy0).2 (by rw [Nat.mul_comm];exact hcm),by first | omega | (dsimp only<;>omega),by first | omega | (dsimp only<;>omega)⟩ (by first | omega | (dsimp only<;>omega)) K7 K6
    ·have hcm:(r*1000000000+(dg 1000000000 x).getD (k-1) 0)<y*((lo+hi+1)/2):=by have:=mt Zw2.2 h130;omega
     exact Zf<|mv J<|dt (Pq K3)<|Zo J<|Zd<|Qh<|Xg (lo,(lo+hi+1)/2-1) ⟨by first | omega | (dsimp only<;>omega),by have h7:=(Nat.div_lt_iff_lt_mul hy0).2 (show(r*1000000000+(dg 1000000000 x).getD (k-1) 0)<(lo+hi+1)/2*y by have h6:=Nat.mul_comm ((lo+hi+1)/2) y;omega);dsimp only;omega,by first | omega | (dsimp only<;>omega)⟩ (by first | omega | (dsimp only<;>omega)) ⟨J,by rw [show(((lo+hi+1)/2-1:Nat):Int)=(((lo+hi+1)/2:Nat):Int)-1 by omega];rfl,rfl,rfl,rfl,rfl,rfl,trivial⟩ K6
   ·have hloQ:lo=(r*1000000000+(dg 1000000000 x).getD (k-1) 0)/y:=by omega
    refine Yt<|Zv<|Zv<|Pd<|Za<|Zb<|Zf<|mv J<|mv J<|mv J<|dt (Nj (ii:=3) (i:=(k-1)) K4 (Yu pN) Ol zT3)<|tt (Ip (i:=3) (enc:=Hx) _ J J J J J J pN J hw) fun _ _=>Zd<|Za<|Zf<|mv J<|mv J<|mv J<|tt (Yf (n:=5) (Zja _ _ _) K5 call76 (Zi 2 K3 Ze) J hw) fun v_5 _=>tt (Yf (n:=6) (Zol _ _ _ _ (by rw [hloQ];exact Nat.mul_div_le _ _)) K5 call91 (Zi 72 K3 (Zi 5 K3 Ze)) J hw) fun v_6 _=>Zo J<|Zd<|Qh<|Za<|Zf<|mv J<|dt (Pq K3)<|Zo J<|Zd<|Qn (Np 6 71 K3) ?_
    have h2:=Zgz (d:=lo) hk0 (by omega:k≤q.length)
    have h16:y*lo≤(r*1000000000+(dg 1000000000 x).getD (k-1) 0):=by rw [hloQ];exact Nat.mul_div_le _ _
    exact Xg (k-1,_,(r*1000000000+(dg 1000000000 x).getD (k-1) 0)-y*lo,_) ⟨by first | omega | (dsimp only<;>omega),by simp [hql],Ib hqa _ _ (by omega),fun j hj=>by dsimp only at hj ⊢;rw [Mq _ _ _ _ _ (by omega),if_neg (by omega)];exact hqz j (by omega),by have h9:1000000000*Xz 1000000000 (q.drop k)*y=Xz 1000000000 (q.drop k)*y*1000000000:=(by rw [Nat.mul_assoc,Nat.mul_comm]);dsimp only;rw [h2,hdig,Nat.add_mul,h9];have h5:lo*y=y*lo:=Nat.mul_comm _ _;omega,by dsimp only;rw [hloQ];have h5:=Nat.div_add_mod (r*1000000000+(dg 1000000000 x).getD (k-1) 0) y;have h6:=Nat.mod_lt (r*1000000000+(dg 1000000000 x).getD (k-1) 0) hy0;omega⟩ (by first | omega | (dsimp only<;>omega)) ⟨by rw [show(((k-1:Nat):Int)-1)=(k:Int)-1-1 by omega];rfl,rfl,rfl,rfl,rfl,trivial⟩ K5
 ·refine Yt<|Zv<|Zv<|Pd<|Za<|Zb<|Zf<|mv J<|tt (Zy (n:=6) (Hr _ _) K4 call77 (Qk 3 J J pN Ze) J hw) fun _ _=>Qx (Za6 3 J J pN)<|mv J<|Zo J<|Zo J<|Zd<|Za<|Zp ?_
  obtain rfl:k=0:=by omega
  rw [List.drop_zero,Nat.pow_zero,Nat.div_one]at hv
  have hq:Xz 1000000000 q=x/y:=by rw [←hv,Nat.mul_comm,Nat.mul_add_div hy0,Nat.div_eq_of_lt hr,Nat.add_zero]
  have hr2:r=x%y:=by rw [←hv,Nat.mul_comm,Nat.mul_add_mod,Nat.mod_eq_of_lt hr]
  have hx:tz q=dg 1000000000 (x/y):=by rw [←Iw Nh _ hqa,hq]
  exact Yr (.inl J) hsc (_,_) _ (fun a w hs=>Pz hs results124 J J) J trivial J (Ng 3 J J pN (by rw [hx]<;>rfl) (Lg 71 K3 (by rw [hr2]<;>rfl) Zm))
theorem Zas(s:Bool)(v:Value)(n:Nat)(z:Int)(hn:n=z.natAbs)(hs:sg s z)(hb:bl n≤4294967296):Od prog 78 #[.bool s,v] [Me v n] (.agg #[.bool (decide (z<0)),v]):=by
 refine Yg func78 J ntmps78 J K1 fun w0 sc hw hsc=>?_
 simp only [Zs,Zq]
 have hl9:=Hw n
 refine Zb<|Zf<|tt (Xi (i:=2) K2 zeroValue48 K2 hw) fun b _=>Zd<|Za<|Zb<|Zf<|mv J<|mv J<|Kx (d:=6) J (fun s143=>?_) (fun s143=>?_)
 ·exact Zx (Ya K2) K2<|Zx (Yc J J (i:=1) J Zg Ol) K2<|Zx (Fd K3) K2<|dt (Om K3)<|mv J<|dt (Oi (ivs:=[(0,_),(1,_)]) J K4 (fun a w hs=>Ydk ((Zc J) a w hs) ((Zj (i:=1) J Zg) a w hs)))<|tt (Zt (i:=2) K6 Ys K2 ⟨Zc J,Zj (i:=1) J Zg,trivial⟩ J hw trivial) fun _ _=>Zd<|Za<|Zp<|Yr (.inl J) hsc () _ (fun a w hs=>Nr hs results78 (Yw (i:=2) J J Ou Ys J)) (by rw [←Yb1 hn hs,←Zrv];simp_all) trivial J Zm
 ·exact Yj K3<|Yj K3<|Yj K3<|dt (Ql K3)<|mv J<|dt (Oi (ivs:=[(0,_),(1,_)]) J K4 (fun a w hs=>Ydk ((Zc J) a w hs) ((Zj (i:=1) J Zg) a w hs)))<|tt (Zt (i:=2) K6 Ys K2 ⟨Zc J,Zj (i:=1) J Zg,trivial⟩ J hw trivial) fun _ _=>Zd<|Za<|Zp<|Yr (.inl J) hsc () _ (fun a w hs=>Nr hs results78 (Yw (i:=2) J J Ou Ys J)) (by rw [←Yb1 hn hs,←Zrv];simp_all) trivial J Zm
theorem Zq3(v:Value)(x:Int)(hx:bl x.natAbs≤3000000000):Cal prog 73 #[.agg #[.bool (decide (x<0)),v]] [Me v x.natAbs] true (G:=Value) (fun r=>True) (fun r=> .agg #[.bool (decide (-x<0)),r]) (fun r=>[Me r (-x).natAbs]):=by
 refine Yg func73 J ntmps73 J K1 fun w0 sc hw hsc=>?_
 simp only [Zs,Zq]
 exact Zb<|Zf<|tt (Xp (i:=2) K5 hw) fun b _=>tt (Xi (i:=3) K2 zeroValue48 K2 hw) fun b_2 _=>Zd<|Za<|Zb<|Zf<|dt (Qy K2 Da J zT4 K2)<|dt (Mc (i:=2) K3 iA4 J)<|dt (Xh J J)<|dt (Qy K2 Da J Zcu K2)<|dt (Mc (i:=2) K3 Zdf J)<|tt (Yf (n:=3) (Zas _ _ _ (-x) (Int.natAbs_neg x).symm (Zz7 (Xs x)) (by omega)) K5 call78 (Zi 1 K3 Ze) J hw) fun _ _=>tt (Zt (i:=3) K6 Ys K2 ⟨Zc J,Zj (i:=1) J Zg,trivial⟩ J hw trivial) fun _ _=>Zd<|Za<|Zp<|Yr (.inl J) hsc _ _ (fun a w hs=>Nr hs results73 (Yw (i:=3) J J Ou Ys J)) J trivial J (Lg 1 K3 (by rw [Int.natAbs_neg]<;>rfl) Zm)
theorem Zmz(v w:Value)(x y:Int)(hx:bl x.natAbs≤3000000000:=by omega)(hy:bl y.natAbs≤3000000000:=by omega):Cal prog 37 #[.agg #[.bool (decide (x<0)),v],.agg #[.bool (decide (y<0)),w]] [Me v x.natAbs,Me w y.natAbs] true (G:=Value) (fun r=>True) (fun r=> .agg #[.bool (decide (x+y<0)),r]) (fun r=>[Me r (x+y).natAbs]):=by
 refine Yg func37 J ntmps37 J K2 fun w0 sc hw hsc=>?_
 simp only [Zs,Zq]
 have hb:=Ia x y
 refine Zb<|Zf<|tt (Xp (i:=3) K5 hw) fun b _=>tt (Xp (i:=4) K5 hw) fun b_2 _=>tt (Xi (i:=5) K2 zeroValue48 K2 hw) fun b_3 _=>Zd<|Za<|Zb<|Zb<|Zf<|dt (Qy K2 Da J zT4 K2)<|dt (Mc (i:=3) K3 iA4 J)<|dt (Qy K2 Da J zT4 K2)<|dt (Mc (i:=4) K3 iA4 J)<|dt (d_eqb J J J uT4)<|Zd<|Za<|Mx J (fun h189=>?_) (fun h189=>?_)
 ·replace h189:=Ygr h189
  refine Zb<|Qj (fun _=>False) [(0,0),(1,0),(2,0),(3,0),(4,0),(5,0),(6,1),(7,1),(8,3)] ?_ ?_
  ·kernel_rfl
  exact Zh K2 (Yo (Qy K2 Da J zT4 K2))<|Zh K2 (Yo (Mc (i:=3) K3 iA4 J))<|Zh K2 (Yo (Qy K2 Da J Zcu K2))<|Zh K2 (Yo (Mc (i:=3) K3 Zdf J))<|Zh K2 (Yo (Qy K2 Da J Zcu K2))<|Zh K2 (Yo (Mc (i:=4) K3 Zdf J))<|Yq J (Yf (n:=6) (Zth _ _ _ _ (by omega) (by omega)) K5 call75 (Zi 1 K3 (Zi 2 K3 Ze)) J hw) fun v _=>Yq J (Yf (n:=6) (Zas _ _ _ (x+y) (Zhf (Xs x) (h189▸Xs y)).symm (Zu8 (Xs x) (h189▸Xs y)) (by rw [←Zhf (Xs x) (h189▸Xs y)];omega)) K5 call78 (Zi 6 K3 Ze) J hw) fun _ _=>Qs J (Zt (i:=5) K6 Ys K2 ⟨Zc J,Zj (i:=6) J Zg,trivial⟩ J hw trivial) fun _ _=>Pv<|Za<|Zp<|Yp<|Yr (.inl J) hsc _ _ (fun a w hs=>Nr hs results37 (Yw (i:=5) J J Ou Ys J)) J trivial J (Lg 6 K3 (by rw [Zhf (Xs x) (h189▸Xs y)]<;>rfl) Zm)
 ·have hne:decide (x<0)≠decide (y<0):=by simpa using h189
  refine Zl<|Za<|Zb<|Zb<|Zf<|dt (Qy K2 Da J Zcu K2)<|dt (Mc (i:=3) K3 Zdf J)<|dt (Qy K2 Da J Zcu K2)<|dt (Mc (i:=4) K3 Zdf J)<|tt (Yf (n:=6) (Zok _ _ _ _) K5 call90 (Zi 1 K3 (Zi 2 K3 Ze)) J hw) fun _ _=>dt (Lh J J J)<|Zd<|Za<|Zr J (fun h192=>?_) (fun h192=>?_)
  ·have hge:y.natAbs≤x.natAbs:=Zw3.1 h192
   refine Zb<|Qj (fun _=>False) [(0,0),(1,0),(2,0),(3,0),(4,0),(5,0),(6,1),(7,1),(8,3)] ?_ ?_
   ·kernel_rfl
   exact Zh K2 (Yo (Qy K2 Da J zT4 K2))<|Zh K2 (Yo (Mc (i:=3) K3 iA4 J))<|Zh K2 (Yo (Qy K2 Da J Zcu K2))<|Zh K2 (Yo (Mc (i:=3) K3 Zdf J))<|Zh K2 (Yo (Qy K2 Da J Zcu K2))<|Zh K2 (Yo (Mc (i:=4) K3 Zdf J))<|Yq J (Yf (n:=7) (Zol _ _ _ _ hge) K5 call91 (Zi 1 K3 (Zi 2 K3 Ze)) J hw) fun v_2 _=>Yq J (Yf (n:=7) (Zas _ _ _ (x+y) (Zbt (Xs x) (Xs y) hne hge).symm (Zi6 (Xs x) (Xs y) hne hge) (by have:=Nu (Nat.sub_le x.natAbs y.natAbs);omega)) K5 call78 (Zi 7 K3 Ze) J hw) fun _ _=>Qs J (Zt (i:=5) K6 Ys K2 ⟨Zc J,Zj (i:=7) J Zg,trivial⟩ J hw trivial) fun _ _=>Pv<|Za<|Zp<|Yp<|Yr (.inl J) hsc _ _ (fun a w hs=>Nr hs results37 (Yw (i:=5) J J Ou Ys J)) J trivial J (Lg 7 K3 (by rw [Zbt (Xs x) (Xs y) hne hge]<;>rfl) Zm)
  ·have hge:x.natAbs≤y.natAbs:=by have:=mt Zw3.2 h192;omega
   refine Zl<|Za<|Zb<|Qj (fun _=>False) [(0,0),(1,0),(2,0),(3,0),(4,0),(5,0),(6,1),(7,1),(8,3)] ?_ ?_
   ·kernel_rfl
   exact Zh K2 (Yo (Qy K2 Da J zT4 K2))<|Zh K2 (Yo (Mc (i:=4) K3 iA4 J))<|Zh K2 (Yo (Qy K2 Da J Zcu K2))<|Zh K2 (Yo (Mc (i:=4) K3 Zdf J))<|Zh K2 (Yo (Qy K2 Da J Zcu K2))<|Zh K2 (Yo (Mc (i:=3) K3 Zdf J))<|Yq J (Yf (n:=8) (Zol _ _ _ _ hge) K5 call91 (Zi 2 K3 (Zi 1 K3 Ze)) J hw) fun v_3 _=>Yq J (Yf (n:=8) (Zas _ _ _ (x+y) (by rw [Int.add_comm x];exact(Zbt (Xs y) (Xs x) (Ne.symm hne) hge).symm) (by rw [Int.add_comm x];exact Zi6 (Xs y) (Xs x) (Ne.symm hne) hge) (by have:=Nu (Nat.sub_le y.natAbs x.natAbs);omega)) K5 call78 (Zi 8 K3 Ze) J hw) fun _ _=>Qs J (Zt (i:=5) K6 Ys K2 ⟨Zc J,Zj (i:=8) J Zg,trivial⟩ J hw trivial) fun _ _=>Pv<|Za<|Zp<|Yr (.inl J) hsc _ _ (fun a w hs=>Nr hs results37 (Yw (i:=5) J J Ou Ys J)) J trivial J (Lg 8 K3 (by rw [Int.add_comm x,Zbt (Xs y) (Xs x) (Ne.symm hne) hge]<;>rfl) Zm)
theorem Zgg(v w:Value)(x y:Int)(hx:bl x.natAbs≤3000000000:=by omega)(hy:bl y.natAbs≤3000000000:=by omega):Cal prog 87 #[.agg #[.bool (decide (x<0)),v],.agg #[.bool (decide (y<0)),w]] [Me v x.natAbs,Me w y.natAbs] true (G:=Value) (fun r=>True) (fun r=> .agg #[.bool (decide (x-y<0)),r]) (fun r=>[Me r (x-y).natAbs]):=by
 refine Yg func87 J ntmps87 J K2 fun w0 sc hw hsc=>?_
 simp only [Zs,Zq]
 have hb:=Cp x y
 have hn:=Zls y
 refine Zb<|Zf<|tt (Xp (i:=3) K5 hw) fun b _=>tt (Xp (i:=4) K5 hw) fun b_2 _=>tt (Xi (i:=5) K2 zeroValue48 K2 hw) fun b_3 _=>Zd<|Za<|Zb<|Qj (fun _=>False) [(0,0),(1,0),(2,1),(3,1),(4,3)] ?_ ?_
 ·kernel_rfl
 exact Zh K2 (Yo (Qm (i:=3) K3 Ou Ys K2))<|Zh K2 (Yo (Qm (i:=4) K3 Ou Ys K2))<|Yq J (Zy (n:=6) (Zq3 _ _ (by omega)) K4 call73 (Zi 2 K3 Ze) J hw) fun v _=>Yq J (Yf (n:=7) (Zmz _ _ _ _) K5 call37 (Zi 1 K3 (Zi 6 K3 Ze)) J hw) fun v_2 _=>Qs J (Zt (i:=5) K6 Ys K2 ⟨Zc J,Zj (i:=7) J Zg,trivial⟩ J hw trivial) fun _ _=>Pv<|Za<|Zp<|Yr (.inl J) hsc _ _ (fun a w hs=>Nr hs results87 (Yw (i:=5) J J Ou Ys J)) (by rw [Int.sub_eq_add_neg]<;>rfl) trivial J (Lg 7 K3 (by rw [Int.sub_eq_add_neg]<;>rfl) Zm)
theorem Ly(v w:Value)(x y:Int)(hx:bl x.natAbs≤1000000000:=by omega)(hy:bl y.natAbs≤1000000000:=by omega):Cal prog 69 #[.agg #[.bool (decide (x<0)),v],.agg #[.bool (decide (y<0)),w]] [Me v x.natAbs,Me w y.natAbs] true (G:=Value) (fun r=>True) (fun r=> .agg #[.bool (decide (x*y<0)),r]) (fun r=>[Me r (x*y).natAbs]):=by
 refine Yg func69 J ntmps69 J K2 fun w0 sc hw hsc=>?_
 simp only [Zs,Zq]
 have hb:=Qb x y
 refine Zb<|Zf<|tt (Xp (i:=3) K5 hw) fun b _=>tt (Xp (i:=4) K5 hw) fun b_2 _=>tt (Xi (i:=5) K2 zeroValue48 K2 hw) fun b_3 _=>Zd<|Za<|Zb<|Qj (fun _=>False) [(0,0),(1,0),(2,0),(3,0),(4,0),(5,0),(6,0),(7,0),(8,0),(9,1),(10,1),(11,3)] ?_ ?_
 ·kernel_rfl
 exact Zh K2 (Yo (Qy K2 Da J zT4 K2))<|Zh K2 (Yo (Mc (i:=3) K3 iA4 J))<|Zh K2 (Yo (Qy K2 Da J zT4 K2))<|Zh K2 (Yo (Mc (i:=4) K3 iA4 J))<|Zh K2 (Yo (Znj J J J uT4))<|Zh K2 (Yo (Qy K2 Da J Zcu K2))<|Zh K2 (Yo (Mc (i:=3) K3 Zdf J))<|Zh K2 (Yo (Qy K2 Da J Zcu K2))<|Zh K2 (Yo (Mc (i:=4) K3 Zdf J))<|Yq J (Yf (n:=6) (Zvg _ _ _ _ (by omega) (by omega)) K5 call123 (Zi 1 K3 (Zi 2 K3 Ze)) J hw) fun v _=>Yq J (Yf (n:=6) (Zas _ _ _ (x*y) (Int.natAbs_mul x y).symm (Zz8 (Xs x) (Xs y)) (by rw [←Int.natAbs_mul];omega)) K5 call78 (Zi 6 K3 Ze) J hw) fun _ _=>Qs J (Zt (i:=5) K6 Ys K2 ⟨Zc J,Zj (i:=6) J Zg,trivial⟩ J hw trivial) fun _ _=>Pv<|Za<|Zp<|Yr (.inl J) hsc _ _ (fun a w hs=>Nr hs results69 (Yw (i:=5) J J Ou Ys J)) J trivial J (Lg 6 K3 (by rw [Int.natAbs_mul]<;>rfl) Zm)
theorem Cc(v:Value)(x:Int)(hx:bl x.natAbs≤3000000000:=by omega):Od prog 72 #[.agg #[.bool (decide (x<0)),v]] [Me v x.natAbs] (.int .i64 x.sign):=by
 refine Yg func72 J ntmps72 J K1 fun w0 sc hw hsc=>?_
 simp only [Zs,Zq]
 have hl9:=Hw x.natAbs
 refine Zb<|Zf<|tt (Xp (i:=2) K5 hw) fun b _=>Zo J<|Zd<|Za<|Zb<|Zb<|Zf<|dt (Qy K2 Da J Zcu K2)<|dt (Mc (i:=2) K3 Zdf J)<|dt (Yc J J (i:=1) J Zg Ol)<|dt (Hf K3)<|Zd<|Za<|Zr J (fun h206=>?_) (fun h206=>?_)
 ·exact Zb<|Zf<|Zo J<|Zd<|Za<|Zp<|Yp<|xU hsc results72 J J (sign9 h206)
 ·refine Zl<|Za<|Zb<|Zb<|Zf<|dt (Qy K2 Da J zT4 K2)<|dt (Mc (i:=2) K3 iA4 J)<|Zd<|Za<|Mx J (fun h209=>?_) (fun h209=>?_)
  ·exact Zb<|Zf<|Zo J<|Zd<|Za<|Zp<|Yp<|xU hsc results72 J J (by rw [Int.sign_eq_neg_one_of_neg (by simpa using h209)])
  ·exact Zl<|Za<|Zb<|Zf<|Zo J<|Zd<|Za<|Zp<|xU hsc results72 J J (by have h3:=Zk5 h206;have h4:¬x<0:=(by simpa using h209);rw [Int.sign_eq_one_of_pos (by omega)])
theorem Zx2(v w:Value)(x y:Int)(hx:bl x.natAbs≤2000000000)(hy:bl y.natAbs≤2000000000):Od prog 68 #[.agg #[.bool (decide (x<0)),v],.agg #[.bool (decide (y<0)),w]] [Me v x.natAbs,Me w y.natAbs] (.int .i64 (x-y).sign):=by
 refine Yg func68 J ntmps68 J K2 fun w0 sc hw hsc=>?_
 simp only [Zs,Zq]
 have hb:=Cp x y
 exact Zb<|Zf<|tt (Xp (i:=3) K5 hw) fun b _=>tt (Xp (i:=4) K5 hw) fun b_2 _=>Zo J<|Zd<|Za<|Zb<|Zf<|dt (Qm (i:=3) K3 Ou Ys K2)<|dt (Qm (i:=4) K3 Ou Ys K2)<|tt (Yf (n:=5) (Zgg _ _ _ _) K5 call87 (Zi 1 K3 (Zi 2 K3 Ze)) J hw) fun v _=>tt (Zy (n:=5) (Cc _ _) K4 call72 (Zi 5 K3 Ze) J hw) fun _ _=>Zo J<|Zd<|Za<|Zp<|xU hsc results68 J J J
theorem Zgh(x:Int)(hx:inI x:=by exact⟨by omega,by omega⟩):Cal prog 34 #[.int .i64 x] [] true (G:=Value) (fun r=>True) (fun r=> .agg #[.bool (decide (x<0)),r]) (fun r=>[Me r (x).natAbs]):=by
 refine Yg func34 J ntmps34 J trivial fun w0 sc hw hsc=>?_
 simp only [Zs,Zq]
 have hxa:=hx.1
 have hxb:=hx.2
 refine Yl (Nc 60 1 3 Hx)<|Yl (Qw 60 J J pN)<|Zb<|Zf<|tt (Xi (i:=1) K2 zeroValue48 K2 hw) fun b _=>Zd<|Za<|Zb<|Zb<|Zf<|mv J<|dt (Lh J J J)<|Zd<|Za<|Zr J (fun h147=>?_) (fun h147=>?_)
 ·obtain⟨m,rfl⟩:∃m:Nat,x=(m:Int):=⟨x.natAbs,by omega⟩
  have hbm:bl m≤64:=(Mj 64 m).2 (by omega)
  exact Zb<|Zf<|mv J<|dt (Zrj (n:=1000000000) J J J (by omega))<|mv J<|dt (Zky (n:=1000000000) J J J (by omega) (by omega))<|dt (Zrj (n:=1000000000) J J J (by omega))<|mv J<|dt (Zky (n:=1000000000) J J J (by omega) (by omega))<|dt (Zky (n:=1000000000) J J J (by omega) (by omega))<|tt (Ic (i:=70) (ivs:=[(0,_),(1,_),(2,_)]) (enc:=Hx) [m%1000000000,m/1000000000%1000000000,m/1000000000/1000000000] J J K6 Ol ti3 J J J J J pN.cells J J hw) fun v _=>tt (Zy (n:=1) (Hr _ _) K4 call77 (Qk 70 J J pN Ze) J hw) fun _ _=>Qx (Za6 70 J J pN)<|Qx (Zeo 70 (Zqf (by omega)) J J)<|tt (Yf (n:=1) (Zas _ _ _ ((m:Int)) (by omega) (by simp [sg]) (by omega)) K5 call78 (Qk 70 J J pN Ze) J hw) fun _ _=>tt (Zt (i:=1) K6 Ys K2 ⟨Zc J,Zj (i:=70) J (Yu pN),trivial⟩ J hw trivial) fun _ _=>Zd<|Za<|Zp<|Yp<|Yr (.inl J) hsc _ _ (fun a w hs=>Nr hs results34 (Yw (i:=1) J J Ou Ys J)) J trivial J (Ng 70 J J pN (by rw [Int.natAbs_natCast]<;>rfl) Zm)
 ·obtain⟨m,rfl⟩:∃m:Nat,x=-(m:Int):=⟨x.natAbs,by omega⟩
  have hbm:bl m≤64:=(Mj 64 m).2 (by omega)
  refine Zl<|Za<|Zb<|Zf<|mv J<|dt (Ybq (n:=1000000000) J J J (by omega))<|dt (Ybt J J (by omega))<|mv J<|dt (Ztr (n:=1000000000) J J J (by omega) (by omega))<|dt (Ybq (n:=1000000000) J J J (by omega))<|dt (Ybt J J (by omega))<|mv J<|dt (Ztr (n:=1000000000) J J J (by omega) (by omega))<|dt (Ztr (n:=1000000000) J J J (by omega) (by omega))<|dt (Ybt J J (by omega))<|tt (Ic (i:=70) (ivs:=[(0,_),(1,_),(2,_)]) (enc:=Hx) [m%1000000000,m/1000000000%1000000000,m/1000000000/1000000000] J J K6 Ol ti3 J J J J J pN.cells J J hw) fun v_2 _=>tt (Zy (n:=1) (Hr _ _) K4 call77 (Qk 70 J J pN Ze) J hw) fun _ _=>Qx (Za6 70 J J pN)<|Qx (Zeo 70 (Zqf (by omega)) J J)<|Qx (Zeo 70 (ys:=dg 1000000000 (-(m:Int)).natAbs) (by rw [Int.natAbs_neg,Int.natAbs_natCast]) J J)<|Qx (Qw 70 J J pN)<|tt (Yf (n:=1) (Zas _ _ _ ((-(m:Int))) J (by simp [sg]) (by rw [Int.natAbs_neg,Int.natAbs_natCast];omega)) K5 call78 (Zi 70 K3 Ze) J hw) fun _ _=>dt (Oi (ivs:=[]) J trivial (fun a w hs=>Zy6)) ?_
  exact tt (Yf (n:=2) (Zgg _ _ (-(m:Int)) 0 (by rw [Int.natAbs_neg,Int.natAbs_natCast];omega) (by decide)) K5 call87 (Zi 70 K3 (Zi 60 K3 Ze)) J hw) fun v_3 _=>tt (Zt (i:=1) K6 Ys K2 ⟨Zc J,Zj (i:=2) J Zg,trivial⟩ J hw trivial) fun _ _=>Zd<|Za<|Zp<|Yr (.inl J) hsc _ _ (fun a w hs=>Nr hs results34 (Yw (i:=1) J J Ou Ys J)) (by rw [Int.sub_zero]<;>rfl) trivial J (Lg 2 K3 (by rw [Int.sub_zero]<;>rfl) Zm)
theorem Zkg(x:Int)(hx:bl x.natAbs≤2000000000:=by omega):Cal prog 30 #[wv x] [] true (G:=Value) (fun r=>True) (fun r=> .agg #[.bool (decide (x<0)),r]) (fun r=>[Me r (x).natAbs]):=by
 refine Yg func30 J ntmps30 J trivial fun w0 sc hw hsc=>?_
 simp only [Zs,Zq]
 obtain⟨n,hn⟩:∃n,n=x.natAbs:=⟨_,rfl⟩
 have hl8:=Zcd n
 have hxn:bl n≤2000000000:=by rw [hn];exact hx
 have hsz:(Xk x.natAbs).size=(dg 256 n).length:=by rw [←hn];exact Kr n
 refine Zb<|Zf<|tt (Xp (i:=1) K5 hw) fun b _=>tt (Xi (i:=2) K2 zeroValue48 K2 hw) fun b_2 _=>Zd<|Za<|Zb<|Zf<|Zo J<|Zd<|Za<|Zb<|Zb<|Zf<|Zo J<|Zd<|Za<|Zn<|Yl (Nc 70 1 3 Hx)<|Yl (Qw 70 J J pN)<|Px [(1,_),(2,_)] [(0,_),(1,_),(2,_)] (fun(q:Nat×Value)=>[(4,.int .i64 (q.1:Int)),(3,q.2)]) (fun(q:Nat×Value)=>[(70,Me q.2 (n/256^((dg 256 n).length-q.1)))]) (fun(q:Nat×Value)=>q.1≤(dg 256 n).length) (fun(q:Nat×Value)=>(dg 256 n).length-q.1) (0,.slice none 0 0) (by first | omega | (dsimp only<;>omega)) K4 ⟨by rw [Zyy];rfl,rfl,rfl,rfl,trivial⟩ ?_
 rintro⟨i,vd⟩ hi
 dsimp only at hi
 simp only [CA,NA]
 have hnb:bl (n/256^((dg 256 n).length-i))≤bl n:=Nu (Nat.div_le_self _ _)
 refine Zb<|Zb<|Zf<|mv J<|dt (Qy K2 Db J zT9 K2)<|dt (Mc (i:=1) K3 iA9 J)<|dt (Dk J J uT9)<|dt (Pa K3)<|Zd<|Za<|Zr J (fun h157=>?_) (fun h157=>?_)
 ·have hby:((Xk x.natAbs).data.toList.getD i 0).toNat=n/256^((dg 256 n).length-1-i)%256:=by rw [←hn];exact Zhc n i (by omega)
  refine Zl<|Za<|Zb<|Zn<|Fy (fun _=>False) [10]<|Zw (n:=5) [(0,0),(2,0),(3,0),(4,0),(5,0),(6,0)]<|Zh K2 (Yo (Ya K2))<|Zh K2 (Yo (Qy K2 Db J zT9 K2))<|Zh K2 (Yo (Mc (i:=1) K3 iA9 J))<|Zh K2 (Yo (Ya K2))<|Zh K2 (Yo (Znk (i:=i) J J J uT9 J))<|Zh K2 (Yo (Zaz J J uT5 uT3 ⟨by omega,by rw [hby];omega⟩))<|Yi<|Qg (n:=4) 1 7 ?_ ?_
  ·exact Yd J (Yf (n:=73) (Zja _ _ 256) K5 call76 (Zi 70 K3 Ze) J hw) fun v _=>Zw (n:=2) [(7,1),(8,1)]<|Yq J (Kp (i:=72) (ivs:=[(0,_)]) (enc:=Hx) [((Xk x.natAbs).data.toList.getD i 0).toNat] K4 Ol ti3 K5 pN.cells K2 hw) fun v_2 _=>Yq J (Zy (n:=2) (Hr _ _) K4 call77 (Qk 72 J J pN Ze) J hw) fun _ _=>Yi<|Zxk (Za6 72 J J pN)<|Zxk (Zeo 72 (Zzg Nh (by rw [hby];omega)) J J)<|Zw (n:=0) [(9,1),(10,3)]<|Yq J (Yf (n:=74) (Zth _ _ _ _ (by have:=Zlq (y:=(n/256^((dg 256 n).length-i))) (n:=256) (by omega);omega) (by rw [hby];exact Nat.le_trans (Zjo _) (by omega))) K5 call75 (Zi 73 K3 (Qk 72 J J pN Ze)) J hw) fun v_3 _=>Qs J (Pu (Ok J J) J) fun _ _=>Yi<|Yh<|Qh<|Za<|Zf<|mv J<|dt (Ov K3)<|Zo J<|Zd<|Qn (Np 74 70 K3)<|Xg (i+1,_) (by first | omega | (dsimp only<;>omega)) (by first | omega | (dsimp only<;>omega)) K4 ⟨by rw [hby,Zne (by omega)];rfl,rfl,rfl,rfl,trivial⟩
  ·exact Yd J (Kp (i:=72) (ivs:=[(0,_)]) (enc:=Hx) [((Xk x.natAbs).data.toList.getD i 0).toNat] K4 Ol ti3 K5 pN.cells K2 hw) fun v_4 _=>Zw (n:=2) [(1,1),(8,1)]<|Yq J (Yf (n:=73) (Zja _ _ 256) K5 call76 (Zi 70 K3 Ze) J hw) fun v_5 _=>Yq J (Zy (n:=2) (Hr _ _) K4 call77 (Qk 72 J J pN Ze) J hw) fun _ _=>Yi<|Zxk (Za6 72 J J pN)<|Zxk (Zeo 72 (Zzg Nh (by rw [hby];omega)) J J)<|Zw (n:=0) [(9,1),(10,3)]<|Yq J (Yf (n:=74) (Zth _ _ _ _ (by have:=Zlq (y:=(n/256^((dg 256 n).length-i))) (n:=256) (by omega);omega) (by rw [hby];exact Nat.le_trans (Zjo _) (by omega))) K5 call75 (Zi 73 K3 (Qk 72 J J pN Ze)) J hw) fun v_6 _=>Qs J (Pu (Ok J J) J) fun _ _=>Yi<|Yh<|Qh<|Za<|Zf<|mv J<|dt (Ov K3)<|Zo J<|Zd<|Qn (Np 74 70 K3)<|Xg (i+1,_) (by first | omega | (dsimp only<;>omega)) (by first | omega | (dsimp only<;>omega)) K4 ⟨by rw [hby,Zne (by omega)];rfl,rfl,rfl,rfl,trivial⟩
 ·refine Yt<|Zv<|Zv<|Pd<|Za<|Zb ?_
  obtain rfl:i=(dg 256 n).length:=by omega
  rw [Nat.sub_self,Nat.pow_zero,Nat.div_one]
  exact Zf<|dt (Qy K2 Db J zT4 K2)<|dt (Mc (i:=1) K3 iA4 J)<|mv J<|tt (Yf (n:=2) (Zas _ _ _ (x) hn (Xs x) (by rw [hn];omega)) K5 call78 (Zi 70 K3 Ze) J hw) fun _ _=>tt (Zt (i:=2) K6 Ys K2 ⟨Zc J,Zj (i:=70) J Zg,trivial⟩ J hw trivial) fun _ _=>Zd<|Za<|Zp<|Yr (.inl J) hsc _ _ (fun a w hs=>Nr hs results30 (Yw (i:=2) J J Ou Ys J)) J trivial J (Lg 70 K3 (by rw [hn]<;>rfl) Zm)
theorem r_to(v:Value)(x:Int)(hx:bl x.natAbs≤4000000000:=by omega):Od prog 53 #[.agg #[.bool (decide (x<0)),v]] [Me v x.natAbs] (wv x):=by
 refine Yg func53 J ntmps53 J K1 fun w0 sc hw hsc=>?_
 simp only [Zs,Zq]
 obtain⟨n,hn⟩:∃n,n=x.natAbs:=⟨_,rfl⟩
 have hxn:bl n≤4000000000:=by rw [hn];exact hx
 have hlx:=Hw x.natAbs
 refine Zb<|Zf<|tt (Xp (i:=2) K5 hw) fun b _=>tt (Xi (i:=3) K2 zeroValue31 K2 hw) fun b_2 _=>Zd<|Za<|Zb<|Zf<|Zo J<|Zd<|Za<|Zb<|Zf<|dt (Qy K2 Da J Zcu K2)<|dt (Mc (i:=2) K3 Zdf J)<|Qx (Nc 81 1 3 Hx)<|tt (Ho (i:=81) (j:=1) (by_:=8) J J J J J J (by decide) J Zg Ol ti3 J pN J J J (by simp;omega) (by decide) J hw) fun v _=>Zo J<|Zd<|Za<|Zb<|Zn<|Yl (Nc 80 1 5 Zmc)<|Px [(1,_),(2,_)] [(0,_),(1,_),(2,_),(3,_)] (fun(q:Nat×List Nat×Value×Value)=>[(3,q.2.2.1),(4,q.2.2.2)]) (fun(q:Nat×List Nat×Value×Value)=>[(80,Lf 1 5 Zmc q.2.2.1 q.2.1),(81,Lf 1 3 Hx q.2.2.2 (dg 1000000000 q.1))]) (fun(q:Nat×List Nat×Value×Value)=>(Xz 256 q.2.1+256^q.2.1.length*q.1=n)∧(∀d∈q.2.1,d<256)∧(q.2.1.length=0∨256^(q.2.1.length-1)≤n)∧(bl q.1≤bl n)) (fun(q:Nat×List Nat×Value×Value)=>q.1) (n,[],.slice none 0 0,_) ⟨by simp [Xz],by simp,.inl rfl,Nat.le_refl _⟩ K4 ⟨J,by rw [hn];rfl,rfl,rfl,rfl,rfl,trivial⟩ ?_
 rintro⟨m,bs,vb,vd⟩ ⟨hv,hba,hge,hmn⟩
 dsimp only at hv hba hge hmn
 simp only [CA,NA]
 have hlm:=Hw m
 refine Zb<|Zb<|Zf<|mv J<|dt (Yc J J (i:=81) J (Yu pN) Ol)<|dt (Fd K3)<|Zd<|Za<|Zr J (fun h167=>?_) (fun h167=>?_)
 ·have hm0:0<m:=Zk5 (by omega)
  have hgn:=to_ge hv hm0
  have hbl:=to_len hgn
  refine Zl<|Za<|Zn<|Zb<|Zf<|Zo J<|Zd<|Za<|Zb<|Zb<|Zf<|mv J<|dt (Yc J J (i:=81) J (Yu pN) Ol)<|dt (Pq K3)<|Zo J<|Zd<|Za<|Zn<|Px [(1,_),(2,_),(3,_),(4,_)] [(0,_),(80,_),(1,_),(2,_),(3,_)] (fun(q:Nat×List Nat×Nat)=>[(6,.int .i64 ((q.1:Int)-1)),(5,.int .i64 (q.2.2:Int))]) (fun(q:Nat×List Nat×Nat)=>[(81,Lf 1 3 Hx vd q.2.1)]) (fun(q:Nat×List Nat×Nat)=>(q.1≤(dg 1000000000 m).length)∧(q.2.1.length=(dg 1000000000 m).length)∧(∀d∈q.2.1,d<1000000000)∧(∀j,j<q.1→q.2.1.getD j 0=(dg 1000000000 m).getD j 0)∧(q.2.2<256)∧(Xz 1000000000 (q.2.1.drop q.1)*256+q.2.2=Xz 1000000000 ((dg 1000000000 m).drop q.1))) (fun(q:Nat×List Nat×Nat)=>q.1) ((dg 1000000000 m).length,dg 1000000000 m,0) ⟨Nat.le_refl _,J,Lc Nh m,fun j _=>J,by first | omega | (dsimp only<;>omega),by simp [List.drop_length,Xz]⟩ K6 K6 ?_
  rintro⟨k,p,r⟩ ⟨hk,hpl,hpa,hpk,hr,hpv⟩
  dsimp only at hk hpl hpa hpk hr hpv
  simp only [CA,NA]
  have hda:=Pg Hl (Lc Nh m) (k-1)
  refine Zb<|Zb<|Zf<|mv J<|dt (Lh J J J)<|Zd<|Za<|Zr J (fun h169=>?_) (fun h169=>?_)
  ·exact Zl<|Za<|Zb<|Zn<|Zb<|Zf<|mv J<|dt (n_mul (n:=1000000000) J J J (by omega))<|mv J<|mv J<|dt (Nj (ii:=81) (i:=(k-1)) K4 (Yu pN) Ol zT3)<|dt (Ms (ii:=81) 0 K3 (Yu pN) pN)<|dt (Zgq J J J (by have:=Pg Hl hpa (k-1);omega))<|Zo J<|Zd<|Za<|Zb<|Zf<|mv J<|mv J<|mv J<|dt (Zky (n:=256) J J J (by have:=Pg Hl hpa (k-1);omega) (by omega))<|dt (Nj (ii:=81) (i:=(k-1)) K4 (Yu pN) Ol zT3)<|tt (Ip (i:=81) (enc:=Hx) _ J J J J J J pN J hw) fun _ _=>Zd<|Za<|Zf<|mv J<|dt (Zrj (n:=256) J J J (by omega))<|Zo J<|Zd<|Qh<|Za<|Zf<|mv J<|dt (Pq K3)<|Zo J<|Zd<|Xg (k-1,_,_) ⟨by first | omega | (dsimp only<;>omega),by simp [hpl],Ib hpa _ _ (Zzh hr (Pg Hl hpa _)),fun j hj=>by dsimp only at hj ⊢;rw [Mq _ _ _ _ _ (by omega),if_neg (by omega)];exact hpk j (by omega),Nat.mod_lt _ (by omega),by dsimp only;rw [hpk (k-1) (by omega)];exact Yd1 (by omega) (by omega) (by omega) hpv⟩ (by first | omega | (dsimp only<;>omega)) ⟨by rw [show(((k-1:Nat):Int)-1)=(k:Int)-1-1 by omega];rfl,rfl,rfl,rfl,rfl,rfl,trivial⟩ K6
  ·refine Yt<|Zv<|Zv<|Pd<|Za<|Zb ?_
   obtain rfl:k=0:=by omega
   rw [List.drop_zero,List.drop_zero,Lv Nh]at hpv
   have hmr:m%256=r%256:=by omega
   have hdm:dg 1000000000 (m/256)=tz p:=by rw [←Iw Nh p hpa];congr 1;omega
   exact Zf<|mv J<|mv J<|dt (Zex J J uT3 uT5)<|tt (Kp (i:=4) (ivs:=[(0,_)]) (enc:=Zmc) [r%256] K4 Zip ti5 K5 pB.cells K2 hw) fun v_2 _=>tt (Ho (i:=80) (j:=4) (by_:=1) J J J J J J (by decide) J (Yu pB) Zip ti5 J pB J J J (by simp;omega) (by decide) J hw) fun v_3 _=>Zo J<|Zd<|Za<|Zf<|mv J<|tt (Zy (n:=4) (Hr _ _) K4 call77 (Qk 81 J J pN Ze) J hw) fun _ _=>Qx (Za6 81 J J pN)<|Zo J<|Zd<|Qh<|Xg (m/256,bs ++ [m%256],_,_) ⟨Yd2 hv,Zlw hba (Nat.mod_lt _ (by omega)),.inr (by simpa using hgn),Nat.le_trans (Nu (Nat.div_le_self _ _)) hmn⟩ (Nat.div_lt_self hm0 (by omega)) K4 ⟨by rw [hmr];rfl,by rw [hdm];rfl,rfl,rfl,rfl,rfl,trivial⟩
 ·have hm0:m=0:=(Ox Nh m).1 (by omega)
  have hbs:bs=dg 256 n:=Zuq (by omega) hba (by rw [hm0,Nat.mul_zero,Nat.add_zero]at hv;exact hv) hge
  have hlb:bs.length≤4000000000:=by rw [hbs,Zcd];omega
  refine Yt<|Zv<|Zv<|Pd<|Za<|Zb<|Zf<|Zo J<|Zd<|Za<|Zb<|Zb<|Zf<|mv J<|dt (Yc J J (i:=80) J (Yu pB) Zip)<|dt (Pq K3)<|Zo J<|Zd<|Za<|Zn<|Yl (Nc 82 1 5 Zmc)<|Px [(1,_),(2,_),(3,_)] [(0,_),(80,_),(81,_),(1,_),(2,_),(3,_)] (fun(q:Nat×Value)=>[(8,.int .i64 ((q.1:Int)-1)),(7,q.2)]) (fun(q:Nat×Value)=>[(82,Lf 1 5 Zmc q.2 (bs.drop q.1).reverse)]) (fun(q:Nat×Value)=>q.1≤bs.length) (fun(q:Nat×Value)=>q.1) (bs.length,.slice none 0 0) (Nat.le_refl _) K5 ⟨by rw [List.drop_length];rfl,rfl,rfl,rfl,rfl,rfl,rfl,trivial⟩ ?_
  rintro⟨k,vo⟩ hk
  dsimp only at hk
  simp only [CA,NA]
  have hdl:(bs.drop k).length=bs.length-k:=List.length_drop
  refine Zb<|Zb<|Zf<|mv J<|dt (Lh J J J)<|Zd<|Za<|Zr J (fun h178=>?_) (fun h178=>?_)
  ·exact Zl<|Za<|Zb<|Zn<|Zf<|mv J<|mv J<|mv J<|dt (Nj (ii:=80) (i:=(k-1)) K4 (Yu pB) Zip sizeOf5)<|dt (Ms (ii:=80) 0 K3 (Yu pB) pB)<|tt (Kp (i:=5) (ivs:=[(0,_)]) (enc:=Zmc) [bs.getD (k-1) 0] K4 Zip ti5 K5 pB.cells K2 hw) fun v_4 _=>tt (Ho (i:=82) (j:=5) (by_:=1) J J J J J J (by decide) J (Yu pB) Zip ti5 J pB J J J (by simp;omega) (by decide) J hw) fun v_5 _=>Zo J<|Zd<|Qh<|Za<|Zf<|mv J<|dt (Pq K3)<|Zo J<|Zd<|Xg (k-1,_) (by first | omega | (dsimp only<;>omega)) (by first | omega | (dsimp only<;>omega)) ⟨by rw [show(((k-1:Nat):Int)-1)=(k:Int)-1-1 by omega];rfl,rfl,rfl,rfl,rfl,trivial⟩ ⟨by rw [←Ycy (by omega) hk];rfl,rfl,rfl,rfl,rfl,rfl,rfl,trivial⟩
  ·refine Yt<|Zv<|Zv<|Pd<|Za<|Zb<|Zf<|dt (Qy K2 Da J zT4 K2)<|dt (Mc (i:=2) K3 iA4 J)<|mv J<|dt (d_b2s J J (i:=82) J (Yu pB) Zip uT9 uT5)<|dt (Oi (ivs:=[(0,_),(1,_)]) J K4 (fun a w hs=>Zuh ((Zc J) a w hs) ((Zc J) a w hs)))<|tt (Zt (i:=3) K6 Yb K2 ⟨Zc J,Zc J,trivial⟩ J hw trivial) fun _ _=>Zd<|Za<|Zp ?_
   obtain rfl:k=0:=by omega
   exact Yr (.inl J) hsc () _ (fun a w hs=>Nr hs results53 (Yw (i:=3) J J Xl Yb J)) (by rw [Ygm hbs,hn]<;>rfl) trivial J Zm
theorem Yap(v:Value)(x:Int)(hx:bl x.natAbs≤4000000000:=by omega):Od prog 97 #[.agg #[.bool (decide (x<0)),v]] [Me v x.natAbs] (.int .i64 (bl x.natAbs:Int)):=by
 refine Yg func97 J ntmps97 J K1 fun w0 sc hw hsc=>?_
 simp only [Zs,Zq]
 have hl8:=Zcd x.natAbs
 have hsz:=Kr x.natAbs
 refine Zb<|Zf<|tt (Xp (i:=2) K5 hw) fun b _=>Zo J<|Zd<|Za<|Zb<|Zf<|dt (Qm (i:=2) K3 Ou Ys K2)<|tt (Zy (n:=2) (r_to _ _ hx) K4 call53 (Zi 1 K3 Ze) J hw) fun _ _=>dt (d_fld J J Db J iA9 J)<|Zo J<|Zd<|Za<|Zb<|Zb<|Zf<|mv J<|dt (Dk J J uT9)<|dt (Hf K3)<|Zd<|Za<|Zr J (fun h260=>?_) (fun h260=>?_)
 ·exact Zb<|Zf<|Zo J<|Zd<|Za<|Zp<|Yp<|xU hsc results97 J J (by have h1:x.natAbs=0:=(Ox (by omega:2≤256) x.natAbs).1 (by omega);rw [h1]<;>rfl)
 ·have hn0:0<x.natAbs:=by rcases Nat.eq_zero_or_pos x.natAbs with h | h;(rw [h]at h260;simp [Kr,Gk]at h260);exact h
  obtain⟨htop,hlp⟩:=bl_top hn0
  have hby:((Xk x.natAbs).data.toList.getD 0 0).toNat=x.natAbs/256^((dg 256 x.natAbs).length-1)%256:=Zhc x.natAbs 0 hlp
  refine Zl<|Za<|Zb<|Zf<|mv J<|dt (Dk J J uT9)<|dt (Pq K3)<|dt (Eu J J J)<|Zo J<|Zd<|Za<|Zb<|Zb<|Zf<|mv J<|dt (Znk (i:=0) J J J uT9 J)<|dt (Zaz J J uT5 uT3 ⟨by omega,by rw [hby];omega⟩)<|Zo J<|Zd<|Za<|Zn<|Px [] [(0,_),(1,_),(2,_)] (fun(q:Nat×Nat)=>[(4,.int .i64 (q.2:Int)),(5,.int .i64 (q.1:Int))]) (fun(q:Nat×Nat)=>[]) (fun(q:Nat×Nat)=>(q.2+bl q.1=bl x.natAbs)∧(q.1<256)) (fun(q:Nat×Nat)=>q.1) (x.natAbs/256^((dg 256 x.natAbs).length-1)%256,8*((dg 256 x.natAbs).length-1)) ⟨htop,Nat.mod_lt _ (by omega)⟩ ⟨by rw [hsz,show(8:Int)*(((dg 256 x.natAbs).length:Int)-1)=((8*((dg 256 x.natAbs).length-1):Nat):Int) by omega];rfl,by rw [hby];rfl,trivial⟩ K3 ?_
  rintro⟨k,c⟩ ⟨hkc,hk8⟩
  dsimp only at hkc hk8
  simp only [CA,NA]
  refine Zb<|Zb<|Zf<|mv J<|dt (Fd K3)<|Zd<|Za<|Zr J (fun h264=>?_) (fun h264=>?_)
  ·have hbh:=Ygp (k:=k) (by omega)
   exact Zl<|Za<|Zb<|Zn<|Zf<|mv J<|dt (Ov K3)<|Zo J<|Zd<|Qh<|Za<|Zf<|mv J<|dt (Zg5 J J J)<|Zo J<|Zd<|Xg (k/2,c+1) ⟨by dsimp only;omega,by first | omega | (dsimp only<;>omega)⟩ (by first | omega | (dsimp only<;>omega)) ⟨by rfl,by exact congrArg some (Zaw (by omega)),trivial⟩ K3
  ·exact Yt<|Zv<|Zv<|Pd<|Za<|Zb<|Zf<|mv J<|Zo J<|Zd<|Za<|Zp<|xU hsc results97 J J (by have h1:k=0:=(by omega);rw [←hkc,h1]<;>rfl)
theorem r_gcd(v w:Value)(x y:Int)(hy:bl y.natAbs≤3000000000)(hx:bl x.natAbs≤3000000000:=by omega):Cal prog 71 #[.agg #[.bool (decide (x<0)),v],.agg #[.bool (decide (y<0)),w]] [Me v x.natAbs,Me w y.natAbs] true (G:=Value) (fun r=>True) (fun r=> .agg #[.bool (decide ((Int.gcd x y:Int)<0)),r]) (fun r=>[Me r ((Int.gcd x y:Int)).natAbs]):=by
 refine Yg func71 J ntmps71 J K2 fun w0 sc hw hsc=>?_
 simp only [Zs,Zq]
 refine Zb<|Zf<|tt (Xp (i:=3) K5 hw) fun b _=>tt (Xp (i:=4) K5 hw) fun b_2 _=>tt (Xi (i:=5) K2 zeroValue48 K2 hw) fun b_3 _=>Zd<|Za<|Zb<|Qj (fun _=>False) [(0,0),(1,0),(2,0),(3,0),(4,0),(5,3)] ?_ ?_
 ·kernel_rfl
 refine Zh K2 (Yo (Qy K2 Da J Zcu K2))<|Zh K2 (Yo (Mc (i:=3) K3 Zdf J))<|Zh K2 (Yo (Qy K2 Da J Zcu K2))<|Zh K2 (Yo (Mc (i:=4) K3 Zdf J))<|Zh K2 (Yo (Ok J J))<|Qs J (Pu (Ok J J) J) fun _ _=>Pv<|Za<|Zb<|Zn<|Yl (Np 1 91 K3)<|Yl (Np 2 92 K3)<|Px [(4,_)] [(0,_),(1,_),(2,_),(3,_),(4,_),(5,_)] (fun(q:Value×Value×Nat×Nat)=>[(5,q.1),(6,q.2.1)]) (fun(q:Value×Value×Nat×Nat)=>[(91,Me q.1 q.2.2.1),(92,Me q.2.1 q.2.2.2)]) (fun(q:Value×Value×Nat×Nat)=>(Nat.gcd q.2.2.1 q.2.2.2=Nat.gcd x.natAbs y.natAbs)∧(bl q.2.2.1≤3000000000)∧(bl q.2.2.2≤3000000000)) (fun(q:Value×Value×Nat×Nat)=>q.2.2.2) (v,w,x.natAbs,y.natAbs) ⟨J,hx,hy⟩ K3 K8 ?_
 rintro⟨va,vb,a,b⟩ ⟨hg,ha,hb⟩
 dsimp only at hg ha hb
 simp only [CA,NA]
 refine Zb<|Zb<|Zf<|mv J<|dt (Yc J J (i:=92) J Zg Ol)<|dt (Fd K3)<|Zd<|Za<|Zr J (fun h238=>?_) (fun h238=>?_)
 ·have hb0:0<b:=Zk5 (by omega)
  refine Zl<|Za<|Zn<|Zb<|Zf<|mv J<|mv J<|tt (Yf (n:=6) (Yao _ _ _ _ hb0) K5 call124 (Zi 91 K3 (Zi 92 K3 Ze)) J hw) fun g _=>mv J<|dt (Xa K3)<|dt (Xa K3)<|Zo J<|Zo J<|Zd<|Za<|Zf<|mv J<|mv J<|Zo J<|Zo J<|Zd<|Qh ?_
  have hlt:a%b<b:=Nat.mod_lt _ hb0
  exact Qn (Np 92 91 K3)<|Qn (Np 7 92 K3)<|Xg (_,_,b,a%b) ⟨by dsimp only;rw [←hg,Nat.gcd_comm b,←Nat.gcd_rec,Nat.gcd_comm],hb,Nat.le_trans (Nu (Nat.le_of_lt hlt)) hb⟩ hlt K3 K8
 ·have hb0:b=0:=(Ox Nh b).1 (by omega)
  have ha0:a=Nat.gcd x.natAbs y.natAbs:=by rw [←hg,hb0,Nat.gcd_zero_right]
  exact Yt<|Zv<|Zv<|Pd<|Za<|Zb<|Zf<|mv J<|tt (Yf (n:=7) (Zas _ _ _ ((Int.gcd x y:Int)) (by rw [ha0]<;>rfl) (by simp [sg]) (by omega)) K5 call78 (Zi 91 K3 Ze) J hw) fun _ _=>tt (Zt (i:=5) K6 Ys K2 ⟨Zc J,Zj (i:=91) J Zg,trivial⟩ J hw trivial) fun _ _=>Zd<|Za<|Zp<|Yr (.inl J) hsc _ _ (fun a w hs=>Nr hs results71 (Yw (i:=5) J J Ou Ys J)) J trivial J (Lg 91 K3 (by rw [ha0]<;>rfl) Zm)
theorem Fn(v w:Value)(x y:Int)(hx:bl x.natAbs≤500000000)(hy0:y≠0)(hy:bl y.natAbs≤500000000:=by omega):Cal prog 74 #[.agg #[.bool (decide (x<0)),v],.agg #[.bool (decide (y<0)),w]] [Me v x.natAbs,Me w y.natAbs] true (G:=Value×Value) (fun r=>True) (fun r=> .tuple #[.agg #[.bool (decide (x/y<0)),r.1],.agg #[.bool (decide (x%y<0)),r.2]]) (fun r=>[Me r.1 (x/y).natAbs,Me r.2 (x%y).natAbs]):=by
 refine Yg func74 J ntmps74 J K2 fun w0 sc hw hsc=>?_
 simp only [Zs,Zq]
 have hyp:0<y.natAbs:=by omega
 have hb1:=Ygn x y
 have hb2:=Zub x y
 have hb3:=Cp x (x.tdiv y*y)
 have hsf:=Yd4 (x:=x) hy0
 have hb4:=Cp (x.tdiv y) 1
 have hb5:=Ia (x.tdiv y) 1
 have hb6:bl (1:Int).natAbs≤1:=by decide
 have hb7:=Qb (x.tdiv y-1) y
 have hb8:=Qb (x.tdiv y+1) y
 refine Zb<|Zf<|tt (Xp (i:=3) K5 hw) fun b _=>tt (Xp (i:=4) K5 hw) fun b_2 _=>tt (Xi (i:=5) K2 zeroValue48 K2 hw) fun b_3 _=>tt (Xi (i:=6) K2 zeroValue48 K2 hw) fun b_4 _=>Zd<|Za<|Zb<|Zf<|dt (Qy K2 Da J Zcu K2)<|dt (Mc (i:=3) K3 Zdf J)<|dt (Qy K2 Da J Zcu K2)<|dt (Mc (i:=4) K3 Zdf J)<|tt (Yf (n:=70) (Yao _ _ _ _ hyp) K5 call124 (Zi 1 K3 (Zi 2 K3 Ze)) J hw) fun g _=>mv J<|dt (Xa K3)<|dt (Xa K3)<|Zo J<|Zo J<|Zd<|Za<|Zb<|Zf<|dt (Qy K2 Da J zT4 K2)<|dt (Mc (i:=3) K3 iA4 J)<|dt (Qy K2 Da J zT4 K2)<|dt (Mc (i:=4) K3 iA4 J)<|dt (Znj J J J uT4)<|mv J<|tt (Yf (n:=6) (Zas _ _ _ (x.tdiv y) (Zj0 x y) (Yeb x y) (by rw [Zj0];omega)) K5 call78 (Zi 70 K3 Ze) J hw) fun _ _=>Qx (Fc 70 (congrArg (Me _) (Zj0 x y)) J J)<|tt (Xi (i:=97) K2 zeroValue48 K2 hw) fun b_5 _=>tt (Zt (i:=97) K6 Ys K2 ⟨Zc J,Zj (i:=70) J Zg,trivial⟩ J hw trivial) fun _ _=>Zd<|Za ?_
 refine Iy [(2,_),(3,_),(4,_),(5,_),(7,_),(8,_)] [(0,_),(1,_),(2,_),(3,_),(4,_),(5,_),(6,_),(70,_),(71,_),(97,_)] (fun(q:Value×Nat)=>[(9,.pointer (some ⟨q.2,0,none⟩))]) (fun(q:Value×Nat)=>[(72,Me q.1 (x-x.tdiv y*y).natAbs),(98,box q.2 48 #[.bool (decide ((x-x.tdiv y*y)<0)),q.1])]) (fun(q:Value×Nat)=>True) K6 K10 ?_ ?_
 ·refine Fy (fun _=>False) [6]<|Zw (n:=4) [(0,0),(1,0),(2,0)]<|Zh K2 (Yo (Qm (i:=3) K3 Ou Ys K2))<|Zh K2 (Yo (Qm (i:=97) K3 Ou Ys K2))<|Zh K2 (Yo (Qm (i:=4) K3 Ou Ys K2))<|Yi<|Qg (n:=3) 3 5 ?_ ?_
  ·refine Yd J (Yf (n:=73) (Ly _ _ _ _) K5 Gt (Zi 70 K3 (Zi 2 K3 Ze)) J hw) fun v _=>Qg (n:=2) 4 5 ?_ ?_
   ·exact Yd J (Yf (n:=72) (Zgg _ _ _ _) K5 call87 (Zi 1 K3 (Zi 73 K3 Ze)) J hw) fun v_2 _=>Zw (n:=0) [(5,1),(6,3)]<|Yq J (Xi (i:=98) K2 zeroValue48 K2 hw) fun b_6 _=>Qs J (Zt (i:=98) K6 Ys K2 ⟨Zc J,Zj (i:=72) J Zg,trivial⟩ J hw trivial) fun _ _=>Yi<|Yh<|Xd (_,_) trivial K7 K12
   ·exact Yd J (Xi (i:=98) K2 zeroValue48 K2 hw) fun b_7 _=>Zw (n:=0) [(4,1),(6,3)]<|Yq J (Yf (n:=72) (Zgg _ _ _ _) K5 call87 (Zi 1 K3 (Zi 73 K3 Ze)) J hw) fun v_3 _=>Qs J (Zt (i:=98) K6 Ys K2 ⟨Zc J,Zj (i:=72) J Zg,trivial⟩ J hw trivial) fun _ _=>Yi<|Yh<|Xd (_,_) trivial K7 K12
  ·exact Yd J (Xi (i:=98) K2 zeroValue48 K2 hw) fun b_8 _=>Zw (n:=0) [(3,1),(4,1),(6,3)]<|Yq J (Yf (n:=73) (Ly _ _ _ _) K5 Gt (Zi 70 K3 (Zi 2 K3 Ze)) J hw) fun v_4 _=>Yq J (Yf (n:=72) (Zgg _ _ _ _) K5 call87 (Zi 1 K3 (Zi 73 K3 Ze)) J hw) fun v_5 _=>Qs J (Zt (i:=98) K6 Ys K2 ⟨Zc J,Zj (i:=72) J Zg,trivial⟩ J hw trivial) fun _ _=>Yi<|Yh<|Xd (_,_) trivial K7 K12
 ·rintro⟨vr,b9⟩ -
  simp only [CA,NA]
  refine Iy [(4,_),(5,_),(7,_),(8,_),(9,_)] [(0,_),(72,_),(1,_),(2,_),(3,_),(4,_),(5,_),(6,_),(70,_),(71,_)] (fun(q:Value×Value)=>[]) (fun(q:Value×Value)=>[(75,Me q.1 (x/y).natAbs),(76,Me q.2 (x%y).natAbs),(97,box b_5 48 #[.bool (decide (x/y<0)),q.1]),(98,box b9 48 #[.bool (decide (x%y<0)),q.2])]) (fun(q:Value×Value)=>True) K5 K10 ?_ ?_
  ·refine Zb<|Zf<|dt (Qm (i:=98) K3 Ou Ys K2)<|tt (Zy (n:=6) (Cc _ _) K4 call72 (Zi 72 K3 Ze) J hw) fun _ _=>dt (Pa K3)<|Zd<|Za<|Zr J (fun h223=>?_) (fun h223=>?_)
   ·have hrn:x.tmod y<0:=by rw [←hsf];exact(Qu _).1 h223
    refine Zb<|Zb<|Zf<|dt (Qm (i:=4) K3 Ou Ys K2)<|tt (Zy (n:=6) (Cc _ _) K4 call72 (Zi 2 K3 Ze) J hw) fun _ _=>dt (Fd K3)<|Zd<|Za<|Zr J (fun h224=>?_) (fun h224=>?_)
    ·have hyp0:0<y:=by have h2:=decide_eq_decide.1 (Bo y);omega
     obtain⟨hq,hr⟩:=Yes hyp0 hrn
     refine Qj (fun _=>False) [(0,0),(1,1),(2,3),(3,3)] ?_ ?_
     ·kernel_rfl
     refine Zh K2 (Yo (Qm (i:=97) K3 Ou Ys K2))<|Yq J (Zy (n:=7) (Zgh 1) K4 call34 Ze J hw) fun v_6 _=>Qs J (Yf (n:=8) (Zgg _ _ _ _) K5 call87 (Zi 70 K3 (Zi 7 K3 Ze)) J hw) fun v_7 _=>Qs J (Zt (i:=97) K6 Ys K2 ⟨Zc J,Zj (i:=8) J Zg,trivial⟩ J hw trivial) fun _ _=>Pv<|Za<|Qj (fun _=>False) [(0,0),(1,0),(2,0),(3,1),(4,1),(5,3)] ?_ ?_
     ·kernel_rfl
     exact Zh K2 (Yo (Qm (i:=3) K3 Ou Ys K2))<|Zh K2 (Yo (Qm (i:=97) K3 Ou Ys K2))<|Zh K2 (Yo (Qm (i:=4) K3 Ou Ys K2))<|Yq J (Yf (n:=9) (Ly _ _ _ _) K5 Gt (Zi 8 K3 (Zi 2 K3 Ze)) J hw) fun v_8 _=>Yq J (Yf (n:=10) (Zgg _ _ _ _) K5 call87 (Zi 1 K3 (Zi 9 K3 Ze)) J hw) fun v_9 _=>Qs J (Zt (i:=98) K6 Ys K2 ⟨Zc J,Zj (i:=10) J Zg,trivial⟩ J hw trivial) fun _ _=>Pv<|Qn (Np 8 75 K3)<|Qn (Np 10 76 K3)<|Xd (v_7,v_9) trivial K5 ⟨by rw [hq];rfl,by rw [hr];rfl,by rw [hq];rfl,by rw [hr];rfl,rfl,rfl,rfl,rfl,rfl,rfl,rfl,rfl,rfl,rfl,trivial⟩
    ·have hyn0:y<0:=by have h2:=decide_eq_decide.1 (Bo y);omega
     obtain⟨hq,hr⟩:=Yet hyn0 hrn
     refine Qj (fun _=>False) [(0,0),(1,1),(2,3),(3,3)] ?_ ?_
     ·kernel_rfl
     refine Zh K2 (Yo (Qm (i:=97) K3 Ou Ys K2))<|Yq J (Zy (n:=11) (Zgh 1) K4 call34 Ze J hw) fun v_10 _=>Qs J (Yf (n:=12) (Zmz _ _ _ _) K5 call37 (Zi 70 K3 (Zi 11 K3 Ze)) J hw) fun v_11 _=>Qs J (Zt (i:=97) K6 Ys K2 ⟨Zc J,Zj (i:=12) J Zg,trivial⟩ J hw trivial) fun _ _=>Pv<|Za<|Qj (fun _=>False) [(0,0),(1,0),(2,0),(3,1),(4,1),(5,3)] ?_ ?_
     ·kernel_rfl
     exact Zh K2 (Yo (Qm (i:=3) K3 Ou Ys K2))<|Zh K2 (Yo (Qm (i:=97) K3 Ou Ys K2))<|Zh K2 (Yo (Qm (i:=4) K3 Ou Ys K2))<|Yq J (Yf (n:=13) (Ly _ _ _ _) K5 Gt (Zi 12 K3 (Zi 2 K3 Ze)) J hw) fun v_12 _=>Yq J (Yf (n:=14) (Zgg _ _ _ _) K5 call87 (Zi 1 K3 (Zi 13 K3 Ze)) J hw) fun v_13 _=>Qs J (Zt (i:=98) K6 Ys K2 ⟨Zc J,Zj (i:=14) J Zg,trivial⟩ J hw trivial) fun _ _=>Pv<|Qn (Np 12 75 K3)<|Qn (Np 14 76 K3)<|Xd (v_11,v_13) trivial K5 ⟨by rw [hq];rfl,by rw [hr];rfl,by rw [hq];rfl,by rw [hr];rfl,rfl,rfl,rfl,rfl,rfl,rfl,rfl,rfl,rfl,rfl,trivial⟩
   ·have hrn:¬x.tmod y<0:=by rw [←hsf];exact fun h=>h223 ((Qu _).2 h)
    obtain⟨hq,hr⟩:=Yax hy0 hrn
    rw [←hsf]at hr
    exact Zl<|Qn (Np 70 75 K3)<|Qn (Np 72 76 K3)<|Xd (g.1,vr) trivial K5 ⟨by rw [hq];rfl,by rw [hr];rfl,by rw [hq];rfl,by rw [hr];rfl,rfl,rfl,rfl,rfl,rfl,rfl,rfl,rfl,rfl,rfl,trivial⟩
  ·rintro⟨v8,v9⟩ -
   simp only [CA,NA]
   exact Zb<|Zf<|mv J<|Zd<|Za<|Zb<|Ni [97,98] [3]<|Zw (n:=0) [(0,0),(1,0),(2,1),(3,3)]<|Zh K2 (Yy (Qm (i:=97) K3 Ou Ys K2) K2)<|Zh K2 (Yy (Qm (i:=98) K3 Ou Ys K2) K2)<|Yq J (Zcz 5 J J K2 (fun ob=>Zt (i:=5) K6 Ys K2 ⟨Zc J,Zj (i:=75) J Zg,trivial⟩ J hw ob)) fun _ _=>Qs J (Zt (i:=6) K6 Ys K2 ⟨Zc J,Zj (i:=76) J Zg,trivial⟩ J hw trivial) fun _ _=>Yi<|Yh<|Za<|Zp<|Yr (.inl J) hsc (_,_) _ (fun a w hs=>Pz hs results74 (Yw (i:=5) J J Ou Ys J) (Yw (i:=6) J J Ou Ys J)) J trivial J (Kg 75 K3 (Kg 76 K3 Zm))
theorem Ir(b:Bool)(s:ByteArray)(c:Bool)(t:ByteArray):Od prog 25 #[.agg #[.bool b,.string s,.bool c,.string t]] [] (.bool (okR b s c t)):=by
 refine Yg func25 J ntmps25 J trivial fun w0 sc hw hsc=>?_
 simp only [Zs,Zq]
 refine Zb<|Zf<|tt (Xp (i:=1) K5 hw) fun b _=>Zo J<|Zd<|Za<|Zb<|Zf<|dt (Qy K2 Hn J Yb K2)<|dt (Qm (i:=1) K3 Xl Yb K2)<|tt (Zy (n:=1) (Zoj _ _) K4 call35 Ze J hw) fun _ _=>mv J<|Kx (d:=6) J (fun s332=>?_) (fun s332=>?_)
 ·refine Zx (Qy K2 Hn J Yb K2) K2<|Zx (Qm (i:=1) K3 Xl Yb K2) K2<|Pp (Zy (n:=1) (Zoj _ _) K4 call35 Ze J hw) K3 fun _ _=>dt (Om K3)<|mv J<|Kx (d:=11) J (fun s332_2=>?_) (fun s332_2=>?_)
  ·refine Zx (Qy K2 Hn J Yb K2) K2<|Zx (Qy K2 Db J zT4 K2) K2<|Zx (Mc (i:=1) K3 iA4 J) K2<|Zx (Xh J J) K2<|dt (Om K3)<|mv J<|Kx (d:=17) J (fun s332_3=>?_) (fun s332_3=>?_)
   ·exact Zx (Qy K2 Hn J Yb K2) K2<|Zx (Qy K2 Db J zT9 K2) K2<|Zx (Mc (i:=1) K3 iA9 J) K2<|Zx (Dk J J uT9) K2<|Zx (Fd K3) K2<|dt (Om K3)<|Zo J<|Zd<|Za<|Zp<|xU hsc results25 J J (by unfold okR;simp_all)
   ·exact Yj K3<|Yj K3<|Yj K3<|Yj K3<|Yj K3<|dt (Ql K3)<|Zo J<|Zd<|Za<|Zp<|xU hsc results25 J J (by unfold okR;simp_all)
  ·exact Yj K3<|Yj K3<|Yj K3<|Yj K3<|dt (Ql K3)<|mv J<|Yj K3<|Yj K3<|Yj K3<|Yj K3<|Yj K3<|dt (Ql K3)<|Zo J<|Zd<|Za<|Zp<|xU hsc results25 J J (by unfold okR;simp_all)
 ·exact Yj K3<|Yj K3<|Yj K3<|dt (Ql K3)<|mv J<|Yj K3<|Yj K3<|Yj K3<|Yj K3<|dt (Ql K3)<|mv J<|Yj K3<|Yj K3<|Yj K3<|Yj K3<|Yj K3<|dt (Ql K3)<|Zo J<|Zd<|Za<|Zp<|xU hsc results25 J J (by unfold okR;simp_all)
theorem Yz(x y:Int)(hx:bl x.natAbs≤2000000000:=by omega)(hy:bl y.natAbs≤2000000000:=by omega):Cal prog 23 #[rX x y] [] true (G:=Value×Value) (fun r=>True) (fun r=> .agg #[.bool (decide (x<0)),r.1,.bool (decide (y<0)),r.2]) (fun r=>[Me r.1 (x).natAbs,Me r.2 (y).natAbs]):=by
 refine Yg func23 J ntmps23 J trivial fun w0 sc hw hsc=>?_
 simp only [Zs,Zq]
 refine Zb<|Zf<|tt (Xp (i:=1) K5 hw) fun b _=>tt (Xi (i:=2) K2 zeroValue50 K2 hw) fun b_2 _=>Zd<|Za<|Zb<|Qj (fun _=>False) [(0,0),(1,0),(3,0),(4,0),(2,1),(5,1),(6,0),(7,3)] ?_ ?_
 ·kernel_rfl
 exact Zh K2 (Yo (Qy K2 Hn J Yb K2))<|Zh K2 (Yo (Qm (i:=1) K3 Xl Yb K2))<|Zh K2 (Yo (Qy K2 Hn J Yb K2))<|Zh K2 (Yo (Qm (i:=1) K3 Xl Yb K2))<|Yq J (Zy (n:=3) (Zkg _) K4 call30 Ze J hw) fun v _=>Yq J (Zy (n:=4) (Zkg _) K4 call30 Ze J hw) fun v_2 _=>Zh K2 (Yo (Oi (ivs:=[(0,_),(1,_)]) J K4 (fun a w hs=>b50_01)))<|Qs J (Zt (i:=2) K6 Ph K2 ⟨Zc J,Zj (i:=3) J Zg,Zc J,Zj (i:=4) J Zg,trivial⟩ J hw trivial) fun _ _=>Pv<|Za<|Zp<|Yr (.inl J) hsc (_,_) _ (fun a w hs=>Nr hs results23 (Yw (i:=2) J J Kh Ph J)) J trivial J (Kg 3 K3 (Kg 4 K3 Zm))
theorem Hs(v w v2 w2:Value)(x y x2 y2:Int)(h0:bl x.natAbs≤100000000:=by omega)(h1:bl y.natAbs≤100000000:=by omega)(h2:bl x2.natAbs≤100000000:=by omega)(h3:bl y2.natAbs≤100000000:=by omega):Od prog 27 #[.agg #[.bool (decide (x<0)),v,.bool (decide (y<0)),w],.agg #[.bool (decide (x2<0)),v2,.bool (decide (y2<0)),w2]] [Me v x.natAbs,Me w y.natAbs,Me v2 x2.natAbs,Me w2 y2.natAbs] (.int .i64 (x*y2-x2*y).sign):=by
 refine Yg func27 J ntmps27 J K4 fun w0 sc hw hsc=>?_
 simp only [Zs,Zq]
 have b1:=Qb x y2
 have b2:=Qb x2 y
 have b3:=Qb y y2
 have b4:=Qb x x2
 have b5:=Ia (x*y2) (x2*y)
 refine Zb<|Zf<|tt (Xp (i:=5) K5 hw) fun b _=>tt (Xp (i:=6) K5 hw) fun b_2 _=>Zo J<|Zd<|Za<|Zb<|Qj (fun _=>False) [(0,0),(1,0),(2,0),(3,0),(5,0),(6,0),(7,0),(8,0),(4,1),(9,1),(10,1),(11,3)] ?_ ?_
 ·kernel_rfl
 exact Zh K2 (Yo (Qy K2 Zio J Ys K2))<|Zh K2 (Yo (Qm (i:=5) K3 Ou Ys K2))<|Zh K2 (Yo (Qy K2 Zio J Ys K2))<|Zh K2 (Yo (Qm (i:=6) K3 Ou Ys K2))<|Zh K2 (Yo (Qy K2 Zio J Ys K2))<|Zh K2 (Yo (Qm (i:=6) K3 Ou Ys K2))<|Zh K2 (Yo (Qy K2 Zio J Ys K2))<|Zh K2 (Yo (Qm (i:=5) K3 Ou Ys K2))<|Yq J (Yf (n:=7) (Ly _ _ _ _) K5 Gt (Zi 1 K3 (Zi 4 K3 Ze)) J hw) fun v _=>Yq J (Yf (n:=8) (Ly _ _ _ _) K5 Gt (Zi 3 K3 (Zi 2 K3 Ze)) J hw) fun v_2 _=>Yq J (Yf (n:=8) (Zx2 _ _ _ _ (by omega) (by omega)) K5 call68 (Zi 7 K3 (Zi 8 K3 Ze)) J hw) fun _ _=>Qs J (Pu (Ok J J) J) fun _ _=>Pv<|Za<|Zp<|xU hsc results27 J J J
end Go.Sky

