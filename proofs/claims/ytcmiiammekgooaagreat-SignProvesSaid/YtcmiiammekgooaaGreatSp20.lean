/- Rules, arithmetic and contracts: part 21. No conditions but those that each theorem names. -/
import Derived.Test.YtcmiiammekgooaaGreatSp19
set_option linter.all false
set_option maxHeartbeats 4000000
namespace Go.Sky
open Go.Proofs.Tryz
open Go.Proofs
set_option maxRecDepth 20000
set_option maxHeartbeats 4000000
set_option linter.unusedSimpArgs false
theorem Yer(n k:Nat)(hn:n≤24)(hk:k≤n):Od prog 180 #[.int .i64 (n:Int),.int .i64 (k:Int)] [] (.int .i64 ((Fs n k:Nat):Int)):=by
 refine Yg func180 J ntmps180 J trivial fun w0 sc hw hsc=>?_
 simp only [Zs,Zq]
 refine Zb<|Zf<|Zo J<|Zd<|Za<|Zb<|Zf<|Zo J<|Zd<|Za<|Zb<|Zb<|Zf<|Zo J<|Zd<|Za<|Zn<|Px [(0,_),(1,_)] [(0,_)] (fun(i:Nat)=>[(6,.int .i64 (i:Int)),(5,.int .i64 ((Fs n i:Nat):Int))]) (fun(i:Nat)=>[]) (fun(i:Nat)=>i≤k) (fun(i:Nat)=>k-i) 0 (by first | omega | (dsimp only<;>omega)) ⟨J,(by rw [Zps]<;>rfl),J,J,trivial⟩ K1 ?_
 rintro i hi
 simp only [CA,NA]
 refine Zb<|Zb<|Zf<|mv J<|mv J<|dt (Pa K3)<|Zd<|Za<|Zr J (fun h94=>?_) (fun h94=>?_)
 ·refine Zl<|Za<|Zb<|Zn ?_
  obtain⟨hm1,hm2⟩:=chz_mb hn (show i<n by omega)
  exact Zf<|mv J<|mv J<|mv J<|dt (Pq K3)<|dt (Eu J J J)<|mv J<|dt (Ov K3)<|dt (Zg5 J J J)<|Zo J<|Zd<|Qh<|Za<|Zf<|mv J<|dt (Ov K3)<|Zo J<|Zd<|Xg (i+1) (by first | omega | (dsimp only<;>omega)) (by first | omega | (dsimp only<;>omega)) ⟨J,(by rw [chz_q (n:=n) (i:=i) (by omega)]<;>rfl),J,J,trivial⟩ K1
 ·exact Yt<|Zv<|Zv<|Pd<|Za<|Zb<|Zf<|mv J<|Zo J<|Zd<|Za<|Zp<|xU hsc results180 J J (by rw [show i=k by omega])
theorem Yar(v w u w2 u2:Value)(zs:List (Int×SL))(a b:R2)(hd:Cvd (Zk zs))(ha:Ef a)(hb:Ef b):Od prog 147 #[v,.agg #[.bool (decide (a.1<0)),w,.bool (decide (a.2<0)),u],.agg #[.bool (decide (b.1<0)),w2,.bool (decide (b.2<0)),u2]] [pp v zs,Me w a.1.natAbs,Me u a.2.natAbs,Me w2 b.1.natAbs,Me u2 b.2.natAbs] (.bool (Ig (Zk zs) a b)):=by
 refine Yg func147 J ntmps147 J K5 fun w0 sc hw hsc=>?_
 simp only [Zs,Zq]
 have hli:=Zz zs
 have hv:=hd.v
 have ha1:=ha.b1
 have ha2:=ha.b2
 have hb1:=hb.b1
 have hb2:=hb.b2
 obtain⟨p1,p2,p3,p4,p5,p6,p7,p8⟩:=pl_sz hd ha hb
 have hlx:=hd.l
 have hmz:=Oc hd.s
 refine Zb<|Zf<|tt (Xp (i:=6) K5 hw) fun bx _=>tt (Xp (i:=7) K5 hw) fun bx_2 _=>Zo J<|Zd<|Za<|Zb<|Zb<|Zf<|mv J<|dt (Yc J J (i:=1) J Ye Pm)<|dt (Hf K3)<|Zd<|Za<|Zr J (fun h102=>?_) (fun h102=>?_)
 ·exact Zb<|Zf<|Zo J<|Zd<|Za<|Zp<|Yp<|xU hsc results147 J J (by rw [Zm3 (by omega)])
 ·have h0:(Zk zs).length≠0:=by omega
  refine Zl<|Za<|Iy [(0,_),(4,_),(5,_)] [(0,_),(1,_),(2,_),(3,_),(4,_),(5,_),(6,_),(7,_)] (fun(q:Value×Value×Nat×Nat)=>[(7,.pointer (some ⟨q.2.2.1,0,none⟩)),(8,.pointer (some ⟨q.2.2.2,0,none⟩))]) (fun(q:Value×Value×Nat×Nat)=>[(65,Me q.1 (plx a b).natAbs),(66,Me q.2.1 (ply a b).natAbs),(95,box q.2.2.1 48 #[.bool (decide ((plx a b)<0)),q.1]),(96,box q.2.2.2 48 #[.bool (decide ((ply a b)<0)),q.2.1])]) (fun(q:Value×Value×Nat×Nat)=>True) K3 K8 ?_ ?_
  ·refine Ni [6,7] [13]<|Zw (n:=6) [(0,0),(1,0),(2,0),(3,0),(5,0),(6,0),(7,0),(8,0)]<|Zh K2 (Yy (Qy K2 Zio J Ys K2) K2)<|Zh K2 (Yy (Qm (i:=6) K3 Ou Ys K2) K2)<|Zh K2 (Yy (Qy K2 Zio J Ys K2) K2)<|Zh K2 (Yy (Qm (i:=7) K3 Ou Ys K2) K2)<|Zh K2 (Yy (Qy K2 Zio J Ys K2) K2)<|Zh K2 (Yy (Qm (i:=7) K3 Ou Ys K2) K2)<|Zh K2 (Yy (Qy K2 Zio J Ys K2) K2)<|Zh K2 (Yy (Qm (i:=6) K3 Ou Ys K2) K2)<|Yi<|Fu (n:=5) 4 10 11 ?_ ?_ ?_
   ·refine Yd J (Yf (n:=65) (Ly _ _ a.1 b.2) K5 Gt (Zi 2 K3 (Zi 5 K3 Ze)) J hw) fun v _=>Fu (n:=4) 9 10 11 ?_ ?_ ?_
    ·refine Yd J (Yf (n:=66) (Ly _ _ b.1 a.2) K5 Gt (Zi 4 K3 (Zi 3 K3 Ze)) J hw) fun v_2 _=>Qg (n:=3) 10 11 ?_ ?_
     ·exact Yd J (Xj (i:=95) K2 zeroValue48 K2 hw K2) fun bx_3 ho=>Zw (n:=0) [(11,1),(12,1),(13,3)]<|Yq J (Xj (i:=96) K2 zeroValue48 K2 hw K2) fun bx_4 ho2=>Yq J (Zt (i:=95) K6 Ys K2 ⟨Zc J,Zj (i:=65) J Zg,trivial⟩ J hw ho) fun _ _=>Qs J (Zt (i:=96) K6 Ys K2 ⟨Zc J,Zj (i:=66) J Zg,trivial⟩ J hw trivial) fun _ _=>Yi<|Yh<|Xd (v,v_2,_,_) trivial K5 K12
     ·exact Yd J (Xj (i:=96) K2 zeroValue48 K2 hw K2) fun bx_5 ho3=>Zw (n:=0) [(10,1),(12,1),(13,3)]<|Yq J (Xj (i:=95) K2 zeroValue48 K2 hw K2) fun bx_6 ho4=>Yq J (Zt (i:=95) K6 Ys K2 ⟨Zc J,Zj (i:=65) J Zg,trivial⟩ J hw ho4) fun _ _=>Qs J (Zt (i:=96) K6 Ys K2 ⟨Zc J,Zj (i:=66) J Zg,trivial⟩ J hw trivial) fun _ _=>Yi<|Yh<|Xd (v,v_2,_,_) trivial K5 K12
    ·refine Yd J (Xj (i:=95) K2 zeroValue48 K2 hw K2) fun bx_7 ho5=>Qg (n:=3) 9 11 ?_ ?_
     ·exact Yd J (Yf (n:=66) (Ly _ _ b.1 a.2) K5 Gt (Zi 4 K3 (Zi 3 K3 Ze)) J hw) fun v_3 _=>Zw (n:=0) [(11,1),(12,1),(13,3)]<|Yq J (Xj (i:=96) K2 zeroValue48 K2 hw K2) fun bx_8 ho6=>Yq J (Zt (i:=95) K6 Ys K2 ⟨Zc J,Zj (i:=65) J Zg,trivial⟩ J hw ho5) fun _ _=>Qs J (Zt (i:=96) K6 Ys K2 ⟨Zc J,Zj (i:=66) J Zg,trivial⟩ J hw trivial) fun _ _=>Yi<|Yh<|Xd (v,v_3,_,_) trivial K5 K12
     ·exact Yd J (Xj (i:=96) K2 zeroValue48 K2 hw K2) fun bx_9 ho7=>Zw (n:=0) [(9,1),(12,1),(13,3)]<|Yq J (Yf (n:=66) (Ly _ _ b.1 a.2) K5 Gt (Zi 4 K3 (Zi 3 K3 Ze)) J hw) fun v_4 _=>Yq J (Zt (i:=95) K6 Ys K2 ⟨Zc J,Zj (i:=65) J Zg,trivial⟩ J hw ho5) fun _ _=>Qs J (Zt (i:=96) K6 Ys K2 ⟨Zc J,Zj (i:=66) J Zg,trivial⟩ J hw trivial) fun _ _=>Yi<|Yh<|Xd (v,v_4,_,_) trivial K5 K12
    ·refine Yd J (Xj (i:=96) K2 zeroValue48 K2 hw K2) fun bx_10 ho8=>Qg (n:=3) 9 10 ?_ ?_
     ·exact Yd J (Yf (n:=66) (Ly _ _ b.1 a.2) K5 Gt (Zi 4 K3 (Zi 3 K3 Ze)) J hw) fun v_5 _=>Zw (n:=0) [(10,1),(12,1),(13,3)]<|Yq J (Xj (i:=95) K2 zeroValue48 K2 hw K2) fun bx_11 ho9=>Yq J (Zt (i:=95) K6 Ys K2 ⟨Zc J,Zj (i:=65) J Zg,trivial⟩ J hw ho9) fun _ _=>Qs J (Zt (i:=96) K6 Ys K2 ⟨Zc J,Zj (i:=66) J Zg,trivial⟩ J hw trivial) fun _ _=>Yi<|Yh<|Xd (v,v_5,_,_) trivial K5 K12
     ·exact Yd J (Xj (i:=95) K2 zeroValue48 K2 hw K2) fun bx_12 ho10=>Zw (n:=0) [(9,1),(12,1),(13,3)]<|Yq J (Yf (n:=66) (Ly _ _ b.1 a.2) K5 Gt (Zi 4 K3 (Zi 3 K3 Ze)) J hw) fun v_6 _=>Yq J (Zt (i:=95) K6 Ys K2 ⟨Zc J,Zj (i:=65) J Zg,trivial⟩ J hw ho10) fun _ _=>Qs J (Zt (i:=96) K6 Ys K2 ⟨Zc J,Zj (i:=66) J Zg,trivial⟩ J hw trivial) fun _ _=>Yi<|Yh<|Xd (v,v_6,_,_) trivial K5 K12
   ·refine Yd J (Xj (i:=95) K2 zeroValue48 K2 hw K2) fun bx_13 ho11=>Qg (n:=4) 4 11 ?_ ?_
    ·refine Yd J (Yf (n:=65) (Ly _ _ a.1 b.2) K5 Gt (Zi 2 K3 (Zi 5 K3 Ze)) J hw) fun v_7 _=>Qg (n:=3) 9 11 ?_ ?_
     ·exact Yd J (Yf (n:=66) (Ly _ _ b.1 a.2) K5 Gt (Zi 4 K3 (Zi 3 K3 Ze)) J hw) fun v_8 _=>Zw (n:=0) [(11,1),(12,1),(13,3)]<|Yq J (Xj (i:=96) K2 zeroValue48 K2 hw K2) fun bx_14 ho12=>Yq J (Zt (i:=95) K6 Ys K2 ⟨Zc J,Zj (i:=65) J Zg,trivial⟩ J hw ho11) fun _ _=>Qs J (Zt (i:=96) K6 Ys K2 ⟨Zc J,Zj (i:=66) J Zg,trivial⟩ J hw trivial) fun _ _=>Yi<|Yh<|Xd (v_7,v_8,_,_) trivial K5 K12
     ·exact Yd J (Xj (i:=96) K2 zeroValue48 K2 hw K2) fun bx_15 ho13=>Zw (n:=0) [(9,1),(12,1),(13,3)]<|Yq J (Yf (n:=66) (Ly _ _ b.1 a.2) K5 Gt (Zi 4 K3 (Zi 3 K3 Ze)) J hw) fun v_9 _=>Yq J (Zt (i:=95) K6 Ys K2 ⟨Zc J,Zj (i:=65) J Zg,trivial⟩ J hw ho11) fun _ _=>Qs J (Zt (i:=96) K6 Ys K2 ⟨Zc J,Zj (i:=66) J Zg,trivial⟩ J hw trivial) fun _ _=>Yi<|Yh<|Xd (v_7,v_9,_,_) trivial K5 K12
    ·exact Yd J (Xj (i:=96) K2 zeroValue48 K2 hw K2) fun bx_16 ho14=>Zw (n:=0) [(4,1),(9,1),(12,1),(13,3)]<|Yq J (Yf (n:=65) (Ly _ _ a.1 b.2) K5 Gt (Zi 2 K3 (Zi 5 K3 Ze)) J hw) fun v_10 _=>Yq J (Yf (n:=66) (Ly _ _ b.1 a.2) K5 Gt (Zi 4 K3 (Zi 3 K3 Ze)) J hw) fun v_11 _=>Yq J (Zt (i:=95) K6 Ys K2 ⟨Zc J,Zj (i:=65) J Zg,trivial⟩ J hw ho11) fun _ _=>Qs J (Zt (i:=96) K6 Ys K2 ⟨Zc J,Zj (i:=66) J Zg,trivial⟩ J hw trivial) fun _ _=>Yi<|Yh<|Xd (v_10,v_11,_,_) trivial K5 K12
   ·refine Yd J (Xj (i:=96) K2 zeroValue48 K2 hw K2) fun bx_17 ho15=>Qg (n:=4) 4 10 ?_ ?_
    ·refine Yd J (Yf (n:=65) (Ly _ _ a.1 b.2) K5 Gt (Zi 2 K3 (Zi 5 K3 Ze)) J hw) fun v_12 _=>Qg (n:=3) 9 10 ?_ ?_
     ·exact Yd J (Yf (n:=66) (Ly _ _ b.1 a.2) K5 Gt (Zi 4 K3 (Zi 3 K3 Ze)) J hw) fun v_13 _=>Zw (n:=0) [(10,1),(12,1),(13,3)]<|Yq J (Xj (i:=95) K2 zeroValue48 K2 hw K2) fun bx_18 ho16=>Yq J (Zt (i:=95) K6 Ys K2 ⟨Zc J,Zj (i:=65) J Zg,trivial⟩ J hw ho16) fun _ _=>Qs J (Zt (i:=96) K6 Ys K2 ⟨Zc J,Zj (i:=66) J Zg,trivial⟩ J hw trivial) fun _ _=>Yi<|Yh<|Xd (v_12,v_13,_,_) trivial K5 K12
     ·exact Yd J (Xj (i:=95) K2 zeroValue48 K2 hw K2) fun bx_19 ho17=>Zw (n:=0) [(9,1),(12,1),(13,3)]<|Yq J (Yf (n:=66) (Ly _ _ b.1 a.2) K5 Gt (Zi 4 K3 (Zi 3 K3 Ze)) J hw) fun v_14 _=>Yq J (Zt (i:=95) K6 Ys K2 ⟨Zc J,Zj (i:=65) J Zg,trivial⟩ J hw ho17) fun _ _=>Qs J (Zt (i:=96) K6 Ys K2 ⟨Zc J,Zj (i:=66) J Zg,trivial⟩ J hw trivial) fun _ _=>Yi<|Yh<|Xd (v_12,v_14,_,_) trivial K5 K12
    ·exact Yd J (Xj (i:=95) K2 zeroValue48 K2 hw K2) fun bx_20 ho18=>Zw (n:=0) [(4,1),(9,1),(12,1),(13,3)]<|Yq J (Yf (n:=65) (Ly _ _ a.1 b.2) K5 Gt (Zi 2 K3 (Zi 5 K3 Ze)) J hw) fun v_15 _=>Yq J (Yf (n:=66) (Ly _ _ b.1 a.2) K5 Gt (Zi 4 K3 (Zi 3 K3 Ze)) J hw) fun v_16 _=>Yq J (Zt (i:=95) K6 Ys K2 ⟨Zc J,Zj (i:=65) J Zg,trivial⟩ J hw ho18) fun _ _=>Qs J (Zt (i:=96) K6 Ys K2 ⟨Zc J,Zj (i:=66) J Zg,trivial⟩ J hw trivial) fun _ _=>Yi<|Yh<|Xd (v_15,v_16,_,_) trivial K5 K12
  ·rintro⟨w5,w6,b7,b8⟩ -
   simp only [CA,NA]
   refine Zb<|Qj (fun _=>False) [(0,0),(1,0),(2,0),(3,0),(5,0),(6,0),(7,0),(8,0),(4,1),(9,1),(10,1),(11,3)] ?_ ?_
   ·kernel_rfl
   refine Zh K2 (Yo (Ya K2))<|Zh K2 (Yo (Qm (i:=95) K3 Ou Ys K2))<|Zh K2 (Yo (Qm (i:=96) K3 Ou Ys K2))<|Zh K2 (Yo (Qm (i:=95) K3 Ou Ys K2))<|Zh K2 (Yo (Qy K2 Zio J Ys K2))<|Zh K2 (Yo (Qm (i:=6) K3 Ou Ys K2))<|Zh K2 (Yo (Qy K2 Zio J Ys K2))<|Zh K2 (Yo (Qm (i:=7) K3 Ou Ys K2))<|Yq J (Yf (n:=8) (Zgg _ _ (ply a b) (plx a b)) K5 call87 (Zi 66 K3 (Zi 65 K3 Ze)) J hw) fun v_17 _=>Yq J (Yf (n:=9) (Ly _ _ a.2 b.2) K5 Gt (Zi 3 K3 (Zi 5 K3 Ze)) J hw) fun v_18 _=>Yq J (Xv (n:=10) (Ztc _ _ _ _ _ (plx a b) ((ply a b)-(plx a b)) (pld a b) 1025 (by omega) (by omega) (by omega) (show bl (pld a b).natAbs≤1025 by omega) (by have:=Nat.mul_le_mul (show zs.length≤7 by omega) (show 1025+1≤1026 by omega);omega)) J J J K4 call179 (Zi 1 K3 (Zi 65 K3 (Zi 8 K3 (Zi 9 K3 Ze)))) J hw) fun g hg=>Qs J (Pu (Ok J J) J) fun _ _=>Pv<|Za<|Zb ?_
   have hCz:Zk g.2=(Fo (Zk zs) a b):=hg
   have hcl:=congrArg List.length hCz
   rw [Zz]at hcl
   refine Zf<|mv J<|dt (Yc J J (i:=1) J Ye Pm)<|dt (Pq K3)<|Zo J<|Zd<|Za<|Zb<|Zb<|Zf<|Zo J<|Zd<|Za<|Zn<|Px [(9,_),(10,_)] [(0,_),(65,_),(66,_),(95,_),(96,_),(1,_),(2,_),(3,_),(4,_),(5,_),(6,_),(7,_),(8,_),(9,_),(10,_)] (fun(j:Nat)=>[(11,.int .i64 (j:Int))]) (fun(j:Nat)=>[]) (fun(j:Nat)=>(j≤(Zk zs).length)∧(∀k,k<j→0≤Cw (Fo (Zk zs) a b) ((Zk zs).length-1) k (min (k+1) (Fo (Zk zs) a b).length))) (fun(j:Nat)=>(Zk zs).length-j) 0 ⟨by first | omega | (dsimp only<;>omega),fun k hk=>absurd hk (Nat.not_lt_zero k)⟩ K3 K15 ?_
   rintro j ⟨hj,hz⟩
   simp only [CA,NA]
   refine Zb<|Zb<|Zf<|mv J<|mv J<|dt (Ev J J J)<|Zd<|Za<|Zr J (fun h108=>?_) (fun h108=>?_)
   ·refine Zl<|Za<|Zb<|Zn<|Zb<|Zf<|dt (Oi (ivs:=[]) J trivial (fun a w hs=>Zy6))<|tt (Xi (i:=11) K2 zeroValue48 K2 hw) fun bx_21 _=>tt (Zt (i:=11) K6 Ys K2 ⟨Zc J,Zc J,trivial⟩ J hw trivial) fun _ _=>Zd<|Za<|Zb<|Zb<|Zf<|Zo J<|Zd<|Za<|Zn<|Yl (Nc 98 1 3 Hx)<|Yl (Qw 98 J J pN)<|Px [(9,_),(10,_),(11,_),(12,_)] [(0,_),(65,_),(66,_),(95,_),(96,_),(1,_),(2,_),(3,_),(4,_),(5,_),(6,_),(7,_),(8,_),(9,_),(10,_)] (fun(q:Nat×Value)=>[(13,.int .i64 (q.1:Int))]) (fun(q:Nat×Value)=>[(11,box bx_21 48 #[.bool (decide ((Cw (Fo (Zk zs) a b) ((Zk zs).length-1) j q.1)<0)),q.2]),(98,Me q.2 (Cw (Fo (Zk zs) a b) ((Zk zs).length-1) j q.1).natAbs)]) (fun(q:Nat×Value)=>(q.1≤j+1)∧(q.1≤(Fo (Zk zs) a b).length)) (fun(q:Nat×Value)=>j+1-q.1) (0,.slice none 0 0) ⟨by first | omega | (dsimp only<;>omega),by first | omega | (dsimp only<;>omega)⟩ K5 K17 ?_
    rintro⟨i,vs⟩ ⟨hi1,hi2⟩
    dsimp only at hi1 hi2
    simp only [CA,NA]
    have hch:=Znn (n:=((Zk zs).length-1)-i) (k:=j-i) 
    have hcb:=Zt7 (n:=((Zk zs).length-1)-i) (k:=j-i) (by omega)
    have htb:bl (cf (Fo (Zk zs) a b) i*((Fs (((Zk zs).length-1)-i) (j-i):Nat):Int)).natAbs≤7025:=Zbr (p7 i) hcb
    have hsb:=Zb7 (d:=((Zk zs).length-1)) (j:=j) p7 (by omega) i
    have hci:=Nt g.2 i
    rw [hCz]at hci
    refine Zb<|Zb<|Zf<|mv J<|mv J<|dt (Ev J J J)<|mv J<|Pb (d:=50) J (fun s110=>?_) (fun s110=>?_)
    ·refine Zx (Ya K2) K2<|Zx (Ya K2) K2<|Zx (Yc J J (i:=10) J Ye Pm) K2<|Zx (Pa K3) K2<|dt (Om K3)<|Zd<|Za<|Zr J (fun h110=>?_) (fun h110=>?_)
     ·refine Zl<|Za<|Zb<|Zn<|Qj (fun _=>False) [(0,0),(1,0),(2,0),(3,0),(4,0),(5,0),(6,0),(7,0),(8,0),(9,0),(10,0),(11,1),(12,1),(13,1),(14,1),(15,3)] ?_ ?_
      ·kernel_rfl
      refine Zh K2 (Yo (Qm (i:=11) K3 Ou Ys K2))<|Zh K2 (Yo (Ya K2))<|Zh K2 (Yo (Ya K2))<|Zh K2 (Yo (Nj (ii:=10) K4 Ye Pm Ys J (by first | omega | (simp only [List.length_set];omega))))<|Zh K2 (Yo (Ms (ii:=10) I0 K3 Ye pI (by first | omega | (simp only [List.length_set];omega))))<|Zh K2 (Yo (Ya K2))<|Zh K2 (Yo (Ya K2))<|Zh K2 (Yo (Ej (r':= .int .i64 ((((Zk zs).length-1)-i:Nat):Int)) (Pq K3) (congrArg (Value.int .i64) (by omega))))<|Zh K2 (Yo (Ya K2))<|Zh K2 (Yo (Ya K2))<|Zh K2 (Yo (Ej (r':= .int .i64 ((j-i:Nat):Int)) (Pq K3) (congrArg (Value.int .i64) (by omega))))<|Yq J (Yf (n:=11) (Yer (((Zk zs).length-1)-i) (j-i) (by omega) (by omega)) K5 call180 Ze J hw) fun _ _=>Yq J (Zy (n:=12) (Zgh ((Fs (((Zk zs).length-1)-i) (j-i):Nat):Int)) K4 call34 Ze J hw) fun v_19 _=>Yq J (Yf (n:=13) (Ly _ _ _ ((Fs (((Zk zs).length-1)-i) (j-i):Nat):Int) (by rw [hci];have:=p7 i;omega)) K5 Gt (Nd 10 J J (Xc) (Zi 12 K3 Ze)) J hw) (fun v_20 _=>?_)
      exact Yq J (Yf (n:=14) (Zmz _ _ (Cw (Fo (Zk zs) a b) ((Zk zs).length-1) j i) _ (by omega) (by rw [hci];omega)) K5 call37 (Zi 98 K3 (Zi 13 K3 Ze)) J hw) fun v_21 _=>Qs J (Zt (i:=11) K6 Ys K2 ⟨Zc J,Zj (i:=14) J Zg,trivial⟩ J hw trivial) fun _ _=>Pv<|Qh<|Za<|Zf<|mv J<|dt (Ov K3)<|Zo J<|Zd<|Qn (Np 14 98 K3)<|Xg (i+1,v_21) ⟨by first | omega | (dsimp only<;>omega),by first | omega | (dsimp only<;>omega)⟩ (by first | omega | (dsimp only<;>omega)) K5 ⟨by rw [Zd4,←hci];rfl,by rw [Zd4,←hci];rfl,rfl,rfl,rfl,rfl,rfl,rfl,rfl,rfl,rfl,rfl,rfl,rfl,rfl,rfl,rfl,trivial⟩
     ·refine Yt<|Zv<|Zv<|Pd<|Za<|Zb ?_
      obtain rfl:i=(min (j+1) (Fo (Zk zs) a b).length):=by omega
      have hsb9:=Zb7 (d:=((Zk zs).length-1)) (j:=j) p7 (by omega) (min (j+1) (Fo (Zk zs) a b).length)
      refine Zf<|dt (Qm (i:=11) K3 Ou Ys K2)<|tt (Zy (n:=14) (Cc _ (Cw (Fo (Zk zs) a b) ((Zk zs).length-1) j (min (j+1) (Fo (Zk zs) a b).length))) K4 call72 (Zi 98 K3 Ze) J hw) fun _ _=>dt (Pa K3)<|Zd<|Za<|Zr J (fun h113=>?_) (fun h113=>?_)
      ·have hpn:=(Qu _).1 h113
       exact Zb<|Zf<|Zo J<|Zd<|Za<|Zp<|Md<|Yp<|Yp<|Md<|Yp<|xU hsc results147 J J (by rw [Zjc h0 (by omega) hpn])
      ·have hpi:¬(Cw (Fo (Zk zs) a b) ((Zk zs).length-1) j (min (j+1) (Fo (Zk zs) a b).length))<0:=fun e=>h113 ((Qu _).2 e)
       exact Zl<|Qh<|Za<|Zf<|mv J<|dt (Ov K3)<|Zo J<|Zd<|Xg (j+1) ⟨by first | omega | (dsimp only<;>omega),fun k hk2=>by rcases Nat.lt_succ_iff_lt_or_eq.1 hk2 with h9 | h9;exact hz k h9;subst h9;have h8:=hpi;omega⟩ (by first | omega | (dsimp only<;>omega)) K3 K15
    ·refine Yj K3<|Yj K3<|Yj K3<|Yj K3<|dt (Ql K3)<|Zd<|Za<|Yk J<|Yt<|Zv<|Zv<|Pd<|Za<|Zb ?_
     obtain rfl:i=(min (j+1) (Fo (Zk zs) a b).length):=by omega
     have hsb9:=Zb7 (d:=((Zk zs).length-1)) (j:=j) p7 (by omega) (min (j+1) (Fo (Zk zs) a b).length)
     refine Zf<|dt (Qm (i:=11) K3 Ou Ys K2)<|tt (Zy (n:=14) (Cc _ (Cw (Fo (Zk zs) a b) ((Zk zs).length-1) j (min (j+1) (Fo (Zk zs) a b).length))) K4 call72 (Zi 98 K3 Ze) J hw) fun _ _=>dt (Pa K3)<|Zd<|Za<|Zr J (fun h113_2=>?_) (fun h113_2=>?_)
     ·have hpn:=(Qu _).1 h113_2
      exact Zb<|Zf<|Zo J<|Zd<|Za<|Zp<|Md<|Yp<|Yp<|Md<|Yp<|xU hsc results147 J J (by rw [Zjc h0 (by omega) hpn])
     ·have hpi:¬(Cw (Fo (Zk zs) a b) ((Zk zs).length-1) j (min (j+1) (Fo (Zk zs) a b).length))<0:=fun e=>h113_2 ((Qu _).2 e)
      exact Zl<|Qh<|Za<|Zf<|mv J<|dt (Ov K3)<|Zo J<|Zd<|Xg (j+1) ⟨by first | omega | (dsimp only<;>omega),fun k hk2=>by rcases Nat.lt_succ_iff_lt_or_eq.1 hk2 with h9 | h9;exact hz k h9;subst h9;have h8:=hpi;omega⟩ (by first | omega | (dsimp only<;>omega)) K3 K15
   ·exact Yt<|Zv<|Zv<|Pd<|Za<|Zb<|Zf<|Zo J<|Zd<|Za<|Zp<|xU hsc results147 J J (by rw [Zvs h0 (fun k hk=>hz k (by omega))])
theorem Yaq(v w u w2 u2:Value)(zs:List (Int×SL))(k:Int)(a b:R2)(hd:Cvd (Zk zs))(ha:Ef a)(hb:Ef b):Od prog 98 #[v,.int .i64 k,.agg #[.bool (decide (a.1<0)),w,.bool (decide (a.2<0)),u],.agg #[.bool (decide (b.1<0)),w2,.bool (decide (b.2<0)),u2]] [pp v zs,Me w a.1.natAbs,Me u a.2.natAbs,Me w2 b.1.natAbs,Me u2 b.2.natAbs] (.bool (shw (Zk zs) (k,a,b))):=by
 refine Yg func98 J ntmps98 J K5 fun w0 sc hw hsc=>?_
 simp only [Zs,Zq]
 have hli:=Zz zs
 have hd7:=hd.l
 have hdz:Sz 1000000 (Zk zs):=hd.v.sz.mono (by omega)
 have ha1:=ha.b1
 have ha2:=ha.b2
 have hb1:=hb.b1
 have hb2:=hb.b2
 refine Zb<|Zf<|tt (Xp (i:=6) K5 hw) fun bx _=>tt (Xp (i:=7) K5 hw) fun bx_2 _=>Zo J<|Zd<|Za<|Zb<|Zb<|Zf<|mv J<|dt (Hf K3)<|Zd<|Za<|Zr J (fun h122=>?_) (fun h122=>?_)
 ·exact Zb<|Zf<|mv J<|dt (Pj (i:=6) K3 Kh Ph K4)<|dt (Pj (i:=7) K3 Kh Ph K4)<|tt (Xv (n:=7) (Yar _ _ _ _ _ _ a b hd ha hb) J J J K3 call147 (Zi 1 K3 (Zi 2 K3 (Zi 3 K3 (Zi 4 K3 (Zi 5 K3 Ze))))) J hw) fun _ _=>Zo J<|Zd<|Za<|Zp<|Yp<|xU hsc results98 J J (by rw [Zco (show k=1 by assumption)])
 ·refine Zl<|Za<|Zb<|Zb<|Zf<|mv J<|dt (Yc J J (i:=1) J Ye Pm)<|dt (Hf K3)<|mv J<|Pb (d:=18) J (fun s125=>?_) (fun s125=>?_)
  ·exact Yj K3<|Yj K3<|Yj K3<|Yj K3<|dt (Om K3)<|Zd<|Za<|Of J<|Zb<|Zf<|mv J<|dt (Pj (i:=6) K3 Kh Ph K4)<|tt (Yf (n:=7) (Dg _ _ _ _ a.1 a.2 (by omega) (by omega) hdz) K5 call65 (Zi 1 K3 (Zi 2 K3 (Zi 3 K3 Ze))) J hw) fun _ _=>dt (Lh J J J)<|Zo J<|Zd<|Za<|Zp<|Yp<|xU hsc results98 J J (by rw [Zcm (show ¬k=1 by assumption) (by first | exact .inl (by omega) | exact .inr ‹_›),vlu_x])
  ·refine Zx (Pj (i:=6) K3 Kh Ph K4) K2<|Zx (Pj (i:=7) K3 Kh Ph K4) K2<|Pp (Yf (n:=7) (Hs _ _ _ _ a.1 a.2 b.1 b.2) K5 call27 (Zi 2 K3 (Zi 3 K3 (Zi 4 K3 (Zi 5 K3 Ze)))) J hw) K3 fun _ _=>Zx (Hf K3) K2<|dt (Ql K3)<|Zd<|Za<|Zr J (fun h125=>?_) (fun h125=>?_)
   ·exact Zb<|Zf<|mv J<|dt (Pj (i:=6) K3 Kh Ph K4)<|tt (Yf (n:=7) (Dg _ _ _ _ a.1 a.2 (by omega) (by omega) hdz) K5 call65 (Zi 1 K3 (Zi 2 K3 (Zi 3 K3 Ze))) J hw) fun _ _=>dt (Lh J J J)<|Zo J<|Zd<|Za<|Zp<|Yp<|xU hsc results98 J J (by rw [Zcm (show ¬k=1 by assumption) (by first | exact .inl (by omega) | exact .inr ‹_›),vlu_x])
   ·refine Zl<|Za<|Zb<|Zf<|mv J<|dt (Pj (i:=6) K3 Kh Ph K4)<|tt (Yf (n:=7) (Zkj a.1 a.2 (by omega) (by omega) _ _ _ _ _ 70 hd.v hd.s (by omega) (Nat.lt_succ_self _)) K5 call66 (Zi 1 K3 (Zi 2 K3 (Zi 3 K3 Ze))) J hw) fun _ _=>dt (Fd K3)<|mv J<|Pb (d:=32) J (fun s128=>?_) (fun s128=>?_)
    ·exact Zx (Ya K2) K2<|Zx (Pj (i:=6) K3 Kh Ph K4) K2<|Zx (Pj (i:=7) K3 Kh Ph K4) K2<|Pp (Xv (n:=7) (Zki _ _ _ _ _ _ a.1 a.2 b.1 b.2 (by omega) (by omega) (by omega) (by omega) hb.p hd) J J J K3 call67 (Zi 1 K3 (Zi 2 K3 (Zi 3 K3 (Zi 4 K3 (Zi 5 K3 Ze))))) J hw) K3 fun _ _=>Zx (Xh J J) K2<|dt (Om K3)<|Zo J<|Zd<|Za<|Zp<|xU hsc results98 J J (by rw [Zcn (show ¬k=1 by assumption) (by omega) ‹_›];first | rfl | (rw [decide_eq_true (p:=0<aft (Qq (Zk zs)) a) ‹_›];rfl) | (rw [decide_eq_false (p:=0<aft (Qq (Zk zs)) a) ‹_›];rfl))
    ·exact Yj K3<|Yj K3<|Yj K3<|Yj K3<|Yj K3<|dt (Ql K3)<|Zo J<|Zd<|Za<|Zp<|xU hsc results98 J J (by rw [Zcn (show ¬k=1 by assumption) (by omega) ‹_›];first | rfl | (rw [decide_eq_true (p:=0<aft (Qq (Zk zs)) a) ‹_›];rfl) | (rw [decide_eq_false (p:=0<aft (Qq (Zk zs)) a) ‹_›];rfl))
theorem Zx3(v w u w2 u2 p9:Value)(zs:List (Int×SL))(ps:List PTs)(a b:R2)(hd:Cvd (Zk zs))(ha:Ef a)(hb:Ef b)(hp:Zsw ps):Od prog 40 #[v,.agg #[.bool (decide (a.1<0)),w,.bool (decide (a.2<0)),u],.agg #[.bool (decide (b.1<0)),w2,.bool (decide (b.2<0)),u2],p9] [pp v zs,Me w a.1.natAbs,Me u a.2.natAbs,Me w2 b.1.natAbs,Me u2 b.2.natAbs,Pw 9 Fr p9 ps] (.bool (Zg7 (Zk zs) ps a b)):=by
 refine Yg func40 J ntmps40 J K6 fun w0 sc hw hsc=>?_
 simp only [Zs,Zq]
 refine Mi (Hk (i:=6) J Zg) (fun hlen=>?_)
 have hli:=Zz zs
 have hb1:=hb.b1
 have hb2:=hb.b2
 refine Zb<|Zf<|tt (Xp (i:=7) K5 hw) fun bx _=>tt (Xp (i:=8) K5 hw) fun bx_2 _=>Zo J<|Zd<|Za<|Zb<|Zf<|dt (Pj (i:=7) K3 Kh Ph K4)<|tt (Xi (i:=9) K2 zeroValue50 K2 hw) fun bx_3 _=>tt (Zt (i:=9) K6 Ph K2 ⟨Zc J,Zj (i:=2) J Zg,Zc J,Zj (i:=3) J Zg,trivial⟩ J hw trivial) fun _ _=>Zd<|Za<|Zb<|Zb<|Zf<|Zo J<|Zd<|Za<|Zn<|Yl (Np 2 61 K3)<|Yl (Np 3 62 K3)<|Px [(0,_),(3,_),(6,_),(9,_)] [(0,_),(1,_),(2,_),(3,_),(4,_),(5,_),(6,_),(7,_),(8,_)] (fun(q:Nat×Value×Value)=>[(10,.int .i64 (q.1:Int))]) (fun(q:Nat×Value×Value)=>[(61,Me q.2.1 (lst a ps q.1).1.natAbs),(62,Me q.2.2 (lst a ps q.1).2.natAbs),(9,box bx_3 50 #[.bool (decide ((lst a ps q.1).1<0)),q.2.1,.bool (decide ((lst a ps q.1).2<0)),q.2.2])]) (fun(q:Nat×Value×Value)=>(q.1≤ps.length)∧(∀k,k<q.1→Zhx (Zk zs) (lst a ps k) (ps.getD k P0)=true)) (fun(q:Nat×Value×Value)=>ps.length-q.1) (0,w,u) ⟨by first | omega | (dsimp only<;>omega),fun k hk=>absurd hk (Nat.not_lt_zero k)⟩ K5 K12 ?_
 rintro⟨i,w5,w6⟩ ⟨hi,hK⟩
 dsimp only at hi hK
 simp only [CA,NA]
 have hlE:=Yb7 ha hp hi
 have hl1:=hlE.b1
 have hl2:=hlE.b2
 refine Zb<|Zb<|Zf<|mv J<|mv J<|dt (Yc J J (i:=6) J Zg Ad)<|dt (Pa K3)<|Zd<|Za<|Zr J (fun h134=>?_) (fun h134=>?_)
 ·refine Zl<|Za<|Zb<|Zn<|Iy [(0,_),(3,_),(6,_),(9,_),(10,_)] [(0,_),(61,_),(62,_),(9,_),(1,_),(2,_),(3,_),(4,_),(5,_),(6,_),(7,_),(8,_)] (fun(q:Value×Value×Value×Value×Nat×Nat)=>[(11,.pointer (some ⟨q.2.2.2.2.1,0,none⟩)),(12,.pointer (some ⟨q.2.2.2.2.2,0,none⟩))]) (fun(q:Value×Value×Value×Value×Nat×Nat)=>[(63,Me q.1 (ps.getD i P0).2.1.1.natAbs),(64,Me q.2.1 (ps.getD i P0).2.1.2.natAbs),(65,Me q.2.2.1 (ps.getD i P0).2.2.1.natAbs),(66,Me q.2.2.2.1 (ps.getD i P0).2.2.2.natAbs),(97,box q.2.2.2.2.1 50 #[.bool (decide ((ps.getD i P0).2.1.1<0)),q.1,.bool (decide ((ps.getD i P0).2.1.2<0)),q.2.1]),(98,box q.2.2.2.2.2 50 #[.bool (decide ((ps.getD i P0).2.2.1<0)),q.2.2.1,.bool (decide ((ps.getD i P0).2.2.2<0)),q.2.2.2.1])]) (fun(q:Value×Value×Value×Value×Nat×Nat)=>True) K5 K12 ?_ ?_
  ·obtain⟨hk,hf1,hf2⟩:=hp (ps.getD i P0) (Xc)
   have hf11:=hf1.b1
   have hf12:=hf1.b2
   have hf1p:=hf1.p
   have hf21:=hf2.b1
   have hf22:=hf2.b2
   have hf2p:=hf2.p
   refine Ni [6] [15]<|Zw (n:=6) [(0,0),(1,0),(2,0),(3,0),(4,0),(6,0),(7,0),(8,0),(9,0),(10,0)]<|Zh K2 (Yy (Ya K2) K1)<|Zh K2 (Yy (Ya K2) K1)<|Zh K2 (Yy (Nj (ii:=6) K4 Zg Ad Znr J (by first | omega | (simp only [List.length_set];omega))) K1)<|Zh K2 (Yy (Zwu (ii:=6) J J J Zg Gm J Ym J) K1)<|Zh K2 (Yy (Yc5 (ii:=6) P0 J J J Zg Xf Ym J J J J) K1)<|Zh K2 (Yy (Ya K2) K1)<|Zh K2 (Yy (Ya K2) K1)<|Zh K2 (Yy (Nj (ii:=6) K4 Zg Ad Znr J (by first | omega | (simp only [List.length_set];omega))) K1)<|Zh K2 (Yy (Zwu (ii:=6) J J J Zg Gm J Ym J) K1)<|Zh K2 (Yy (Yc5 (ii:=6) P0 J J J Zg Xf Ym J J J J) K1)<|Yi<|Fu (n:=5) 5 12 13 ?_ ?_ ?_
   ·refine Yd J (Zy (n:=63) (Yz (ps.getD i P0).2.1.1 (ps.getD i P0).2.1.2) K4 Kq Ze J hw) fun g _=>Fu (n:=4) 11 12 13 ?_ ?_ ?_
    ·refine Yd J (Zy (n:=65) (Yz (ps.getD i P0).2.2.1 (ps.getD i P0).2.2.2) K4 Kq Ze J hw) fun g_2 _=>Qg (n:=3) 12 13 ?_ ?_
     ·exact Yd J (Xj (i:=97) K2 zeroValue50 K2 hw K1) fun bx_4 ho=>Zw (n:=0) [(13,1),(14,1),(15,3)]<|Yq J (Xj (i:=98) K2 zeroValue50 K2 hw K1) fun bx_5 ho2=>Yq J (Zt (i:=97) K6 Ph K2 ⟨Zc J,Zj (i:=63) J Zg,Zc J,Zj (i:=64) J Zg,trivial⟩ J hw ho) fun _ _=>Qs J (Zt (i:=98) K6 Ph K2 ⟨Zc J,Zj (i:=65) J Zg,Zc J,Zj (i:=66) J Zg,trivial⟩ J hw trivial) fun _ _=>Yi<|Yh<|Xd (g.1,g.2,g_2.1,g_2.2,_,_) trivial K7 K18
     ·exact Yd J (Xj (i:=98) K2 zeroValue50 K2 hw K1) fun bx_6 ho3=>Zw (n:=0) [(12,1),(14,1),(15,3)]<|Yq J (Xj (i:=97) K2 zeroValue50 K2 hw K1) fun bx_7 ho4=>Yq J (Zt (i:=97) K6 Ph K2 ⟨Zc J,Zj (i:=63) J Zg,Zc J,Zj (i:=64) J Zg,trivial⟩ J hw ho4) fun _ _=>Qs J (Zt (i:=98) K6 Ph K2 ⟨Zc J,Zj (i:=65) J Zg,Zc J,Zj (i:=66) J Zg,trivial⟩ J hw trivial) fun _ _=>Yi<|Yh<|Xd (g.1,g.2,g_2.1,g_2.2,_,_) trivial K7 K18
    ·refine Yd J (Xj (i:=97) K2 zeroValue50 K2 hw K1) fun bx_8 ho5=>Qg (n:=3) 11 13 ?_ ?_
     ·exact Yd J (Zy (n:=65) (Yz (ps.getD i P0).2.2.1 (ps.getD i P0).2.2.2) K4 Kq Ze J hw) fun g_3 _=>Zw (n:=0) [(13,1),(14,1),(15,3)]<|Yq J (Xj (i:=98) K2 zeroValue50 K2 hw K1) fun bx_9 ho6=>Yq J (Zt (i:=97) K6 Ph K2 ⟨Zc J,Zj (i:=63) J Zg,Zc J,Zj (i:=64) J Zg,trivial⟩ J hw ho5) fun _ _=>Qs J (Zt (i:=98) K6 Ph K2 ⟨Zc J,Zj (i:=65) J Zg,Zc J,Zj (i:=66) J Zg,trivial⟩ J hw trivial) fun _ _=>Yi<|Yh<|Xd (g.1,g.2,g_3.1,g_3.2,_,_) trivial K7 K18
     ·exact Yd J (Xj (i:=98) K2 zeroValue50 K2 hw K1) fun bx_10 ho7=>Zw (n:=0) [(11,1),(14,1),(15,3)]<|Yq J (Zy (n:=65) (Yz (ps.getD i P0).2.2.1 (ps.getD i P0).2.2.2) K4 Kq Ze J hw) fun g_4 _=>Yq J (Zt (i:=97) K6 Ph K2 ⟨Zc J,Zj (i:=63) J Zg,Zc J,Zj (i:=64) J Zg,trivial⟩ J hw ho5) fun _ _=>Qs J (Zt (i:=98) K6 Ph K2 ⟨Zc J,Zj (i:=65) J Zg,Zc J,Zj (i:=66) J Zg,trivial⟩ J hw trivial) fun _ _=>Yi<|Yh<|Xd (g.1,g.2,g_4.1,g_4.2,_,_) trivial K7 K18
    ·refine Yd J (Xj (i:=98) K2 zeroValue50 K2 hw K1) fun bx_11 ho8=>Qg (n:=3) 11 12 ?_ ?_
     ·exact Yd J (Zy (n:=65) (Yz (ps.getD i P0).2.2.1 (ps.getD i P0).2.2.2) K4 Kq Ze J hw) fun g_5 _=>Zw (n:=0) [(12,1),(14,1),(15,3)]<|Yq J (Xj (i:=97) K2 zeroValue50 K2 hw K1) fun bx_12 ho9=>Yq J (Zt (i:=97) K6 Ph K2 ⟨Zc J,Zj (i:=63) J Zg,Zc J,Zj (i:=64) J Zg,trivial⟩ J hw ho9) fun _ _=>Qs J (Zt (i:=98) K6 Ph K2 ⟨Zc J,Zj (i:=65) J Zg,Zc J,Zj (i:=66) J Zg,trivial⟩ J hw trivial) fun _ _=>Yi<|Yh<|Xd (g.1,g.2,g_5.1,g_5.2,_,_) trivial K7 K18
     ·exact Yd J (Xj (i:=97) K2 zeroValue50 K2 hw K1) fun bx_13 ho10=>Zw (n:=0) [(11,1),(14,1),(15,3)]<|Yq J (Zy (n:=65) (Yz (ps.getD i P0).2.2.1 (ps.getD i P0).2.2.2) K4 Kq Ze J hw) fun g_6 _=>Yq J (Zt (i:=97) K6 Ph K2 ⟨Zc J,Zj (i:=63) J Zg,Zc J,Zj (i:=64) J Zg,trivial⟩ J hw ho10) fun _ _=>Qs J (Zt (i:=98) K6 Ph K2 ⟨Zc J,Zj (i:=65) J Zg,Zc J,Zj (i:=66) J Zg,trivial⟩ J hw trivial) fun _ _=>Yi<|Yh<|Xd (g.1,g.2,g_6.1,g_6.2,_,_) trivial K7 K18
   ·refine Yd J (Xj (i:=97) K2 zeroValue50 K2 hw K1) fun bx_14 ho11=>Qg (n:=4) 5 13 ?_ ?_
    ·refine Yd J (Zy (n:=63) (Yz (ps.getD i P0).2.1.1 (ps.getD i P0).2.1.2) K4 Kq Ze J hw) fun g_7 _=>Qg (n:=3) 11 13 ?_ ?_
     ·exact Yd J (Zy (n:=65) (Yz (ps.getD i P0).2.2.1 (ps.getD i P0).2.2.2) K4 Kq Ze J hw) fun g_8 _=>Zw (n:=0) [(13,1),(14,1),(15,3)]<|Yq J (Xj (i:=98) K2 zeroValue50 K2 hw K1) fun bx_15 ho12=>Yq J (Zt (i:=97) K6 Ph K2 ⟨Zc J,Zj (i:=63) J Zg,Zc J,Zj (i:=64) J Zg,trivial⟩ J hw ho11) fun _ _=>Qs J (Zt (i:=98) K6 Ph K2 ⟨Zc J,Zj (i:=65) J Zg,Zc J,Zj (i:=66) J Zg,trivial⟩ J hw trivial) fun _ _=>Yi<|Yh<|Xd (g_7.1,g_7.2,g_8.1,g_8.2,_,_) trivial K7 K18
     ·exact Yd J (Xj (i:=98) K2 zeroValue50 K2 hw K1) fun bx_16 ho13=>Zw (n:=0) [(11,1),(14,1),(15,3)]<|Yq J (Zy (n:=65) (Yz (ps.getD i P0).2.2.1 (ps.getD i P0).2.2.2) K4 Kq Ze J hw) fun g_9 _=>Yq J (Zt (i:=97) K6 Ph K2 ⟨Zc J,Zj (i:=63) J Zg,Zc J,Zj (i:=64) J Zg,trivial⟩ J hw ho11) fun _ _=>Qs J (Zt (i:=98) K6 Ph K2 ⟨Zc J,Zj (i:=65) J Zg,Zc J,Zj (i:=66) J Zg,trivial⟩ J hw trivial) fun _ _=>Yi<|Yh<|Xd (g_7.1,g_7.2,g_9.1,g_9.2,_,_) trivial K7 K18
    ·exact Yd J (Xj (i:=98) K2 zeroValue50 K2 hw K1) fun bx_17 ho14=>Zw (n:=0) [(5,1),(11,1),(14,1),(15,3)]<|Yq J (Zy (n:=63) (Yz (ps.getD i P0).2.1.1 (ps.getD i P0).2.1.2) K4 Kq Ze J hw) fun g_10 _=>Yq J (Zy (n:=65) (Yz (ps.getD i P0).2.2.1 (ps.getD i P0).2.2.2) K4 Kq Ze J hw) fun g_11 _=>Yq J (Zt (i:=97) K6 Ph K2 ⟨Zc J,Zj (i:=63) J Zg,Zc J,Zj (i:=64) J Zg,trivial⟩ J hw ho11) fun _ _=>Qs J (Zt (i:=98) K6 Ph K2 ⟨Zc J,Zj (i:=65) J Zg,Zc J,Zj (i:=66) J Zg,trivial⟩ J hw trivial) fun _ _=>Yi<|Yh<|Xd (g_10.1,g_10.2,g_11.1,g_11.2,_,_) trivial K7 K18
   ·refine Yd J (Xj (i:=98) K2 zeroValue50 K2 hw K1) fun bx_18 ho15=>Qg (n:=4) 5 12 ?_ ?_
    ·refine Yd J (Zy (n:=63) (Yz (ps.getD i P0).2.1.1 (ps.getD i P0).2.1.2) K4 Kq Ze J hw) fun g_12 _=>Qg (n:=3) 11 12 ?_ ?_
     ·exact Yd J (Zy (n:=65) (Yz (ps.getD i P0).2.2.1 (ps.getD i P0).2.2.2) K4 Kq Ze J hw) fun g_13 _=>Zw (n:=0) [(12,1),(14,1),(15,3)]<|Yq J (Xj (i:=97) K2 zeroValue50 K2 hw K1) fun bx_19 ho16=>Yq J (Zt (i:=97) K6 Ph K2 ⟨Zc J,Zj (i:=63) J Zg,Zc J,Zj (i:=64) J Zg,trivial⟩ J hw ho16) fun _ _=>Qs J (Zt (i:=98) K6 Ph K2 ⟨Zc J,Zj (i:=65) J Zg,Zc J,Zj (i:=66) J Zg,trivial⟩ J hw trivial) fun _ _=>Yi<|Yh<|Xd (g_12.1,g_12.2,g_13.1,g_13.2,_,_) trivial K7 K18
     ·exact Yd J (Xj (i:=97) K2 zeroValue50 K2 hw K1) fun bx_20 ho17=>Zw (n:=0) [(11,1),(14,1),(15,3)]<|Yq J (Zy (n:=65) (Yz (ps.getD i P0).2.2.1 (ps.getD i P0).2.2.2) K4 Kq Ze J hw) fun g_14 _=>Yq J (Zt (i:=97) K6 Ph K2 ⟨Zc J,Zj (i:=63) J Zg,Zc J,Zj (i:=64) J Zg,trivial⟩ J hw ho17) fun _ _=>Qs J (Zt (i:=98) K6 Ph K2 ⟨Zc J,Zj (i:=65) J Zg,Zc J,Zj (i:=66) J Zg,trivial⟩ J hw trivial) fun _ _=>Yi<|Yh<|Xd (g_12.1,g_12.2,g_14.1,g_14.2,_,_) trivial K7 K18
    ·exact Yd J (Xj (i:=97) K2 zeroValue50 K2 hw K1) fun bx_21 ho18=>Zw (n:=0) [(5,1),(11,1),(14,1),(15,3)]<|Yq J (Zy (n:=63) (Yz (ps.getD i P0).2.1.1 (ps.getD i P0).2.1.2) K4 Kq Ze J hw) fun g_15 _=>Yq J (Zy (n:=65) (Yz (ps.getD i P0).2.2.1 (ps.getD i P0).2.2.2) K4 Kq Ze J hw) fun g_16 _=>Yq J (Zt (i:=97) K6 Ph K2 ⟨Zc J,Zj (i:=63) J Zg,Zc J,Zj (i:=64) J Zg,trivial⟩ J hw ho18) fun _ _=>Qs J (Zt (i:=98) K6 Ph K2 ⟨Zc J,Zj (i:=65) J Zg,Zc J,Zj (i:=66) J Zg,trivial⟩ J hw trivial) fun _ _=>Yi<|Yh<|Xd (g_15.1,g_15.2,g_16.1,g_16.2,_,_) trivial K7 K18
  ·rintro⟨v3,v4,v5,v6,b7,b8⟩ -
   simp only [CA,NA]
   obtain⟨hk,hf1,hf2⟩:=hp (ps.getD i P0) (Xc)
   have hf11:=hf1.b1
   have hf12:=hf1.b2
   have hf1p:=hf1.p
   have hf21:=hf2.b1
   have hf22:=hf2.b2
   have hf2p:=hf2.p
   refine Zb<|Zb ?_
   rcases(show Iz (lst a ps i) (ps.getD i P0).2.1≠0∨(Iz (lst a ps i) (ps.getD i P0).2.1=0∧0<Iz (ps.getD i P0).2.1 (ps.getD i P0).2.2)∨(Iz (lst a ps i) (ps.getD i P0).2.1=0∧¬0<Iz (ps.getD i P0).2.1 (ps.getD i P0).2.2) by omega)with hc1 | ⟨hc1,hc2⟩ | ⟨hc1,hc2⟩
   ·refine Qj (fun _=>False) [(0,0),(1,0),(2,1),(3,0),(4,0),(5,2),(6,2),(7,2),(8,2),(9,0),(10,0),(11,2),(12,2),(13,2),(14,2),(15,2),(16,2),(17,2),(18,2),(19,2),(20,2),(21,0)] ?_ ?_
    ·kernel_rfl
    exact Zh K2 (Yo (Pj (i:=9) K3 Kh Ph K4))<|Zh K2 (Yo (Pj (i:=97) K3 Kh Ph K4))<|Yq J (Yf (n:=9) (Hs _ _ _ _ (lst a ps i).1 (lst a ps i).2 (ps.getD i P0).2.1.1 (ps.getD i P0).2.1.2) K5 call27 (Zi 61 K3 (Zi 62 K3 (Zi 63 K3 (Zi 64 K3 Ze)))) J hw) fun _ _=>Zh K2 (Yo (dT (Pk K3) (vB (decide_eq_true hc1))))<|Zh K2 (Yo (Ya K2))<|Dw K8<|Dw K8<|Dw K8<|Dw K8<|Zh K2 (Yo (Om K3))<|Zh K2 (Yo (Ya K2))<|Dw K8<|Dw K8<|Dw K8<|Dw K8<|Dw K8<|Dw K8<|Dw K8<|Dw K8<|Dw K8<|Dw K8<|Zh K2 (Yo (Om K3))<|Pv<|Za<|Of J<|Zb<|Zf<|Zo J<|Zd<|Za<|Zp<|Yp<|Md<|Yp<|Yp<|Md<|Yp<|xU hsc results40 J J (by rw [Ft (k:=i) (by omega) (Ybl hc1) false]<;>rfl)
   ·refine Qj (fun _=>False) [(0,0),(1,0),(2,1),(3,0),(4,0),(5,0),(6,0),(7,1),(8,0),(9,0),(10,0),(11,2),(12,2),(13,2),(14,2),(15,2),(16,2),(17,2),(18,2),(19,2),(20,2),(21,0)] ?_ ?_
    ·kernel_rfl
    refine Zh K2 (Yo (Pj (i:=9) K3 Kh Ph K4))<|Zh K2 (Yo (Pj (i:=97) K3 Kh Ph K4))<|Yq J (Yf (n:=9) (Hs _ _ _ _ (lst a ps i).1 (lst a ps i).2 (ps.getD i P0).2.1.1 (ps.getD i P0).2.1.2) K5 call27 (Zi 61 K3 (Zi 62 K3 (Zi 63 K3 (Zi 64 K3 Ze)))) J hw) fun _ _=>Zh K2 (Yo (dF (Pk K3) (vB (decide_eq_false (fun h=>h hc1)))))<|Zh K2 (Yo (Ya K2))<|Gf (Yo (Pj (i:=97) K3 Kh Ph K4)) K5<|Gf (Yo (Pj (i:=98) K3 Kh Ph K4)) K5<|Zx4 J J J J J (Yf (n:=9) (Hs _ _ _ _ (ps.getD i P0).2.1.1 (ps.getD i P0).2.1.2 (ps.getD i P0).2.2.1 (ps.getD i P0).2.2.2) K5 call27 (Zi 63 K3 (Zi 64 K3 (Zi 65 K3 (Zi 66 K3 Ze)))) J hw) fun _ _=>Gf (Yo (dT (Fd K3) (vB (decide_eq_true hc2)))) K5<|Zh K2 (Yo (Ql K3))<|Zh K2 (Yo (Ya K2))<|Dw K8<|Dw K8<|Dw K8<|Dw K8<|Dw K8<|Dw K8<|Dw K8<|Dw K8<|Dw K8<|Dw K8<|Zh K2 (Yo (Om K3))<|Pv<|Za<|Of J<|Zb<|Zf<|Zo J<|Zd<|Za<|Zp<|Yp<|Md<|Yp<|Yp<|Md<|Yp ?_
    exact xU hsc results40 J J (by rw [Ft (k:=i) (by omega) (Ybk hc2) false]<;>rfl)
   ·refine Qj (fun _=>False) [(0,0),(1,0),(2,1),(3,0),(4,0),(5,0),(6,0),(7,1),(8,0),(9,0),(10,0),(11,0),(12,0),(13,0),(14,0),(15,0),(16,0),(17,0),(18,0),(19,1),(20,0),(21,0)] ?_ ?_
    ·kernel_rfl
    refine Zh K2 (Yo (Pj (i:=9) K3 Kh Ph K4))<|Zh K2 (Yo (Pj (i:=97) K3 Kh Ph K4))<|Yq J (Yf (n:=9) (Hs _ _ _ _ (lst a ps i).1 (lst a ps i).2 (ps.getD i P0).2.1.1 (ps.getD i P0).2.1.2) K5 call27 (Zi 61 K3 (Zi 62 K3 (Zi 63 K3 (Zi 64 K3 Ze)))) J hw) fun _ _=>Zh K2 (Yo (dF (Pk K3) (vB (decide_eq_false (fun h=>h hc1)))))<|Zh K2 (Yo (Ya K2))<|Gf (Yo (Pj (i:=97) K3 Kh Ph K4)) K5<|Gf (Yo (Pj (i:=98) K3 Kh Ph K4)) K5<|Zx4 J J J J J (Yf (n:=9) (Hs _ _ _ _ (ps.getD i P0).2.1.1 (ps.getD i P0).2.1.2 (ps.getD i P0).2.2.1 (ps.getD i P0).2.2.2) K5 call27 (Zi 63 K3 (Zi 64 K3 (Zi 65 K3 (Zi 66 K3 Ze)))) J hw) fun _ _=>Gf (Yo (dF (Fd K3) (vB (decide_eq_false hc2)))) K5<|Zh K2 (Yo (Ql K3))<|Zh K2 (Yo (Ya K2))<|Gf (Yo (Ya K2)) K5<|Gf (Yo (Ya K2)) K5<|Gf (Yo (Ya K2)) K5<|Gf (Yo (Nj (ii:=6) K4 Zg Ad Znr J (by first | omega | (simp only [List.length_set];omega)))) K5<|Gf (Yo (Zwu (ii:=6) J J J Zg Gm J sizeOf77 J)) K5<|Gf (Yo (d_ldf (ii:=6) P0 J J J Zg isAgg77 J)) K5 ?_
    refine Gf (Yo (Pj (i:=97) K3 Kh Ph K4)) K5<|Gf (Yo (Pj (i:=98) K3 Kh Ph K4)) K5<|Zx4 J J J J J (Xv (n:=9) (Yaq _ _ _ _ _ _ (ps.getD i P0).1 (ps.getD i P0).2.1 (ps.getD i P0).2.2 hd hf1 hf2) J J J K4 call98 (Zi 1 K3 (Zi 63 K3 (Zi 64 K3 (Zi 65 K3 (Zi 66 K3 Ze))))) J hw) fun _ _=>Gf (Yo (Xh J J)) K5<|Zh K2 (Yo (Ql K3))<|Pv<|Za<|Mx J (fun h136=>?_) (fun h136=>?_)
    ·exact Zb<|Zf<|Zo J<|Zd<|Za<|Zp<|Yp<|Md<|Yp<|Yp<|Md<|Yp<|xU hsc results40 J J (by rw [Ft (k:=i) (by omega) ((Zda hc1 hc2).trans (Gg ‹_›)) false]<;>rfl)
    ·exact Zl<|Za<|Zf<|dt (Pj (i:=98) K3 Kh Ph K4)<|tt (Zt (i:=9) K6 Ph K2 ⟨Zc J,Zj (i:=65) J Zg,Zc J,Zj (i:=66) J Zg,trivial⟩ J hw trivial) fun _ _=>Zd<|Qh<|Za<|Zf<|mv J<|dt (Ov K3)<|Zo J<|Zd<|Qn (Np 65 61 K3)<|Qn (Np 66 62 K3)<|Xg (i+1,v5,v6) ⟨by first | omega | (dsimp only<;>omega),fun k hk2=>by rcases Nat.lt_succ_iff_lt_or_eq.1 hk2 with h9 | h9;exact hK k h9;rw [h9];exact(Zda hc1 hc2).trans (Ds ‹_›)⟩ (by first | omega | (dsimp only<;>omega)) K5 K12
 ·refine Yt<|Zv<|Zv<|Pd<|Za<|Zb<|Zf<|mv J<|dt (Yc J J (i:=6) J Zg Ad)<|dt (Fd K3)<|mv J<|Pb (d:=58) J (fun s141=>?_) (fun s141=>?_)
  ·exact Zx (Pj (i:=9) K3 Kh Ph K4) K2<|Zx (Pj (i:=8) K3 Kh Ph K4) K2<|Pp (Yf (n:=9) (Hs _ _ _ _ (lst a ps i).1 (lst a ps i).2 b.1 b.2) K5 call27 (Zi 61 K3 (Zi 62 K3 (Zi 4 K3 (Zi 5 K3 Ze)))) J hw) K3 fun _ _=>Zx (Hf K3) K2<|dt (Om K3)<|Zo J<|Zd<|Za<|Zp<|xU hsc results40 J J (by rw [Zjk (i:=i) (by omega) hK];first | (rw [decide_eq_true (p:=0<ps.length) (by omega)];rfl) | (rw [decide_eq_false (p:=0<ps.length) (by omega)];rfl))
  ·exact Yj K3<|Yj K3<|Yj K3<|Yj K3<|dt (Ql K3)<|Zo J<|Zd<|Za<|Zp<|xU hsc results40 J J (by rw [Zjk (i:=i) (by omega) hK];first | (rw [decide_eq_true (p:=0<ps.length) (by omega)];rfl) | (rw [decide_eq_false (p:=0<ps.length) (by omega)];rfl))
theorem Zb6(x y:Int)(hx:bl x.natAbs≤1000000:=by omega)(hy:bl y.natAbs≤1000000:=by omega):Od prog 39 #[rX x y] [] (.bool (efit (x,y))):=by
 refine Yg func39 J ntmps39 J trivial fun w0 sc hw hsc=>?_
 simp only [Zs,Zq]
 refine Zb<|Zf<|tt (Xp (i:=1) K5 hw) fun bx _=>Zo J<|Zd<|Za<|Zb<|Zf<|dt (Qy K2 Hn J Yb K2)<|dt (Qm (i:=1) K3 Xl Yb K2)<|tt (Zy (n:=2) (Zkg x) K4 call30 Ze J hw) fun v _=>tt (Zy (n:=2) (Yap _ x) K4 call97 (Zi 2 K3 Ze) J hw) fun _ _=>dt (Ev J J J)<|mv J<|Pb (d:=8) J (fun s24=>?_) (fun s24=>?_)
 ·exact Zx (Qy K2 Hn J Yb K2) K2<|Zx (Qm (i:=1) K3 Xl Yb K2) K2<|Pp (Zy (n:=3) (Zkg y) K4 call30 Ze J hw) K3 fun v_2 _=>Pp (Zy (n:=3) (Yap _ y) K4 call97 (Zi 3 K3 Ze) J hw) K3 fun _ _=>Zx (Ev J J J) K2<|dt (Om K3)<|Zo J<|Zd<|Za<|Zp<|xU hsc results39 J J (by have e:efit (x,y)=decide (max (bl x.natAbs) (bl y.natAbs)≤512):=rfl;rw [e];first | exact vB (decide_eq_decide.2 (by omega)) | exact vB (decide_eq_false (by omega)))
 ·exact Yj K3<|Yj K3<|Yj K3<|Yj K3<|Yj K3<|dt (Ql K3)<|Zo J<|Zd<|Za<|Zp<|xU hsc results39 J J (by have e:efit (x,y)=decide (max (bl x.natAbs) (bl y.natAbs)≤512):=rfl;rw [e];first | exact vB (decide_eq_decide.2 (by omega)) | exact vB (decide_eq_false (by omega)))
abbrev rqz (a:R2):RZ:=((decide (a.1<0),Xk a.1.natAbs),(decide (a.2<0),Xk a.2.natAbs))
theorem bl_b4{n:Nat}(h:(Xk n).size≤4):bl n≤32:=Znp 4 h
theorem e32_q{z:RZ}(hq:qOK z=true)(he:enR z=true):∃a:R2,E32 a∧z=rqz a:=by
 obtain⟨h1,h2,h3,h4⟩:=q_ok hq
 refine⟨(qx z,qy z),?_,h4⟩
 rw [h4]at he
 unfold enR at he
 rw [Bool.and_eq_true]at he
 exact⟨h3,bl_b4 (of_decide_eq_true he.1),bl_b4 (of_decide_eq_true he.2)⟩
theorem all2{z1 z2:RZ}(h:[z1,z2].all enR=true):enR z1=true∧enR z2=true:=by
 simpa using h
theorem Fnd.fat{xs:List Int}{s t:Rat}{m:R2}(h:Fnd xs s t m):Go.Sky.fat m.1 m.2 xs<0:=(Zpb h.lw.1).2 h.ng
abbrev PRw:=Int×RZ×RZ
abbrev P0r:PRw:=(0,Q0,Q0)
abbrev encPR (z:PRw):Value:= .agg #[.int .i64 z.1,.bool z.2.1.1.1,.string z.2.1.1.2,.bool z.2.1.2.1,.string z.2.1.2.2,.bool z.2.2.1.1,.string z.2.2.1.2,.bool z.2.2.2.1,.string z.2.2.2.2]
def rawp(z:PTs):PRw:=(z.1,rqz z.2.1,rqz z.2.2)
def vpz(z:PRw):Prop:=(z.1=1∨z.1=2)∧qOK z.2.1=true∧qOK z.2.2=true
noncomputable def qxy (z:RZ):R2:=(qx z,qy z)
def fpz(z:PRw):Prop:=efit (qxy z.2.1)=true∧efit (qxy z.2.2)=true
def BadE(ls:List PRw)(e:Int):Prop:=(¬(ls.length≤200∧∀z∈ls,vpz z)→e=2)∧(¬(∀z∈ls,fpz z)→e≠0)
theorem BadE.ne{ls:List PRw}{e:Int}(hb:¬((ls.length≤200∧∀z∈ls,vpz z)∧∀z∈ls,fpz z))(h:BadE ls e):e≠0:=by
 by_cases hv:ls.length≤200∧∀z∈ls,vpz z
 ·exact h.2 fun hf=>hb ⟨hv,hf⟩
 ·rw [h.1 hv];decide
set_option maxRecDepth 100000
open Go Go.Sky
theorem res0{P:Program}{N:Nat}{sc:Nat→Prop}{env:Kl}{H:Hp}{a:Act}{w:World}{fn:Func}(hs:Sat N sc env H a w)(hf:fn.results=#[]):(results fn a.tmps).run P w= .ok (.tuple #[]) w:=by
 simp [results,hf]
def prv(xs:List Int):Nat→R2→R2→List PTs
 | 0,x,y=>[(if Ig xs x y then 1 else 2,x,y)]
 | n+1,x,y=>if Ig xs x y then [(1,x,y)]else
   if efit (Pe x y)=true∧Iz x (Pe x y)<0 then prv xs n x (Pe x y) ++ prv xs n (Pe x y) y else [(2,x,y)]
def Zt8(xs:List Int):R2→List PTs→R2→Prop
 | l,[],e=>l=e
 | l,z :: zs,e=>z.2.1=l∧¬0<Iz z.2.1 z.2.2∧shw xs z=true∧Zt8 xs z.2.2 zs e
theorem Zsp{xs:List Int}{m e:R2}{qs:List PTs}(h2:Zt8 xs m qs e):∀{l:R2} {ps:List PTs},Zt8 xs l ps m→Zt8 xs l (ps ++ qs) e
 | l,[],h=>by cases (show l=m from h);exact h2
 | l,z :: zs,⟨h3,h4,h5,h6⟩=>⟨h3,h4,h5,Zsp h2 h6⟩
theorem Zso{xs:List Int}{e:R2} : ∀{ps:List PTs} {a:R2},Zt8 xs a ps e→(∀k,k<ps.length→(ps.getD k P0).2.1=lst a ps k∧¬0<Iz (ps.getD k P0).2.1 (ps.getD k P0).2.2∧shw xs (ps.getD k P0)=true)∧lst a ps ps.length=e
 | [],a,h=>⟨fun k hk=>absurd hk (Nat.not_lt_zero k),h⟩
 | z :: zs,a,⟨h3,h4,h5,h6⟩=>by
  obtain⟨g1,g2⟩:=Zso h6
  have hl:∀k,lst a (z :: zs) (k+1)=lst z.2.2 zs k:=fun k=>by
   cases k with
   | zero=>rfl
   | succ k=>rfl
  refine⟨fun k hk=>?_,?_⟩
  ·cases k with
   | zero=>exact⟨h3,h4,h5⟩
   | succ k=>rw [hl k];exact g1 k (by simpa using hk)
  ·show lst a (z :: zs) (zs.length+1)=e
   rw [hl];exact g2
theorem Znm(a:R2):Iz a a=0:=by unfold Iz;rw [Int.sub_self];rfl
theorem Yda{xs:List Int}{ps:List PTs}{a b:R2}(h0:1≤ps.length)(h:Zt8 xs a ps b):Zg7 xs ps a b=true:=by
 obtain⟨g1,g2⟩:=Zso h
 rw [Zjk rfl (fun k hk=>?_),g2,Znm,decide_eq_true (by omega:0<ps.length)]
 ·rfl
 ·obtain⟨c1,c2,c3⟩:=g1 k hk
  unfold Zhx
  rw [c3,←c1,Znm,decide_eq_true c2];rfl
theorem Zz3{xs:List Int}(hd:Cvd xs){a b:R2}(ha:0<a.2)(hb:0<b.2)(hc:¬0<Iz a b)(hn:¬Ziz xs (qv a) (qv b))(hp:Ig xs a b=false∨True):shw xs (2,a,b)=true:=by
 have hle:=(Zch ha hb).1 (by omega)
 have hng:Bj (Qq xs) (Gz xs) a b=false:=by
  cases h:Bj (Qq xs) (Gz xs) a b with
  | false=>rfl
  | true=>exact absurd ((Zca hd ha hb hle).1 h) hn
 by_cases h1:xs.length=0∨Iz a b=0
 ·rw [Zcm (z:=(2,a,b)) (show ¬(2:Int)=1 by decide) h1]
  refine decide_eq_true ?_
  rcases h1 with h1 | h1
  ·have:xs=[]:=List.eq_nil_of_length_eq_zero h1
   subst this
   exact Int.le_refl 0
  ·unfold Bj at hng
   rw [if_pos h1]at hng
   have:=of_decide_eq_false hng
   show 0≤vlu (Qq xs) a
   omega
 ·have h2:¬xs.length=0:=fun e=>h1 (.inl e)
  have h3:¬Iz a b=0:=fun e=>h1 (.inr e)
  rw [Zcn (z:=(2,a,b)) (show ¬(2:Int)=1 by decide) h2 h3]
  unfold Bj at hng
  rw [if_neg h3,Bool.or_eq_false_iff]at hng
  have h4:=of_decide_eq_false hng.1
  have h5:aft (Qq xs) a≠0:=by
   unfold Qq;rw [Zlh ha _ _ (Nat.le_refl _)]
   exact Zem _ _ _ hd.v.tr (fun e=>h2 (by rw [e];rfl)) (Nat.le_refl _)
  rw [decide_eq_true (show 0<aft (Qq xs) a by omega),hng.2];rfl
theorem Zri{xs:List Int}{a b c d:Rat}(h:¬Ziz xs a b)(h1:a≤c)(h2:d≤b):¬Ziz xs c d:=fun⟨x,x1,x2,x3⟩=>h ⟨x,by grind,by grind,x3⟩
theorem Zp1{n m:Nat}(h:bl n≤m):n<2^m:=(Mj m n).1 h
theorem Yfa{a b m n:Nat}(h1:a<2^m)(h2:b<2^n):a*b≤2^(m+n):=by
 rw [Nat.pow_add];exact Nat.mul_le_mul (Nat.le_of_lt h1) (Nat.le_of_lt h2)
theorem Yfp{a b:R2}{k B:Nat}(pa:0<a.2)(pb:0<b.2)(a1:bl a.1.natAbs≤k)(a2:bl a.2.natAbs≤k)(b1:bl b.1.natAbs≤k)(b2:bl b.2.natAbs≤k)(h1:3*k+2≤B)(h2:B≤65536):Zag a b∧qv (Pe a b)=(qv a+qv b)/2:=by
 have a1:=Zp1 a1
 have a2:=Zp1 a2
 have b1:=Zp1 b1
 have b2:=Zp1 b2
 have hQ:a.2.natAbs*b.2.natAbs≤2^(k+k):=Yfa a2 b2
 have hQ0:0<a.2.natAbs*b.2.natAbs:=Nat.mul_pos (by omega) (by omega)
 have e1:((a.2.natAbs*b.2.natAbs*2^0:Nat):Int)=a.2*b.2:=by
  rw [Nat.pow_zero,Nat.mul_one,Int.natCast_mul,Int.natAbs_of_nonneg (by omega),Int.natAbs_of_nonneg (by omega)]
 have qa:=Zhv (K:=2^k) pa (by omega)
 have qb:=Zhv (K:=2^k) pb (by omega)
 have hQ9:a.2.natAbs*b.2.natAbs*2^0≤2^(k+k):=by rw [Nat.pow_zero,Nat.mul_one];exact hQ
 have pw:∀{m:Nat},m<B→2^m<2^B:=fun h=>Nat.pow_lt_pow_right (by decide) h
 have c1:a.2.natAbs*b.2.natAbs*2^(0+1)<2^B:=by
  have h5:=pw (m:=k+k+1) (by omega)
  have h6:=Nat.mul_le_mul_right 2 hQ
  rw [Nat.pow_succ]at h5
  exact Nat.lt_of_le_of_lt h6 h5
 have c2:2*2^k*(a.2.natAbs*b.2.natAbs*2^0)<2^B:=by
  have h5:=pw (m:=1+k+(k+k)) (by omega)
  have h6:=Nat.mul_le_mul_left (2*2^k) hQ9
  rw [Nat.pow_add,Nat.pow_add 2 1 k,Nat.pow_one]at h5
  exact Nat.lt_of_le_of_lt h6 h5
 obtain⟨g1,g2,g3,g4,g5⟩:=Ybz (K:=2^k) (Q:=a.2.natAbs*b.2.natAbs) (d:=0) (B:=B) (a:=a) (b:=b)
  ⟨pa,⟨b.2,e1⟩,qa.1,qa.2⟩ ⟨pb,⟨a.2,by rw [e1,Int.mul_comm]⟩,qb.1,qb.2⟩ hQ0
  c1 c2 h2
 exact⟨g1,g3⟩
theorem Yct{a b:R2}(ha:Ef a)(hb:Ef b):Zag a b∧qv (Pe a b)=(qv a+qv b)/2∧bl (Pe a b).1.natAbs≤65536∧bl (Pe a b).2.natAbs≤65536∧0<(Pe a b).2:=by
 obtain⟨g1,g3⟩:=Yfp ha.p hb.p ha.b1 ha.b2 hb.b1 hb.b2 (B:=1600) (by decide) (by decide)
 exact⟨g1,g3,(Zrn g1).1,(Zrn g1).2,Zyj g1 ha.p hb.p⟩
theorem ef_of{z:R2}(hp:0<z.2)(h:efit z=true):Ef z:=by
 have:=of_decide_eq_true h
 exact⟨hp,by omega,by omega⟩
theorem Ztk{xs:List Int}(hd:Cvd xs):∀(n:Nat) (a b:R2),Ef a→Ef b→¬0<Iz a b→¬Ziz xs (qv a) (qv b)→
  Zt8 xs a (prv xs n a b) b∧Zsw (prv xs n a b)∧1≤(prv xs n a b).length∧(prv xs n a b).length≤2^n
 | 0,a,b,ha,hb,hc,hn=>by
  unfold prv
  refine⟨⟨rfl,hc,?_,rfl⟩,fun z hz=>?_,Nat.le_refl _,Nat.le_refl _⟩
  ·by_cases h:Ig xs a b=true
   ·rw [if_pos h,Zco (z:=(1,a,b)) rfl];exact h
   ·rw [if_neg h];exact Zz3 hd ha.p hb.p hc hn (.inr trivial)
  ·rw [List.mem_singleton]at hz;subst hz
   refine⟨?_,ha,hb⟩
   show(if Ig xs a b=true then(1:Int)else 2)=1∨_=2
   by_cases h:Ig xs a b=true
   ·rw [if_pos h];exact .inl rfl
   ·rw [if_neg h];exact .inr rfl
 | n+1,a,b,ha,hb,hc,hn=>by
  have h2:1≤2^(n+1):=Nat.pow_pos (by decide)
  unfold prv
  by_cases h:Ig xs a b=true
  ·rw [if_pos h]
   refine⟨⟨rfl,hc,by rw [Zco (z:=(1,a,b)) rfl];exact h,rfl⟩,fun z hz=>?_,Nat.le_refl _,h2⟩
   rw [List.mem_singleton]at hz;subst hz
   exact⟨.inl rfl,ha,hb⟩
  ·rw [if_neg h]
   by_cases h1:efit (Pe a b)=true∧Iz a (Pe a b)<0
   ·rw [if_pos h1]
    obtain⟨m1,m2,m3,m4,m5⟩:=Yct ha hb
    have hm:=ef_of m5 h1.1
    have hle:=(Zch ha.p hb.p).1 (by omega)
    have q1:qv a≤qv (Pe a b):=by grind
    have q2:qv (Pe a b)≤qv b:=by grind
    obtain⟨f1,f2,f3,f4⟩:=Ztk hd n a (Pe a b) ha hm (by omega) (Zri hn Rat.le_refl q2)
    obtain⟨g1,g2,g3,g4⟩:=Ztk hd n (Pe a b) b hm hb (by have:=(Zch hm.p hb.p).2 q2;omega) (Zri hn q1 Rat.le_refl)
    refine⟨Zsp g1 f1,fun z hz=>?_,?_,?_⟩
    ·rcases List.mem_append.1 hz with hz | hz
     ·exact f2 z hz
     ·exact g2 z hz
    ·rw [List.length_append];omega
    ·rw [List.length_append,Nat.pow_succ];omega
   ·rw [if_neg h1]
    refine⟨⟨rfl,hc,Zz3 hd ha.p hb.p hc hn (.inr trivial),rfl⟩,fun z hz=>?_,Nat.le_refl _,h2⟩
    rw [List.mem_singleton]at hz;subst hz
    exact⟨.inr rfl,ha,hb⟩
theorem prv_p{xs:List Int}{f:Nat}{a b:R2}(h:Ig xs a b=true):prv xs f a b=[(1,a,b)]:=by
 cases f with
 | zero=>unfold prv;rw [if_pos h]
 | succ f=>unfold prv;rw [if_pos h]
theorem Ya1{xs:List Int}{f:Nat}{a b:R2}(h:¬Ig xs a b=true)(h2:f≠0→¬(efit (Pe a b)=true∧Iz a (Pe a b)<0)):prv xs f a b=[(2,a,b)]:=by
 cases f with
 | zero=>unfold prv;rw [if_neg h]
 | succ f=>unfold prv;rw [if_neg h,if_neg (h2 (by omega))]
theorem prv_b{xs:List Int}{f f':Nat}{a b:R2}(hf:f=f'+1)(h:¬Ig xs a b=true)(h1:efit (Pe a b)=true)(h2:Iz a (Pe a b)<0):prv xs f a b=prv xs f' a (Pe a b) ++ prv xs f' (Pe a b) b:=by
 subst hf
 conv=>lhs;unfold prv
 rw [if_neg h,if_pos ⟨h1,h2⟩]
theorem Zoo(xs:List Int):∀(n:Nat) (a b:R2),(prv xs n a b).length≤2^n
 | 0,a,b=>Nat.le_refl _
 | n+1,a,b=>by
  have h2:1≤2^(n+1):=Nat.pow_pos (by decide)
  unfold prv
  by_cases h:Ig xs a b=true
  ·rw [if_pos h];exact h2
  ·rw [if_neg h]
   by_cases h1:efit (Pe a b)=true∧Iz a (Pe a b)<0
   ·rw [if_pos h1,List.length_append,Nat.pow_succ]
    have:=Zoo xs n a (Pe a b)
    have:=Zoo xs n (Pe a b) b
    omega
   ·rw [if_neg h1];exact h2
theorem Ya0{xs:List Int}{a b:R2}(hd:Cvd xs)(ha:E32 a)(hb:E32 b)(hc:¬0<Iz a b)(hn:Bj (Qq xs) (Gz xs) a b=false):Zg7 xs (prv xs 4 a b) a b=true∧Zsw (prv xs 4 a b)∧(prv xs 4 a b).length≤16:=by
 have hle:=(Zch ha.p hb.p).1 (by omega)
 have hN:¬Ziz xs (qv a) (qv b):=fun h=>by have:=(Zca hd ha.p hb.p hle).2 h;rw [hn]at this;exact absurd this (by decide)
 obtain⟨h1,h2,h3,h4⟩:=Ztk hd 4 a b ha.ef hb.ef hc hN
 exact⟨Yda h3 h1,h2,h4⟩
def pE(xs:List Int)(a b:R2):Int:=if 0<Iz a b then 3 else if Bj (Qq xs) (Gz xs) a b=true then 10 else 0
def pL(xs:List Int)(a b:R2):List PTs:=if ¬0<Iz a b∧Bj (Qq xs) (Gz xs) a b=false then prv xs 4 a b else []
theorem Zsr{P:Program}{f:FuncId}{args:Array Value}{pre:List Pc}{α:Type}{k:Nat}{enc:α→Value}{e e':Value}{xs:List α}(hx:xs=[])(he:e=e')(h:Cal P f args pre false (G:=Unit) (fun _=>True) (fun _=> .tuple #[.slice none 0 0,e]) (fun _=>[])) :
  Cal P f args pre true (G:=Value) (fun _=>True) (fun r=> .tuple #[r,e']) (fun r=>[Pw k enc r xs]):=fun w hp=>by
 subst hx;subst he
 refine Calls.mono (h w hp) fun e w' ⟨g,h1,h2,h3,h4⟩=>⟨_,h1,trivial,h3,fun p hp=>?_⟩
 rw [List.mem_singleton]at hp;subst hp
 exact⟨Zbd k enc w',rfl,fun b hb=>by simp [Pw,Value.ownBlock]at hb⟩
theorem Yay{xs:List Int}{a b:R2}(hc:0<Iz a b):pL xs a b=[]∧pE xs a b=if 0<Iz a b then 3 else 0:=⟨if_neg fun h=>h.1 hc,by unfold pE;rw [if_pos hc,if_pos hc]⟩
theorem pv_is{xs:List Int}{a b:R2}(hc:¬0<Iz a b)(hn:Bj (Qq xs) (Gz xs) a b=true):pL xs a b=[]∧pE xs a b=10:=
 ⟨if_neg fun h=>by rw [hn]at h;exact absurd h.2 (by decide),by unfold pE;rw [if_neg hc,hn];rfl⟩
theorem pv_ok{xs:List Int}{a b:R2}(hc:¬0<Iz a b)(hn:Bj (Qq xs) (Gz xs) a b=false):pL xs a b=prv xs 4 a b∧pE xs a b=0:=
 ⟨if_pos ⟨hc,hn⟩,by unfold pE;rw [if_neg hc,hn];rfl⟩
end Go.Sky
namespace Go.Sky
open Go.Proofs.Tryz
open Go.Proofs
set_option maxRecDepth 20000
set_option maxHeartbeats 4000000
set_option linter.unusedSimpArgs false
theorem Zf7(bp bs bf bo:Nat)(v:Value)(xs:List Int)(hd:Cvd xs)(f:Nat)(ih:∀f',f=f'+1→∀(vo:Value) (os:List PTs) (a b:R2) (d:Nat) (hdf:d+f'=4) (ha:Ef a) (hb:Ef b) (hln:os.length+(prv xs f' a b).length≤1000000),Zp8 prog 92 #[rX a.1 a.2,rX b.1 b.2,.int .i64 (d:Int),.pointer (some ⟨bp,0,none⟩),.pointer (some ⟨bs,0,none⟩),.pointer (some ⟨bf,0,none⟩),.pointer (some ⟨bo,0,none⟩)] [Df bp 23 #[v],Pw 2 wv v xs,Df bs 102 #[.int .i64 0],Df bf 127 #[.func (.func 92) #[] #[.pointer (some ⟨bp,0,none⟩),.pointer (some ⟨bs,0,none⟩),.pointer (some ⟨bf,0,none⟩),.pointer (some ⟨bo,0,none⟩)]]] (gb bo 74 9 79 Fr vo os) (G:=Value) (fun _=>True) (fun _=> .tuple #[]) (fun g=>gb bo 74 9 79 Fr g (os ++ prv xs f' a b)))(vo:Value)(os:List PTs)(a b:R2)(d:Nat)(hdf:d+f=4)(ha:Ef a)(hb:Ef b)(hln:os.length+(prv xs f a b).length≤1000000):Zp8 prog 92 #[rX a.1 a.2,rX b.1 b.2,.int .i64 (d:Int),.pointer (some ⟨bp,0,none⟩),.pointer (some ⟨bs,0,none⟩),.pointer (some ⟨bf,0,none⟩),.pointer (some ⟨bo,0,none⟩)] [Df bp 23 #[v],Pw 2 wv v xs,Df bs 102 #[.int .i64 0],Df bf 127 #[.func (.func 92) #[] #[.pointer (some ⟨bp,0,none⟩),.pointer (some ⟨bs,0,none⟩),.pointer (some ⟨bf,0,none⟩),.pointer (some ⟨bo,0,none⟩)]]] (gb bo 74 9 79 Fr vo os) (G:=Value) (fun _=>True) (fun _=> .tuple #[]) (fun g=>gb bo 74 9 79 Fr g (os ++ prv xs f a b)):=by
 refine Zhb func92 J ntmps92 J K4 fun w0 sc hw hsc=>?_
 simp only [Zs,Zq]
 have hv:=hd.v
 have ha1:=ha.b1
 have ha2:=ha.b2
 have hap:=ha.p
 have hb1:=hb.b1
 have hb2:=hb.b2
 have hbp:=hb.p
 obtain⟨hm0,hmq,hm1,hm2,hmp⟩:=Yct ha hb
 refine Yl (Zf9 1 60 J J J)<|Yl (Nc 999 2 31 wv)<|Yl (Qw 999 J J pV)<|Zb<|Zf<|tt (Xp (i:=6) K5 hw) fun bx _=>tt (Xp (i:=7) K5 hw) fun bx_2 _=>Zd<|Za<|Zb<|Zf<|Zo J<|Zd<|Za<|Iy [(6,_),(7,_),(8,_)] [(0,_),(2,_),(3,_),(4,_),(5,_),(1,_),(60,_),(999,_),(6,_),(7,_)] (fun(k:Int)=>[(10,.int .i64 k)]) (fun(k:Int)=>[]) (fun(k:Int)=>prv xs f a b=[(k,a,b)]) K3 K10 ?_ ?_
 ·refine Zb<|Zf<|dt (Zix (i:=2) J J J isAgg23 J)<|dt (Pj (i:=6) K3 Xf Ym K4)<|dt (Pj (i:=7) K3 Xf Ym K4)<|tt (Xv (n:=7) (Zqo _ xs a b hd ha hb) J J J K3 call93 (Zi 3 K3 Ze) J hw) fun _ _=>mv J<|dt (Xa K3)<|dt (Xa K3)<|Zo J<|Zo J<|Zd<|Za<|Zb<|Zf<|mv J<|Zd<|Za<|Mx J (fun h425=>?_) (fun h425=>?_)
  ·have hpl:=h425
   exact Zf<|Zo J<|Zd<|Xd 1 (prv_p hpl) K4 K10
  ·have hpl:¬Ig xs a b=true:=by rw [h425];decide
   refine Zb<|Zf<|dt (Pj (i:=6) K3 Xf Ym K4)<|dt (Pj (i:=7) K3 Xf Ym K4)<|tt (Xv (n:=7) (Zhp _ a.1 a.2 b.1 b.2 hap hbp hm0) J J J K3 call94 (Zi 4 K3 Ze) J hw) fun _ _=>tt (Xi (i:=8) K2 zeroValue41 K2 hw) fun bx_3 _=>tt (Zt (i:=8) K6 Ym K2 ⟨Zc J,Zc J,Zc J,Zc J,trivial⟩ J hw trivial) fun _ _=>Zd<|Za<|Zb<|Zf<|mv J<|dt (Pa K3)<|mv J<|Pb (d:=27) J (fun s427=>?_) (fun s427=>?_)
   ·refine Zx (Pj (i:=8) K3 Xf Ym K4) K2<|Pp (Zy (n:=8) (Hq (Pe a b).1 (Pe a b).2 hm1 hm2) K4 call95 Ze J hw) K3 fun _ _=>dt (Om K3)<|mv J<|Kx (d:=31) J (fun s427_2=>?_) (fun s427_2=>?_)
    ·refine Zx (Pj (i:=6) K3 Xf Ym K4) K2<|Zx (Pj (i:=8) K3 Xf Ym K4) K2<|Pp (Yf (n:=8) (Fz a.1 a.2 (Pe a b).1 (Pe a b).2 hap hmp (by omega) (by omega) hm1 hm2) K5 call96 Ze J hw) K3 fun _ _=>Zx (Pa K3) K2<|dt (Om K3)<|Zd<|Za<|Zr J (fun h427=>?_) (fun h427=>?_)
     ·refine Zb ?_
      obtain⟨f',hf⟩:∃f',f=f'+1:=⟨f-1,by omega⟩
      have hme:=ef_of hmp ‹_›
      have hI:prv xs f a b=prv xs f' a (Pe a b) ++ prv xs f' (Pe a b) b:=prv_b hf hpl ‹_› ‹_›
      rw [hI,List.length_append]at hln
      refine Zf<|dt (Zix (i:=5) J J J isAgg127 J)<|dt (Pj (i:=6) K3 Xf Ym K4)<|dt (Pj (i:=8) K3 Xf Ym K4)<|mv J<|dt (Ov K3)<|Qx (Zga 1 60 J J J J J)<|tt (Bn (i:=1) (fs:=[]) (vs:=[_,_,_]) (us:=[_,_,_,_]) (ih f' hf _ _ a (Pe a b) (d+1) (by omega) ha hme (by omega)) J J J J K3 call92 J J (by decide) (Zi 2 K3 (Zi 3 K3 (Zi 4 K3 (Zi 5 K3 Ze)))) J hw (fun _ _=>trivial)) fun vg _=>Qx (Zf9 1 60 J J J)<|Zd<|Za<|Zb<|Zf<|dt (Zix (i:=5) J J J isAgg127 J)<|dt (Pj (i:=8) K3 Xf Ym K4)<|dt (Pj (i:=7) K3 Xf Ym K4)<|mv J<|dt (Ov K3)<|Qx (Zga 1 60 J J J J J)<|tt (Bn (i:=1) (fs:=[]) (vs:=[_,_,_]) (us:=[_,_,_,_]) (ih f' hf _ _ (Pe a b) b (d+1) (by omega) hme hb (by rw [List.length_append];omega)) J J J J K3 call92 J J (by decide) (Zi 2 K3 (Zi 3 K3 (Zi 4 K3 (Zi 5 K3 Ze)))) J hw (fun _ _=>trivial)) fun vg_2 _=>Qx (Zf9 1 60 J J J)<|Zd<|Za<|Zp<|Yp<|Qn (Zga 1 60 J J J J J) ?_
      exact Zhg (.inl J) hsc vg_2 _ (fun a w hs=>res0 hs results92) J trivial 1 (by rw [hI,←List.append_assoc]<;>rfl) J J J (Zi 2 K3 (Zi 3 K3 (Zi 4 K3 (Zi 5 K3 Ze))))
     ·exact Zl<|Xd 2 (Ya1 hpl (by first | (intro h9;omega) | (intro h9;simp_all))) K4 K10
    ·exact Yj K3<|Yj K3<|Yj K3<|Yj K3<|dt (Ql K3)<|Zd<|Za<|Yk J<|Zl<|Xd 2 (Ya1 hpl (by first | (intro h9;omega) | (intro h9;simp_all))) K4 K10
   ·exact Yj K3<|Yj K3<|dt (Ql K3)<|mv J<|Yj K3<|Yj K3<|Yj K3<|Yj K3<|dt (Ql K3)<|Zd<|Za<|Yk J<|Zl<|Xd 2 (Ya1 hpl (by first | (intro h9;omega) | (intro h9;simp_all))) K4 K10
 ·rintro k hI
  simp only [CA,NA]
  exact Zf<|dt (Mc (i:=1) K3 isAgg74 J)<|mv J<|dt (Pj (i:=6) K3 Xf Ym K4)<|dt (Pj (i:=7) K3 Xf Ym K4)<|dt (Oi (ivs:=[(0,_),(1,_),(2,_)]) J K6 (fun a w hs=>Zxi ((Zc J) a w hs)))<|tt (Ic (i:=9) (ivs:=[(0,_)]) (enc:=Fr) [(k,a,b)] J J K2 Ad ti79 J J (Ycn _ _ _ _ _ _ _ _ _ _ _ _ _ _ _ _ _ _) J J pP9.cells J J hw) fun v _=>tt (Ho (i:=60) (j:=9) (by_:=104) J J J J J J (by decide) J (Yu pP9) Ad ti79 J pP9 J J J (by rw [hI]at hln;simp at hln ⊢;omega) (by decide) J hw) fun v_2 _=>tt (t_st1 (i:=1) J J J J J (by decide) sizeOf74 (Zj (i:=60) J (Yu pP9)) J hw trivial) fun _ _=>Zd<|Qn (Zga 1 60 J J J J J)<|Zhg (.inr J) hsc v_2 _ (fun a w hs=>res0 hs results92) J trivial 1 (by rw [hI]<;>rfl) J J J (Zi 2 K3 (Zi 3 K3 (Zi 4 K3 (Zi 5 K3 Ze))))
theorem Zu6(bp bs bf bo:Nat)(v:Value)(xs:List Int)(hd:Cvd xs):∀(f:Nat) (vo:Value) (os:List PTs) (a b:R2) (d:Nat) (hdf:d+f=4) (ha:Ef a) (hb:Ef b) (hln:os.length+(prv xs f a b).length≤1000000),Zp8 Tryz.prog 92 #[.agg #[.bool (decide (a.1<0)),.string (Xk a.1.natAbs),.bool (decide (a.2<0)),.string (Xk a.2.natAbs)],.agg #[.bool (decide (b.1<0)),.string (Xk b.1.natAbs),.bool (decide (b.2<0)),.string (Xk b.2.natAbs)],.int .i64 (d:Int),.pointer (some ⟨bp,0,none⟩),.pointer (some ⟨bs,0,none⟩),.pointer (some ⟨bf,0,none⟩),.pointer (some ⟨bo,0,none⟩)] [Df bp 23 #[v],Pw 2 wv v xs,Df bs 102 #[.int .i64 0],Df bf 127 #[.func (.func 92) #[] #[.pointer (some ⟨bp,0,none⟩),.pointer (some ⟨bs,0,none⟩),.pointer (some ⟨bf,0,none⟩),.pointer (some ⟨bo,0,none⟩)]]] (gb bo 74 9 79 Fr vo os) (G:=Value) (fun _=>True) (fun _=> .tuple #[]) (fun g=>gb bo 74 9 79 Fr g (os ++ prv xs f a b))
 | 0,vo,os,a,b,d,hdf,ha,hb,hln=>Zf7 bp bs bf bo v xs hd 0 (fun f' h=>absurd h (by omega)) vo os a b d hdf ha hb hln
 | f+1,vo,os,a,b,d,hdf,ha,hb,hln=>Zf7 bp bs bf bo v xs hd (f+1) (fun f' h=>(show f=f' by omega)▸Zu6 bp bs bf bo v xs hd f) vo os a b d hdf ha hb hln
theorem Zqs(v:Value)(xs:List Int)(a b:R2)(hd:Cvd xs)(ha:E32 a)(hb:E32 b)(hc:¬0<Iz a b)(hn:Bj (Qq xs) (Gz xs) a b=false):Cal prog 38 #[v,rX a.1 a.2,rX b.1 b.2] [Pw 2 wv v xs] true (G:=Value) (fun r=>True) (fun r=> .tuple #[r,.int .i64 0]) (fun r=>[Pw 9 Fr r (prv xs 4 a b)]):=by
 refine Yg func38 J ntmps38 J K1 fun w0 sc hw hsc=>?_
 simp only [Zs,Zq]
 refine Ziw (Na 1 J Zg) (fun sv hsv=>?_)
 subst hsv
 have ha1:=ha.b1
 have ha2:=ha.b2
 have hap:=ha.p
 have hb1:=hb.b1
 have hb2:=hb.b2
 have hbp:=hb.p
 have hpl4:=Zoo xs 4 a b
 refine Zb<|Zf<|tt (Xp (i:=2) K5 hw) fun bx _=>tt (Xp (i:=3) K5 hw) fun bx_2 _=>tt (Xp (i:=4) K5 hw) fun bx_3 _=>Zo J<|Zo J<|Zd<|Za<|Zb<|Zf<|dt (Mc (i:=2) K3 isAgg23 J)<|dt (Pj (i:=3) K3 Xf Ym K4)<|dt (Pj (i:=4) K3 Xf Ym K4)<|tt (Xv (n:=4) (Af _ xs a b hd ha hb hc hn) J J J K3 call21 (Zi 1 K3 Ze) J hw) fun _ _=>mv J<|dt (Xa K3)<|dt (Xa K3)<|dt (Xa K3)<|tt (Xi (i:=5) K2 zeroValue41 K2 hw) fun bx_4 _=>tt (Zt (i:=5) K6 Ym K2 ⟨Zc J,Zc J,Zc J,Zc J,trivial⟩ J hw trivial) fun _ _=>Zo J<|Zo J<|Zd<|Za<|Zb<|Zn<|Zb<|Zf<|mv J<|dt (dF (Pk K3) (vB (by decide)))<|Zo J<|Zd<|Za<|Yk J<|Zb<|Zf<|mv J<|Zo J<|Zd<|Za<|Yk J<|Zl<|Qh<|Za<|Zb<|Zf<|tt (Xi (i:=6) K2 zeroValue74 K2 hw) fun bx_5 _=>Zd<|Za<|Zb<|Zf<|tt (Xi (i:=7) K2 zeroValue102 K2 hw) fun bx_6 _=>Zd<|Za<|Zb<|Zf<|tt (Xi (i:=8) K2 zeroValue127 K2 hw) fun bx_7 _=>Zd<|Za<|Zb<|Zf<|dt (Yc3 (vs:=[]) (us:=[_,_,_,_]) J trivial K4) ?_
 refine tt (Zt (i:=8) K6 sizeOf127 K2 ⟨Zc J,trivial⟩ J hw trivial) fun _ _=>Zd<|Za<|Zb<|Zf<|dt (Mc (i:=8) K3 isAgg127 J)<|dt (Pj (i:=3) K3 Xf Ym K4)<|dt (Pj (i:=4) K3 Xf Ym K4)<|Qx (Nc 60 9 79 Fr)<|Qx (Zga 6 60 J J J J J)<|tt (Bn (i:=6) (fs:=[]) (vs:=[_,_,_]) (us:=[_,_,_,_]) (Zu6 _ _ _ _ _ xs hd 4 _ [] a b 0 J ha.ef hb.ef (by rw [List.length_nil];omega)) J J J J K3 call92 J J (by decide) (Ny 2 J J (Zi 1 K3 (Ny 7 J J (Ny 8 J J Ze)))) J hw (fun _ _=>trivial)) fun vg _=>Qx (Zf9 6 60 J J J)<|Zd<|Za<|Zb<|Qj (fun _=>False) [(0,0),(1,0),(2,0),(3,0),(4,3)] ?_ ?_
 ·kernel_rfl
 exact Zh K2 (Yo (Mc (i:=6) K3 isAgg74 J))<|Zh K2 (Yo (Qy K2 Ks J Ie K2))<|Zh K2 (Yo (Mc (i:=7) K3 Ee J))<|Zh K2 (Yo (Ok J J))<|Qs J (Pu (Ok J J) J) fun _ _=>Pv<|Za<|Zp<|Yr (.inl J) hsc _ _ (fun a w hs=>Pz hs results38 J J) J trivial J (Ng 60 J J pP9 (by rw [List.nil_append]<;>rfl) Zm)
end Go.Sky

