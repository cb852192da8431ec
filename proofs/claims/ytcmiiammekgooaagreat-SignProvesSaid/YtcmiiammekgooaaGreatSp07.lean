/- Rules, arithmetic and contracts: part 8. No conditions but those that each theorem names. -/
import Derived.Test.YtcmiiammekgooaaGreatSp06
set_option linter.all false
namespace Go.Sky
open Go.Proofs.Tryz
open Go.Proofs
set_option maxRecDepth 20000
set_option maxHeartbeats 4000000
set_option linter.unusedSimpArgs false
theorem Zes(v u:Value)(xs ys:List Int)(hv:Vp xs)(hu:Vp ys):Od prog 156 #[v,u] [Pw 2 wv v xs,Pw 2 wv u ys] (.tuple #[.bool (Yfw xs ys),.int .i64 (Bv xs ys)]):=by
 refine Yg func156 J ntmps156 J K2 fun w0 sc hw hsc=>?_
 simp only [Zs,Zq]
 have hlen:=hv.len
 have hlen2:=hu.len
 have hm1:=Oc hv.sz
 have hm2:=Oc hu.sz
 refine Zb<|Zf<|Zo J<|Zo J<|Zd<|Za<|Zb<|Zn<|Zb<|Zf<|mv J<|tt (Zy (n:=2) (Qt _ _ ‹_›) K4 Av (Zi 1 K3 Ze) J hw) fun _ _=>dt (Xh J J)<|mv J<|Zx (Ya K2) K2<|Pp (Zy (n:=2) (Qt _ _ ‹_›) K4 Av (Zi 2 K3 Ze) J hw) K3 fun _ _=>Zx (Xh J J) K2<|dt (Ql K3)<|Zo J<|Zd<|Za<|Yk J<|Zb<|Zf<|mv J<|dt (Yc J J (i:=2) J Zg Xn)<|dt (Hf K3)<|Zo J<|Zd<|Za<|Zr J (fun h297=>?_) (fun h297=>?_)
 ·exact Zb<|Zf<|Zo J<|Zo J<|Zd<|Za<|Zp<|Md<|Yp<|Yr (.inl J) hsc () _ (fun a w hs=>Pz hs results156 J J) (by unfold Bv Yfw;rw [if_pos (by omega),List.eq_nil_of_length_eq_zero (l:=ys) (by omega)];rfl) trivial J Zm
 ·refine Zb<|Zf<|mv J<|dt (Yc J J (i:=1) J Zg Xn)<|mv J<|dt (Yc J J (i:=2) J Zg Xn)<|dt (Pa K3)<|Zo J<|Zd<|Za<|Zr J (fun h299=>?_) (fun h299=>?_)
  ·exact Zb<|Zf<|Zo J<|Zo J<|Zd<|Za<|Zp<|Md<|Yp<|Yr (.inl J) hsc () _ (fun a w hs=>Pz hs results156 J J) (by rw [Zg2 (by omega),decide_eq_true (by omega)];unfold Bv;rw [if_neg (by omega),if_pos (by omega)]) trivial J Zm
  ·have hp3:(xs.length-ys.length+1)*(Pf ys+1)≤26*65537:=Nat.mul_le_mul (by omega) (by omega)
   have hp4:((xs.length:Int)-(ys.length:Int)+1)*((Pf ys:Int)+1)=(((xs.length-ys.length+1)*(Pf ys+1):Nat):Int):=by rw [Int.natCast_mul];congr 1;omega
   refine Zb<|Zf<|mv J<|tt (Zy (n:=2) (Lj _ _ (by first | exact hv.sz | exact hu.sz)) K4 Aw (Zi 1 K3 Ze) J hw) fun _ _=>mv J<|dt (Yc J J (i:=1) J Zg Xn)<|mv J<|dt (Yc J J (i:=2) J Zg Xn)<|dt (Pq K3)<|dt (Ov K3)<|mv J<|tt (Zy (n:=2) (Lj _ _ (by first | exact hv.sz | exact hu.sz)) K4 Aw (Zi 2 K3 Ze) J hw) fun _ _=>dt (Ov K3)<|dt (Eu J J J (by rw [hp4];exact⟨by omega,by omega⟩))<|dt (Ov K3 (by rw [hp4];exact⟨by omega,by omega⟩))<|dt (Fd K3)<|Zo J<|Zd<|Za<|Zr J (fun h301=>?_) (fun h301=>?_)
   ·exact Zb<|Zf<|Zo J<|Zo J<|Zd<|Za<|Zp<|Md<|Yp<|Yr (.inl J) hsc () _ (fun a w hs=>Pz hs results156 J J) (by rw [hp4]at h301;rw [Zg2 (by omega),decide_eq_false (by omega)];unfold Bv;rw [if_neg (by omega),if_neg (by omega),if_pos (by omega)]) trivial J Zm
   ·exact Zl<|Qh<|Za<|Zb<|Zf<|Zo J<|Zo J<|Zd<|Za<|Zp<|Yr (.inl J) hsc () _ (fun a w hs=>Pz hs results156 J J) (by rw [hp4]at h301;rw [Zg2 (by omega),decide_eq_false (by omega)];unfold Bv;rw [if_neg (by omega),if_neg (by omega),if_neg (by omega)]) trivial J Zm
theorem Zm1(v u:Value)(xs ys:List Int)(hv:Vp xs)(hu:Vp ys)(hd:Bv xs ys=0):Cal prog 155 #[v,u] [Pw 2 wv v xs,Pw 2 wv u ys] true (G:=Value) (fun r=>True) (fun r=> .tuple #[r,.int .i64 0]) (fun r=>[Pw 2 wv r (Pn xs ys)]):=by
 refine Yg func155 J ntmps155 J K2 fun w0 sc hw hsc=>?_
 simp only [Zs,Zq]
 have hlen:=hv.len
 have hlen2:=hu.len
 have hm1:=Oc hv.sz
 have hm2:=Oc hu.sz
 obtain⟨hm0,hF0⟩:=Zcg hd
 have hdl:=Zg2 (p:=xs) hm0
 refine Zb<|Zf<|Zo J<|Zo J<|Zd<|Za<|Zb<|Zf<|mv J<|mv J<|tt (Yf (n:=2) (Zes _ _ _ _ hv hu) K5 call156 (Zi 1 K3 (Zi 2 K3 Ze)) J hw) fun _ _=>mv J<|dt (Xa K3)<|dt (Xa K3)<|Zo J<|Zo J<|Zd<|Za<|Zb<|Zb<|Zf<|mv J<|dt (Pk K3)<|Zd<|Za<|Zr J (fun h310=>?_) (fun h310=>?_)
 ·exfalso;exact h310 hd
 ·refine Zl<|Za<|Zb<|Zf<|mv J<|tt (Znz (n:=3) (Zw4 _ _) J J J K1 call157 (Zi 1 K3 Ze) J hw) fun v _=>Zo J<|Zd<|Za<|Zb<|Zb<|Zf<|mv J<|Zd<|Za<|Mx J (fun h314=>?_) (fun h314=>?_)
  ·have hlt:xs.length<ys.length:=by rw [hdl]at h314;simpa using h314
   exact Zb<|Zf<|mv J<|Zo J<|Zo J<|Zd<|Za<|Zp<|Yp<|Yr (.inl J) hsc _ _ (fun a w hs=>Pz hs results155 J J) J trivial J (Ng 3 J J pV (by unfold Pn;rw [if_pos hlt]) Zm)
  ·have hge:ys.length≤xs.length:=by rw [hdl]at h314;simpa using h314
   have hF:=hF0 hge
   refine Zl<|Za<|Zb<|Zf<|tt (Xi (i:=4) K2 zeroValue167 K2 hw) fun b _=>Zd<|Za<|Zb<|Zf<|mv J<|mv J<|dt (Yc J J (i:=2) J Zg Xn)<|dt (Pq K3)<|dt (Nj (ii:=2) (i:=(ys.length-1)) K4 Zg Xn Yb)<|dt (Ms (ii:=2) 0 K3 Zg pV)<|tt (Xi (i:=5) K2 zeroValue31 K2 hw) fun b_2 _=>tt (Zt (i:=5) K6 Yb K2 ⟨Zc J,Zc J,trivial⟩ J hw trivial) fun _ _=>Zd<|Za<|Zb<|Zb<|Zf<|mv J<|dt (Yc J J (i:=1) J Zg Xn)<|dt (Pq K3)<|Zo J<|Zd<|Za<|Zn<|Px [(1,_),(8,_),(9,_),(10,_)] [(0,_),(1,_),(2,_),(4,_),(5,_)] (fun(j:Nat)=>[(11,.int .i64 ((xs.length:Int)-1-(j:Int)))]) (fun(j:Nat)=>[(3,Lf 2 31 wv v (Py xs ys j))]) (fun(j:Nat)=>j≤xs.length-ys.length+1) (fun(j:Nat)=>xs.length-ys.length+1-j) 0 (by first | omega | (dsimp only<;>omega)) ⟨by rw [show(xs.length:Int)-1-((0:Nat):Int)=(xs.length:Int)-1 by omega];rfl,rfl,rfl,rfl,rfl,trivial⟩ K6 ?_
   rintro j hj
   simp only [CA,NA]
   refine Zb<|Zb<|Zf<|mv J<|mv J<|dt (Yc J J (i:=2) J Zg Xn)<|dt (Pq K3)<|dt (Lh J J J)<|Zd<|Za<|Zr J (fun h319=>?_) (fun h319=>?_)
   ·obtain⟨hb1,hb2,hb3⟩:=rest_b hF (j:=j) (by omega)
    have hRl:=Ow xs ys j
    refine Zl<|Za<|Zb<|Zn<|Zb<|Zf<|mv J<|mv J<|dt (Nj (ii:=3) (i:=(xs.length-1-j)) K4 (Yu pV) Xn Yb)<|dt (Ms (ii:=3) 0 K3 (Yu pV) pV)<|tt (Xi (i:=6) K2 zeroValue31 K2 hw) fun b_3 _=>tt (Zt (i:=6) K6 Yb K2 ⟨Zc J,Zc J,trivial⟩ J hw trivial) fun _ _=>Zd<|Za<|Zb<|Zb<|Zf<|mv J<|dt (Yc J J (i:=3) J (Yu pV) Xn)<|mv J<|Zd<|Za<|Zn<|Px [(1,_),(8,_),(9,_),(10,_),(11,_),(12,_),(51,_)] [(0,_),(1,_),(2,_),(4,_),(5,_),(6,_)] (fun(i:Nat)=>[(52,.int .i64 (i:Int))]) (fun(i:Nat)=>[(3,Lf 2 31 wv v (Zit (Py xs ys j) (cf ys (ys.length-1)) i))]) (fun(i:Nat)=>i≤xs.length) (fun(i:Nat)=>xs.length-i) 0 (by first | omega | (dsimp only<;>omega)) K8 ⟨by rw [Zyh];rfl,rfl,rfl,rfl,rfl,rfl,rfl,trivial⟩ ?_
    rintro i hi
    simp only [CA,NA]
    have hg1:i<xs.length→(Zit (Py xs ys j) (cf ys (ys.length-1)) i).getD i 0=cf (Py xs ys j) i:=fun h=>Ybx (by omega)
    have hl1:=Zrt (Py xs ys j) (cf ys (ys.length-1)) i
    refine Zb<|Zf<|dt (Pa K3)<|Zd<|Za<|Zb<|Zr J (fun h322=>?_) (fun h322=>?_)
    ·refine Zl<|Za<|Zb<|Zn<|Zb<|Zf<|mv J<|Zo J<|Zd<|Za<|Qj (fun x=>x=b) [(0,0),(1,0),(2,0),(3,0),(4,0),(5,0),(6,0),(7,1),(8,0),(9,3)] ?_ ?_
     ·kernel_rfl
     exact Zh K2 (Ka 4 J (Ya K2))<|Zh K2 (Ka 4 J (Ya K2))<|Zh K2 (Ka 4 J (Ya K2))<|Zh K2 (Ka 4 J (Ya K2))<|Zh K2 (Ka 4 J (Nj (ii:=3) (i:=i) K4 (Yu pV) Xn Yb J))<|Zh K2 (Ka 4 J (Ms (ii:=3) 0 K3 (Yu pV) pV))<|Zh K2 (Ka 4 J (Qm (i:=5) K3 Xl Yb K2))<|Yq J (Nl (n:=6) (i:=4) (Cg _ _ _ (by rw [hg1 (by omega)];exact hb1 _) (hu.sz _) (by rw [hg1 (by omega)];exact hb2 _ _)) J J J K3 call153 J (by decide) Ze J hw J) fun _ _=>Zh K2 (Ka 4 J (Nj (ii:=3) (i:=i) K4 (Yu pV) Xn Yb J))<|Qs J (Ip (i:=3) (enc:=wv) _ J J J J J J pV J hw) fun _ _=>Pv<|Qh<|Za<|Zf<|dt (Ov K3)<|mv J<|Zd<|Xg (i+1) (by first | omega | (dsimp only<;>omega)) (by first | omega | (dsimp only<;>omega)) K8 ⟨by rw [←Ybw (by omega),←hg1 (by omega)];rfl,rfl,rfl,rfl,rfl,rfl,rfl,trivial⟩
    ·refine Yt<|Zv<|Zv<|Pd<|Za<|Zb ?_
     obtain rfl:i=xs.length:=by omega
     refine Zf<|mv J<|dt (Yc J J (i:=2) J Zg Xn)<|mv J<|Zd<|Za<|Zn<|Px [(1,_),(8,_),(9,_),(10,_),(11,_),(12,_),(65,_),(66,_)] [(0,_),(1,_),(2,_),(4,_),(5,_),(6,_)] (fun(i:Nat)=>[(67,.int .i64 (i:Int))]) (fun(i:Nat)=>[(3,Lf 2 31 wv v (Zl2 ys (Py xs ys j) (cf ys (ys.length-1)) (cf (Py xs ys j) (xs.length-1-j)) (xs.length-1-j-(ys.length-1)) i))]) (fun(i:Nat)=>i≤ys.length) (fun(i:Nat)=>ys.length-i) 0 (by first | omega | (dsimp only<;>omega)) K9 ⟨by rw [←Zxr,hRl];rfl,rfl,rfl,rfl,rfl,rfl,rfl,trivial⟩ ?_
     rintro i hi
     simp only [CA,NA]
     have hg2:i<ys.length→(Zl2 ys (Py xs ys j) (cf ys (ys.length-1)) (cf (Py xs ys j) (xs.length-1-j)) (xs.length-1-j-(ys.length-1)) i).getD ((xs.length-1-j-(ys.length-1))+i) 0=cf (Py xs ys j) ((xs.length-1-j-(ys.length-1))+i)*(cf ys (ys.length-1)):=fun h=>Zzu (by omega)
     have hl2:=Zrs ys (Py xs ys j) (cf ys (ys.length-1)) (cf (Py xs ys j) (xs.length-1-j)) (xs.length-1-j-(ys.length-1)) i
     refine Zb<|Zf<|dt (Pa K3)<|Zd<|Za<|Zb<|Zr J (fun h325=>?_) (fun h325=>?_)
     ·refine Zl<|Za<|Zb<|Zn<|Zb<|Zf<|mv J<|dt (Nj (ii:=2) K4 Zg Xn Yb J (by first | omega | (simp only [List.length_set];omega)))<|dt (Ms (ii:=2) 0 K3 Zg pV (by first | omega | (simp only [List.length_set];omega)))<|tt (Xi (i:=7) K2 zeroValue31 K2 hw) fun b_4 _=>Zo J<|tt (Zt (i:=7) K6 Yb K2 ⟨Zc J,Zc J,trivial⟩ J hw trivial) fun _ _=>Zd<|Za<|Zb<|Zf<|mv J<|mv J<|dt (Yc J J (i:=2) J Zg Xn)<|dt (Pq K3)<|dt (Pq K3)<|mv J<|dt (Ov K3)<|Zo J<|Zd<|Za<|Qj (fun x=>x=b) [(0,0),(1,0),(2,0),(3,0),(4,0),(5,0),(6,0),(7,0),(8,1),(9,1),(10,0),(11,3)] ?_ ?_
      ·kernel_rfl
      exact Zh K2 (Ka 4 J (Ya K2))<|Zh K2 (Ka 4 J (Ya K2))<|Zh K2 (Ka 4 J (Ya K2))<|Zh K2 (Ka 4 J (Ya K2))<|Zh K2 (Ka 4 J (Nj (ii:=3) (i:=((xs.length-1-j-(ys.length-1))+i)) K4 (Yu pV) Xn Yb))<|Zh K2 (Ka 4 J (Ms (ii:=3) 0 K3 (Yu pV) pV))<|Zh K2 (Ka 4 J (Qm (i:=6) K3 Xl Yb K2))<|Zh K2 (Ka 4 J (Qm (i:=7) K3 Xl Yb K2))<|Yq J (Nl (n:=7) (i:=4) (Cg _ _ _ (hb1 _) (hu.sz _) (hb2 _ _)) J J J K3 call153 J (by decide) Ze J hw J) fun _ _=>Yq J (Nl (n:=7) (i:=4) (Zt3 _ _ _ (by rw [hg2 (by omega)];exact hb2 _ _) (hb2 _ _) (by rw [hg2 (by omega)];exact hb3 _ _ _ _)) J J J K3 call137 J (by decide) Ze J hw J) fun _ _=>Zh K2 (Ka 4 J (Nj (ii:=3) (i:=((xs.length-1-j-(ys.length-1))+i)) K4 (Yu pV) Xn Yb))<|Qs J (Ip (i:=3) (enc:=wv) _ J J J J J J pV J hw) fun _ _=>Pv<|Qh<|Za<|Zf<|dt (Ov K3)<|mv J<|Zd<|Xg (i+1) (by first | omega | (dsimp only<;>omega)) (by first | omega | (dsimp only<;>omega)) K9 ⟨by rw [←Zzt (by omega),←hg2 (by omega)];rfl,rfl,rfl,rfl,rfl,rfl,rfl,trivial⟩
     ·refine Yt<|Zv<|Zv<|Pd<|Qh<|Za<|Zf<|mv J<|dt (Pq K3)<|Zo J<|Zd ?_
      obtain rfl:i=ys.length:=by omega
      exact Xg (j+1) (by first | omega | (dsimp only<;>omega)) (by first | omega | (dsimp only<;>omega)) ⟨by rw [show(xs.length:Int)-1-((j+1:Nat):Int)=(xs.length:Int)-1-(j:Int)-1 by omega];rfl,rfl,rfl,rfl,rfl,trivial⟩ ⟨by rfl,rfl,rfl,rfl,rfl,rfl,trivial⟩
   ·refine Yt<|Zv<|Zv<|Pd<|Za<|Zb ?_
    obtain rfl:j=xs.length-ys.length+1:=by omega
    exact Yl (Qw 3 J J pV)<|Zf<|mv J<|tt (Nl (n:=8) (i:=4) (Zdn _ _ _ (Zqh hF)) J J J K2 call154 J (by decide) (Zi 3 K3 Ze) J hw trivial) fun _ _=>dt (Xa K3)<|dt (Xa K3)<|Zo J<|Zo J<|Zd<|Za<|Zp<|Yr (.inl J) hsc _ _ (fun a w hs=>Pz hs results155 J J) J trivial J (Lg 8 K3 (by unfold Pn;rw [if_neg (by omega)]<;>rfl) Zm)
theorem Zc8(v u:Value)(xs ys:List Int)(hv:Vp xs)(hu:Vp ys)(hd:Bv xs ys=0):Cal prog 111 #[v,u] [Pw 2 wv v xs,Pw 2 wv u ys] true (G:=Value) (fun r=>True) (fun r=> .tuple #[r,.int .i64 (if pdv xs ys then 0 else 10)]) (fun r=>[Pw 2 wv r (if pdv xs ys then Kt xs ys else [])]):=by
 refine Yg func111 J ntmps111 J K2 fun w0 sc hw hsc=>?_
 simp only [Zs,Zq]
 have hlen:=hv.len
 have hlen2:=hu.len
 have hm1:=Oc hv.sz
 have hm2:=Oc hu.sz
 obtain⟨hm0,hF0⟩:=Zcg hd
 have hdl:=Zg2 (p:=xs) hm0
 have hyz:cf ys (ys.length-1)≠0:=hu.tr.mem (fun e=>hm0 (by rw [e];rfl))
 refine Zb<|Zf<|Zo J<|Zo J<|Zd<|Za<|Zb<|Zf<|mv J<|mv J<|tt (Yf (n:=2) (Zes _ _ _ _ hv hu) K5 call156 (Zi 1 K3 (Zi 2 K3 Ze)) J hw) fun _ _=>mv J<|dt (Xa K3)<|dt (Xa K3)<|Zo J<|Zo J<|Zd<|Za<|Zb<|Zn<|Zb<|Zf<|mv J<|dt (Pk K3)<|Zo J<|Zd<|Za<|Zr J (fun h337=>?_) (fun h337=>?_)
 ·exfalso;exact h337 hd
 ·refine Zb<|Zf<|mv J<|dt (Yc J J (i:=1) J Zg Xn)<|dt (Hf K3)<|Zo J<|Zd<|Za<|Zr J (fun h339=>?_) (fun h339=>?_)
  ·refine Zb<|Zf<|Zo J<|Zo J<|Zd<|Za<|Zp<|Md<|Yp ?_
   have hx0:xs=[]:=List.eq_nil_of_length_eq_zero (by omega)
   have hp:pdv xs ys:= .inl hx0
   exact Yr (.inl J) hsc _ _ (fun a w hs=>Pz hs results111 J J) (by rw [if_pos hp]) trivial J (Ii (by rw [if_pos hp,hx0];rfl) Zm)
  ·have hnx:xs≠[]:=fun e=>by rw [e]at h339;simp at h339
   refine Zb<|Zf<|mv J<|Zo J<|Zd<|Za<|Mx J (fun h341=>?_) (fun h341=>?_)
   ·have hlt:xs.length<ys.length:=by rw [hdl]at h341;simpa using h341
    refine Zb<|Zf<|Zo J<|Zo J<|Zd<|Za<|Zp<|Md<|Yp ?_
    have hp:¬pdv xs ys:=fun h=>by rcases h with h | h;(exact hnx h);(have:=h.1;omega)
    exact Yr (.inl J) hsc _ _ (fun a w hs=>Pz hs results111 J J) (by rw [if_neg hp]) trivial J (Ii (if_neg hp) Zm)
   ·have hge:ys.length≤xs.length:=by rw [hdl]at h341;simpa using h341
    have hF:=hF0 hge
    refine Zl<|Qh<|Za<|Zb<|Zf<|tt (Xi (i:=3) K2 zeroValue167 K2 hw) fun b _=>Zd<|Za<|Zb<|Zf<|mv J<|tt (Znz (n:=4) (Zw4 _ _) J J J K1 call157 (Zi 1 K3 Ze) J hw) fun v _=>Zo J<|Zd<|Za<|Zb<|Zf<|mv J<|dt (Yc J J (i:=1) J Zg Xn)<|mv J<|dt (Yc J J (i:=2) J Zg Xn)<|dt (Pq K3)<|dt (Ov K3)<|tt (Gh (i:=5) (n:=(xs.length-ys.length+1)) (by_:=24) (enc:=wv) 0 J J J J Xn ti31 J pV.cells pV.pos J J J hw) fun v_2 _=>Zo J<|Zd<|Za<|Zb<|Zb<|Zf<|mv J<|dt (Yc J J (i:=5) J (Yu pV) Xn)<|dt (Pq K3 ⟨by simp only [List.length_replicate];omega,by simp only [List.length_replicate];omega⟩)<|Zo J<|Zd<|Za<|Zn ?_
    refine Px [(1,_),(8,_),(9,_),(10,_)] [(0,_),(1,_),(2,_),(3,_)] (fun(j:Nat)=>[(11,.int .i64 ((xs.length:Int)-(ys.length:Int)-(j:Int)))]) (fun(j:Nat)=>[(4,Lf 2 31 wv v (Qr xs ys j)),(5,Lf 2 31 wv v_2 (Zdk xs ys j))]) (fun(j:Nat)=>(j≤xs.length-ys.length+1)∧(∀k,xs.length-ys.length<k+j→k≤xs.length-ys.length→Ll xs ys k)) (fun(j:Nat)=>xs.length-ys.length+1-j) 0 ⟨by first | omega | (dsimp only<;>omega),fun k h1 h2=>by omega⟩ ⟨by simp only [List.length_replicate];exact congrArg some (Zaw (by omega)),rfl,rfl,rfl,rfl,trivial⟩ ⟨J,by rw [Zng];rfl,rfl,rfl,rfl,rfl,trivial⟩ ?_
    rintro j ⟨hj,hx⟩
    simp only [CA,NA]
    have hol:=Zah xs ys j
    refine Zb<|Zb<|Zf<|mv J<|dt (Lh J J J)<|Zd<|Za<|Zr J (fun h347=>?_) (fun h347=>?_)
    ·obtain⟨hb1,hb5⟩:=div_b hF (j:=j) (by omega) hx
     have hRl:=Fp xs ys j
     have hi1:xs.length-ys.length-j+ys.length-1<xs.length:=by omega
     refine Zl<|Za<|Zb<|Zn<|Iy [(1,_),(8,_),(9,_),(10,_),(11,_)] [(0,_),(4,_),(5,_),(1,_),(2,_),(3,_)] (fun(q:Nat×Nat)=>[(12,.pointer (some ⟨q.1,0,none⟩)),(13,.pointer (some ⟨q.2,0,none⟩)),(14,.int .i64 0)]) (fun(q:Nat×Nat)=>[(97,box q.1 31 (wc (Zbl (dq ys (Qr xs ys j) (xs.length-ys.length-j))))),(98,box q.2 31 (wc (Zbl (cf (Qr xs ys j) ((xs.length-ys.length-j)+ys.length-1)%cf ys (ys.length-1)))))]) (fun(q:Nat×Nat)=>True) K5 K6 ?_ ?_
     ·refine Ni [2,4] [23]<|Zw (n:=10) [(0,0),(1,0),(2,0),(3,0),(4,0),(5,0),(6,0),(7,0),(8,0),(9,0),(10,0),(11,0),(12,0),(13,0)]<|Zh K2 (Yy (Ya K2) K2)<|Zh K2 (Yy (Ya K2) K2)<|Zh K2 (Yy (Ya K2) K2)<|Zh K2 (Yy (Yc J J (i:=2) J Zg Xn) K2)<|Zh K2 (Yy (Ov K3) K2)<|Zh K2 (Yy (Pq K3) K2)<|Zh K2 (Yy (Nj (ii:=4) (i:=((xs.length-ys.length-j)+ys.length-1)) K4 (Yu pV) Xn Yb) K2)<|Zh K2 (Yy (Ms (ii:=4) 0 K3 (Yu pV) pV) K2)<|Zh K2 (Yy (Ya K2) K2)<|Zh K2 (Yy (Ya K2) K2)<|Zh K2 (Yy (Yc J J (i:=2) J Zg Xn) K2)<|Zh K2 (Yy (Pq K3) K2)<|Zh K2 (Yy (Nj (ii:=2) (i:=(ys.length-1)) K4 Zg Xn Yb) K2)<|Zh K2 (Yy (Ms (ii:=2) 0 K3 Zg pV) K2)<|Yi<|Fu (n:=9) 14 19 20 ?_ ?_ ?_
      ·refine Yd J (Yf (n:=5) (Za1 _ _ (hb1 _) (hu.sz _) hyz) K5 call158 Ze J hw) fun _ _=>Zw (n:=5) [(15,0),(16,0),(17,0),(18,0)]<|Zh K2 (Yy (Ya K2) K2)<|Zh K2 (Yy (Xa K3) K2)<|Zh K2 (Yy (Xa K3) K2)<|Zh K2 (Yy (Xa K3) K2)<|Yi<|Qg (n:=4) 19 20 ?_ ?_
       ·exact Yd J (Xj (i:=97) K2 zeroValue31 K2 hw K2) fun b_2 ho=>Zw (n:=0) [(20,1),(21,1),(22,1),(23,3)]<|Yq J (Xj (i:=98) K2 zeroValue31 K2 hw K2) fun b_3 ho2=>Yq J (Zt (i:=97) K6 Yb K2 ⟨Zc J,Zc J,trivial⟩ J hw ho) fun _ _=>Yq J (Zt (i:=98) K6 Yb K2 ⟨Zc J,Zc J,trivial⟩ J hw ho2) fun _ _=>Qs J (Pu (Ok J J) J) fun _ _=>Yi<|Yh<|Xd (_,_) trivial K8 K8
       ·exact Yd J (Xj (i:=98) K2 zeroValue31 K2 hw K2) fun b_4 ho3=>Zw (n:=0) [(19,1),(21,1),(22,1),(23,3)]<|Yq J (Xj (i:=97) K2 zeroValue31 K2 hw K2) fun b_5 ho4=>Yq J (Zt (i:=97) K6 Yb K2 ⟨Zc J,Zc J,trivial⟩ J hw ho4) fun _ _=>Yq J (Zt (i:=98) K6 Yb K2 ⟨Zc J,Zc J,trivial⟩ J hw ho3) fun _ _=>Qs J (Pu (Ok J J) J) fun _ _=>Yi<|Yh<|Xd (_,_) trivial K8 K8
      ·refine Yd J (Xj (i:=97) K2 zeroValue31 K2 hw K2) fun b_6 ho5=>Qg (n:=8) 14 20 ?_ ?_
       ·exact Yd J (Yf (n:=5) (Za1 _ _ (hb1 _) (hu.sz _) hyz) K5 call158 Ze J hw) fun _ _=>Zw (n:=0) [(15,0),(16,0),(17,0),(18,0),(20,1),(21,1),(22,1),(23,3)]<|Zh K2 (Yy (Ya K2) K2)<|Zh K2 (Yy (Xa K3) K2)<|Zh K2 (Yy (Xa K3) K2)<|Zh K2 (Yy (Xa K3) K2)<|Yq J (Xj (i:=98) K2 zeroValue31 K2 hw K2) fun b_7 ho6=>Yq J (Zt (i:=97) K6 Yb K2 ⟨Zc J,Zc J,trivial⟩ J hw ho5) fun _ _=>Yq J (Zt (i:=98) K6 Yb K2 ⟨Zc J,Zc J,trivial⟩ J hw ho6) fun _ _=>Qs J (Pu (Ok J J) J) fun _ _=>Yi<|Yh<|Xd (_,_) trivial K8 K8
       ·exact Yd J (Xj (i:=98) K2 zeroValue31 K2 hw K2) fun b_8 ho7=>Zw (n:=0) [(14,1),(15,0),(16,0),(17,0),(18,0),(21,1),(22,1),(23,3)]<|Yq J (Yf (n:=5) (Za1 _ _ (hb1 _) (hu.sz _) hyz) K5 call158 Ze J hw) fun _ _=>Zh K2 (Yy (Ya K2) K2)<|Zh K2 (Yy (Xa K3) K2)<|Zh K2 (Yy (Xa K3) K2)<|Zh K2 (Yy (Xa K3) K2)<|Yq J (Zt (i:=97) K6 Yb K2 ⟨Zc J,Zc J,trivial⟩ J hw ho5) fun _ _=>Yq J (Zt (i:=98) K6 Yb K2 ⟨Zc J,Zc J,trivial⟩ J hw ho7) fun _ _=>Qs J (Pu (Ok J J) J) fun _ _=>Yi<|Yh<|Xd (_,_) trivial K8 K8
      ·refine Yd J (Xj (i:=98) K2 zeroValue31 K2 hw K2) fun b_9 ho8=>Qg (n:=8) 14 19 ?_ ?_
       ·exact Yd J (Yf (n:=5) (Za1 _ _ (hb1 _) (hu.sz _) hyz) K5 call158 Ze J hw) fun _ _=>Zw (n:=0) [(15,0),(16,0),(17,0),(18,0),(19,1),(21,1),(22,1),(23,3)]<|Zh K2 (Yy (Ya K2) K2)<|Zh K2 (Yy (Xa K3) K2)<|Zh K2 (Yy (Xa K3) K2)<|Zh K2 (Yy (Xa K3) K2)<|Yq J (Xj (i:=97) K2 zeroValue31 K2 hw K2) fun b_10 ho9=>Yq J (Zt (i:=97) K6 Yb K2 ⟨Zc J,Zc J,trivial⟩ J hw ho9) fun _ _=>Yq J (Zt (i:=98) K6 Yb K2 ⟨Zc J,Zc J,trivial⟩ J hw ho8) fun _ _=>Qs J (Pu (Ok J J) J) fun _ _=>Yi<|Yh<|Xd (_,_) trivial K8 K8
       ·exact Yd J (Xj (i:=97) K2 zeroValue31 K2 hw K2) fun b_11 ho10=>Zw (n:=0) [(14,1),(15,0),(16,0),(17,0),(18,0),(21,1),(22,1),(23,3)]<|Yq J (Yf (n:=5) (Za1 _ _ (hb1 _) (hu.sz _) hyz) K5 call158 Ze J hw) fun _ _=>Zh K2 (Yy (Ya K2) K2)<|Zh K2 (Yy (Xa K3) K2)<|Zh K2 (Yy (Xa K3) K2)<|Zh K2 (Yy (Xa K3) K2)<|Yq J (Zt (i:=97) K6 Yb K2 ⟨Zc J,Zc J,trivial⟩ J hw ho10) fun _ _=>Yq J (Zt (i:=98) K6 Yb K2 ⟨Zc J,Zc J,trivial⟩ J hw ho8) fun _ _=>Qs J (Pu (Ok J J) J) fun _ _=>Yi<|Yh<|Xd (_,_) trivial K8 K8
     ·rintro⟨b7,b8⟩ -
      simp only [CA,NA]
      refine Zb<|Zb<|Zf<|mv J<|dt (Pk K3)<|Zd<|Za<|Zr J (fun h349=>?_) (fun h349=>?_)
      ·exfalso;exact h349 rfl
      ·refine Zl<|Za<|Zb<|Zb<|Zf<|dt (Qm (i:=98) K3 Xl Yb K2)<|tt (Zy (n:=5) (Km _ (Ygc _)) K4 call104 Ze J hw) fun _ _=>dt (Pk K3)<|Zd<|Za<|Zr J (fun h352=>?_) (fun h352=>?_)
       ·have hne:¬Ll xs ys (xs.length-ys.length-j):=fun he=>h352 (by rw [Zsn hyz (hu.sz _),(Zg3 (by omega)).1 he];rfl)
        refine Zb<|Zf<|Zo J<|Zo J<|Zd<|Za<|Zp<|Yp<|Md<|Yp<|Yp<|Md<|Yp ?_
        have hp:¬pdv xs ys:=fun h=>by rcases h with h | h;(exact hnx h);(exact hne (h.2.1 _ (by omega)))
        exact Yr (.inl J) hsc _ _ (fun a w hs=>Pz hs results111 J J) (by rw [if_neg hp]) trivial J (Ii (if_neg hp) Zm)
       ·have hde:Ll xs ys (xs.length-ys.length-j):=(Zg3 (by omega)).2 (by have h0:=Decidable.byContradiction h352;rw [Zsn hyz (hu.sz _)]at h0;exact Int.sign_eq_zero_iff_zero.1 h0)
        obtain⟨hb2,hb3,hb4⟩:=hb5 hde
        refine Yl (Fc 97 (q:=box b7 31 (wc (dq ys (Qr xs ys j) (xs.length-ys.length-j)))) (by rw [Ma hb2]) J J)<|Zl<|Za<|Zb<|Zf<|mv J<|mv J<|dt (Qm (i:=97) K3 Xl Yb K2)<|dt (Nj (ii:=5) (i:=(xs.length-ys.length-j)) K4 (Yu pV) Xn Yb)<|tt (Ip (i:=5) (enc:=wv) _ J J J J J J pV J hw) fun _ _=>Zd<|Za<|Zb<|Zf<|mv J<|dt (Yc J J (i:=2) J Zg Xn)<|mv J<|Zd<|Za<|Zn<|Px [(1,_),(8,_),(9,_),(10,_),(11,_),(12,_),(78,_),(79,_)] [(0,_),(97,_),(98,_),(5,_),(1,_),(2,_),(3,_)] (fun(i:Nat)=>[(80,.int .i64 (i:Int))]) (fun(i:Nat)=>[(4,Lf 2 31 wv v (Zmd ys (Qr xs ys j) (dq ys (Qr xs ys j) (xs.length-ys.length-j)) (xs.length-ys.length-j) i))]) (fun(i:Nat)=>i≤ys.length) (fun(i:Nat)=>ys.length-i) 0 (by first | omega | (dsimp only<;>omega)) K9 ⟨by rw [←Zyz];rfl,rfl,rfl,rfl,rfl,rfl,rfl,rfl,trivial⟩ ?_
        rintro i hi
        simp only [CA,NA]
        have hg2:i<ys.length→(Zmd ys (Qr xs ys j) (dq ys (Qr xs ys j) (xs.length-ys.length-j)) (xs.length-ys.length-j) i).getD ((xs.length-ys.length-j)+i) 0=cf (Qr xs ys j) ((xs.length-ys.length-j)+i):=fun h=>Ycw (by omega)
        have hl2:=Zru ys (Qr xs ys j) (dq ys (Qr xs ys j) (xs.length-ys.length-j)) (xs.length-ys.length-j) i
        refine Zb<|Zf<|dt (Pa K3)<|Zd<|Za<|Zb<|Zr J (fun h356=>?_) (fun h356=>?_)
        ·refine Zl<|Za<|Zb<|Zn<|Zb<|Zf<|mv J<|dt (Nj (ii:=2) K4 Zg Xn Yb J (by first | omega | (simp only [List.length_set];omega)))<|dt (Ms (ii:=2) 0 K3 Zg pV (by first | omega | (simp only [List.length_set];omega)))<|tt (Xi (i:=6) K2 zeroValue31 K2 hw) fun b_12 _=>Zo J<|tt (Zt (i:=6) K6 Yb K2 ⟨Zc J,Zc J,trivial⟩ J hw trivial) fun _ _=>Zd<|Za<|Qj (fun x=>x=b) [(0,0),(1,0),(2,0),(3,0),(4,0),(5,0),(6,0),(7,0),(8,0),(9,0),(10,0),(11,0),(12,1),(13,1),(14,0),(15,3)] ?_ ?_
         ·kernel_rfl
         exact Zh K2 (Ka 3 J (Ya K2))<|Zh K2 (Ka 3 J (Ya K2))<|Zh K2 (Ka 3 J (Ya K2))<|Zh K2 (Ka 3 J (Ov K3))<|Zh K2 (Ka 3 J (Ya K2))<|Zh K2 (Ka 3 J (Ya K2))<|Zh K2 (Ka 3 J (Ya K2))<|Zh K2 (Ka 3 J (Ov K3))<|Zh K2 (Ka 3 J (Nj (ii:=4) (i:=((xs.length-ys.length-j)+i)) K4 (Yu pV) Xn Yb))<|Zh K2 (Ka 3 J (Ms (ii:=4) 0 K3 (Yu pV) pV))<|Zh K2 (Ka 3 J (Qm (i:=97) K3 Xl Yb K2))<|Zh K2 (Ka 3 J (Qm (i:=6) K3 Xl Yb K2))<|Yq J (Nl (n:=6) (i:=3) (Cg _ _ _ hb2 (hu.sz _) (hb3 _)) J J J K3 call153 J (by decide) Ze J hw J) fun _ _=>Yq J (Nl (n:=6) (i:=3) (Zt3 _ _ _ (by rw [hg2 (by omega)];exact hb1 _) (hb3 _) (by rw [hg2 (by omega)];exact hb4 _ _)) J J J K3 call137 J (by decide) Ze J hw J) fun _ _=>Zh K2 (Ka 3 J (Nj (ii:=4) (i:=((xs.length-ys.length-j)+i)) K4 (Yu pV) Xn Yb))<|Qs J (Ip (i:=4) (enc:=wv) _ J J J J J J pV J hw) fun _ _=>Pv<|Qh<|Za<|Zf<|dt (Ov K3)<|mv J<|Zd<|Xg (i+1) (by first | omega | (dsimp only<;>omega)) (by first | omega | (dsimp only<;>omega)) K9 ⟨by rw [←Ycv (by omega),←hg2 (by omega)];rfl,rfl,rfl,rfl,rfl,rfl,rfl,rfl,trivial⟩
        ·refine Yt<|Zv<|Zv<|Pd<|Qh<|Za<|Zf<|mv J<|dt (Pq K3)<|Zo J<|Zd ?_
         obtain rfl:i=ys.length:=by omega
         exact Xg (j+1) ⟨by first | omega | (dsimp only<;>omega),fun k h1 h2=>by rcases Nat.lt_or_ge (xs.length-ys.length) (k+j)with h3 | h3;(exact hx k h3 h2);(rw [show k=xs.length-ys.length-j by omega];exact hde)⟩ (by first | omega | (dsimp only<;>omega)) ⟨by rw [show(xs.length:Int)-(ys.length:Int)-((j+1:Nat):Int)=(xs.length:Int)-(ys.length:Int)-(j:Int)-1 by omega];rfl,rfl,rfl,rfl,rfl,trivial⟩ ⟨by rfl,by rw [←Zsa (by omega)];rfl,rfl,rfl,rfl,rfl,trivial⟩
    ·refine Yt<|Zv<|Zv<|Pd<|Za<|Zb<|Zb ?_
     obtain rfl:j=xs.length-ys.length+1:=by omega
     have hall:∀k,k≤xs.length-ys.length→Ll xs ys k:=fun k hk=>hx k (by omega) hk
     refine Yl (Qw 4 J J pV)<|Zf<|dt (Qy K2 Zfu J Zfo K2)<|dt (Qy K2 Zjy J Ie K2)<|dt (Mc (i:=3) K3 Ee J)<|dt (Hf K3)<|mv J<|Pb (d:=105) J (fun s360=>?_) (fun s360=>?_)
     ·refine Zx (Ya K2) K2<|Pp (Zy (n:=7) (Zd6 _ _ (Zzr hF hall)) K4 call152 (Zi 4 K3 Ze) J hw) K3 fun _ _=>Zx (Yc J J (i:=7) J Zg Xn) K2<|Zx (Fd K3) K2<|dt (Om K3)<|Zd<|Za<|Zr J (fun h360=>?_) (fun h360=>?_)
      ·refine Zb<|Zf<|Zo J<|Zo J<|Zd<|Za<|Zp<|Yp ?_
       have hp:¬pdv xs ys:=fun h=>by rcases h with h | h;(exact hnx h);(rw [h.2.2]at h360;simp at h360)
       exact Yr (.inl J) hsc _ _ (fun a w hs=>Pz hs results111 J J) (by rw [if_neg hp]) trivial J (Ii (if_neg hp) Zm)
      ·refine Zl<|Za<|Zb<|Yl (Qw 5 J J pV)<|Zf<|mv J<|tt (Nl (n:=8) (i:=3) (Zdn _ _ _ (Zut hF hall _)) J J J K2 call154 J (by decide) (Zi 5 K3 Ze) J hw trivial) fun _ _=>dt (Xa K3)<|dt (Xa K3)<|Zo J<|Zo J<|Zd<|Za<|Zp ?_
       have hp:pdv xs ys:= .inr ⟨hge,hall,List.eq_nil_of_length_eq_zero (by omega)⟩
       exact Yr (.inl J) hsc _ _ (fun a w hs=>Pz hs results111 J J) (by rw [if_pos hp]<;>rfl) trivial J (Lg 8 K3 (by rw [if_pos hp,Zkk hnx,←Zdj]<;>rfl) Zm)
     ·exfalso;exact s360 rfl
theorem Zor(v:Value)(xs:List Int)(x y z:Int)(hv:Vp xs)(hx:bl x.natAbs≤65536)(hy:bl y.natAbs≤65536)(hz:bl z.natAbs≤65536)(hz0:0<z)(hE:¬Zpp xs x y z):Cal prog 141 #[v,wv x,wv y,wv z] [Pw 2 wv v xs] true (G:=Value) (fun r=>True) (fun r=> .tuple #[r,.int .i64 0]) (fun r=>[Pw 2 wv r (Zau xs x y z)]):=by
 refine Yg func141 J ntmps141 J K1 fun w0 sc hw hsc=>?_
 simp only [Zs,Zq]
 have hlen:=hv.len
 refine Zb<|Zf<|tt (Xp (i:=2) K5 hw) fun b _=>tt (Xp (i:=3) K5 hw) fun b_2 _=>tt (Xp (i:=4) K5 hw) fun b_3 _=>Zo J<|Zo J<|Zd<|Za<|Zb<|Zb<|Zf<|mv J<|tt (Zy (n:=4) (Qt _ _ ‹_›) K4 Av (Zi 1 K3 Ze) J hw) fun _ _=>dt (Xh J J)<|mv J<|Zx (Qm (i:=2) K3 Xl Yb K2) K2<|Pp (Zy (n:=4) (Gb _ ‹_›) K4 Zey Ze J hw) K3 fun _ _=>Zx (Xh J J) K2<|dt (Ql K3)<|mv J<|Zx (Qm (i:=3) K3 Xl Yb K2) K2<|Pp (Zy (n:=4) (Gb _ ‹_›) K4 Zey Ze J hw) K3 fun _ _=>Zx (Xh J J) K2<|dt (Ql K3)<|mv J<|Zx (Qm (i:=4) K3 Xl Yb K2) K2<|Pp (Zy (n:=4) (Gb _ ‹_›) K4 Zey Ze J hw) K3 fun _ _=>Zx (Xh J J) K2<|dt (Ql K3)<|Zd<|Za<|Yk J<|Zl<|Za<|Zb<|Zb<|Zf<|dt (Qm (i:=4) K3 Xl Yb K2)<|tt (Zy (n:=4) (Km _ hz) K4 call104 Ze J hw) fun _ _=>dt (Ev J J J)<|Zd<|Za<|Zr J (fun h232=>?_) (fun h232=>?_)
 ·exfalso;have h2:=decide_eq_decide.1 (Bo z);omega
 ·refine Zl<|Za<|Zb<|Zb<|Zf<|mv J<|dt (Yc J J (i:=1) J Zg Xn)<|dt (Hf K3)<|Zd<|Za<|Zr J (fun h235=>?_) (fun h235=>?_)
  ·exact Zb<|Zf<|Zo J<|Zo J<|Zd<|Za<|Zp<|Yp<|Yr (.inl J) hsc _ _ (fun a w hs=>Pz hs results141 J J) J trivial J (Ii (by unfold Zau;rw [if_pos (by omega)]) Zm)
  ·have hne:xs≠[]:=fun e=>by rw [e]at h235;simp at h235
   have hm1:=Oc hv.sz
   have hsxy:Sz 65536 [x,y,z]:=Sz.of_mem (by intro q hq;simp at hq;rcases hq with rfl | rfl | rfl<;>assumption)
   have hm2:=Oc hsxy
   have hm3:(xs.length-1)*(Pf [x,y,z]+1)≤24*65537:=Nat.mul_le_mul (by omega) (by omega)
   have hm4:((xs.length:Int)-1)*((Pf [x,y,z]:Int)+1)=(((xs.length-1)*(Pf [x,y,z]+1):Nat):Int):=by rw [Int.natCast_mul];congr 1;omega
   refine Zl<|Za<|Zb<|Iy [(0,_),(5,_),(6,_),(7,_)] [(0,_),(1,_),(2,_),(3,_),(4,_)] (fun(_:Unit)=>[(55,.bool (decide ((65536:Int)<(Pf xs:Int)+((xs.length:Int)-1)*((Pf [x,y,z]:Int)+1)+8)))]) (fun(_:Unit)=>[]) (fun(_:Unit)=>True) K4 K5 ?_ ?_
   ·refine Fy (fun _=>False) []<|Zw (n:=8) [(0,0),(2,0),(3,0),(4,0),(5,0),(6,0),(7,0)]<|Zh K2 (Yo (Ya K2))<|Zh K2 (Yo (Ya K2))<|Zh K2 (Yo (Yc J J (i:=1) J Zg Xn))<|Zh K2 (Yo (Pq K3))<|Zh K2 (Yo (Qm (i:=2) K3 Xl Yb K2))<|Zh K2 (Yo (Qm (i:=3) K3 Xl Yb K2))<|Zh K2 (Yo (Qm (i:=4) K3 Xl Yb K2))<|Yi<|Qg (n:=7) 1 8 ?_ ?_
    ·exact Yd J (Zy (n:=4) (Lj _ _ (by first | exact hv.sz | exact hsxy)) K4 Aw (Zi 1 K3 Ze) J hw) fun _ _=>Zw (n:=0) [(8,1),(9,1),(10,0),(11,0),(12,0),(13,0),(14,0)]<|Yq J (Ic (i:=90) (ivs:=[(0,_),(1,_),(2,_)]) (enc:=wv) [x,y,z] J J K6 Zxp ti31 J J (fill3 _ _ _ _ _ _ _ _) J J pV.cells J J hw) fun v _=>Yq J (Zy (n:=4) (Lj _ _ (by first | exact hv.sz | exact hsxy)) K4 Aw (Qk 90 J J pV Ze) J hw) fun _ _=>Zh K2 (Yo (Ov K3))<|Zh K2 (Yo (Eu J J J (by rw [hm4];exact⟨by omega,by omega⟩)))<|Zh K2 (Yo (Ov K3 (by rw [hm4];exact⟨by omega,by omega⟩)))<|Zh K2 (Yo (Ov K3 (by rw [hm4];exact⟨by omega,by omega⟩)))<|Zh K2 (Yo (Fd K3))<|Yi<|Yh<|Xd () trivial K5 K5
    ·exact Yd J (Ic (i:=90) (ivs:=[(0,_),(1,_),(2,_)]) (enc:=wv) [x,y,z] J J K6 Zxp ti31 J J (fill3 _ _ _ _ _ _ _ _) J J pV.cells J J hw) fun v_2 _=>Zw (n:=0) [(1,1),(9,1),(10,0),(11,0),(12,0),(13,0),(14,0)]<|Yq J (Zy (n:=4) (Lj _ _ (by first | exact hv.sz | exact hsxy)) K4 Aw (Zi 1 K3 Ze) J hw) fun _ _=>Yq J (Zy (n:=4) (Lj _ _ (by first | exact hv.sz | exact hsxy)) K4 Aw (Qk 90 J J pV Ze) J hw) fun _ _=>Zh K2 (Yo (Ov K3))<|Zh K2 (Yo (Eu J J J (by rw [hm4];exact⟨by omega,by omega⟩)))<|Zh K2 (Yo (Ov K3 (by rw [hm4];exact⟨by omega,by omega⟩)))<|Zh K2 (Yo (Ov K3 (by rw [hm4];exact⟨by omega,by omega⟩)))<|Zh K2 (Yo (Fd K3))<|Yi<|Yh<|Xd () trivial K5 K5
   ·rintro _ -
    simp only [CA,NA]
    refine Zr J (fun h238=>?_) (fun h238=>?_)
    ·exfalso;exact hE ⟨hne,by rw [hm4]at h238;omega⟩
    ·have hF:Pf xs+(xs.length-1)*(Pf [x,y,z]+1)+8≤65536:=by rw [hm4]at h238;omega
     refine Zl<|Za<|Zb<|Zf<|tt (Xi (i:=5) K2 zeroValue167 K2 hw) fun b_4 _=>Zd<|Za<|Iy [(0,_),(5,_),(6,_),(7,_),(10,_)] [(0,_),(1,_),(2,_),(3,_),(4,_),(5,_)] (fun(q:Value×Nat)=>[(11,q.1),(12,.pointer (some ⟨q.2,0,none⟩))]) (fun(q:Value×Nat)=>[(70,Lf 2 31 wv q.1 (Kc xs x y z 0)),(98,box q.2 31 (wc 1))]) (fun(q:Value×Nat)=>True) K5 K6 ?_ ?_
     ·refine Fy (fun _=>False) [9,10]<|Zw (n:=5) [(0,0),(1,0),(2,0),(3,0),(4,0),(5,0)]<|Zh K2 (Yo (Ya K2))<|Zh K2 (Yo (Ya K2))<|Zh K2 (Yo (Yc J J (i:=1) J Zg Xn))<|Zh K2 (Yo (Pq K3))<|Zh K2 (Yo (Nj (ii:=1) (i:=(xs.length-1)) K4 Zg Xn Yb))<|Zh K2 (Yo (Ms (ii:=1) 0 K3 Zg pV))<|Yi<|Fu (n:=4) 6 7 8 ?_ ?_ ?_
      ·refine Yd J (Kp (i:=70) (ivs:=[(0,_)]) (enc:=wv) [cf xs (xs.length-1)] K4 Xn ti31 K5 pV.cells K2 hw) fun v_3 _=>Qg (n:=3) 7 8 ?_ ?_
       ·exact Yd J (Zy (n:=5) (Xw _ (by first | assumption | exact⟨by omega,by omega⟩)) K4 Fb Ze J hw) fun _ _=>Zw (n:=0) [(8,1),(9,3),(10,3)]<|Yq J (Xi (i:=98) K2 zeroValue31 K2 hw) fun b_5 _=>Qs J (Pu (Ok J J) J) fun _ _=>Qs J (Zt (i:=98) K6 Yb K2 ⟨Zc J,Zc J,trivial⟩ J hw trivial) fun _ _=>Yi<|Yh<|Xd (_,_) trivial K7 ⟨by rw [Ch];rfl,rfl,rfl,rfl,rfl,rfl,rfl,rfl,trivial⟩
       ·exact Yd J (Xi (i:=98) K2 zeroValue31 K2 hw) fun b_6 _=>Zw (n:=0) [(7,1),(9,3),(10,3)]<|Yq J (Zy (n:=5) (Xw _ (by first | assumption | exact⟨by omega,by omega⟩)) K4 Fb Ze J hw) fun _ _=>Qs J (Pu (Ok J J) J) fun _ _=>Qs J (Zt (i:=98) K6 Yb K2 ⟨Zc J,Zc J,trivial⟩ J hw trivial) fun _ _=>Yi<|Yh<|Xd (_,_) trivial K7 ⟨by rw [Ch];rfl,rfl,rfl,rfl,rfl,rfl,rfl,rfl,trivial⟩
      ·refine Yd J (Zy (n:=5) (Xw _ (by first | assumption | exact⟨by omega,by omega⟩)) K4 Fb Ze J hw) fun _ _=>Qg (n:=3) 6 8 ?_ ?_
       ·exact Yd J (Kp (i:=70) (ivs:=[(0,_)]) (enc:=wv) [cf xs (xs.length-1)] K4 Xn ti31 K5 pV.cells K2 hw) fun v_4 _=>Zw (n:=0) [(8,1),(9,3),(10,3)]<|Yq J (Xi (i:=98) K2 zeroValue31 K2 hw) fun b_7 _=>Qs J (Pu (Ok J J) J) fun _ _=>Qs J (Zt (i:=98) K6 Yb K2 ⟨Zc J,Zc J,trivial⟩ J hw trivial) fun _ _=>Yi<|Yh<|Xd (_,_) trivial K7 ⟨by rw [Ch];rfl,rfl,rfl,rfl,rfl,rfl,rfl,rfl,trivial⟩
       ·exact Yd J (Xi (i:=98) K2 zeroValue31 K2 hw) fun b_8 _=>Zw (n:=0) [(6,1),(9,3),(10,3)]<|Yq J (Kp (i:=70) (ivs:=[(0,_)]) (enc:=wv) [cf xs (xs.length-1)] K4 Xn ti31 K5 pV.cells K2 hw) fun v_5 _=>Qs J (Pu (Ok J J) J) fun _ _=>Qs J (Zt (i:=98) K6 Yb K2 ⟨Zc J,Zc J,trivial⟩ J hw trivial) fun _ _=>Yi<|Yh<|Xd (_,_) trivial K7 ⟨by rw [Ch];rfl,rfl,rfl,rfl,rfl,rfl,rfl,rfl,trivial⟩
      ·refine Yd J (Xi (i:=98) K2 zeroValue31 K2 hw) fun b_9 _=>Qg (n:=3) 6 7 ?_ ?_
       ·exact Yd J (Kp (i:=70) (ivs:=[(0,_)]) (enc:=wv) [cf xs (xs.length-1)] K4 Xn ti31 K5 pV.cells K2 hw) fun v_6 _=>Zw (n:=0) [(7,1),(9,3),(10,3)]<|Yq J (Zy (n:=5) (Xw _ (by first | assumption | exact⟨by omega,by omega⟩)) K4 Fb Ze J hw) fun _ _=>Qs J (Pu (Ok J J) J) fun _ _=>Qs J (Zt (i:=98) K6 Yb K2 ⟨Zc J,Zc J,trivial⟩ J hw trivial) fun _ _=>Yi<|Yh<|Xd (_,_) trivial K7 ⟨by rw [Ch];rfl,rfl,rfl,rfl,rfl,rfl,rfl,rfl,trivial⟩
       ·exact Yd J (Zy (n:=5) (Xw _ (by first | assumption | exact⟨by omega,by omega⟩)) K4 Fb Ze J hw) fun _ _=>Zw (n:=0) [(6,1),(9,3),(10,3)]<|Yq J (Kp (i:=70) (ivs:=[(0,_)]) (enc:=wv) [cf xs (xs.length-1)] K4 Xn ti31 K5 pV.cells K2 hw) fun v_7 _=>Qs J (Pu (Ok J J) J) fun _ _=>Qs J (Zt (i:=98) K6 Yb K2 ⟨Zc J,Zc J,trivial⟩ J hw trivial) fun _ _=>Yi<|Yh<|Xd (_,_) trivial K7 ⟨by rw [Ch];rfl,rfl,rfl,rfl,rfl,rfl,rfl,rfl,trivial⟩
     ·rintro⟨vo,b8⟩ -
      simp only [CA,NA]
      refine Zb<|Zb<|Zf<|mv J<|dt (Yc J J (i:=1) J Zg Xn)<|dt (Pq K3)<|Zo J<|Zd<|Za<|Zn<|Px [(0,_),(5,_),(6,_),(7,_),(10,_),(12,_)] [(0,_),(1,_),(2,_),(3,_),(4,_),(5,_)] (fun(q:Nat×Value)=>[(13,.int .i64 ((xs.length:Int)-2-(q.1:Int))),(11,q.2)]) (fun(q:Nat×Value)=>[(70,Lf 2 31 wv q.2 (Kc xs x y z q.1)),(98,box b8 31 (wc (z^q.1)))]) (fun(q:Nat×Value)=>q.1≤xs.length-1) (fun(q:Nat×Value)=>xs.length-1-q.1) (0,vo) (by first | omega | (dsimp only<;>omega)) ⟨by rw [show(xs.length:Int)-2-((0:Nat):Int)=(xs.length:Int)-2 by omega];rfl,rfl,rfl,rfl,rfl,rfl,rfl,rfl,trivial⟩ ⟨J,by rw [Int.pow_zero];rfl,rfl,rfl,rfl,rfl,rfl,rfl,trivial⟩ ?_
      rintro⟨j,vo⟩ hj
      dsimp only at hj
      simp only [CA,NA]
      refine Zb<|Zb<|Zf<|mv J<|dt (Lh J J J)<|Zd<|Za<|Zr J (fun h243=>?_) (fun h243=>?_)
      ·obtain⟨c1,c2,c3,c4,c5,c6,c7,c8,c9⟩:=cp_all hF (j:=j) (by omega)
       have hcl:=Zde xs x y z j
       refine Zl<|Za<|Zb<|Zn<|Zb<|Zf<|dt (Qm (i:=98) K3 Xl Yb K2)<|dt (Qm (i:=4) K3 Xl Yb K2)<|tt (Nl (n:=5) (i:=5) (Cg _ _ _ c1 hz (by rw [←Int.pow_succ];exact c2)) J J J K3 call153 J (by decide) Ze J hw trivial) fun _ _=>tt (Zt (i:=98) K6 Yb K2 ⟨Zc J,Zc J,trivial⟩ J hw trivial) fun _ _=>Zd<|Za<|Zb<|Zf<|mv J<|dt (Yc J J (i:=70) J (Yu pV) Xn)<|dt (Ov K3)<|tt (Gh (i:=71) (n:=((Kc xs x y z j).length+1)) (by_:=24) (enc:=wv) 0 J J J J Xn ti31 J pV.cells pV.pos J J J hw) fun v_8 _=>Zo J<|Zd<|Za<|Zb<|Zb<|Zf<|mv J<|dt (Yc J J (i:=70) J (Yu pV) Xn)<|mv J<|Zd<|Za<|Zn<|Px [(0,_),(5,_),(6,_),(7,_),(10,_),(12,_),(13,_),(14,_),(78,_),(79,_)] [(0,_),(70,_),(98,_),(1,_),(2,_),(3,_),(4,_),(5,_)] (fun(i:Nat)=>[(80,.int .i64 (i:Int))]) (fun(i:Nat)=>[(71,Lf 2 31 wv v_8 (cnx (Kc xs x y z j) x y i))]) (fun(i:Nat)=>i≤(Kc xs x y z j).length) (fun(i:Nat)=>(Kc xs x y z j).length-i) 0 (by first | omega | (dsimp only<;>omega)) K11 ⟨by rw [Yc8];rfl,rfl,rfl,rfl,rfl,rfl,rfl,rfl,rfl,trivial⟩ ?_
       rintro i hi
       simp only [CA,NA]
       have hg1:i<(Kc xs x y z j).length→(cnx (Kc xs x y z j) x y i).getD i 0=if i=0 then 0 else cf (Kc xs x y z j) (i-1)*y:=fun h=>Zwz h
       have hl1:=Gr (Kc xs x y z j) x y i
       refine Zb<|Zf<|dt (Pa K3)<|Zd<|Za<|Zb<|Zr J (fun h247=>?_) (fun h247=>?_)
       ·refine Zl<|Za<|Zb<|Zn<|Zb<|Zf<|mv J<|dt (Nj (ii:=70) K4 (Yu pV) Xn Yb J (by first | omega | (simp only [List.length_set];omega)))<|dt (Ms (ii:=70) 0 K3 (Yu pV) pV (by first | omega | (simp only [List.length_set];omega)))<|tt (Xi (i:=6) K2 zeroValue31 K2 hw) fun b_10 _=>Zo J<|tt (Zt (i:=6) K6 Yb K2 ⟨Zc J,Zc J,trivial⟩ J hw trivial) fun _ _=>Zd<|Za<|Zb<|Qj (fun x=>x=b_4) [(0,0),(1,0),(2,0),(3,0),(4,0),(5,0),(6,0),(7,0),(8,1),(9,1),(10,0),(11,3)] ?_ ?_
        ·kernel_rfl
        refine Zh K2 (Ka 5 J (Ya K2))<|Zh K2 (Ka 5 J (Ya K2))<|Zh K2 (Ka 5 J (Ya K2))<|Zh K2 (Ka 5 J (Ya K2))<|Zh K2 (Ka 5 J (Nj (ii:=71) (i:=i) K4 (Yu pV) Xn Yb J))<|Zh K2 (Ka 5 J (Ms (ii:=71) 0 K3 (Yu pV) pV))<|Zh K2 (Ka 5 J (Qm (i:=6) K3 Xl Yb K2))<|Zh K2 (Ka 5 J (Qm (i:=2) K3 Xl Yb K2))<|Yq J (Nl (n:=6) (i:=5) (Cg _ _ _ (c3 _) hx (c4 _)) J J J K3 call153 J (by decide) Ze J hw J) fun _ _=>Yq J (Nl (n:=6) (i:=5) (Zpl _ _ _ (by rw [hg1 (by omega)];exact c6 i) (c4 _) (by rw [hg1 (by omega)];exact c7 i)) J J J K3 call159 J (by decide) Ze J hw J) fun _ _=>Zh K2 (Ka 5 J (Nj (ii:=71) (i:=i) K4 (Yu pV) Xn Yb J))<|Qs J (Ip (i:=71) (enc:=wv) _ J J J J J J pV J hw) fun _ _=>Pv<|Za<|Zf<|mv J<|mv J<|dt (Ov K3)<|dt (Qm (i:=6) K3 Xl Yb K2)<|dt (Qm (i:=3) K3 Xl Yb K2)<|tt (Nl (n:=6) (i:=5) (Cg _ _ _ (c3 _) hy (c5 _)) J J J K3 call153 J (by decide) Ze J hw trivial) fun _ _=>dt (Nj (ii:=71) (i:=(i+1)) K4 (Yu pV) Xn Yb (by omega) (by rw [List.length_set];omega))<|tt (Ip (i:=71) (enc:=wv) _ J J J J J J pV J hw (by decide) (by rw [List.length_set];omega)) fun _ _=>Zd ?_
        exact Qh<|Za<|Zf<|dt (Ov K3)<|mv J<|Zd<|Xg (i+1) (by first | omega | (dsimp only<;>omega)) (by first | omega | (dsimp only<;>omega)) K11 ⟨by rw [←Yf7 (by omega)];rfl,rfl,rfl,rfl,rfl,rfl,rfl,rfl,rfl,trivial⟩
       ·refine Yt<|Zv<|Zv<|Pd<|Za<|Zb ?_
        obtain rfl:i=(Kc xs x y z j).length:=by omega
        have hg0:(cnx (Kc xs x y z j) x y (Kc xs x y z j).length).getD 0 0=cf (Kc xs x y z j) 0*x:=Zsl (by omega)
        refine Qj (fun x=>x=b_4) [(0,0),(1,0),(2,0),(3,0),(4,0),(5,0),(6,0),(7,0),(8,0),(9,1),(10,1),(11,0),(12,3)] ?_ ?_
        ·kernel_rfl
        refine Zh K2 (Ka 5 J (Ya K2))<|Zh K2 (Ka 5 J (Ya K2))<|Zh K2 (Ka 5 J (Nj (ii:=71) (i:=0) K4 (Yu pV) Xn Yb J))<|Zh K2 (Ka 5 J (Ms (ii:=71) 0 K3 (Yu pV) pV))<|Zh K2 (Ka 5 J (Ya K2))<|Zh K2 (Ka 5 J (Ya K2))<|Zh K2 (Ka 5 J (Nj (ii:=1) (i:=(xs.length-2-j)) K4 Zg Xn Yb))<|Zh K2 (Ka 5 J (Ms (ii:=1) 0 K3 Zg pV))<|Zh K2 (Ka 5 J (Qm (i:=98) K3 Xl Yb K2))<|Yq J (Nl (n:=6) (i:=5) (Cg _ _ _ (hv.sz _) (by rw [←Int.pow_succ];exact c2) (by rw [←Int.pow_succ];exact c8)) J J J K3 call153 J (by decide) Ze J hw J) fun _ _=>Yq J (Nl (n:=6) (i:=5) (Zpl _ _ _ (by rw [hg0];exact c4 0) (by rw [←Int.pow_succ];exact c8) (by rw [hg0,←Int.pow_succ];exact c9)) J J J K3 call159 J (by decide) Ze J hw J) fun _ _=>Zh K2 (Ka 5 J (Nj (ii:=71) (i:=0) K4 (Yu pV) Xn Yb J))<|Qs J (Ip (i:=71) (enc:=wv) _ J J J J J J pV J hw) fun _ _=>Pv<|Za<|Zf<|mv J<|Zo J<|Zd<|Qh<|Za<|Zf<|mv J<|dt (Pq K3)<|Zo J<|Zd<|Qn (s_move 71 70 J J J J) ?_
        exact Xg (j+1,_) (by first | omega | (dsimp only<;>omega)) (by first | omega | (dsimp only<;>omega)) ⟨by rw [show(xs.length:Int)-2-((j+1:Nat):Int)=(xs.length:Int)-2-(j:Int)-1 by omega];rfl,rfl,rfl,rfl,rfl,rfl,rfl,rfl,trivial⟩ ⟨by rw [Yf8 (by omega)];simp only [←Int.pow_succ];rfl,by rw [Int.pow_succ];rfl,rfl,rfl,rfl,rfl,rfl,rfl,trivial⟩
      ·refine Yt<|Zv<|Zv<|Pd<|Za<|Zb ?_
       obtain rfl:j=xs.length-1:=by omega
       exact Yl (Qw 70 J J pV)<|Zf<|mv J<|tt (Nl (n:=7) (i:=5) (Zdn _ _ _ (Yf5 hF)) J J J K2 call154 J (by decide) (Zi 70 K3 Ze) J hw trivial) fun _ _=>dt (Xa K3)<|dt (Xa K3)<|Zo J<|Zo J<|Zd<|Za<|Zp<|Yr (.inl J) hsc _ _ (fun a w hs=>Pz hs results141 J J) J trivial J (Lg 7 K3 (by unfold Zau;rw [if_neg (by omega)]<;>rfl) Zm)
theorem Zrb(v u:Value)(xs ys:List Int)(hv:Vp xs)(hu:Vp ys)(F:Nat)(hg:¬Znb xs ys)(hok:eok F (gA xs ys) (gB xs ys)):Cal prog 110 #[v,u] [Pw 2 wv v xs,Pw 2 wv u ys] true (G:=Value) (fun r=>True) (fun r=> .tuple #[r,.int .i64 0]) (fun r=>[Pw 2 wv r (Mp F xs ys)]):=by
 refine Yg func110 J ntmps110 J K2 fun w0 sc hw hsc=>?_
 simp only [Zs,Zq]
 have hlen:=hv.len
 have hlen2:=hu.len
 have hm1:=Oc hv.sz
 have hm2:=Oc hu.sz
 have hpx:=Yv xs
 have hpy:=Yv ys
 have hN2:(max xs.length ys.length+2)*(max xs.length ys.length+2)≤27*27:=Nat.mul_le_mul (by omega) (by omega)
 have hN3:(max xs.length ys.length+2)*(max xs.length ys.length+2)*(max (Pf xs) (Pf ys)+8)≤27*27*65544:=Nat.mul_le_mul hN2 (by omega)
 have hN4:(max (xs.length:Int) (ys.length:Int)+2)*(max (xs.length:Int) (ys.length:Int)+2)=(((max xs.length ys.length+2)*(max xs.length ys.length+2):Nat):Int):=by rw [Int.natCast_mul,show(((max xs.length ys.length+2):Nat):Int)=(max (xs.length:Int) (ys.length:Int)+2) by omega]
 have hN5:(max (xs.length:Int) (ys.length:Int)+2)*(max (xs.length:Int) (ys.length:Int)+2)*(max (Pf xs:Int) (Pf ys:Int)+8)=(((max xs.length ys.length+2)*(max xs.length ys.length+2)*(max (Pf xs) (Pf ys)+8):Nat):Int):=by rw [hN4,Int.natCast_mul ((max xs.length ys.length+2)*(max xs.length ys.length+2)),show((max (Pf xs) (Pf ys)+8:Nat):Int)=max (Pf xs:Int) (Pf ys:Int)+8 by omega]
 refine Zb<|Zf<|Zo J<|Zo J<|Zd<|Za<|Zb<|Zb<|Zf<|mv J<|tt (Zy (n:=2) (Qt _ _ ‹_›) K4 Av (Zi 1 K3 Ze) J hw) fun _ _=>dt (Xh J J)<|mv J<|Zx (Ya K2) K2<|Pp (Zy (n:=2) (Qt _ _ ‹_›) K4 Av (Zi 2 K3 Ze) J hw) K3 fun _ _=>Zx (Xh J J) K2<|dt (Ql K3)<|Zd<|Za<|Yk J<|Zl<|Za<|Zb<|Zb<|Zf<|mv J<|dt (Yc J J (i:=1) J Zg Xn)<|mv J<|dt (Yc J J (i:=2) J Zg Xn)<|dt (Zsi J J J)<|dt (Ov K3)<|Zo J<|Zd<|Za<|Iy [(0,_),(1,_)] [(0,_),(1,_),(2,_)] (fun(_:Unit)=>[(46,.bool (decide (Znb xs ys)))]) (fun(_:Unit)=>[]) (fun(_:Unit)=>True) K2 K3 ?_ ?_
 ·refine Zf<|mv J<|dt (Yc J J (i:=1) J Zg Xn)<|dt (Fd K3)<|mv J<|Pb (d:=29) J (fun s371=>?_) (fun s371=>?_)
  ·refine Zx (Ya K2) K2<|Zx (Yc J J (i:=2) J Zg Xn) K2<|Zx (Fd K3) K2<|dt (Om K3)<|mv J<|Pb (d:=34) J (fun s371_2=>?_) (fun s371_2=>?_)
   ·exact Zx (Ya K2) K2<|Zx (Ya K2) K2<|Zx (Eu J J J (by rw [hN4];exact⟨by omega,by omega⟩)) K2<|Zx (Ya K2) K2<|Pp (Zy (n:=2) (Lj _ _ (by first | exact hv.sz | exact hu.sz)) K4 Aw (Zi 1 K3 Ze) J hw) K3 fun _ _=>Zx (Ya K2) K2<|Pp (Zy (n:=2) (Lj _ _ (by first | exact hv.sz | exact hu.sz)) K4 Aw (Zi 2 K3 Ze) J hw) K3 fun _ _=>Zx (Zsi J J J) K2<|Zx (Ov K3) K2<|Zx (Eu J J J (by rw [hN5];exact⟨by omega,by omega⟩)) K2<|Zx (Fd K3) K2<|dt (Om K3)<|Zd<|Xd () trivial ⟨by first | (rw [hN5];exact congrArg some (vB (decide_eq_decide.2 ⟨fun h=>⟨by omega,by omega,by omega⟩,fun h=>by have:=h.2.2;omega⟩))) | exact congrArg some (vB (decide_eq_false (fun h=>by have h1:=h.1;have h2:=h.2.1;omega)).symm),rfl,rfl,trivial⟩ K3
   ·exact Yj K3<|Yj K3<|Yj K3<|Yj K3<|Yj K3<|Yj K3<|Yj K3<|Yj K3<|Yj K3<|Yj K3<|Yj K3<|dt (Ql K3)<|Zd<|Xd () trivial ⟨by first | (rw [hN5];exact congrArg some (vB (decide_eq_decide.2 ⟨fun h=>⟨by omega,by omega,by omega⟩,fun h=>by have:=h.2.2;omega⟩))) | exact congrArg some (vB (decide_eq_false (fun h=>by have h1:=h.1;have h2:=h.2.1;omega)).symm),rfl,rfl,trivial⟩ K3
  ·exact Yj K3<|Yj K3<|Yj K3<|dt (Ql K3)<|mv J<|Yj K3<|Yj K3<|Yj K3<|Yj K3<|Yj K3<|Yj K3<|Yj K3<|Yj K3<|Yj K3<|Yj K3<|Yj K3<|dt (Ql K3)<|Zd<|Xd () trivial ⟨by first | (rw [hN5];exact congrArg some (vB (decide_eq_decide.2 ⟨fun h=>⟨by omega,by omega,by omega⟩,fun h=>by have:=h.2.2;omega⟩))) | exact congrArg some (vB (decide_eq_false (fun h=>by have h1:=h.1;have h2:=h.2.1;omega)).symm),rfl,rfl,trivial⟩ K3
 ·rintro _ -
  simp only [CA,NA]
  refine Zr J (fun h371=>?_) (fun h371=>?_)
  ·exfalso;exact hg h371
  ·refine Zl<|Za<|Zb<|Zf<|mv J<|tt (Zy (n:=3) (Ku _ _ hv) K4 call150 (Zi 1 K3 Ze) J hw) fun _ _=>mv J<|dt (Xa K3)<|dt (Xa K3)<|Zo J<|Zo J<|Zd<|Za<|Zb<|Zb<|Zf<|mv J<|dt (Pk K3)<|Zd<|Za<|Zr J (fun h375=>?_) (fun h375=>?_)
   ·exfalso;exact h375 rfl
   ·refine Zl<|Za<|Zb<|Zf<|mv J<|tt (Zy (n:=4) (Ku _ _ hu) K4 call150 (Zi 2 K3 Ze) J hw) fun _ _=>mv J<|dt (Xa K3)<|dt (Xa K3)<|Zo J<|Zo J<|Zd<|Za<|Zb<|Zb<|Zf<|mv J<|dt (Pk K3)<|Zd<|Za<|Zr J (fun h379=>?_) (fun h379=>?_)
    ·exfalso;exact h379 rfl
    ·refine Zl<|Za<|Iy [] [(0,_),(1,_),(2,_),(3,_),(4,_)] (fun(q:Value×Value)=>[(7,q.1),(9,q.2)]) (fun(q:Value×Value)=>[(80,Pw 2 wv q.1 (gA xs ys)),(81,Pw 2 wv q.2 (gB xs ys))]) (fun(q:Value×Value)=>True) trivial K5 ?_ ?_
     ·refine Zb<|Zf<|mv J<|dt (Yc J J (i:=3) J Zg Xn)<|mv J<|dt (Yc J J (i:=4) J Zg Xn)<|dt (Pa K3)<|Zd<|Za<|Zr J (fun h382=>?_) (fun h382=>?_)
      ·exact Zf<|mv J<|mv J<|Zo J<|Zo J<|Zd<|Qn (Np 4 80 K3)<|Qn (Np 3 81 K3)<|Xd (_,_) trivial K2 ⟨by unfold gA;first | rw [if_pos (by omega)];rfl | rw [if_neg (by omega)];rfl,by unfold gB;first | rw [if_pos (by omega)];rfl | rw [if_neg (by omega)];rfl,rfl,rfl,rfl,rfl,rfl,trivial⟩
      ·exact Zl<|Qn (Np 3 80 K3)<|Qn (Np 4 81 K3)<|Xd (_,_) trivial K2 ⟨by unfold gA;first | rw [if_pos (by omega)];rfl | rw [if_neg (by omega)];rfl,by unfold gB;first | rw [if_pos (by omega)];rfl | rw [if_neg (by omega)];rfl,rfl,rfl,rfl,rfl,rfl,trivial⟩
     ·rintro⟨va,vb⟩ -
      simp only [CA,NA]
      refine Zb<|Zn<|Px [] [(0,_),(1,_),(2,_),(3,_),(4,_)] (fun(q:Value×Value×List Int×List Int×Nat)=>[(7,q.1),(9,q.2.1)]) (fun(q:Value×Value×List Int×List Int×Nat)=>[(80,Pw 2 wv q.1 q.2.2.1),(81,Pw 2 wv q.2.1 q.2.2.2.1)]) (fun(q:Value×Value×List Int×List Int×Nat)=>(Vp q.2.2.1)∧(Vp q.2.2.2.1)∧(eok q.2.2.2.2 q.2.2.1 q.2.2.2.1)∧(eu q.2.2.2.2 q.2.2.1 q.2.2.2.1=eu F (gA xs ys) (gB xs ys))) (fun(q:Value×Value×List Int×List Int×Nat)=>q.2.2.2.2) (va,vb,gA xs ys,gB xs ys,F) ⟨vp_gA hv hu,vp_gB hv hu,hok,J⟩ K2 K7 ?_
      rintro⟨va,vb,a,b,f⟩ ⟨hva,hvb,hok0,heu⟩
      dsimp only at hva hvb hok0 heu
      simp only [CA,NA]
      refine Zb<|Zb<|Zf<|mv J<|dt (Yc J J (i:=81) J Zg Xn)<|dt (Fd K3)<|Zd<|Za<|Zr J (fun h385=>?_) (fun h385=>?_)
      ·have hbn:b≠[]:=fun e=>by rw [e]at h385;simp at h385
       obtain⟨f1,rfl,hde,hok1,heu1⟩:=Zr7 hok0 hbn
       refine Zl<|Za<|Zn<|Zb<|Zf<|mv J<|mv J<|tt (Yf (n:=5) (Zm1 _ _ _ _ hva hvb hde) K5 call155 (Zi 80 K3 (Zi 81 K3 Ze)) J hw) fun _ _=>mv J<|dt (Xa K3)<|dt (Xa K3)<|Zo J<|Zo J<|Zd<|Za<|Zb<|Zb<|Zf<|mv J<|dt (Pk K3)<|Zd<|Za<|Zr J (fun h387=>?_) (fun h387=>?_)
       ·exfalso;exact h387 rfl
       ·refine Zl<|Za<|Zb<|Zb<|Zf<|mv J<|tt (Zy (n:=6) (Ku _ _ (Za2 hva hde)) K4 call150 (Zi 5 K3 Ze) J hw) fun _ _=>mv J<|dt (Xa K3)<|dt (Xa K3)<|Zo J<|Zo J<|Zd<|Za<|Zb<|Zf<|mv J<|dt (Pk K3)<|Zd<|Za<|Zr J (fun h390=>?_) (fun h390=>?_)
        ·exfalso;exact h390 rfl
        ·exact Zl<|Za<|Zf<|mv J<|mv J<|Zo J<|Zo J<|Zd<|Qh<|Qn (Np 81 80 K3)<|Qn (Np 6 81 K3)<|Xg (_,_,b,Yx (Pn a b),f1) ⟨hvb,Ij (Za2 hva hde),hok1,by rw [←heu1];exact heu⟩ (Nat.lt_succ_self f1) K2 K7
      ·obtain rfl:b=[]:=List.eq_nil_of_length_eq_zero (by omega)
       rw [Cf]at heu
       have hal:=hva.len
       refine Yt<|Zv<|Zv<|Pd<|Za<|Zb<|Zb<|Zf<|mv J<|dt (Yc J J (i:=80) J Zg Xn)<|dt (Fd K3)<|mv J<|Pb (d:=95) J (fun s395=>?_) (fun s395=>?_)
       ·refine Zx (Ya K2) K2<|Zx (Ya K2) K2<|Zx (Yc J J (i:=80) J Zg Xn) K2<|Zx (Pq K3) K2<|Zx (Nj (ii:=80) (i:=(a.length-1)) K4 Zg Xn Yb) K2<|Zx (Ms (ii:=80) 0 K3 Zg pV) K2<|Pp (Zy (n:=6) (Km _ (hva.sz _)) K4 call104 Ze J hw) K3 fun _ _=>Zx (Pa K3) K2<|dt (Om K3)<|Zd<|Za<|Zr J (fun h395=>?_) (fun h395=>?_)
        ·have hneg:a.length≠0∧cf a (a.length-1)<0:=⟨by omega,(Qu _).1 h395⟩
         exact Zb<|Zf<|mv J<|tt (Zy (n:=6) (Xw (-1) (by first | assumption | exact⟨by omega,by omega⟩)) K4 Fb Ze J hw) fun _ _=>tt (Yf (n:=7) (Ak _ _ (-1) hva (by decide) (Zcj hva.sz)) K5 call151 (Zi 80 K3 Ze) J hw) fun _ _=>dt (Xa K3)<|dt (Xa K3)<|Zo J<|Zo J<|Zd<|Za<|Zp<|Yp<|Yr (.inl J) hsc _ _ (fun a w hs=>Pz hs results110 J J) J trivial J (Lg 7 K3 (by unfold Mp Kk;rw [←heu,if_pos hneg]<;>rfl) Zm)
        ·refine Zl<|Za<|Zb<|Zf<|mv J<|Zo J<|Zo J<|Zd<|Za<|Zp ?_
         have hneg:¬(a.length≠0∧cf a (a.length-1)<0):=fun h=>by first | omega | exact absurd ((Qu (cf a (a.length-1))).2 h.2) ‹_›
         exact Yr (.inl J) hsc _ _ (fun a w hs=>Pz hs results110 J J) J trivial J (Lg 80 K3 (by unfold Mp Kk;rw [←heu,if_neg hneg]<;>rfl) Zm)
       ·refine Yj K3<|Yj K3<|Yj K3<|Yj K3<|Yj K3<|Yj K3<|Yj K3<|Yj K3<|dt (Ql K3)<|Zd<|Za<|Yk J<|Zl<|Za<|Zb<|Zf<|mv J<|Zo J<|Zo J<|Zd<|Za<|Zp ?_
        have hneg:¬(a.length≠0∧cf a (a.length-1)<0):=fun h=>by first | omega | exact absurd ((Qu (cf a (a.length-1))).2 h.2) ‹_›
        exact Yr (.inl J) hsc _ _ (fun a w hs=>Pz hs results110 J J) J trivial J (Lg 80 K3 (by unfold Mp Kk;rw [←heu,if_neg hneg]<;>rfl) Zm)
theorem Yew(v:Value)(l:List Int)(hl:∀x∈l,inI x)(hlen:l.length≤1000):Cal prog 108 #[v] [Pw 1 Eh v l] true (G:=Value) (fun r=>True) (fun r=> .tuple #[r,.int .i64 (if 25<(tzl l).length then 7 else 0)]) (fun r=>[Pw 2 wv r (if 25<(tzl l).length then []else tzl l)]):=by
 refine Yg func108 J ntmps108 J K1 fun w0 sc hw hsc=>?_
 simp only [Zs,Zq]
 have hsz:=Zfy hl
 refine Zb<|Zf<|Zo J<|Zo J<|Zd<|Za<|Zb<|Zf<|Zo J<|Zd<|Za<|Zb<|Zb<|Zf<|mv J<|dt (Yc J J (i:=1) J Zg Ol)<|mv J<|Zd<|Za<|Zn<|Yl (Nc 70 2 31 wv)<|Px [(7,_),(8,_)] [(0,_),(1,_)] (fun(q:Nat×Value)=>[(9,.int .i64 (q.1:Int)),(4,q.2)]) (fun(q:Nat×Value)=>[(70,Lf 2 31 wv q.2 (l.take q.1))]) (fun(q:Nat×Value)=>q.1≤l.length) (fun(q:Nat×Value)=>l.length-q.1) (0,.slice none 0 0) (by first | omega | (dsimp only<;>omega)) K4 K3 ?_
 rintro⟨k,vo⟩ hk
 dsimp only at hk
 simp only [CA,NA]
 have hlk:(l.take k).length=k:=by rw [List.length_take];omega
 refine Zb<|Zf<|dt (Pa K3)<|Zd<|Za<|Zb<|Zr J (fun h62=>?_) (fun h62=>?_)
 ·exact Zl<|Za<|Zb<|Zn<|Zb<|Zf<|dt (Nj (ii:=1) K4 Zg Ol zT3 J (by first | omega | (simp only [List.length_set];omega)))<|dt (Ms (ii:=1) 0 K3 Zg pZ (by first | omega | (simp only [List.length_set];omega)))<|Zo J<|Zd<|Za<|Zf<|mv J<|mv J<|tt (Zy (n:=1) (Xw _ (hl _ (Xc))) K4 Fb Ze J hw) fun _ _=>tt (Kp (i:=2) (ivs:=[(0,_)]) (enc:=wv) [l.getD k 0] K4 Xn ti31 K5 pV.cells K2 hw) fun v _=>tt (Ho (i:=70) (j:=2) (by_:=24) J J J J J J (by decide) J (Yu pV) Xn ti31 J pV J J J (by simp;omega) (by decide) J hw) fun v_2 _=>Zo J<|Zd<|Qh<|Za<|Zf<|dt (Ov K3)<|mv J<|Zd<|Xg (k+1,_) (by first | omega | (dsimp only<;>omega)) (by first | omega | (dsimp only<;>omega)) K4 ⟨by rw [Nw 0 _ _ (by omega)];rfl,rfl,rfl,trivial⟩
 ·refine Yt<|Zv<|Zv<|Pd<|Za<|Zb ?_
  obtain rfl:k=l.length:=by omega
  rw [List.take_length]
  refine Yl (Qw 70 J J pV)<|Zf<|mv J<|tt (Zy (n:=3) (Zd6 _ _ hsz) K4 call152 (Zi 70 K3 Ze) J hw) fun _ _=>Zo J<|Zd<|Za<|Zb<|Zb<|Zf<|mv J<|dt (Yc J J (i:=3) J Zg Xn)<|dt (Fd K3)<|Zd<|Za<|Zr J (fun h66=>?_) (fun h66=>?_)
  ·refine Zb<|Zf<|Zo J<|Zo J<|Zd<|Za<|Zp<|Yp ?_
   have h25:25<(tzl l).length:=by omega
   exact Yr (.inl J) hsc _ _ (fun a w hs=>Pz hs results108 J J) (by rw [if_pos h25]) trivial J (Ii (if_pos h25) Zm)
  ·refine Zl<|Za<|Zb<|Zf<|mv J<|Zo J<|Zo J<|Zd<|Za<|Zp ?_
   have h25:¬25<(tzl l).length:=by omega
   exact Yr (.inl J) hsc _ _ (fun a w hs=>Pz hs results108 J J) (by rw [if_neg h25]<;>rfl) trivial J (Lg 3 K3 (by rw [if_neg h25]<;>rfl) Zm)
end Go.Sky

