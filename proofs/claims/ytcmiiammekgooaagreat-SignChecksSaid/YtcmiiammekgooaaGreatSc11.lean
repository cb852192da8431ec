/- Rules, arithmetic and contracts: part 12. No conditions but those that each theorem names. -/
import Derived.Test.YtcmiiammekgooaaGreatSc10
set_option linter.all false
namespace Go.Sky
open Go.Proofs.Tryz
open Go.Proofs
set_option maxRecDepth 20000
set_option maxHeartbeats 4000000
set_option linter.unusedSimpArgs false
theorem Zet(v u:Value)(xs ys:List Int)(hv:Vp xs)(hu:Vp ys):On prog 156 #[v,u] [Px 2 wv v xs,Px 2 wv u ys] (.tuple #[.bool (Yfe xs ys),.int .i64 (Bp xs ys)]):=by
 refine Yi func156 J ntmps156 J K2 fun w0 sc hw hsc=>?_
 simp only [Zu,Zt]
 have hlen:=hv.len
 have hlen2:=hu.len
 have hm1:=Oi hv.sz
 have hm2:=Oi hu.sz
 refine Zb<|Ze<|Zp J<|Zp J<|Zc<|Za<|Zb<|Zo<|Zb<|Ze<|mv J<|tt (Zh (n:=2) (Qx _ _ ‹_›) J J J K1 Bq (Zd 1 J J J Zg) J hw) fun _ _=>dt (Xl J J)<|mv J<|Xh (Yd J J) J J<|Lz (Zh (n:=2) (Qx _ _ ‹_›) J J J K1 Bq (Zd 2 J J J Zg) J hw) J J J fun _ _=>Xh (Xl J J) J J<|dt (Yh J J J)<|Zp J<|Zc<|Za<|Yp J<|Zb<|Ze<|mv J<|dt (Yf J J (i:=2) J Zi Xx)<|dt (Pj J J J)<|Zp J<|Zc<|Za<|Zr J (fun h297=>?_) (fun h297=>?_)
 ·exact Zb<|Ze<|Zp J<|Zp J<|Zc<|Za<|Zq<|Nq<|Yn<|Yu (.inl J) hsc () _ (fun a w hs=>Og hs results156 J J) (by unfold Bp Yfe;rw [if_pos (by omega),List.eq_nil_of_length_eq_zero (l:=ys) (by omega)];rfl) trivial J Zm
 ·refine Zb<|Ze<|mv J<|dt (Yf J J (i:=1) J Zi Xx)<|mv J<|dt (Yf J J (i:=2) J Zi Xx)<|dt (Xv J J J)<|Zp J<|Zc<|Za<|Zr J (fun h299=>?_) (fun h299=>?_)
  ·exact Zb<|Ze<|Zp J<|Zp J<|Zc<|Za<|Zq<|Nq<|Yn<|Yu (.inl J) hsc () _ (fun a w hs=>Og hs results156 J J) (by rw [Zg3 (by omega),decide_eq_true (by omega)];unfold Bp;rw [if_neg (by omega),if_pos (by omega)]) trivial J Zm
  ·have hp3:(xs.length-ys.length+1)*(Pi ys+1)≤26*65537:=Nat.mul_le_mul (by omega) (by omega)
   have hp4:((xs.length:Int)-(ys.length:Int)+1)*((Pi ys:Int)+1)=(((xs.length-ys.length+1)*(Pi ys+1):Nat):Int):=by rw [Int.natCast_mul];congr 1;omega
   refine Zb<|Ze<|mv J<|tt (Zh (n:=2) (Ll _ _ (by first | exact hv.sz | exact hu.sz)) J J J K1 An (Zd 1 J J J Zg) J hw) fun _ _=>mv J<|dt (Yf J J (i:=1) J Zi Xx)<|mv J<|dt (Yf J J (i:=2) J Zi Xx)<|dt (Qd J J J)<|dt (Ys J J J)<|mv J<|tt (Zh (n:=2) (Ll _ _ (by first | exact hv.sz | exact hu.sz)) J J J K1 An (Zd 2 J J J Zg) J hw) fun _ _=>dt (Ys J J J)<|dt (Db J J J (by rw [hp4];exact⟨by omega,by omega⟩))<|dt (Ys J J J (by rw [hp4];exact⟨by omega,by omega⟩))<|dt (Pw J J J)<|Zp J<|Zc<|Za<|Zr J (fun h301=>?_) (fun h301=>?_)
   ·exact Zb<|Ze<|Zp J<|Zp J<|Zc<|Za<|Zq<|Nq<|Yn<|Yu (.inl J) hsc () _ (fun a w hs=>Og hs results156 J J) (by rw [hp4]at h301;rw [Zg3 (by omega),decide_eq_false (by omega)];unfold Bp;rw [if_neg (by omega),if_neg (by omega),if_pos (by omega)]) trivial J Zm
   ·exact Zk<|Qn<|Za<|Zb<|Ze<|Zp J<|Zp J<|Zc<|Za<|Zq<|Yu (.inl J) hsc () _ (fun a w hs=>Og hs results156 J J) (by rw [hp4]at h301;rw [Zg3 (by omega),decide_eq_false (by omega)];unfold Bp;rw [if_neg (by omega),if_neg (by omega),if_neg (by omega)]) trivial J Zm
theorem Zmt(v u:Value)(xs ys:List Int)(hv:Vp xs)(hu:Vp ys)(hd:Bp xs ys=0):Cal prog 155 #[v,u] [Px 2 wv v xs,Px 2 wv u ys] true (G:=Value) (fun r=>True) (fun r=> .tuple #[r,.int .i64 0]) (fun r=>[Px 2 wv r (Pr xs ys)]):=by
 refine Yi func155 J ntmps155 J K2 fun w0 sc hw hsc=>?_
 simp only [Zu,Zt]
 have hlen:=hv.len
 have hlen2:=hu.len
 have hm1:=Oi hv.sz
 have hm2:=Oi hu.sz
 obtain⟨hm0,hF0⟩:=Zb8 hd
 have hdl:=Zg3 (p:=xs) hm0
 refine Zb<|Ze<|Zp J<|Zp J<|Zc<|Za<|Zb<|Ze<|mv J<|mv J<|tt (Zh (n:=2) (Zet _ _ _ _ hv hu) J J J K2 call156 (Zd 1 J J J (Zd 2 J J J Zg)) J hw) fun _ _=>mv J<|dt (Zz J J J)<|dt (Zz J J J)<|Zp J<|Zp J<|Zc<|Za<|Zb<|Zb<|Ze<|mv J<|dt (Xz J J J)<|Zc<|Za<|Zr J (fun h310=>?_) (fun h310=>?_)
 ·exfalso;exact h310 hd
 ·refine Zk<|Za<|Zb<|Ze<|mv J<|tt (Zno (n:=3) (Zwr _ _) J J J K1 call157 (Zd 1 J J J Zg) J hw) fun v _=>Zp J<|Zc<|Za<|Zb<|Zb<|Ze<|mv J<|Zc<|Za<|Mf J (fun h314=>?_) (fun h314=>?_)
  ·have hlt:xs.length<ys.length:=by rw [hdl]at h314;simpa using h314
   exact Zb<|Ze<|mv J<|Zp J<|Zp J<|Zc<|Za<|Zq<|Yn<|Yu (.inl J) hsc _ _ (fun a w hs=>Og hs results155 J J) J trivial J (Nj 3 J J pV (by unfold Pr;rw [if_pos hlt]) Zm)
  ·have hge:ys.length≤xs.length:=by rw [hdl]at h314;simpa using h314
   have hF:=hF0 hge
   refine Zk<|Za<|Zb<|Ze<|tt (Zy (i:=4) J J zeroValue167 J J hw) fun b _=>Zc<|Za<|Zb<|Ze<|mv J<|mv J<|dt (Yf J J (i:=2) J Zi Xx)<|dt (Qd J J J)<|dt (Xc (ii:=2) (i:=(ys.length-1)) J J J J Zi Xx Ye)<|dt (Xr (ii:=2) 0 J J J Zi pV)<|tt (Zy (i:=5) J J zeroValue31 J J hw) fun b_2 _=>tt (Zl (i:=5) J J J J J J Ye J J ⟨Zf J,Zf J,trivial⟩ J hw trivial) fun _ _=>Zc<|Za<|Zb<|Zb<|Ze<|mv J<|dt (Yf J J (i:=1) J Zi Xx)<|dt (Qd J J J)<|Zp J<|Zc<|Za<|Zo<|Oc [(1,_),(8,_),(9,_),(10,_)] [(0,_),(1,_),(2,_),(4,_),(5,_)] (fun(j:Nat)=>[(11,.int .i64 ((xs.length:Int)-1-(j:Int)))]) (fun(j:Nat)=>[(3,Ld 2 31 wv v (Oe xs ys j))]) (fun(j:Nat)=>j≤xs.length-ys.length+1) (fun(j:Nat)=>xs.length-ys.length+1-j) 0 (by first | omega | (dsimp only<;>omega)) ⟨by rw [show(xs.length:Int)-1-((0:Nat):Int)=(xs.length:Int)-1 by omega];rfl,rfl,rfl,rfl,rfl,trivial⟩ K6 ?_
   rintro j hj
   simp only [CA,NA]
   refine Zb<|Zb<|Ze<|mv J<|mv J<|dt (Yf J J (i:=2) J Zi Xx)<|dt (Qd J J J)<|dt (Lg J J J)<|Zc<|Za<|Zr J (fun h319=>?_) (fun h319=>?_)
   ·obtain⟨hb1,hb2,hb3⟩:=rest_b hF (j:=j) (by omega)
    have hRl:=Oz xs ys j
    refine Zk<|Za<|Zb<|Zo<|Zb<|Ze<|mv J<|mv J<|dt (Xc (ii:=3) (i:=(xs.length-1-j)) J J J J (Xa pV) Xx Ye)<|dt (Xr (ii:=3) 0 J J J (Xa pV) pV)<|tt (Zy (i:=6) J J zeroValue31 J J hw) fun b_3 _=>tt (Zl (i:=6) J J J J J J Ye J J ⟨Zf J,Zf J,trivial⟩ J hw trivial) fun _ _=>Zc<|Za<|Zb<|Zb<|Ze<|mv J<|dt (Yf J J (i:=3) J (Xa pV) Xx)<|mv J<|Zc<|Za<|Zo<|Oc [(1,_),(8,_),(9,_),(10,_),(11,_),(12,_),(51,_)] [(0,_),(1,_),(2,_),(4,_),(5,_),(6,_)] (fun(i:Nat)=>[(52,.int .i64 (i:Int))]) (fun(i:Nat)=>[(3,Ld 2 31 wv v (Zim (Oe xs ys j) (cf ys (ys.length-1)) i))]) (fun(i:Nat)=>i≤xs.length) (fun(i:Nat)=>xs.length-i) 0 (by first | omega | (dsimp only<;>omega)) K8 ⟨by rw [Zx6];rfl,rfl,rfl,rfl,rfl,rfl,rfl,trivial⟩ ?_
    rintro i hi
    simp only [CA,NA]
    have hg1:i<xs.length→(Zim (Oe xs ys j) (cf ys (ys.length-1)) i).getD i 0=cf (Oe xs ys j) i:=fun h=>Ybh (by omega)
    have hl1:=Zrj (Oe xs ys j) (cf ys (ys.length-1)) i
    refine Zb<|Ze<|dt (Xv J J J)<|Zc<|Za<|Zb<|Zr J (fun h322=>?_) (fun h322=>?_)
    ·refine Zk<|Za<|Zb<|Zo<|Zb<|Ze<|mv J<|Zp J<|Zc<|Za<|Qs (fun x=>x=b) [(0,0),(1,0),(2,0),(3,0),(4,0),(5,0),(6,0),(7,1),(8,0),(9,3)] ?_ ?_
     ·kernel_rfl
     exact Zs J J (Ke 4 J (Yd J J))<|Zs J J (Ke 4 J (Yd J J))<|Zs J J (Ke 4 J (Yd J J))<|Zs J J (Ke 4 J (Yd J J))<|Zs J J (Ke 4 J (Xc (ii:=3) (i:=i) J J J J (Xa pV) Xx Ye J))<|Zs J J (Ke 4 J (Xr (ii:=3) 0 J J J (Xa pV) pV))<|Zs J J (Ke 4 J (Yb (i:=5) J J J Xs Ye J J))<|Xb J (Ns (n:=6) (i:=4) (Ca _ _ _ (by rw [hg1 (by omega)];exact hb1 _) (hu.sz _) (by rw [hg1 (by omega)];exact hb2 _ _)) J J J K3 call153 J (by decide) Zg J hw J) fun _ _=>Zs J J (Ke 4 J (Xc (ii:=3) (i:=i) J J J J (Xa pV) Xx Ye J))<|Po J (Im (i:=3) (enc:=wv) _ J J J J J J pV J hw) fun _ _=>Ob<|Qn<|Za<|Ze<|dt (Ys J J J)<|mv J<|Zc<|Xk (i+1) (by first | omega | (dsimp only<;>omega)) (by first | omega | (dsimp only<;>omega)) K8 ⟨by rw [←Ybg (by omega),←hg1 (by omega)];rfl,rfl,rfl,rfl,rfl,rfl,rfl,trivial⟩
    ·refine Yx<|Zx<|Zx<|Pd<|Za<|Zb ?_
     obtain rfl:i=xs.length:=by omega
     refine Ze<|mv J<|dt (Yf J J (i:=2) J Zi Xx)<|mv J<|Zc<|Za<|Zo<|Oc [(1,_),(8,_),(9,_),(10,_),(11,_),(12,_),(65,_),(66,_)] [(0,_),(1,_),(2,_),(4,_),(5,_),(6,_)] (fun(i:Nat)=>[(67,.int .i64 (i:Int))]) (fun(i:Nat)=>[(3,Ld 2 31 wv v (Zlr ys (Oe xs ys j) (cf ys (ys.length-1)) (cf (Oe xs ys j) (xs.length-1-j)) (xs.length-1-j-(ys.length-1)) i))]) (fun(i:Nat)=>i≤ys.length) (fun(i:Nat)=>ys.length-i) 0 (by first | omega | (dsimp only<;>omega)) K9 ⟨by rw [←Zxg,hRl];rfl,rfl,rfl,rfl,rfl,rfl,rfl,trivial⟩ ?_
     rintro i hi
     simp only [CA,NA]
     have hg2:i<ys.length→(Zlr ys (Oe xs ys j) (cf ys (ys.length-1)) (cf (Oe xs ys j) (xs.length-1-j)) (xs.length-1-j-(ys.length-1)) i).getD ((xs.length-1-j-(ys.length-1))+i) 0=cf (Oe xs ys j) ((xs.length-1-j-(ys.length-1))+i)*(cf ys (ys.length-1)):=fun h=>Zzh (by omega)
     have hl2:=Zri ys (Oe xs ys j) (cf ys (ys.length-1)) (cf (Oe xs ys j) (xs.length-1-j)) (xs.length-1-j-(ys.length-1)) i
     refine Zb<|Ze<|dt (Xv J J J)<|Zc<|Za<|Zb<|Zr J (fun h325=>?_) (fun h325=>?_)
     ·refine Zk<|Za<|Zb<|Zo<|Zb<|Ze<|mv J<|dt (Xc (ii:=2) J J J J Zi Xx Ye J (by first | omega | (simp only [List.length_set];omega)))<|dt (Xr (ii:=2) 0 J J J Zi pV (by first | omega | (simp only [List.length_set];omega)))<|tt (Zy (i:=7) J J zeroValue31 J J hw) fun b_4 _=>Zp J<|tt (Zl (i:=7) J J J J J J Ye J J ⟨Zf J,Zf J,trivial⟩ J hw trivial) fun _ _=>Zc<|Za<|Zb<|Ze<|mv J<|mv J<|dt (Yf J J (i:=2) J Zi Xx)<|dt (Qd J J J)<|dt (Qd J J J)<|mv J<|dt (Ys J J J)<|Zp J<|Zc<|Za<|Qs (fun x=>x=b) [(0,0),(1,0),(2,0),(3,0),(4,0),(5,0),(6,0),(7,0),(8,1),(9,1),(10,0),(11,3)] ?_ ?_
      ·kernel_rfl
      exact Zs J J (Ke 4 J (Yd J J))<|Zs J J (Ke 4 J (Yd J J))<|Zs J J (Ke 4 J (Yd J J))<|Zs J J (Ke 4 J (Yd J J))<|Zs J J (Ke 4 J (Xc (ii:=3) (i:=((xs.length-1-j-(ys.length-1))+i)) J J J J (Xa pV) Xx Ye))<|Zs J J (Ke 4 J (Xr (ii:=3) 0 J J J (Xa pV) pV))<|Zs J J (Ke 4 J (Yb (i:=6) J J J Xs Ye J J))<|Zs J J (Ke 4 J (Yb (i:=7) J J J Xs Ye J J))<|Xb J (Ns (n:=7) (i:=4) (Ca _ _ _ (hb1 _) (hu.sz _) (hb2 _ _)) J J J K3 call153 J (by decide) Zg J hw J) fun _ _=>Xb J (Ns (n:=7) (i:=4) (Ztx _ _ _ (by rw [hg2 (by omega)];exact hb2 _ _) (hb2 _ _) (by rw [hg2 (by omega)];exact hb3 _ _ _ _)) J J J K3 call137 J (by decide) Zg J hw J) fun _ _=>Zs J J (Ke 4 J (Xc (ii:=3) (i:=((xs.length-1-j-(ys.length-1))+i)) J J J J (Xa pV) Xx Ye))<|Po J (Im (i:=3) (enc:=wv) _ J J J J J J pV J hw) fun _ _=>Ob<|Qn<|Za<|Ze<|dt (Ys J J J)<|mv J<|Zc<|Xk (i+1) (by first | omega | (dsimp only<;>omega)) (by first | omega | (dsimp only<;>omega)) K9 ⟨by rw [←Zzg (by omega),←hg2 (by omega)];rfl,rfl,rfl,rfl,rfl,rfl,rfl,trivial⟩
     ·refine Yx<|Zx<|Zx<|Pd<|Qn<|Za<|Ze<|mv J<|dt (Qd J J J)<|Zp J<|Zc ?_
      obtain rfl:i=ys.length:=by omega
      exact Xk (j+1) (by first | omega | (dsimp only<;>omega)) (by first | omega | (dsimp only<;>omega)) ⟨by rw [show(xs.length:Int)-1-((j+1:Nat):Int)=(xs.length:Int)-1-(j:Int)-1 by omega];rfl,rfl,rfl,rfl,rfl,trivial⟩ ⟨by rfl,rfl,rfl,rfl,rfl,rfl,trivial⟩
   ·refine Yx<|Zx<|Zx<|Pd<|Za<|Zb ?_
    obtain rfl:j=xs.length-ys.length+1:=by omega
    exact Yo (Pg 3 J J pV)<|Ze<|mv J<|tt (Ns (n:=8) (i:=4) (Zdk _ _ _ (Zp8 hF)) J J J K2 call154 J (by decide) (Zd 3 J J J Zg) J hw trivial) fun _ _=>dt (Zz J J J)<|dt (Zz J J J)<|Zp J<|Zp J<|Zc<|Za<|Zq<|Yu (.inl J) hsc _ _ (fun a w hs=>Og hs results155 J J) J trivial J (Xe 8 J J J (by unfold Pr;rw [if_neg (by omega)]<;>rfl) Zm)
theorem Zc1(v u:Value)(xs ys:List Int)(hv:Vp xs)(hu:Vp ys)(hd:Bp xs ys=0):Cal prog 111 #[v,u] [Px 2 wv v xs,Px 2 wv u ys] true (G:=Value) (fun r=>True) (fun r=> .tuple #[r,.int .i64 (if pdv xs ys then 0 else 10)]) (fun r=>[Px 2 wv r (if pdv xs ys then Kt xs ys else [])]):=by
 refine Yi func111 J ntmps111 J K2 fun w0 sc hw hsc=>?_
 simp only [Zu,Zt]
 have hlen:=hv.len
 have hlen2:=hu.len
 have hm1:=Oi hv.sz
 have hm2:=Oi hu.sz
 obtain⟨hm0,hF0⟩:=Zb8 hd
 have hdl:=Zg3 (p:=xs) hm0
 have hyz:cf ys (ys.length-1)≠0:=hu.tr.mem (fun e=>hm0 (by rw [e];rfl))
 refine Zb<|Ze<|Zp J<|Zp J<|Zc<|Za<|Zb<|Ze<|mv J<|mv J<|tt (Zh (n:=2) (Zet _ _ _ _ hv hu) J J J K2 call156 (Zd 1 J J J (Zd 2 J J J Zg)) J hw) fun _ _=>mv J<|dt (Zz J J J)<|dt (Zz J J J)<|Zp J<|Zp J<|Zc<|Za<|Zb<|Zo<|Zb<|Ze<|mv J<|dt (Xz J J J)<|Zp J<|Zc<|Za<|Zr J (fun h337=>?_) (fun h337=>?_)
 ·exfalso;exact h337 hd
 ·refine Zb<|Ze<|mv J<|dt (Yf J J (i:=1) J Zi Xx)<|dt (Pj J J J)<|Zp J<|Zc<|Za<|Zr J (fun h339=>?_) (fun h339=>?_)
  ·refine Zb<|Ze<|Zp J<|Zp J<|Zc<|Za<|Zq<|Nq<|Yn ?_
   have hx0:xs=[]:=List.eq_nil_of_length_eq_zero (by omega)
   have hp:pdv xs ys:= .inl hx0
   exact Yu (.inl J) hsc _ _ (fun a w hs=>Og hs results111 J J) (by rw [if_pos hp]) trivial J (Ig (by rw [if_pos hp,hx0];rfl) Zm)
  ·have hnx:xs≠[]:=fun e=>by rw [e]at h339;simp at h339
   refine Zb<|Ze<|mv J<|Zp J<|Zc<|Za<|Mf J (fun h341=>?_) (fun h341=>?_)
   ·have hlt:xs.length<ys.length:=by rw [hdl]at h341;simpa using h341
    refine Zb<|Ze<|Zp J<|Zp J<|Zc<|Za<|Zq<|Nq<|Yn ?_
    have hp:¬pdv xs ys:=fun h=>by rcases h with h | h;(exact hnx h);(have:=h.1;omega)
    exact Yu (.inl J) hsc _ _ (fun a w hs=>Og hs results111 J J) (by rw [if_neg hp]) trivial J (Ig (if_neg hp) Zm)
   ·have hge:ys.length≤xs.length:=by rw [hdl]at h341;simpa using h341
    have hF:=hF0 hge
    refine Zk<|Qn<|Za<|Zb<|Ze<|tt (Zy (i:=3) J J zeroValue167 J J hw) fun b _=>Zc<|Za<|Zb<|Ze<|mv J<|tt (Zno (n:=4) (Zwr _ _) J J J K1 call157 (Zd 1 J J J Zg) J hw) fun v _=>Zp J<|Zc<|Za<|Zb<|Ze<|mv J<|dt (Yf J J (i:=1) J Zi Xx)<|mv J<|dt (Yf J J (i:=2) J Zi Xx)<|dt (Qd J J J)<|dt (Ys J J J)<|tt (Ge (i:=5) (n:=(xs.length-ys.length+1)) (by_:=24) (enc:=wv) 0 J J J J Xx ti31 J pV.cells pV.pos J J J hw) fun v_2 _=>Zp J<|Zc<|Za<|Zb<|Zb<|Ze<|mv J<|dt (Yf J J (i:=5) J (Xa pV) Xx)<|dt (Qd J J J ⟨by simp only [List.length_replicate];omega,by simp only [List.length_replicate];omega⟩)<|Zp J<|Zc<|Za<|Zo ?_
    refine Oc [(1,_),(8,_),(9,_),(10,_)] [(0,_),(1,_),(2,_),(3,_)] (fun(j:Nat)=>[(11,.int .i64 ((xs.length:Int)-(ys.length:Int)-(j:Int)))]) (fun(j:Nat)=>[(4,Ld 2 31 wv v (Qy xs ys j)),(5,Ld 2 31 wv v_2 (Zdf xs ys j))]) (fun(j:Nat)=>(j≤xs.length-ys.length+1)∧(∀k,xs.length-ys.length<k+j→k≤xs.length-ys.length→Ln xs ys k)) (fun(j:Nat)=>xs.length-ys.length+1-j) 0 ⟨by first | omega | (dsimp only<;>omega),fun k h1 h2=>by omega⟩ ⟨by simp only [List.length_replicate];exact congrArg some (Zb6 (by omega)),rfl,rfl,rfl,rfl,trivial⟩ ⟨J,by rw [Zm7];rfl,rfl,rfl,rfl,rfl,trivial⟩ ?_
    rintro j ⟨hj,hx⟩
    simp only [CA,NA]
    have hol:=Zaa xs ys j
    refine Zb<|Zb<|Ze<|mv J<|dt (Lg J J J)<|Zc<|Za<|Zr J (fun h347=>?_) (fun h347=>?_)
    ·obtain⟨hb1,hb5⟩:=div_b hF (j:=j) (by omega) hx
     have hRl:=Fm xs ys j
     have hi1:xs.length-ys.length-j+ys.length-1<xs.length:=by omega
     refine Zk<|Za<|Zb<|Zo<|Iz [(1,_),(8,_),(9,_),(10,_),(11,_)] [(0,_),(4,_),(5,_),(1,_),(2,_),(3,_)] (fun(q:Nat×Nat)=>[(12,.pointer (some ⟨q.1,0,none⟩)),(13,.pointer (some ⟨q.2,0,none⟩)),(14,.int .i64 0)]) (fun(q:Nat×Nat)=>[(97,box q.1 31 (wc (Zbf (dq ys (Qy xs ys j) (xs.length-ys.length-j))))),(98,box q.2 31 (wc (Zbf (cf (Qy xs ys j) ((xs.length-ys.length-j)+ys.length-1)%cf ys (ys.length-1)))))]) (fun(q:Nat×Nat)=>True) K5 K6 ?_ ?_
     ·refine Nm [2,4] [23]<|Ya (n:=10) [(0,0),(1,0),(2,0),(3,0),(4,0),(5,0),(6,0),(7,0),(8,0),(9,0),(10,0),(11,0),(12,0),(13,0)]<|Zs J J (Xm (Yd J J) K2)<|Zs J J (Xm (Yd J J) K2)<|Zs J J (Xm (Yd J J) K2)<|Zs J J (Xm (Yf J J (i:=2) J Zi Xx) K2)<|Zs J J (Xm (Ys J J J) K2)<|Zs J J (Xm (Qd J J J) K2)<|Zs J J (Xm (Xc (ii:=4) (i:=((xs.length-ys.length-j)+ys.length-1)) J J J J (Xa pV) Xx Ye) K2)<|Zs J J (Xm (Xr (ii:=4) 0 J J J (Xa pV) pV) K2)<|Zs J J (Xm (Yd J J) K2)<|Zs J J (Xm (Yd J J) K2)<|Zs J J (Xm (Yf J J (i:=2) J Zi Xx) K2)<|Zs J J (Xm (Qd J J J) K2)<|Zs J J (Xm (Xc (ii:=2) (i:=(ys.length-1)) J J J J Zi Xx Ye) K2)<|Zs J J (Xm (Xr (ii:=2) 0 J J J Zi pV) K2)<|Yl<|Dm (n:=9) 14 19 20 ?_ ?_ ?_
      ·refine Yj J (Zh (n:=5) (Zat _ _ (hb1 _) (hu.sz _) hyz) J J J K2 call158 Zg J hw) fun _ _=>Ya (n:=5) [(15,0),(16,0),(17,0),(18,0)]<|Zs J J (Xm (Yd J J) K2)<|Zs J J (Xm (Zz J J J) K2)<|Zs J J (Xm (Zz J J J) K2)<|Zs J J (Xm (Zz J J J) K2)<|Yl<|Pb (n:=4) 19 20 ?_ ?_
       ·exact Yj J (Zv (i:=97) J J zeroValue31 J J hw K2) fun b_2 ho=>Ya (n:=0) [(20,1),(21,1),(22,1),(23,3)]<|Xb J (Zv (i:=98) J J zeroValue31 J J hw K2) fun b_3 ho2=>Xb J (Zl (i:=97) J J J J J J Ye J J ⟨Zf J,Zf J,trivial⟩ J hw ho) fun _ _=>Xb J (Zl (i:=98) J J J J J J Ye J J ⟨Zf J,Zf J,trivial⟩ J hw ho2) fun _ _=>Po J (Od (Mb J J) J) fun _ _=>Yl<|Yk<|Xo (_,_) trivial K8 K8
       ·exact Yj J (Zv (i:=98) J J zeroValue31 J J hw K2) fun b_4 ho3=>Ya (n:=0) [(19,1),(21,1),(22,1),(23,3)]<|Xb J (Zv (i:=97) J J zeroValue31 J J hw K2) fun b_5 ho4=>Xb J (Zl (i:=97) J J J J J J Ye J J ⟨Zf J,Zf J,trivial⟩ J hw ho4) fun _ _=>Xb J (Zl (i:=98) J J J J J J Ye J J ⟨Zf J,Zf J,trivial⟩ J hw ho3) fun _ _=>Po J (Od (Mb J J) J) fun _ _=>Yl<|Yk<|Xo (_,_) trivial K8 K8
      ·refine Yj J (Zv (i:=97) J J zeroValue31 J J hw K2) fun b_6 ho5=>Pb (n:=8) 14 20 ?_ ?_
       ·exact Yj J (Zh (n:=5) (Zat _ _ (hb1 _) (hu.sz _) hyz) J J J K2 call158 Zg J hw) fun _ _=>Ya (n:=0) [(15,0),(16,0),(17,0),(18,0),(20,1),(21,1),(22,1),(23,3)]<|Zs J J (Xm (Yd J J) K2)<|Zs J J (Xm (Zz J J J) K2)<|Zs J J (Xm (Zz J J J) K2)<|Zs J J (Xm (Zz J J J) K2)<|Xb J (Zv (i:=98) J J zeroValue31 J J hw K2) fun b_7 ho6=>Xb J (Zl (i:=97) J J J J J J Ye J J ⟨Zf J,Zf J,trivial⟩ J hw ho5) fun _ _=>Xb J (Zl (i:=98) J J J J J J Ye J J ⟨Zf J,Zf J,trivial⟩ J hw ho6) fun _ _=>Po J (Od (Mb J J) J) fun _ _=>Yl<|Yk<|Xo (_,_) trivial K8 K8
       ·exact Yj J (Zv (i:=98) J J zeroValue31 J J hw K2) fun b_8 ho7=>Ya (n:=0) [(14,1),(15,0),(16,0),(17,0),(18,0),(21,1),(22,1),(23,3)]<|Xb J (Zh (n:=5) (Zat _ _ (hb1 _) (hu.sz _) hyz) J J J K2 call158 Zg J hw) fun _ _=>Zs J J (Xm (Yd J J) K2)<|Zs J J (Xm (Zz J J J) K2)<|Zs J J (Xm (Zz J J J) K2)<|Zs J J (Xm (Zz J J J) K2)<|Xb J (Zl (i:=97) J J J J J J Ye J J ⟨Zf J,Zf J,trivial⟩ J hw ho5) fun _ _=>Xb J (Zl (i:=98) J J J J J J Ye J J ⟨Zf J,Zf J,trivial⟩ J hw ho7) fun _ _=>Po J (Od (Mb J J) J) fun _ _=>Yl<|Yk<|Xo (_,_) trivial K8 K8
      ·refine Yj J (Zv (i:=98) J J zeroValue31 J J hw K2) fun b_9 ho8=>Pb (n:=8) 14 19 ?_ ?_
       ·exact Yj J (Zh (n:=5) (Zat _ _ (hb1 _) (hu.sz _) hyz) J J J K2 call158 Zg J hw) fun _ _=>Ya (n:=0) [(15,0),(16,0),(17,0),(18,0),(19,1),(21,1),(22,1),(23,3)]<|Zs J J (Xm (Yd J J) K2)<|Zs J J (Xm (Zz J J J) K2)<|Zs J J (Xm (Zz J J J) K2)<|Zs J J (Xm (Zz J J J) K2)<|Xb J (Zv (i:=97) J J zeroValue31 J J hw K2) fun b_10 ho9=>Xb J (Zl (i:=97) J J J J J J Ye J J ⟨Zf J,Zf J,trivial⟩ J hw ho9) fun _ _=>Xb J (Zl (i:=98) J J J J J J Ye J J ⟨Zf J,Zf J,trivial⟩ J hw ho8) fun _ _=>Po J (Od (Mb J J) J) fun _ _=>Yl<|Yk<|Xo (_,_) trivial K8 K8
       ·exact Yj J (Zv (i:=97) J J zeroValue31 J J hw K2) fun b_11 ho10=>Ya (n:=0) [(14,1),(15,0),(16,0),(17,0),(18,0),(21,1),(22,1),(23,3)]<|Xb J (Zh (n:=5) (Zat _ _ (hb1 _) (hu.sz _) hyz) J J J K2 call158 Zg J hw) fun _ _=>Zs J J (Xm (Yd J J) K2)<|Zs J J (Xm (Zz J J J) K2)<|Zs J J (Xm (Zz J J J) K2)<|Zs J J (Xm (Zz J J J) K2)<|Xb J (Zl (i:=97) J J J J J J Ye J J ⟨Zf J,Zf J,trivial⟩ J hw ho10) fun _ _=>Xb J (Zl (i:=98) J J J J J J Ye J J ⟨Zf J,Zf J,trivial⟩ J hw ho8) fun _ _=>Po J (Od (Mb J J) J) fun _ _=>Yl<|Yk<|Xo (_,_) trivial K8 K8
     ·rintro⟨b7,b8⟩ -
      simp only [CA,NA]
      refine Zb<|Zb<|Ze<|mv J<|dt (Xz J J J)<|Zc<|Za<|Zr J (fun h349=>?_) (fun h349=>?_)
      ·exfalso;exact h349 rfl
      ·refine Zk<|Za<|Zb<|Zb<|Ze<|dt (Yb (i:=98) J J J Xs Ye J J)<|tt (Zh (n:=5) (Ko _ (Yft _)) J J J K1 call104 Zg J hw) fun _ _=>dt (Xz J J J)<|Zc<|Za<|Zr J (fun h352=>?_) (fun h352=>?_)
       ·have hne:¬Ln xs ys (xs.length-ys.length-j):=fun he=>h352 (by rw [Zsg hyz (hu.sz _),(Zg4 (by omega)).1 he];rfl)
        refine Zb<|Ze<|Zp J<|Zp J<|Zc<|Za<|Zq<|Yn<|Nq<|Yn<|Yn<|Nq<|Yn ?_
        have hp:¬pdv xs ys:=fun h=>by rcases h with h | h;(exact hnx h);(exact hne (h.2.1 _ (by omega)))
        exact Yu (.inl J) hsc _ _ (fun a w hs=>Og hs results111 J J) (by rw [if_neg hp]) trivial J (Ig (if_neg hp) Zm)
       ·have hde:Ln xs ys (xs.length-ys.length-j):=(Zg4 (by omega)).2 (by have h0:=Decidable.byContradiction h352;rw [Zsg hyz (hu.sz _)]at h0;exact Int.sign_eq_zero_iff_zero.1 h0)
        obtain⟨hb2,hb3,hb4⟩:=hb5 hde
        refine Yo (Gz 97 (q:=box b7 31 (wc (dq ys (Qy xs ys j) (xs.length-ys.length-j)))) (by rw [Mg hb2]) J J)<|Zk<|Za<|Zb<|Ze<|mv J<|mv J<|dt (Yb (i:=97) J J J Xs Ye J J)<|dt (Xc (ii:=5) (i:=(xs.length-ys.length-j)) J J J J (Xa pV) Xx Ye)<|tt (Im (i:=5) (enc:=wv) _ J J J J J J pV J hw) fun _ _=>Zc<|Za<|Zb<|Ze<|mv J<|dt (Yf J J (i:=2) J Zi Xx)<|mv J<|Zc<|Za<|Zo<|Oc [(1,_),(8,_),(9,_),(10,_),(11,_),(12,_),(78,_),(79,_)] [(0,_),(97,_),(98,_),(5,_),(1,_),(2,_),(3,_)] (fun(i:Nat)=>[(80,.int .i64 (i:Int))]) (fun(i:Nat)=>[(4,Ld 2 31 wv v (Zl3 ys (Qy xs ys j) (dq ys (Qy xs ys j) (xs.length-ys.length-j)) (xs.length-ys.length-j) i))]) (fun(i:Nat)=>i≤ys.length) (fun(i:Nat)=>ys.length-i) 0 (by first | omega | (dsimp only<;>omega)) K9 ⟨by rw [←Zyn];rfl,rfl,rfl,rfl,rfl,rfl,rfl,rfl,trivial⟩ ?_
        rintro i hi
        simp only [CA,NA]
        have hg2:i<ys.length→(Zl3 ys (Qy xs ys j) (dq ys (Qy xs ys j) (xs.length-ys.length-j)) (xs.length-ys.length-j) i).getD ((xs.length-ys.length-j)+i) 0=cf (Qy xs ys j) ((xs.length-ys.length-j)+i):=fun h=>Ycf (by omega)
        have hl2:=Zrk ys (Qy xs ys j) (dq ys (Qy xs ys j) (xs.length-ys.length-j)) (xs.length-ys.length-j) i
        refine Zb<|Ze<|dt (Xv J J J)<|Zc<|Za<|Zb<|Zr J (fun h356=>?_) (fun h356=>?_)
        ·refine Zk<|Za<|Zb<|Zo<|Zb<|Ze<|mv J<|dt (Xc (ii:=2) J J J J Zi Xx Ye J (by first | omega | (simp only [List.length_set];omega)))<|dt (Xr (ii:=2) 0 J J J Zi pV (by first | omega | (simp only [List.length_set];omega)))<|tt (Zy (i:=6) J J zeroValue31 J J hw) fun b_12 _=>Zp J<|tt (Zl (i:=6) J J J J J J Ye J J ⟨Zf J,Zf J,trivial⟩ J hw trivial) fun _ _=>Zc<|Za<|Qs (fun x=>x=b) [(0,0),(1,0),(2,0),(3,0),(4,0),(5,0),(6,0),(7,0),(8,0),(9,0),(10,0),(11,0),(12,1),(13,1),(14,0),(15,3)] ?_ ?_
         ·kernel_rfl
         exact Zs J J (Ke 3 J (Yd J J))<|Zs J J (Ke 3 J (Yd J J))<|Zs J J (Ke 3 J (Yd J J))<|Zs J J (Ke 3 J (Ys J J J))<|Zs J J (Ke 3 J (Yd J J))<|Zs J J (Ke 3 J (Yd J J))<|Zs J J (Ke 3 J (Yd J J))<|Zs J J (Ke 3 J (Ys J J J))<|Zs J J (Ke 3 J (Xc (ii:=4) (i:=((xs.length-ys.length-j)+i)) J J J J (Xa pV) Xx Ye))<|Zs J J (Ke 3 J (Xr (ii:=4) 0 J J J (Xa pV) pV))<|Zs J J (Ke 3 J (Yb (i:=97) J J J Xs Ye J J))<|Zs J J (Ke 3 J (Yb (i:=6) J J J Xs Ye J J))<|Xb J (Ns (n:=6) (i:=3) (Ca _ _ _ hb2 (hu.sz _) (hb3 _)) J J J K3 call153 J (by decide) Zg J hw J) fun _ _=>Xb J (Ns (n:=6) (i:=3) (Ztx _ _ _ (by rw [hg2 (by omega)];exact hb1 _) (hb3 _) (by rw [hg2 (by omega)];exact hb4 _ _)) J J J K3 call137 J (by decide) Zg J hw J) fun _ _=>Zs J J (Ke 3 J (Xc (ii:=4) (i:=((xs.length-ys.length-j)+i)) J J J J (Xa pV) Xx Ye))<|Po J (Im (i:=4) (enc:=wv) _ J J J J J J pV J hw) fun _ _=>Ob<|Qn<|Za<|Ze<|dt (Ys J J J)<|mv J<|Zc<|Xk (i+1) (by first | omega | (dsimp only<;>omega)) (by first | omega | (dsimp only<;>omega)) K9 ⟨by rw [←Yce (by omega),←hg2 (by omega)];rfl,rfl,rfl,rfl,rfl,rfl,rfl,rfl,trivial⟩
        ·refine Yx<|Zx<|Zx<|Pd<|Qn<|Za<|Ze<|mv J<|dt (Qd J J J)<|Zp J<|Zc ?_
         obtain rfl:i=ys.length:=by omega
         exact Xk (j+1) ⟨by first | omega | (dsimp only<;>omega),fun k h1 h2=>by rcases Nat.lt_or_ge (xs.length-ys.length) (k+j)with h3 | h3;(exact hx k h3 h2);(rw [show k=xs.length-ys.length-j by omega];exact hde)⟩ (by first | omega | (dsimp only<;>omega)) ⟨by rw [show(xs.length:Int)-(ys.length:Int)-((j+1:Nat):Int)=(xs.length:Int)-(ys.length:Int)-(j:Int)-1 by omega];rfl,rfl,rfl,rfl,rfl,trivial⟩ ⟨by rfl,by rw [←Zr1 (by omega)];rfl,rfl,rfl,rfl,rfl,trivial⟩
    ·refine Yx<|Zx<|Zx<|Pd<|Za<|Zb<|Zb ?_
     obtain rfl:j=xs.length-ys.length+1:=by omega
     have hall:∀k,k≤xs.length-ys.length→Ln xs ys k:=fun k hk=>hx k (by omega) hk
     refine Yo (Pg 4 J J pV)<|Ze<|dt (Yv J J Zfu J Zfo J J)<|dt (Yv J J Zjr J Ih J J)<|dt (Qw (i:=3) J J J Eo J)<|dt (Pj J J J)<|mv J<|Pf (d:=105) J (fun s360=>?_) (fun s360=>?_)
     ·refine Xh (Yd J J) J J<|Lz (Zh (n:=7) (Zd5 _ _ (Zze hF hall)) J J J K1 call152 (Zd 4 J J J Zg) J hw) J J J fun _ _=>Xh (Yf J J (i:=7) J Zi Xx) J J<|Xh (Pw J J J) J J<|dt (Yy J J J)<|Zc<|Za<|Zr J (fun h360=>?_) (fun h360=>?_)
      ·refine Zb<|Ze<|Zp J<|Zp J<|Zc<|Za<|Zq<|Yn ?_
       have hp:¬pdv xs ys:=fun h=>by rcases h with h | h;(exact hnx h);(rw [h.2.2]at h360;simp at h360)
       exact Yu (.inl J) hsc _ _ (fun a w hs=>Og hs results111 J J) (by rw [if_neg hp]) trivial J (Ig (if_neg hp) Zm)
      ·refine Zk<|Za<|Zb<|Yo (Pg 5 J J pV)<|Ze<|mv J<|tt (Ns (n:=8) (i:=3) (Zdk _ _ _ (Zum hF hall _)) J J J K2 call154 J (by decide) (Zd 5 J J J Zg) J hw trivial) fun _ _=>dt (Zz J J J)<|dt (Zz J J J)<|Zp J<|Zp J<|Zc<|Za<|Zq ?_
       have hp:pdv xs ys:= .inr ⟨hge,hall,List.eq_nil_of_length_eq_zero (by omega)⟩
       exact Yu (.inl J) hsc _ _ (fun a w hs=>Og hs results111 J J) (by rw [if_pos hp]<;>rfl) trivial J (Xe 8 J J J (by rw [if_pos hp,Zka hnx,←Zde]<;>rfl) Zm)
     ·exfalso;exact s360 rfl
theorem Zoi(v:Value)(xs:List Int)(x y z:Int)(hv:Vp xs)(hx:bl x.natAbs≤65536)(hy:bl y.natAbs≤65536)(hz:bl z.natAbs≤65536)(hz0:0<z)(hE:¬Zpg xs x y z):Cal prog 141 #[v,wv x,wv y,wv z] [Px 2 wv v xs] true (G:=Value) (fun r=>True) (fun r=> .tuple #[r,.int .i64 0]) (fun r=>[Px 2 wv r (Zap xs x y z)]):=by
 refine Yi func141 J ntmps141 J K1 fun w0 sc hw hsc=>?_
 simp only [Zu,Zt]
 have hlen:=hv.len
 refine Zb<|Ze<|tt (Yw (i:=2) J J J J J hw) fun b _=>tt (Yw (i:=3) J J J J J hw) fun b_2 _=>tt (Yw (i:=4) J J J J J hw) fun b_3 _=>Zp J<|Zp J<|Zc<|Za<|Zb<|Zb<|Ze<|mv J<|tt (Zh (n:=4) (Qx _ _ ‹_›) J J J K1 Bq (Zd 1 J J J Zg) J hw) fun _ _=>dt (Xl J J)<|mv J<|Xh (Yb (i:=2) J J J Xs Ye J J) J J<|Lz (Zh (n:=4) (Hx _ ‹_›) J J J K1 Zez Zg J hw) J J J fun _ _=>Xh (Xl J J) J J<|dt (Yh J J J)<|mv J<|Xh (Yb (i:=3) J J J Xs Ye J J) J J<|Lz (Zh (n:=4) (Hx _ ‹_›) J J J K1 Zez Zg J hw) J J J fun _ _=>Xh (Xl J J) J J<|dt (Yh J J J)<|mv J<|Xh (Yb (i:=4) J J J Xs Ye J J) J J<|Lz (Zh (n:=4) (Hx _ ‹_›) J J J K1 Zez Zg J hw) J J J fun _ _=>Xh (Xl J J) J J<|dt (Yh J J J)<|Zc<|Za<|Yp J<|Zk<|Za<|Zb<|Zb<|Ze<|dt (Yb (i:=4) J J J Xs Ye J J)<|tt (Zh (n:=4) (Ko _ hz) J J J K1 call104 Zg J hw) fun _ _=>dt (Dc J J J)<|Zc<|Za<|Zr J (fun h232=>?_) (fun h232=>?_)
 ·exfalso;have h2:=decide_eq_decide.1 (Bi z);omega
 ·refine Zk<|Za<|Zb<|Zb<|Ze<|mv J<|dt (Yf J J (i:=1) J Zi Xx)<|dt (Pj J J J)<|Zc<|Za<|Zr J (fun h235=>?_) (fun h235=>?_)
  ·exact Zb<|Ze<|Zp J<|Zp J<|Zc<|Za<|Zq<|Yn<|Yu (.inl J) hsc _ _ (fun a w hs=>Og hs results141 J J) J trivial J (Ig (by unfold Zap;rw [if_pos (by omega)]) Zm)
  ·have hne:xs≠[]:=fun e=>by rw [e]at h235;simp at h235
   have hm1:=Oi hv.sz
   have hsxy:Sz 65536 [x,y,z]:=Sz.of_mem (by intro q hq;simp at hq;rcases hq with rfl | rfl | rfl<;>assumption)
   have hm2:=Oi hsxy
   have hm3:(xs.length-1)*(Pi [x,y,z]+1)≤24*65537:=Nat.mul_le_mul (by omega) (by omega)
   have hm4:((xs.length:Int)-1)*((Pi [x,y,z]:Int)+1)=(((xs.length-1)*(Pi [x,y,z]+1):Nat):Int):=by rw [Int.natCast_mul];congr 1;omega
   refine Zk<|Za<|Zb<|Iz [(0,_),(5,_),(6,_),(7,_)] [(0,_),(1,_),(2,_),(3,_),(4,_)] (fun(_:Unit)=>[(55,.bool (decide ((65536:Int)<(Pi xs:Int)+((xs.length:Int)-1)*((Pi [x,y,z]:Int)+1)+8)))]) (fun(_:Unit)=>[]) (fun(_:Unit)=>True) K4 K5 ?_ ?_
   ·refine Fs (fun _=>False) []<|Ya (n:=8) [(0,0),(2,0),(3,0),(4,0),(5,0),(6,0),(7,0)]<|Zs J J (Yt (Yd J J))<|Zs J J (Yt (Yd J J))<|Zs J J (Yt (Yf J J (i:=1) J Zi Xx))<|Zs J J (Yt (Qd J J J))<|Zs J J (Yt (Yb (i:=2) J J J Xs Ye J J))<|Zs J J (Yt (Yb (i:=3) J J J Xs Ye J J))<|Zs J J (Yt (Yb (i:=4) J J J Xs Ye J J))<|Yl<|Pb (n:=7) 1 8 ?_ ?_
    ·exact Yj J (Zh (n:=4) (Ll _ _ (by first | exact hv.sz | exact hsxy)) J J J K1 An (Zd 1 J J J Zg) J hw) fun _ _=>Ya (n:=0) [(8,1),(9,1),(10,0),(11,0),(12,0),(13,0),(14,0)]<|Xb J (Pn (i:=90) (ivs:=[(0,_),(1,_),(2,_)]) (enc:=wv) [x,y,z] J J K6 Zxe ti31 J J (fill3 _ _ _ _ _ _ _ _) J J pV.cells J J hw) fun v _=>Xb J (Zh (n:=4) (Ll _ _ (by first | exact hv.sz | exact hsxy)) J J J K1 An (Qt 90 J J pV Zg) J hw) fun _ _=>Zs J J (Yt (Ys J J J))<|Zs J J (Yt (Db J J J (by rw [hm4];exact⟨by omega,by omega⟩)))<|Zs J J (Yt (Ys J J J (by rw [hm4];exact⟨by omega,by omega⟩)))<|Zs J J (Yt (Ys J J J (by rw [hm4];exact⟨by omega,by omega⟩)))<|Zs J J (Yt (Pw J J J))<|Yl<|Yk<|Xo () trivial K5 K5
    ·exact Yj J (Pn (i:=90) (ivs:=[(0,_),(1,_),(2,_)]) (enc:=wv) [x,y,z] J J K6 Zxe ti31 J J (fill3 _ _ _ _ _ _ _ _) J J pV.cells J J hw) fun v_2 _=>Ya (n:=0) [(1,1),(9,1),(10,0),(11,0),(12,0),(13,0),(14,0)]<|Xb J (Zh (n:=4) (Ll _ _ (by first | exact hv.sz | exact hsxy)) J J J K1 An (Zd 1 J J J Zg) J hw) fun _ _=>Xb J (Zh (n:=4) (Ll _ _ (by first | exact hv.sz | exact hsxy)) J J J K1 An (Qt 90 J J pV Zg) J hw) fun _ _=>Zs J J (Yt (Ys J J J))<|Zs J J (Yt (Db J J J (by rw [hm4];exact⟨by omega,by omega⟩)))<|Zs J J (Yt (Ys J J J (by rw [hm4];exact⟨by omega,by omega⟩)))<|Zs J J (Yt (Ys J J J (by rw [hm4];exact⟨by omega,by omega⟩)))<|Zs J J (Yt (Pw J J J))<|Yl<|Yk<|Xo () trivial K5 K5
   ·rintro _ -
    simp only [CA,NA]
    refine Zr J (fun h238=>?_) (fun h238=>?_)
    ·exfalso;exact hE ⟨hne,by rw [hm4]at h238;omega⟩
    ·have hF:Pi xs+(xs.length-1)*(Pi [x,y,z]+1)+8≤65536:=by rw [hm4]at h238;omega
     refine Zk<|Za<|Zb<|Ze<|tt (Zy (i:=5) J J zeroValue167 J J hw) fun b_4 _=>Zc<|Za<|Iz [(0,_),(5,_),(6,_),(7,_),(10,_)] [(0,_),(1,_),(2,_),(3,_),(4,_),(5,_)] (fun(q:Value×Nat)=>[(11,q.1),(12,.pointer (some ⟨q.2,0,none⟩))]) (fun(q:Value×Nat)=>[(70,Ld 2 31 wv q.1 (Kg xs x y z 0)),(98,box q.2 31 (wc 1))]) (fun(q:Value×Nat)=>True) K5 K6 ?_ ?_
     ·refine Fs (fun _=>False) [9,10]<|Ya (n:=5) [(0,0),(1,0),(2,0),(3,0),(4,0),(5,0)]<|Zs J J (Yt (Yd J J))<|Zs J J (Yt (Yd J J))<|Zs J J (Yt (Yf J J (i:=1) J Zi Xx))<|Zs J J (Yt (Qd J J J))<|Zs J J (Yt (Xc (ii:=1) (i:=(xs.length-1)) J J J J Zi Xx Ye))<|Zs J J (Yt (Xr (ii:=1) 0 J J J Zi pV))<|Yl<|Dm (n:=4) 6 7 8 ?_ ?_ ?_
      ·refine Yj J (Pn (i:=70) (ivs:=[(0,_)]) (enc:=wv) [cf xs (xs.length-1)] J J K2 Xx ti31 J J J J J pV.cells J J hw) fun v_3 _=>Pb (n:=3) 7 8 ?_ ?_
       ·exact Yj J (Zh (n:=5) (Qg _ (by first | assumption | exact⟨by omega,by omega⟩)) J J J K1 Gy Zg J hw) fun _ _=>Ya (n:=0) [(8,1),(9,3),(10,3)]<|Xb J (Zy (i:=98) J J zeroValue31 J J hw) fun b_5 _=>Po J (Od (Mb J J) J) fun _ _=>Po J (Zl (i:=98) J J J J J J Ye J J ⟨Zf J,Zf J,trivial⟩ J hw trivial) fun _ _=>Yl<|Yk<|Xo (_,_) trivial K7 ⟨by rw [Cb];rfl,rfl,rfl,rfl,rfl,rfl,rfl,rfl,trivial⟩
       ·exact Yj J (Zy (i:=98) J J zeroValue31 J J hw) fun b_6 _=>Ya (n:=0) [(7,1),(9,3),(10,3)]<|Xb J (Zh (n:=5) (Qg _ (by first | assumption | exact⟨by omega,by omega⟩)) J J J K1 Gy Zg J hw) fun _ _=>Po J (Od (Mb J J) J) fun _ _=>Po J (Zl (i:=98) J J J J J J Ye J J ⟨Zf J,Zf J,trivial⟩ J hw trivial) fun _ _=>Yl<|Yk<|Xo (_,_) trivial K7 ⟨by rw [Cb];rfl,rfl,rfl,rfl,rfl,rfl,rfl,rfl,trivial⟩
      ·refine Yj J (Zh (n:=5) (Qg _ (by first | assumption | exact⟨by omega,by omega⟩)) J J J K1 Gy Zg J hw) fun _ _=>Pb (n:=3) 6 8 ?_ ?_
       ·exact Yj J (Pn (i:=70) (ivs:=[(0,_)]) (enc:=wv) [cf xs (xs.length-1)] J J K2 Xx ti31 J J J J J pV.cells J J hw) fun v_4 _=>Ya (n:=0) [(8,1),(9,3),(10,3)]<|Xb J (Zy (i:=98) J J zeroValue31 J J hw) fun b_7 _=>Po J (Od (Mb J J) J) fun _ _=>Po J (Zl (i:=98) J J J J J J Ye J J ⟨Zf J,Zf J,trivial⟩ J hw trivial) fun _ _=>Yl<|Yk<|Xo (_,_) trivial K7 ⟨by rw [Cb];rfl,rfl,rfl,rfl,rfl,rfl,rfl,rfl,trivial⟩
       ·exact Yj J (Zy (i:=98) J J zeroValue31 J J hw) fun b_8 _=>Ya (n:=0) [(6,1),(9,3),(10,3)]<|Xb J (Pn (i:=70) (ivs:=[(0,_)]) (enc:=wv) [cf xs (xs.length-1)] J J K2 Xx ti31 J J J J J pV.cells J J hw) fun v_5 _=>Po J (Od (Mb J J) J) fun _ _=>Po J (Zl (i:=98) J J J J J J Ye J J ⟨Zf J,Zf J,trivial⟩ J hw trivial) fun _ _=>Yl<|Yk<|Xo (_,_) trivial K7 ⟨by rw [Cb];rfl,rfl,rfl,rfl,rfl,rfl,rfl,rfl,trivial⟩
      ·refine Yj J (Zy (i:=98) J J zeroValue31 J J hw) fun b_9 _=>Pb (n:=3) 6 7 ?_ ?_
       ·exact Yj J (Pn (i:=70) (ivs:=[(0,_)]) (enc:=wv) [cf xs (xs.length-1)] J J K2 Xx ti31 J J J J J pV.cells J J hw) fun v_6 _=>Ya (n:=0) [(7,1),(9,3),(10,3)]<|Xb J (Zh (n:=5) (Qg _ (by first | assumption | exact⟨by omega,by omega⟩)) J J J K1 Gy Zg J hw) fun _ _=>Po J (Od (Mb J J) J) fun _ _=>Po J (Zl (i:=98) J J J J J J Ye J J ⟨Zf J,Zf J,trivial⟩ J hw trivial) fun _ _=>Yl<|Yk<|Xo (_,_) trivial K7 ⟨by rw [Cb];rfl,rfl,rfl,rfl,rfl,rfl,rfl,rfl,trivial⟩
       ·exact Yj J (Zh (n:=5) (Qg _ (by first | assumption | exact⟨by omega,by omega⟩)) J J J K1 Gy Zg J hw) fun _ _=>Ya (n:=0) [(6,1),(9,3),(10,3)]<|Xb J (Pn (i:=70) (ivs:=[(0,_)]) (enc:=wv) [cf xs (xs.length-1)] J J K2 Xx ti31 J J J J J pV.cells J J hw) fun v_7 _=>Po J (Od (Mb J J) J) fun _ _=>Po J (Zl (i:=98) J J J J J J Ye J J ⟨Zf J,Zf J,trivial⟩ J hw trivial) fun _ _=>Yl<|Yk<|Xo (_,_) trivial K7 ⟨by rw [Cb];rfl,rfl,rfl,rfl,rfl,rfl,rfl,rfl,trivial⟩
     ·rintro⟨vo,b8⟩ -
      simp only [CA,NA]
      refine Zb<|Zb<|Ze<|mv J<|dt (Yf J J (i:=1) J Zi Xx)<|dt (Qd J J J)<|Zp J<|Zc<|Za<|Zo<|Oc [(0,_),(5,_),(6,_),(7,_),(10,_),(12,_)] [(0,_),(1,_),(2,_),(3,_),(4,_),(5,_)] (fun(q:Nat×Value)=>[(13,.int .i64 ((xs.length:Int)-2-(q.1:Int))),(11,q.2)]) (fun(q:Nat×Value)=>[(70,Ld 2 31 wv q.2 (Kg xs x y z q.1)),(98,box b8 31 (wc (z^q.1)))]) (fun(q:Nat×Value)=>q.1≤xs.length-1) (fun(q:Nat×Value)=>xs.length-1-q.1) (0,vo) (by first | omega | (dsimp only<;>omega)) ⟨by rw [show(xs.length:Int)-2-((0:Nat):Int)=(xs.length:Int)-2 by omega];rfl,rfl,rfl,rfl,rfl,rfl,rfl,rfl,trivial⟩ ⟨J,by rw [Int.pow_zero];rfl,rfl,rfl,rfl,rfl,rfl,rfl,trivial⟩ ?_
      rintro⟨j,vo⟩ hj
      dsimp only at hj
      simp only [CA,NA]
      refine Zb<|Zb<|Ze<|mv J<|dt (Lg J J J)<|Zc<|Za<|Zr J (fun h243=>?_) (fun h243=>?_)
      ·obtain⟨c1,c2,c3,c4,c5,c6,c7,c8,c9⟩:=cp_all hF (j:=j) (by omega)
       have hcl:=Zc7 xs x y z j
       refine Zk<|Za<|Zb<|Zo<|Zb<|Ze<|dt (Yb (i:=98) J J J Xs Ye J J)<|dt (Yb (i:=4) J J J Xs Ye J J)<|tt (Ns (n:=5) (i:=5) (Ca _ _ _ c1 hz (by rw [←Int.pow_succ];exact c2)) J J J K3 call153 J (by decide) Zg J hw trivial) fun _ _=>tt (Zl (i:=98) J J J J J J Ye J J ⟨Zf J,Zf J,trivial⟩ J hw trivial) fun _ _=>Zc<|Za<|Zb<|Ze<|mv J<|dt (Yf J J (i:=70) J (Xa pV) Xx)<|dt (Ys J J J)<|tt (Ge (i:=71) (n:=((Kg xs x y z j).length+1)) (by_:=24) (enc:=wv) 0 J J J J Xx ti31 J pV.cells pV.pos J J J hw) fun v_8 _=>Zp J<|Zc<|Za<|Zb<|Zb<|Ze<|mv J<|dt (Yf J J (i:=70) J (Xa pV) Xx)<|mv J<|Zc<|Za<|Zo<|Oc [(0,_),(5,_),(6,_),(7,_),(10,_),(12,_),(13,_),(14,_),(78,_),(79,_)] [(0,_),(70,_),(98,_),(1,_),(2,_),(3,_),(4,_),(5,_)] (fun(i:Nat)=>[(80,.int .i64 (i:Int))]) (fun(i:Nat)=>[(71,Ld 2 31 wv v_8 (cnx (Kg xs x y z j) x y i))]) (fun(i:Nat)=>i≤(Kg xs x y z j).length) (fun(i:Nat)=>(Kg xs x y z j).length-i) 0 (by first | omega | (dsimp only<;>omega)) K11 ⟨by rw [Ycq];rfl,rfl,rfl,rfl,rfl,rfl,rfl,rfl,rfl,trivial⟩ ?_
       rintro i hi
       simp only [CA,NA]
       have hg1:i<(Kg xs x y z j).length→(cnx (Kg xs x y z j) x y i).getD i 0=if i=0 then 0 else cf (Kg xs x y z j) (i-1)*y:=fun h=>Zwm h
       have hl1:=Gm (Kg xs x y z j) x y i
       refine Zb<|Ze<|dt (Xv J J J)<|Zc<|Za<|Zb<|Zr J (fun h247=>?_) (fun h247=>?_)
       ·refine Zk<|Za<|Zb<|Zo<|Zb<|Ze<|mv J<|dt (Xc (ii:=70) J J J J (Xa pV) Xx Ye J (by first | omega | (simp only [List.length_set];omega)))<|dt (Xr (ii:=70) 0 J J J (Xa pV) pV (by first | omega | (simp only [List.length_set];omega)))<|tt (Zy (i:=6) J J zeroValue31 J J hw) fun b_10 _=>Zp J<|tt (Zl (i:=6) J J J J J J Ye J J ⟨Zf J,Zf J,trivial⟩ J hw trivial) fun _ _=>Zc<|Za<|Zb<|Qs (fun x=>x=b_4) [(0,0),(1,0),(2,0),(3,0),(4,0),(5,0),(6,0),(7,0),(8,1),(9,1),(10,0),(11,3)] ?_ ?_
        ·kernel_rfl
        refine Zs J J (Ke 5 J (Yd J J))<|Zs J J (Ke 5 J (Yd J J))<|Zs J J (Ke 5 J (Yd J J))<|Zs J J (Ke 5 J (Yd J J))<|Zs J J (Ke 5 J (Xc (ii:=71) (i:=i) J J J J (Xa pV) Xx Ye J))<|Zs J J (Ke 5 J (Xr (ii:=71) 0 J J J (Xa pV) pV))<|Zs J J (Ke 5 J (Yb (i:=6) J J J Xs Ye J J))<|Zs J J (Ke 5 J (Yb (i:=2) J J J Xs Ye J J))<|Xb J (Ns (n:=6) (i:=5) (Ca _ _ _ (c3 _) hx (c4 _)) J J J K3 call153 J (by decide) Zg J hw J) fun _ _=>Xb J (Ns (n:=6) (i:=5) (Zpb _ _ _ (by rw [hg1 (by omega)];exact c6 i) (c4 _) (by rw [hg1 (by omega)];exact c7 i)) J J J K3 call159 J (by decide) Zg J hw J) fun _ _=>Zs J J (Ke 5 J (Xc (ii:=71) (i:=i) J J J J (Xa pV) Xx Ye J))<|Po J (Im (i:=71) (enc:=wv) _ J J J J J J pV J hw) fun _ _=>Ob<|Za<|Ze<|mv J<|mv J<|dt (Ys J J J)<|dt (Yb (i:=6) J J J Xs Ye J J)<|dt (Yb (i:=3) J J J Xs Ye J J)<|tt (Ns (n:=6) (i:=5) (Ca _ _ _ (c3 _) hy (c5 _)) J J J K3 call153 J (by decide) Zg J hw trivial) fun _ _=>dt (Xc (ii:=71) (i:=(i+1)) J J J J (Xa pV) Xx Ye (by omega) (by rw [List.length_set];omega))<|tt (Im (i:=71) (enc:=wv) _ J J J J J J pV J hw (by decide) (by rw [List.length_set];omega)) fun _ _=>Zc ?_
        exact Qn<|Za<|Ze<|dt (Ys J J J)<|mv J<|Zc<|Xk (i+1) (by first | omega | (dsimp only<;>omega)) (by first | omega | (dsimp only<;>omega)) K11 ⟨by rw [←Yfn (by omega)];rfl,rfl,rfl,rfl,rfl,rfl,rfl,rfl,rfl,trivial⟩
       ·refine Yx<|Zx<|Zx<|Pd<|Za<|Zb ?_
        obtain rfl:i=(Kg xs x y z j).length:=by omega
        have hg0:(cnx (Kg xs x y z j) x y (Kg xs x y z j).length).getD 0 0=cf (Kg xs x y z j) 0*x:=Zse (by omega)
        refine Qs (fun x=>x=b_4) [(0,0),(1,0),(2,0),(3,0),(4,0),(5,0),(6,0),(7,0),(8,0),(9,1),(10,1),(11,0),(12,3)] ?_ ?_
        ·kernel_rfl
        refine Zs J J (Ke 5 J (Yd J J))<|Zs J J (Ke 5 J (Yd J J))<|Zs J J (Ke 5 J (Xc (ii:=71) (i:=0) J J J J (Xa pV) Xx Ye J))<|Zs J J (Ke 5 J (Xr (ii:=71) 0 J J J (Xa pV) pV))<|Zs J J (Ke 5 J (Yd J J))<|Zs J J (Ke 5 J (Yd J J))<|Zs J J (Ke 5 J (Xc (ii:=1) (i:=(xs.length-2-j)) J J J J Zi Xx Ye))<|Zs J J (Ke 5 J (Xr (ii:=1) 0 J J J Zi pV))<|Zs J J (Ke 5 J (Yb (i:=98) J J J Xs Ye J J))<|Xb J (Ns (n:=6) (i:=5) (Ca _ _ _ (hv.sz _) (by rw [←Int.pow_succ];exact c2) (by rw [←Int.pow_succ];exact c8)) J J J K3 call153 J (by decide) Zg J hw J) fun _ _=>Xb J (Ns (n:=6) (i:=5) (Zpb _ _ _ (by rw [hg0];exact c4 0) (by rw [←Int.pow_succ];exact c8) (by rw [hg0,←Int.pow_succ];exact c9)) J J J K3 call159 J (by decide) Zg J hw J) fun _ _=>Zs J J (Ke 5 J (Xc (ii:=71) (i:=0) J J J J (Xa pV) Xx Ye J))<|Po J (Im (i:=71) (enc:=wv) _ J J J J J J pV J hw) fun _ _=>Ob<|Za<|Ze<|mv J<|Zp J<|Zc<|Qn<|Za<|Ze<|mv J<|dt (Qd J J J)<|Zp J<|Zc<|Qu (s_move 71 70 J J J J) ?_
        exact Xk (j+1,_) (by first | omega | (dsimp only<;>omega)) (by first | omega | (dsimp only<;>omega)) ⟨by rw [show(xs.length:Int)-2-((j+1:Nat):Int)=(xs.length:Int)-2-(j:Int)-1 by omega];rfl,rfl,rfl,rfl,rfl,rfl,rfl,rfl,trivial⟩ ⟨by rw [Yfo (by omega)];simp only [←Int.pow_succ];rfl,by rw [Int.pow_succ];rfl,rfl,rfl,rfl,rfl,rfl,rfl,trivial⟩
      ·refine Yx<|Zx<|Zx<|Pd<|Za<|Zb ?_
       obtain rfl:j=xs.length-1:=by omega
       exact Yo (Pg 70 J J pV)<|Ze<|mv J<|tt (Ns (n:=7) (i:=5) (Zdk _ _ _ (Yfl hF)) J J J K2 call154 J (by decide) (Zd 70 J J J Zg) J hw trivial) fun _ _=>dt (Zz J J J)<|dt (Zz J J J)<|Zp J<|Zp J<|Zc<|Za<|Zq<|Yu (.inl J) hsc _ _ (fun a w hs=>Og hs results141 J J) J trivial J (Xe 7 J J J (by unfold Zap;rw [if_neg (by omega)]<;>rfl) Zm)
theorem Zq2(v u:Value)(xs ys:List Int)(hv:Vp xs)(hu:Vp ys)(F:Nat)(hg:¬Zm2 xs ys)(hok:eok F (gA xs ys) (gB xs ys)):Cal prog 110 #[v,u] [Px 2 wv v xs,Px 2 wv u ys] true (G:=Value) (fun r=>True) (fun r=> .tuple #[r,.int .i64 0]) (fun r=>[Px 2 wv r (Ms F xs ys)]):=by
 refine Yi func110 J ntmps110 J K2 fun w0 sc hw hsc=>?_
 simp only [Zu,Zt]
 have hlen:=hv.len
 have hlen2:=hu.len
 have hm1:=Oi hv.sz
 have hm2:=Oi hu.sz
 have hpx:=Xd xs
 have hpy:=Xd ys
 have hN2:(max xs.length ys.length+2)*(max xs.length ys.length+2)≤27*27:=Nat.mul_le_mul (by omega) (by omega)
 have hN3:(max xs.length ys.length+2)*(max xs.length ys.length+2)*(max (Pi xs) (Pi ys)+8)≤27*27*65544:=Nat.mul_le_mul hN2 (by omega)
 have hN4:(max (xs.length:Int) (ys.length:Int)+2)*(max (xs.length:Int) (ys.length:Int)+2)=(((max xs.length ys.length+2)*(max xs.length ys.length+2):Nat):Int):=by rw [Int.natCast_mul,show(((max xs.length ys.length+2):Nat):Int)=(max (xs.length:Int) (ys.length:Int)+2) by omega]
 have hN5:(max (xs.length:Int) (ys.length:Int)+2)*(max (xs.length:Int) (ys.length:Int)+2)*(max (Pi xs:Int) (Pi ys:Int)+8)=(((max xs.length ys.length+2)*(max xs.length ys.length+2)*(max (Pi xs) (Pi ys)+8):Nat):Int):=by rw [hN4,Int.natCast_mul ((max xs.length ys.length+2)*(max xs.length ys.length+2)),show((max (Pi xs) (Pi ys)+8:Nat):Int)=max (Pi xs:Int) (Pi ys:Int)+8 by omega]
 refine Zb<|Ze<|Zp J<|Zp J<|Zc<|Za<|Zb<|Zb<|Ze<|mv J<|tt (Zh (n:=2) (Qx _ _ ‹_›) J J J K1 Bq (Zd 1 J J J Zg) J hw) fun _ _=>dt (Xl J J)<|mv J<|Xh (Yd J J) J J<|Lz (Zh (n:=2) (Qx _ _ ‹_›) J J J K1 Bq (Zd 2 J J J Zg) J hw) J J J fun _ _=>Xh (Xl J J) J J<|dt (Yh J J J)<|Zc<|Za<|Yp J<|Zk<|Za<|Zb<|Zb<|Ze<|mv J<|dt (Yf J J (i:=1) J Zi Xx)<|mv J<|dt (Yf J J (i:=2) J Zi Xx)<|dt (Zsa J J J)<|dt (Ys J J J)<|Zp J<|Zc<|Za<|Iz [(0,_),(1,_)] [(0,_),(1,_),(2,_)] (fun(_:Unit)=>[(46,.bool (decide (Zm2 xs ys)))]) (fun(_:Unit)=>[]) (fun(_:Unit)=>True) K2 K3 ?_ ?_
 ·refine Ze<|mv J<|dt (Yf J J (i:=1) J Zi Xx)<|dt (Pw J J J)<|mv J<|Pf (d:=29) J (fun s371=>?_) (fun s371=>?_)
  ·refine Xh (Yd J J) J J<|Xh (Yf J J (i:=2) J Zi Xx) J J<|Xh (Pw J J J) J J<|dt (Yy J J J)<|mv J<|Pf (d:=34) J (fun s371_2=>?_) (fun s371_2=>?_)
   ·exact Xh (Yd J J) J J<|Xh (Yd J J) J J<|Xh (Db J J J (by rw [hN4];exact⟨by omega,by omega⟩)) J J<|Xh (Yd J J) J J<|Lz (Zh (n:=2) (Ll _ _ (by first | exact hv.sz | exact hu.sz)) J J J K1 An (Zd 1 J J J Zg) J hw) J J J fun _ _=>Xh (Yd J J) J J<|Lz (Zh (n:=2) (Ll _ _ (by first | exact hv.sz | exact hu.sz)) J J J K1 An (Zd 2 J J J Zg) J hw) J J J fun _ _=>Xh (Zsa J J J) J J<|Xh (Ys J J J) J J<|Xh (Db J J J (by rw [hN5];exact⟨by omega,by omega⟩)) J J<|Xh (Pw J J J) J J<|dt (Yy J J J)<|Zc<|Xo () trivial ⟨by first | (rw [hN5];exact congrArg some (vB (decide_eq_decide.2 ⟨fun h=>⟨by omega,by omega,by omega⟩,fun h=>by have:=h.2.2;omega⟩))) | exact congrArg some (vB (decide_eq_false (fun h=>by have h1:=h.1;have h2:=h.2.1;omega)).symm),rfl,rfl,trivial⟩ K3
   ·exact Xt J J J<|Xt J J J<|Xt J J J<|Xt J J J<|Xt J J J<|Xt J J J<|Xt J J J<|Xt J J J<|Xt J J J<|Xt J J J<|Xt J J J<|dt (Yh J J J)<|Zc<|Xo () trivial ⟨by first | (rw [hN5];exact congrArg some (vB (decide_eq_decide.2 ⟨fun h=>⟨by omega,by omega,by omega⟩,fun h=>by have:=h.2.2;omega⟩))) | exact congrArg some (vB (decide_eq_false (fun h=>by have h1:=h.1;have h2:=h.2.1;omega)).symm),rfl,rfl,trivial⟩ K3
  ·exact Xt J J J<|Xt J J J<|Xt J J J<|dt (Yh J J J)<|mv J<|Xt J J J<|Xt J J J<|Xt J J J<|Xt J J J<|Xt J J J<|Xt J J J<|Xt J J J<|Xt J J J<|Xt J J J<|Xt J J J<|Xt J J J<|dt (Yh J J J)<|Zc<|Xo () trivial ⟨by first | (rw [hN5];exact congrArg some (vB (decide_eq_decide.2 ⟨fun h=>⟨by omega,by omega,by omega⟩,fun h=>by have:=h.2.2;omega⟩))) | exact congrArg some (vB (decide_eq_false (fun h=>by have h1:=h.1;have h2:=h.2.1;omega)).symm),rfl,rfl,trivial⟩ K3
 ·rintro _ -
  simp only [CA,NA]
  refine Zr J (fun h371=>?_) (fun h371=>?_)
  ·exfalso;exact hg h371
  ·refine Zk<|Za<|Zb<|Ze<|mv J<|tt (Zh (n:=3) (Ku _ _ hv) J J J K1 call150 (Zd 1 J J J Zg) J hw) fun _ _=>mv J<|dt (Zz J J J)<|dt (Zz J J J)<|Zp J<|Zp J<|Zc<|Za<|Zb<|Zb<|Ze<|mv J<|dt (Xz J J J)<|Zc<|Za<|Zr J (fun h375=>?_) (fun h375=>?_)
   ·exfalso;exact h375 rfl
   ·refine Zk<|Za<|Zb<|Ze<|mv J<|tt (Zh (n:=4) (Ku _ _ hu) J J J K1 call150 (Zd 2 J J J Zg) J hw) fun _ _=>mv J<|dt (Zz J J J)<|dt (Zz J J J)<|Zp J<|Zp J<|Zc<|Za<|Zb<|Zb<|Ze<|mv J<|dt (Xz J J J)<|Zc<|Za<|Zr J (fun h379=>?_) (fun h379=>?_)
    ·exfalso;exact h379 rfl
    ·refine Zk<|Za<|Iz [] [(0,_),(1,_),(2,_),(3,_),(4,_)] (fun(q:Value×Value)=>[(7,q.1),(9,q.2)]) (fun(q:Value×Value)=>[(80,Px 2 wv q.1 (gA xs ys)),(81,Px 2 wv q.2 (gB xs ys))]) (fun(q:Value×Value)=>True) trivial K5 ?_ ?_
     ·refine Zb<|Ze<|mv J<|dt (Yf J J (i:=3) J Zi Xx)<|mv J<|dt (Yf J J (i:=4) J Zi Xx)<|dt (Xv J J J)<|Zc<|Za<|Zr J (fun h382=>?_) (fun h382=>?_)
      ·exact Ze<|mv J<|mv J<|Zp J<|Zp J<|Zc<|Qu (Pu 4 80 J J J)<|Qu (Pu 3 81 J J J)<|Xo (_,_) trivial K2 ⟨by unfold gA;first | rw [if_pos (by omega)];rfl | rw [if_neg (by omega)];rfl,by unfold gB;first | rw [if_pos (by omega)];rfl | rw [if_neg (by omega)];rfl,rfl,rfl,rfl,rfl,rfl,trivial⟩
      ·exact Zk<|Qu (Pu 3 80 J J J)<|Qu (Pu 4 81 J J J)<|Xo (_,_) trivial K2 ⟨by unfold gA;first | rw [if_pos (by omega)];rfl | rw [if_neg (by omega)];rfl,by unfold gB;first | rw [if_pos (by omega)];rfl | rw [if_neg (by omega)];rfl,rfl,rfl,rfl,rfl,rfl,trivial⟩
     ·rintro⟨va,vb⟩ -
      simp only [CA,NA]
      refine Zb<|Zo<|Oc [] [(0,_),(1,_),(2,_),(3,_),(4,_)] (fun(q:Value×Value×List Int×List Int×Nat)=>[(7,q.1),(9,q.2.1)]) (fun(q:Value×Value×List Int×List Int×Nat)=>[(80,Px 2 wv q.1 q.2.2.1),(81,Px 2 wv q.2.1 q.2.2.2.1)]) (fun(q:Value×Value×List Int×List Int×Nat)=>(Vp q.2.2.1)∧(Vp q.2.2.2.1)∧(eok q.2.2.2.2 q.2.2.1 q.2.2.2.1)∧(eu q.2.2.2.2 q.2.2.1 q.2.2.2.1=eu F (gA xs ys) (gB xs ys))) (fun(q:Value×Value×List Int×List Int×Nat)=>q.2.2.2.2) (va,vb,gA xs ys,gB xs ys,F) ⟨vp_gA hv hu,vp_gB hv hu,hok,J⟩ K2 K7 ?_
      rintro⟨va,vb,a,b,f⟩ ⟨hva,hvb,hok0,heu⟩
      dsimp only at hva hvb hok0 heu
      simp only [CA,NA]
      refine Zb<|Zb<|Ze<|mv J<|dt (Yf J J (i:=81) J Zi Xx)<|dt (Pw J J J)<|Zc<|Za<|Zr J (fun h385=>?_) (fun h385=>?_)
      ·have hbn:b≠[]:=fun e=>by rw [e]at h385;simp at h385
       obtain⟨f1,rfl,hde,hok1,heu1⟩:=Zry hok0 hbn
       refine Zk<|Za<|Zo<|Zb<|Ze<|mv J<|mv J<|tt (Zh (n:=5) (Zmt _ _ _ _ hva hvb hde) J J J K2 call155 (Zd 80 J J J (Zd 81 J J J Zg)) J hw) fun _ _=>mv J<|dt (Zz J J J)<|dt (Zz J J J)<|Zp J<|Zp J<|Zc<|Za<|Zb<|Zb<|Ze<|mv J<|dt (Xz J J J)<|Zc<|Za<|Zr J (fun h387=>?_) (fun h387=>?_)
       ·exfalso;exact h387 rfl
       ·refine Zk<|Za<|Zb<|Zb<|Ze<|mv J<|tt (Zh (n:=6) (Ku _ _ (Zau hva hde)) J J J K1 call150 (Zd 5 J J J Zg) J hw) fun _ _=>mv J<|dt (Zz J J J)<|dt (Zz J J J)<|Zp J<|Zp J<|Zc<|Za<|Zb<|Ze<|mv J<|dt (Xz J J J)<|Zc<|Za<|Zr J (fun h390=>?_) (fun h390=>?_)
        ·exfalso;exact h390 rfl
        ·exact Zk<|Za<|Ze<|mv J<|mv J<|Zp J<|Zp J<|Zc<|Qn<|Qu (Pu 81 80 J J J)<|Qu (Pu 6 81 J J J)<|Xk (_,_,b,Xf (Pr a b),f1) ⟨hvb,Ii (Zau hva hde),hok1,by rw [←heu1];exact heu⟩ (Nat.lt_succ_self f1) K2 K7
      ·obtain rfl:b=[]:=List.eq_nil_of_length_eq_zero (by omega)
       rw [Dz]at heu
       have hal:=hva.len
       refine Yx<|Zx<|Zx<|Pd<|Za<|Zb<|Zb<|Ze<|mv J<|dt (Yf J J (i:=80) J Zi Xx)<|dt (Pw J J J)<|mv J<|Pf (d:=95) J (fun s395=>?_) (fun s395=>?_)
       ·refine Xh (Yd J J) J J<|Xh (Yd J J) J J<|Xh (Yf J J (i:=80) J Zi Xx) J J<|Xh (Qd J J J) J J<|Xh (Xc (ii:=80) (i:=(a.length-1)) J J J J Zi Xx Ye) J J<|Xh (Xr (ii:=80) 0 J J J Zi pV) J J<|Lz (Zh (n:=6) (Ko _ (hva.sz _)) J J J K1 call104 Zg J hw) J J J fun _ _=>Xh (Xv J J J) J J<|dt (Yy J J J)<|Zc<|Za<|Zr J (fun h395=>?_) (fun h395=>?_)
        ·have hneg:a.length≠0∧cf a (a.length-1)<0:=⟨by omega,(Qz _).1 h395⟩
         exact Zb<|Ze<|mv J<|tt (Zh (n:=6) (Qg (-1) (by first | assumption | exact⟨by omega,by omega⟩)) J J J K1 Gy Zg J hw) fun _ _=>tt (Zh (n:=7) (Ae _ _ (-1) hva (by decide) (Zcb hva.sz)) J J J K2 call151 (Zd 80 J J J Zg) J hw) fun _ _=>dt (Zz J J J)<|dt (Zz J J J)<|Zp J<|Zp J<|Zc<|Za<|Zq<|Yn<|Yu (.inl J) hsc _ _ (fun a w hs=>Og hs results110 J J) J trivial J (Xe 7 J J J (by unfold Ms Kn;rw [←heu,if_pos hneg]<;>rfl) Zm)
        ·refine Zk<|Za<|Zb<|Ze<|mv J<|Zp J<|Zp J<|Zc<|Za<|Zq ?_
         have hneg:¬(a.length≠0∧cf a (a.length-1)<0):=fun h=>by first | omega | exact absurd ((Qz (cf a (a.length-1))).2 h.2) ‹_›
         exact Yu (.inl J) hsc _ _ (fun a w hs=>Og hs results110 J J) J trivial J (Xe 80 J J J (by unfold Ms Kn;rw [←heu,if_neg hneg]<;>rfl) Zm)
       ·refine Xt J J J<|Xt J J J<|Xt J J J<|Xt J J J<|Xt J J J<|Xt J J J<|Xt J J J<|Xt J J J<|dt (Yh J J J)<|Zc<|Za<|Yp J<|Zk<|Za<|Zb<|Ze<|mv J<|Zp J<|Zp J<|Zc<|Za<|Zq ?_
        have hneg:¬(a.length≠0∧cf a (a.length-1)<0):=fun h=>by first | omega | exact absurd ((Qz (cf a (a.length-1))).2 h.2) ‹_›
        exact Yu (.inl J) hsc _ _ (fun a w hs=>Og hs results110 J J) J trivial J (Xe 80 J J J (by unfold Ms Kn;rw [←heu,if_neg hneg]<;>rfl) Zm)
theorem Yeg(v:Value)(l:List Int)(hl:∀x∈l,inI x)(hlen:l.length≤1000):Cal prog 108 #[v] [Px 1 Fz v l] true (G:=Value) (fun r=>True) (fun r=> .tuple #[r,.int .i64 (if 25<(tzl l).length then 7 else 0)]) (fun r=>[Px 2 wv r (if 25<(tzl l).length then []else tzl l)]):=by
 refine Yi func108 J ntmps108 J K1 fun w0 sc hw hsc=>?_
 simp only [Zu,Zt]
 have hsz:=Zfy hl
 refine Zb<|Ze<|Zp J<|Zp J<|Zc<|Za<|Zb<|Ze<|Zp J<|Zc<|Za<|Zb<|Zb<|Ze<|mv J<|dt (Yf J J (i:=1) J Zi Oo)<|mv J<|Zc<|Za<|Zo<|Yo (Np 70 2 31 wv)<|Oc [(7,_),(8,_)] [(0,_),(1,_)] (fun(q:Nat×Value)=>[(9,.int .i64 (q.1:Int)),(4,q.2)]) (fun(q:Nat×Value)=>[(70,Ld 2 31 wv q.2 (l.take q.1))]) (fun(q:Nat×Value)=>q.1≤l.length) (fun(q:Nat×Value)=>l.length-q.1) (0,.slice none 0 0) (by first | omega | (dsimp only<;>omega)) K4 K3 ?_
 rintro⟨k,vo⟩ hk
 dsimp only at hk
 simp only [CA,NA]
 have hlk:(l.take k).length=k:=by rw [List.length_take];omega
 refine Zb<|Ze<|dt (Xv J J J)<|Zc<|Za<|Zb<|Zr J (fun h62=>?_) (fun h62=>?_)
 ·exact Zk<|Za<|Zb<|Zo<|Zb<|Ze<|dt (Xc (ii:=1) J J J J Zi Oo zT3 J (by first | omega | (simp only [List.length_set];omega)))<|dt (Xr (ii:=1) 0 J J J Zi pZ (by first | omega | (simp only [List.length_set];omega)))<|Zp J<|Zc<|Za<|Ze<|mv J<|mv J<|tt (Zh (n:=1) (Qg _ (hl _ (Xj))) J J J K1 Gy Zg J hw) fun _ _=>tt (Pn (i:=2) (ivs:=[(0,_)]) (enc:=wv) [l.getD k 0] J J K2 Xx ti31 J J J J J pV.cells J J hw) fun v _=>tt (Hd (i:=70) (j:=2) (by_:=24) J J J J J J (by decide) J (Xa pV) Xx ti31 J pV J J J (by simp;omega) (by decide) J hw) fun v_2 _=>Zp J<|Zc<|Qn<|Za<|Ze<|dt (Ys J J J)<|mv J<|Zc<|Xk (k+1,_) (by first | omega | (dsimp only<;>omega)) (by first | omega | (dsimp only<;>omega)) K4 ⟨by rw [Mc 0 _ _ (by omega)];rfl,rfl,rfl,trivial⟩
 ·refine Yx<|Zx<|Zx<|Pd<|Za<|Zb ?_
  obtain rfl:k=l.length:=by omega
  rw [List.take_length]
  refine Yo (Pg 70 J J pV)<|Ze<|mv J<|tt (Zh (n:=3) (Zd5 _ _ hsz) J J J K1 call152 (Zd 70 J J J Zg) J hw) fun _ _=>Zp J<|Zc<|Za<|Zb<|Zb<|Ze<|mv J<|dt (Yf J J (i:=3) J Zi Xx)<|dt (Pw J J J)<|Zc<|Za<|Zr J (fun h66=>?_) (fun h66=>?_)
  ·refine Zb<|Ze<|Zp J<|Zp J<|Zc<|Za<|Zq<|Yn ?_
   have h25:25<(tzl l).length:=by omega
   exact Yu (.inl J) hsc _ _ (fun a w hs=>Og hs results108 J J) (by rw [if_pos h25]) trivial J (Ig (if_pos h25) Zm)
  ·refine Zk<|Za<|Zb<|Ze<|mv J<|Zp J<|Zp J<|Zc<|Za<|Zq ?_
   have h25:¬25<(tzl l).length:=by omega
   exact Yu (.inl J) hsc _ _ (fun a w hs=>Og hs results108 J J) (by rw [if_neg h25]<;>rfl) trivial J (Xe 3 J J J (by rw [if_neg h25]<;>rfl) Zm)
end Go.Sky

