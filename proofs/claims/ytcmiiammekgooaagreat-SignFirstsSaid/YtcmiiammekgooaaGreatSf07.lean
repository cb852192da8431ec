/- rules, arithmetic and contracts: part 8
   Proved without conditions of its own: each theorem bears its own. -/
import Derived.Test.YtcmiiammekgooaaGreatSf03
import Derived.Test.YtcmiiammekgooaaGreatSf02
import Derived.Test.YtcmiiammekgooaaGreatSf01
import Derived.Test.YtcmiiammekgooaaGreatSf06
set_option linter.all false
namespace Go.Sky
open Go.Proofs.Tryz
open Go.Proofs
set_option maxRecDepth 20000
set_option maxHeartbeats 4000000
set_option linter.unusedSimpArgs false
theorem Za5(v u:Value)(xs ys:List Int)(hv:Vp xs)(hu:Vp ys):Mc prog 156 #[v,u] [slp 2 wv v xs,slp 2 wv u ys] (.tuple #[.bool (dlow xs ys),.int .i64 (Zd5 xs ys)]):=by
 refine Yc func156 J ntmps156 J K2 ?_
 intro w0 sc hw hsc
 simp only [Zq,Zp]
 have hlen:=hv.len
 have hlen2:=hu.len
 have hm1:=Ob hv.sz
 have hm2:=Ob hu.sz
 refine Zd<|Zg<|as_ J<|as_ J<|Zf<|Za<|Zd<|Zo<|Zd<|Zg<|mv J<|tt (Zh (n:=2) (Xy _ _ ‹_›) J J J K1 Zfq (Zc 1 J J J Ze) J hw) fun _ _=>dt (Xg J J)<|mv J<|gdt (Yo J J) J J<|gtt (Zh (n:=2) (Xy _ _ ‹_›) J J J K1 Zfq (Zc 2 J J J Ze) J hw) J J J fun _ _=>gdt (Xg J J) J J<|dt (Zz J J J)<|as_ J<|Zf<|Za<|Ye J<|Zd<|Zg<|mv J<|dt (Yd J J (i:=2) J Zi Qx)<|dt (Pg J J J)<|as_ J<|Zf<|Za<|Zs J (fun h297=>?_) (fun h297=>?_)
 ·exact Zd<|Zg<|as_ J<|as_ J<|Zf<|Za<|Zu<|Ix<|Xa<|Ym (.inl J) hsc () _ (fun a w hs=>Nl hs results156 J J) (by unfold Zd5 dlow;rw [if_pos (by omega),List.eq_nil_of_length_eq_zero (l:=ys) (by omega)];rfl) trivial J Zk
 ·refine Zd<|Zg<|mv J<|dt (Yd J J (i:=1) J Zi Qx)<|mv J<|dt (Yd J J (i:=2) J Zi Qx)<|dt (Xr J J J)<|as_ J<|Zf<|Za<|Zs J (fun h299=>?_) (fun h299=>?_)
  ·exact Zd<|Zg<|as_ J<|as_ J<|Zf<|Za<|Zu<|Ix<|Xa<|Ym (.inl J) hsc () _ (fun a w hs=>Nl hs results156 J J) (by rw [Zfi (by omega),decide_eq_true (by omega)];unfold Zd5;rw [if_neg (by omega),if_pos (by omega)]) trivial J Zk
  ·have hp3:(xs.length-ys.length+1)*(msz ys+1)≤26*65537:=Nat.mul_le_mul (by omega) (by omega)
   have hp4:((xs.length:Int)-(ys.length:Int)+1)*((msz ys:Int)+1)=(((xs.length-ys.length+1)*(msz ys+1):Nat):Int):=by rw [Int.natCast_mul];congr 1;omega
   refine Zd<|Zg<|mv J<|tt (Zh (n:=2) (Ma _ _ (by first | exact hv.sz | exact hu.sz)) J J J K1 Zae (Zc 1 J J J Ze) J hw) fun _ _=>mv J<|dt (Yd J J (i:=1) J Zi Qx)<|mv J<|dt (Yd J J (i:=2) J Zi Qx)<|dt (Qd J J J ⟨by omega,by omega⟩)<|dt (Yx J J J ⟨by omega,by omega⟩)<|mv J<|tt (Zh (n:=2) (Ma _ _ (by first | exact hv.sz | exact hu.sz)) J J J K1 Zae (Zc 2 J J J Ze) J hw) fun _ _=>dt (Yx J J J ⟨by omega,by omega⟩)<|dt (Dx J J J (by rw [hp4];exact⟨by omega,by omega⟩))<|dt (Yx J J J (by rw [hp4];exact⟨by omega,by omega⟩))<|dt (Pm J J J)<|as_ J<|Zf<|Za<|Zs J (fun h301=>?_) (fun h301=>?_)
   ·exact Zd<|Zg<|as_ J<|as_ J<|Zf<|Za<|Zu<|Ix<|Xa<|Ym (.inl J) hsc () _ (fun a w hs=>Nl hs results156 J J) (by rw [hp4]at h301;rw [Zfi (by omega),decide_eq_false (by omega)];unfold Zd5;rw [if_neg (by omega),if_neg (by omega),if_pos (by omega)]) trivial J Zk
   ·exact Zj<|Oe<|Za<|Zd<|Zg<|as_ J<|as_ J<|Zf<|Za<|Zu<|Ym (.inl J) hsc () _ (fun a w hs=>Nl hs results156 J J) (by rw [hp4]at h301;rw [Zfi (by omega),decide_eq_false (by omega)];unfold Zd5;rw [if_neg (by omega),if_neg (by omega),if_neg (by omega)]) trivial J Zk
theorem Zj7(v u:Value)(xs ys:List Int)(hv:Vp xs)(hu:Vp ys)(hd:Zd5 xs ys=0):Cal prog 155 #[v,u] [slp 2 wv v xs,slp 2 wv u ys] true (G:=Value) (fun r=>True) (fun r=> .tuple #[r,.int .i64 0]) (fun r=>[slp 2 wv r (Ps xs ys)]):=by
 refine Yc func155 J ntmps155 J K2 ?_
 intro w0 sc hw hsc
 simp only [Zq,Zp]
 have hlen:=hv.len
 have hlen2:=hu.len
 have hm1:=Ob hv.sz
 have hm2:=Ob hu.sz
 obtain⟨hm0,hF0⟩:=Zac hd
 have hdl:=Zfi (p:=xs) hm0
 refine Zd<|Zg<|as_ J<|as_ J<|Zf<|Za<|Zd<|Zg<|mv J<|mv J<|tt (Zh (n:=2) (Za5 _ _ _ _ hv hu) J J J K2 call156 (Zc 1 J J J (Zc 2 J J J Ze)) J hw) fun _ _=>mv J<|dt (Yh J J J)<|dt (Yh J J J)<|as_ J<|as_ J<|Zf<|Za<|Zd<|Zd<|Zg<|mv J<|dt (Qc J J J)<|Zf<|Za<|Zs J (fun h310=>?_) (fun h310=>?_)
 ·exfalso;exact h310 hd
 ·refine Zj<|Za<|Zd<|Zg<|mv J<|tt (Zll (n:=3) (Zu1 _ _) J J J K1 call157 (Zc 1 J J J Ze) J hw) fun v _=>as_ J<|Zf<|Za<|Zd<|Zd<|Zg<|mv J<|Zf<|Za<|Mm J (fun h314=>?_) (fun h314=>?_)
  ·have hlt:xs.length<ys.length:=by rw [hdl]at h314;simpa using h314
   exact Zd<|Zg<|mv J<|as_ J<|as_ J<|Zf<|Za<|Zu<|Xa<|Ym (.inl J) hsc _ _ (fun a w hs=>Nl hs results155 J J) J trivial J (Od 3 J J pV (by unfold Ps;rw [if_pos hlt]) Zk)
  ·have hge:ys.length≤xs.length:=by rw [hdl]at h314;simpa using h314
   have hF:=hF0 hge
   refine Zj<|Za<|Zd<|Zg<|tt (Zn (i:=4) J J zeroValue167 J J hw) fun b _=>Zf<|Za<|Zd<|Zg<|mv J<|mv J<|dt (Yd J J (i:=2) J Zi Qx)<|dt (Qd J J J ⟨by omega,by omega⟩)<|dt (Xb (ii:=2) (i:=(ys.length-1)) J J J J Zi Qx Yq)<|dt (Xv (ii:=2) 0 J J J Zi pV)<|tt (Zn (i:=5) J J zeroValue31 J J hw) fun b_2 _=>tt (Zm (i:=5) J J J J J (by decide) J Yq J J ⟨Zb J,Zb J,trivial⟩ J hw trivial) fun _ _=>Zf<|Za<|Zd<|Zd<|Zg<|mv J<|dt (Yd J J (i:=1) J Zi Qx)<|dt (Qd J J J ⟨by omega,by omega⟩)<|as_ J<|Zf<|Za<|Zo<|Nt [(1,_),(8,_),(9,_),(10,_)] [(0,_),(1,_),(2,_),(4,_),(5,_)] (fun(j:Nat)=>[(11,.int .i64 ((xs.length:Int)-1-(j:Int)))]) (fun(j:Nat)=>[(3,osl 2 31 wv v (Pj xs ys j))]) (fun(j:Nat)=>j≤xs.length-ys.length+1) (fun(j:Nat)=>xs.length-ys.length+1-j) 0 (by first | omega | (dsimp only<;>omega)) ⟨by rw [show(xs.length:Int)-1-((0:Nat):Int)=(xs.length:Int)-1 by omega];rfl,rfl,rfl,rfl,rfl,trivial⟩ K6 ?_
   rintro j hj
   simp only [CA,NA]
   refine Zd<|Zd<|Zg<|mv J<|mv J<|dt (Yd J J (i:=2) J Zi Qx)<|dt (Qd J J J ⟨by omega,by omega⟩)<|dt (Ke J J J)<|Zf<|Za<|Zs J (fun h319=>?_) (fun h319=>?_)
   ·obtain⟨hb1,hb2,hb3⟩:=rest_b hF (j:=j) (by omega)
    have hRl:=Pe xs ys j
    refine Zj<|Za<|Zd<|Zo<|Zd<|Zg<|mv J<|mv J<|dt (Xb (ii:=3) (i:=(xs.length-1-j)) J J J J (Yt pV) Qx Yq)<|dt (Xv (ii:=3) 0 J J J (Yt pV) pV)<|tt (Zn (i:=6) J J zeroValue31 J J hw) fun b_3 _=>tt (Zm (i:=6) J J J J J (by decide) J Yq J J ⟨Zb J,Zb J,trivial⟩ J hw trivial) fun _ _=>Zf<|Za<|Zd<|Zd<|Zg<|mv J<|dt (Yd J J (i:=3) J (Yt pV) Qx)<|mv J<|Zf<|Za<|Zo<|Nt [(1,_),(8,_),(9,_),(10,_),(11,_),(12,_),(51,_)] [(0,_),(1,_),(2,_),(4,_),(5,_),(6,_)] (fun(i:Nat)=>[(52,.int .i64 (i:Int))]) (fun(i:Nat)=>[(3,osl 2 31 wv v (Zqu (Pj xs ys j) (cf ys (ys.length-1)) i))]) (fun(i:Nat)=>i≤xs.length) (fun(i:Nat)=>xs.length-i) 0 (by first | omega | (dsimp only<;>omega)) K8 ⟨by rw [Zta];rfl,rfl,rfl,rfl,rfl,rfl,rfl,trivial⟩ ?_
    rintro i hi
    simp only [CA,NA]
    have hg1:i<xs.length→(Zqu (Pj xs ys j) (cf ys (ys.length-1)) i).getD i 0=cf (Pj xs ys j) i:=fun h=>Zxz (by omega)
    have hl1:=Zmj (Pj xs ys j) (cf ys (ys.length-1)) i
    refine Zd<|Zg<|dt (Xr J J J)<|Zf<|Za<|Zd<|Zs J (fun h322=>?_) (fun h322=>?_)
    ·refine Zj<|Za<|Zd<|Zo<|Zd<|Zg<|mv J<|as_ J<|Zf<|Za<|Qi (fun x=>x=b) [(0,0),(1,0),(2,0),(3,0),(4,0),(5,0),(6,0),(7,1),(8,0),(9,3)] ?_ ?_
     ·kernel_rfl
     exact r0' J J (st1 4 J (Yo J J))<|r0' J J (st1 4 J (Yo J J))<|r0' J J (st1 4 J (Yo J J))<|r0' J J (st1 4 J (Yo J J))<|r0' J J (st1 4 J (Xb (ii:=3) (i:=i) J J J J (Yt pV) Qx Yq J))<|r0' J J (st1 4 J (Xv (ii:=3) 0 J J J (Yt pV) pV))<|r0' J J (st1 4 J (Zy (i:=5) J J J Qq Yq J J))<|r1' J (On (n:=6) (i:=4) (Da _ _ _ (by rw [hg1 (by omega)];exact hb1 _) (hu.sz _) (by rw [hg1 (by omega)];exact hb2 _ _)) J J J K3 call153 J (by decide) Ze J hw J) fun _ _=>r0' J J (st1 4 J (Xb (ii:=3) (i:=i) J J J J (Yt pV) Qx Yq J))<|r3' J (Ii (i:=3) (enc:=wv) _ J J J J J J pV J hw) fun _ _=>Of<|Oe<|Za<|Zg<|dt (Yx J J J ⟨by omega,by omega⟩)<|mv J<|Zf<|Xn (i+1) (by first | omega | (dsimp only<;>omega)) (by first | omega | (dsimp only<;>omega)) K8 ⟨by rw [←Zxy (by omega),←hg1 (by omega)];rfl,rfl,rfl,rfl,rfl,rfl,rfl,trivial⟩
    ·refine Yv<|Zv<|Zv<|Ox<|Za<|Zd ?_
     obtain rfl:i=xs.length:=by omega
     refine Zg<|mv J<|dt (Yd J J (i:=2) J Zi Qx)<|mv J<|Zf<|Za<|Zo<|Nt [(1,_),(8,_),(9,_),(10,_),(11,_),(12,_),(65,_),(66,_)] [(0,_),(1,_),(2,_),(4,_),(5,_),(6,_)] (fun(i:Nat)=>[(67,.int .i64 (i:Int))]) (fun(i:Nat)=>[(3,osl 2 31 wv v (Zvt ys (Pj xs ys j) (cf ys (ys.length-1)) (cf (Pj xs ys j) (xs.length-1-j)) (xs.length-1-j-(ys.length-1)) i))]) (fun(i:Nat)=>i≤ys.length) (fun(i:Nat)=>ys.length-i) 0 (by first | omega | (dsimp only<;>omega)) K9 ⟨by rw [←Zrh,hRl];rfl,rfl,rfl,rfl,rfl,rfl,rfl,trivial⟩ ?_
     rintro i hi
     simp only [CA,NA]
     have hg2:i<ys.length→(Zvt ys (Pj xs ys j) (cf ys (ys.length-1)) (cf (Pj xs ys j) (xs.length-1-j)) (xs.length-1-j-(ys.length-1)) i).getD ((xs.length-1-j-(ys.length-1))+i) 0=cf (Pj xs ys j) ((xs.length-1-j-(ys.length-1))+i)*(cf ys (ys.length-1)):=fun h=>Zwe (by omega)
     have hl2:=Zmi ys (Pj xs ys j) (cf ys (ys.length-1)) (cf (Pj xs ys j) (xs.length-1-j)) (xs.length-1-j-(ys.length-1)) i
     refine Zd<|Zg<|dt (Xr J J J)<|Zf<|Za<|Zd<|Zs J (fun h325=>?_) (fun h325=>?_)
     ·refine Zj<|Za<|Zd<|Zo<|Zd<|Zg<|mv J<|dt (Xb (ii:=2) J J J J Zi Qx Yq J (by first | omega | (simp only [List.length_set];omega)))<|dt (Xv (ii:=2) 0 J J J Zi pV (by first | omega | (simp only [List.length_set];omega)))<|tt (Zn (i:=7) J J zeroValue31 J J hw) fun b_4 _=>as_ J<|tt (Zm (i:=7) J J J J J (by decide) J Yq J J ⟨Zb J,Zb J,trivial⟩ J hw trivial) fun _ _=>Zf<|Za<|Zd<|Zg<|mv J<|mv J<|dt (Yd J J (i:=2) J Zi Qx)<|dt (Qd J J J ⟨by omega,by omega⟩)<|dt (Qd J J J ⟨by omega,by omega⟩)<|mv J<|dt (Yx J J J ⟨by omega,by omega⟩)<|as_ J<|Zf<|Za<|Qi (fun x=>x=b) [(0,0),(1,0),(2,0),(3,0),(4,0),(5,0),(6,0),(7,0),(8,1),(9,1),(10,0),(11,3)] ?_ ?_
      ·kernel_rfl
      exact r0' J J (st1 4 J (Yo J J))<|r0' J J (st1 4 J (Yo J J))<|r0' J J (st1 4 J (Yo J J))<|r0' J J (st1 4 J (Yo J J))<|r0' J J (st1 4 J (Xb (ii:=3) (i:=((xs.length-1-j-(ys.length-1))+i)) J J J J (Yt pV) Qx Yq))<|r0' J J (st1 4 J (Xv (ii:=3) 0 J J J (Yt pV) pV))<|r0' J J (st1 4 J (Zy (i:=6) J J J Qq Yq J J))<|r0' J J (st1 4 J (Zy (i:=7) J J J Qq Yq J J))<|r1' J (On (n:=7) (i:=4) (Da _ _ _ (hb1 _) (hu.sz _) (hb2 _ _)) J J J K3 call153 J (by decide) Ze J hw J) fun _ _=>r1' J (On (n:=7) (i:=4) (Zum _ _ _ (by rw [hg2 (by omega)];exact hb2 _ _) (hb2 _ _) (by rw [hg2 (by omega)];exact hb3 _ _ _ _)) J J J K3 call137 J (by decide) Ze J hw J) fun _ _=>r0' J J (st1 4 J (Xb (ii:=3) (i:=((xs.length-1-j-(ys.length-1))+i)) J J J J (Yt pV) Qx Yq))<|r3' J (Ii (i:=3) (enc:=wv) _ J J J J J J pV J hw) fun _ _=>Of<|Oe<|Za<|Zg<|dt (Yx J J J ⟨by omega,by omega⟩)<|mv J<|Zf<|Xn (i+1) (by first | omega | (dsimp only<;>omega)) (by first | omega | (dsimp only<;>omega)) K9 ⟨by rw [←Zwd (by omega),←hg2 (by omega)];rfl,rfl,rfl,rfl,rfl,rfl,rfl,trivial⟩
     ·refine Yv<|Zv<|Zv<|Ox<|Oe<|Za<|Zg<|mv J<|dt (Qd J J J ⟨by omega,by omega⟩)<|as_ J<|Zf ?_
      obtain rfl:i=ys.length:=by omega
      exact Xn (j+1) (by first | omega | (dsimp only<;>omega)) (by first | omega | (dsimp only<;>omega)) ⟨by rw [show(xs.length:Int)-1-((j+1:Nat):Int)=(xs.length:Int)-1-(j:Int)-1 by omega];rfl,rfl,rfl,rfl,rfl,trivial⟩ ⟨by rfl,rfl,rfl,rfl,rfl,rfl,trivial⟩
   ·refine Yv<|Zv<|Zv<|Ox<|Za<|Zd ?_
    obtain rfl:j=xs.length-ys.length+1:=by omega
    exact Yr (Pd 3 J J pV)<|Zg<|mv J<|tt (On (n:=8) (i:=4) (Zbt _ _ _ (Znm hF)) J J J K2 call154 J (by decide) (Zc 3 J J J Ze) J hw trivial) fun _ _=>dt (Yh J J J)<|dt (Yh J J J)<|as_ J<|as_ J<|Zf<|Za<|Zu<|Ym (.inl J) hsc _ _ (fun a w hs=>Nl hs results155 J J) J trivial J (Yi 8 J J J (by unfold Ps;rw [if_neg (by omega)]<;>rfl) Zk)
theorem Av(v u:Value)(xs ys:List Int)(hv:Vp xs)(hu:Vp ys)(hd:Zd5 xs ys=0):Cal prog 111 #[v,u] [slp 2 wv v xs,slp 2 wv u ys] true (G:=Value) (fun r=>True) (fun r=> .tuple #[r,.int .i64 (if pdv xs ys then 0 else 10)]) (fun r=>[slp 2 wv r (if pdv xs ys then Ku xs ys else [])]):=by
 refine Yc func111 J ntmps111 J K2 ?_
 intro w0 sc hw hsc
 simp only [Zq,Zp]
 have hlen:=hv.len
 have hlen2:=hu.len
 have hm1:=Ob hv.sz
 have hm2:=Ob hu.sz
 obtain⟨hm0,hF0⟩:=Zac hd
 have hdl:=Zfi (p:=xs) hm0
 have hyz:cf ys (ys.length-1)≠0:=hu.tr.mem (fun e=>hm0 (by rw [e];rfl))
 refine Zd<|Zg<|as_ J<|as_ J<|Zf<|Za<|Zd<|Zg<|mv J<|mv J<|tt (Zh (n:=2) (Za5 _ _ _ _ hv hu) J J J K2 call156 (Zc 1 J J J (Zc 2 J J J Ze)) J hw) fun _ _=>mv J<|dt (Yh J J J)<|dt (Yh J J J)<|as_ J<|as_ J<|Zf<|Za<|Zd<|Zo<|Zd<|Zg<|mv J<|dt (Qc J J J)<|as_ J<|Zf<|Za<|Zs J (fun h337=>?_) (fun h337=>?_)
 ·exfalso;exact h337 hd
 ·refine Zd<|Zg<|mv J<|dt (Yd J J (i:=1) J Zi Qx)<|dt (Pg J J J)<|as_ J<|Zf<|Za<|Zs J (fun h339=>?_) (fun h339=>?_)
  ·refine Zd<|Zg<|as_ J<|as_ J<|Zf<|Za<|Zu<|Ix<|Xa ?_
   have hx0:xs=[]:=List.eq_nil_of_length_eq_zero (by omega)
   have hp:pdv xs ys:= .inl hx0
   exact Ym (.inl J) hsc _ _ (fun a w hs=>Nl hs results111 J J) (by rw [if_pos hp]) trivial J (Lo (by rw [if_pos hp,hx0];rfl) Zk)
  ·have hnx:xs≠[]:=fun e=>by rw [e]at h339;simp at h339
   refine Zd<|Zg<|mv J<|as_ J<|Zf<|Za<|Mm J (fun h341=>?_) (fun h341=>?_)
   ·have hlt:xs.length<ys.length:=by rw [hdl]at h341;simpa using h341
    refine Zd<|Zg<|as_ J<|as_ J<|Zf<|Za<|Zu<|Ix<|Xa ?_
    have hp:¬pdv xs ys:=fun h=>by rcases h with h | h;(exact hnx h);(have:=h.1;omega)
    exact Ym (.inl J) hsc _ _ (fun a w hs=>Nl hs results111 J J) (by rw [if_neg hp]) trivial J (Lo (if_neg hp) Zk)
   ·have hge:ys.length≤xs.length:=by rw [hdl]at h341;simpa using h341
    have hF:=hF0 hge
    refine Zj<|Oe<|Za<|Zd<|Zg<|tt (Zn (i:=3) J J zeroValue167 J J hw) fun b _=>Zf<|Za<|Zd<|Zg<|mv J<|tt (Zll (n:=4) (Zu1 _ _) J J J K1 call157 (Zc 1 J J J Ze) J hw) fun v _=>as_ J<|Zf<|Za<|Zd<|Zg<|mv J<|dt (Yd J J (i:=1) J Zi Qx)<|mv J<|dt (Yd J J (i:=2) J Zi Qx)<|dt (Qd J J J ⟨by omega,by omega⟩)<|dt (Yx J J J ⟨by omega,by omega⟩)<|tt (Gb (i:=5) (n:=(xs.length-ys.length+1)) (by_:=24) (enc:=wv) 0 J J J J Qx ti31 J pV.cells pV.pos J J J hw) fun v_2 _=>as_ J<|Zf<|Za<|Zd<|Zd<|Zg<|mv J<|dt (Yd J J (i:=5) J (Yt pV) Qx)<|dt (Qd J J J ⟨by simp only [List.length_replicate];omega,by simp only [List.length_replicate];omega⟩)<|as_ J<|Zf<|Za<|Zo ?_
    refine Nt [(1,_),(8,_),(9,_),(10,_)] [(0,_),(1,_),(2,_),(3,_)] (fun(j:Nat)=>[(11,.int .i64 ((xs.length:Int)-(ys.length:Int)-(j:Int)))]) (fun(j:Nat)=>[(4,osl 2 31 wv v (Ql xs ys j)),(5,osl 2 31 wv v_2 (Zkw xs ys j))]) (fun(j:Nat)=>(j≤xs.length-ys.length+1)∧(∀k,xs.length-ys.length<k+j→k≤xs.length-ys.length→Lb xs ys k)) (fun(j:Nat)=>xs.length-ys.length+1-j) 0 ⟨by first | omega | (dsimp only<;>omega),fun k h1 h2=>by omega⟩ ⟨by simp only [List.length_replicate];exact congrArg some (Ag (by omega)),rfl,rfl,rfl,rfl,trivial⟩ ⟨J,by rw [Zkv];rfl,rfl,rfl,rfl,rfl,trivial⟩ ?_
    rintro j ⟨hj,hx⟩
    simp only [CA,NA]
    have hol:=Dr xs ys j
    refine Zd<|Zd<|Zg<|mv J<|dt (Ke J J J)<|Zf<|Za<|Zs J (fun h347=>?_) (fun h347=>?_)
    ·obtain⟨hb1,hb5⟩:=div_b hF (j:=j) (by omega) hx
     have hRl:=Im xs ys j
     have hi1:xs.length-ys.length-j+ys.length-1<xs.length:=by omega
     refine Zj<|Za<|Zd<|Zo<|Ez [(1,_),(8,_),(9,_),(10,_),(11,_)] [(0,_),(4,_),(5,_),(1,_),(2,_),(3,_)] (fun(q:Nat×Nat)=>[(12,.pointer (some ⟨q.1,0,none⟩)),(13,.pointer (some ⟨q.2,0,none⟩)),(14,.int .i64 0)]) (fun(q:Nat×Nat)=>[(97,box q.1 31 (wc (Zg7 (dq ys (Ql xs ys j) (xs.length-ys.length-j))))),(98,box q.2 31 (wc (Zg7 (cf (Ql xs ys j) ((xs.length-ys.length-j)+ys.length-1)%cf ys (ys.length-1)))))]) (fun(q:Nat×Nat)=>True) K5 K6 ?_ ?_
     ·refine Oi [2,4] [23]<|Zx (n:=10) [(0,0),(1,0),(2,0),(3,0),(4,0),(5,0),(6,0),(7,0),(8,0),(9,0),(10,0),(11,0),(12,0),(13,0)]<|r0' J J (stf (Yo J J) K2)<|r0' J J (stf (Yo J J) K2)<|r0' J J (stf (Yo J J) K2)<|r0' J J (stf (Yd J J (i:=2) J Zi Qx) K2)<|r0' J J (stf (Yx J J J ⟨by omega,by omega⟩) K2)<|r0' J J (stf (Qd J J J ⟨by omega,by omega⟩) K2)<|r0' J J (stf (Xb (ii:=4) (i:=((xs.length-ys.length-j)+ys.length-1)) J J J J (Yt pV) Qx Yq) K2)<|r0' J J (stf (Xv (ii:=4) 0 J J J (Yt pV) pV) K2)<|r0' J J (stf (Yo J J) K2)<|r0' J J (stf (Yo J J) K2)<|r0' J J (stf (Yd J J (i:=2) J Zi Qx) K2)<|r0' J J (stf (Qd J J J ⟨by omega,by omega⟩) K2)<|r0' J J (stf (Xb (ii:=2) (i:=(ys.length-1)) J J J J Zi Qx Yq) K2)<|r0' J J (stf (Xv (ii:=2) 0 J J J Zi pV) K2)<|Yk<|Ba (n:=9) 14 19 20 ?_ ?_ ?_
      ·refine Yj J (Zh (n:=5) (Bc _ _ (hb1 _) (hu.sz _) hyz) J J J K2 call158 Ze J hw) fun _ _=>Zx (n:=5) [(15,0),(16,0),(17,0),(18,0)]<|r0' J J (stf (Yo J J) K2)<|r0' J J (stf (Yh J J J) K2)<|r0' J J (stf (Yh J J J) K2)<|r0' J J (stf (Yh J J J) K2)<|Yk<|Pb (n:=4) 19 20 ?_ ?_
       ·exact Yj J (Zr (i:=97) J J zeroValue31 J J hw K2) fun b_2 ho=>Zx (n:=0) [(20,1),(21,1),(22,1),(23,3)]<|r1' J (Zr (i:=98) J J zeroValue31 J J hw K2) fun b_3 ho2=>r1' J (Zm (i:=97) J J J J J (by decide) J Yq J J ⟨Zb J,Zb J,trivial⟩ J hw ho) fun _ _=>r1' J (Zm (i:=98) J J J J J (by decide) J Yq J J ⟨Zb J,Zb J,trivial⟩ J hw ho2) fun _ _=>r3' J (Py (Mf J J) J) fun _ _=>Yk<|Yf<|Qt (_,_) trivial K8 K8
       ·exact Yj J (Zr (i:=98) J J zeroValue31 J J hw K2) fun b_4 ho3=>Zx (n:=0) [(19,1),(21,1),(22,1),(23,3)]<|r1' J (Zr (i:=97) J J zeroValue31 J J hw K2) fun b_5 ho4=>r1' J (Zm (i:=97) J J J J J (by decide) J Yq J J ⟨Zb J,Zb J,trivial⟩ J hw ho4) fun _ _=>r1' J (Zm (i:=98) J J J J J (by decide) J Yq J J ⟨Zb J,Zb J,trivial⟩ J hw ho3) fun _ _=>r3' J (Py (Mf J J) J) fun _ _=>Yk<|Yf<|Qt (_,_) trivial K8 K8
      ·refine Yj J (Zr (i:=97) J J zeroValue31 J J hw K2) fun b_6 ho5=>Pb (n:=8) 14 20 ?_ ?_
       ·exact Yj J (Zh (n:=5) (Bc _ _ (hb1 _) (hu.sz _) hyz) J J J K2 call158 Ze J hw) fun _ _=>Zx (n:=0) [(15,0),(16,0),(17,0),(18,0),(20,1),(21,1),(22,1),(23,3)]<|r0' J J (stf (Yo J J) K2)<|r0' J J (stf (Yh J J J) K2)<|r0' J J (stf (Yh J J J) K2)<|r0' J J (stf (Yh J J J) K2)<|r1' J (Zr (i:=98) J J zeroValue31 J J hw K2) fun b_7 ho6=>r1' J (Zm (i:=97) J J J J J (by decide) J Yq J J ⟨Zb J,Zb J,trivial⟩ J hw ho5) fun _ _=>r1' J (Zm (i:=98) J J J J J (by decide) J Yq J J ⟨Zb J,Zb J,trivial⟩ J hw ho6) fun _ _=>r3' J (Py (Mf J J) J) fun _ _=>Yk<|Yf<|Qt (_,_) trivial K8 K8
       ·exact Yj J (Zr (i:=98) J J zeroValue31 J J hw K2) fun b_8 ho7=>Zx (n:=0) [(14,1),(15,0),(16,0),(17,0),(18,0),(21,1),(22,1),(23,3)]<|r1' J (Zh (n:=5) (Bc _ _ (hb1 _) (hu.sz _) hyz) J J J K2 call158 Ze J hw) fun _ _=>r0' J J (stf (Yo J J) K2)<|r0' J J (stf (Yh J J J) K2)<|r0' J J (stf (Yh J J J) K2)<|r0' J J (stf (Yh J J J) K2)<|r1' J (Zm (i:=97) J J J J J (by decide) J Yq J J ⟨Zb J,Zb J,trivial⟩ J hw ho5) fun _ _=>r1' J (Zm (i:=98) J J J J J (by decide) J Yq J J ⟨Zb J,Zb J,trivial⟩ J hw ho7) fun _ _=>r3' J (Py (Mf J J) J) fun _ _=>Yk<|Yf<|Qt (_,_) trivial K8 K8
      ·refine Yj J (Zr (i:=98) J J zeroValue31 J J hw K2) fun b_9 ho8=>Pb (n:=8) 14 19 ?_ ?_
       ·exact Yj J (Zh (n:=5) (Bc _ _ (hb1 _) (hu.sz _) hyz) J J J K2 call158 Ze J hw) fun _ _=>Zx (n:=0) [(15,0),(16,0),(17,0),(18,0),(19,1),(21,1),(22,1),(23,3)]<|r0' J J (stf (Yo J J) K2)<|r0' J J (stf (Yh J J J) K2)<|r0' J J (stf (Yh J J J) K2)<|r0' J J (stf (Yh J J J) K2)<|r1' J (Zr (i:=97) J J zeroValue31 J J hw K2) fun b_10 ho9=>r1' J (Zm (i:=97) J J J J J (by decide) J Yq J J ⟨Zb J,Zb J,trivial⟩ J hw ho9) fun _ _=>r1' J (Zm (i:=98) J J J J J (by decide) J Yq J J ⟨Zb J,Zb J,trivial⟩ J hw ho8) fun _ _=>r3' J (Py (Mf J J) J) fun _ _=>Yk<|Yf<|Qt (_,_) trivial K8 K8
       ·exact Yj J (Zr (i:=97) J J zeroValue31 J J hw K2) fun b_11 ho10=>Zx (n:=0) [(14,1),(15,0),(16,0),(17,0),(18,0),(21,1),(22,1),(23,3)]<|r1' J (Zh (n:=5) (Bc _ _ (hb1 _) (hu.sz _) hyz) J J J K2 call158 Ze J hw) fun _ _=>r0' J J (stf (Yo J J) K2)<|r0' J J (stf (Yh J J J) K2)<|r0' J J (stf (Yh J J J) K2)<|r0' J J (stf (Yh J J J) K2)<|r1' J (Zm (i:=97) J J J J J (by decide) J Yq J J ⟨Zb J,Zb J,trivial⟩ J hw ho10) fun _ _=>r1' J (Zm (i:=98) J J J J J (by decide) J Yq J J ⟨Zb J,Zb J,trivial⟩ J hw ho8) fun _ _=>r3' J (Py (Mf J J) J) fun _ _=>Yk<|Yf<|Qt (_,_) trivial K8 K8
     ·rintro⟨b7,b8⟩ -
      simp only [CA,NA]
      refine Zd<|Zd<|Zg<|mv J<|dt (Qc J J J)<|Zf<|Za<|Zs J (fun h349=>?_) (fun h349=>?_)
      ·exfalso;exact h349 rfl
      ·refine Zj<|Za<|Zd<|Zd<|Zg<|dt (Zy (i:=98) J J J Qq Yq J J)<|tt (Zh (n:=5) (Ms _ (clip_bl _)) J J J K1 call104 Ze J hw) fun _ _=>dt (Qc J J J)<|Zf<|Za<|Zs J (fun h352=>?_) (fun h352=>?_)
       ·have hne:¬Lb xs ys (xs.length-ys.length-j):=fun he=>h352 (by rw [Zph hyz (hu.sz _),(Zd3 (by omega)).1 he];rfl)
        refine Zd<|Zg<|as_ J<|as_ J<|Zf<|Za<|Zu<|Xa<|Ix<|Xa<|Xa<|Ix<|Xa ?_
        have hp:¬pdv xs ys:=fun h=>by rcases h with h | h;(exact hnx h);(exact hne (h.2.1 _ (by omega)))
        exact Ym (.inl J) hsc _ _ (fun a w hs=>Nl hs results111 J J) (by rw [if_neg hp]) trivial J (Lo (if_neg hp) Zk)
       ·have hde:Lb xs ys (xs.length-ys.length-j):=(Zd3 (by omega)).2 (by have h0:=Decidable.byContradiction h352;rw [Zph hyz (hu.sz _)]at h0;exact Int.sign_eq_zero_iff_zero.1 h0)
        obtain⟨hb2,hb3,hb4⟩:=hb5 hde
        refine Yr (Gv 97 (q:=box b7 31 (wc (dq ys (Ql xs ys j) (xs.length-ys.length-j)))) (by rw [Nb hb2]) J J)<|Zj<|Za<|Zd<|Zg<|mv J<|mv J<|dt (Zy (i:=97) J J J Qq Yq J J)<|dt (Xb (ii:=5) (i:=(xs.length-ys.length-j)) J J J J (Yt pV) Qx Yq)<|tt (Ii (i:=5) (enc:=wv) _ J J J J J J pV J hw) fun _ _=>Zf<|Za<|Zd<|Zg<|mv J<|dt (Yd J J (i:=2) J Zi Qx)<|mv J<|Zf<|Za<|Zo<|Nt [(1,_),(8,_),(9,_),(10,_),(11,_),(12,_),(78,_),(79,_)] [(0,_),(97,_),(98,_),(5,_),(1,_),(2,_),(3,_)] (fun(i:Nat)=>[(80,.int .i64 (i:Int))]) (fun(i:Nat)=>[(4,osl 2 31 wv v (Zvw ys (Ql xs ys j) (dq ys (Ql xs ys j) (xs.length-ys.length-j)) (xs.length-ys.length-j) i))]) (fun(i:Nat)=>i≤ys.length) (fun(i:Nat)=>ys.length-i) 0 (by first | omega | (dsimp only<;>omega)) K9 ⟨by rw [←Zug];rfl,rfl,rfl,rfl,rfl,rfl,rfl,rfl,trivial⟩ ?_
        rintro i hi
        simp only [CA,NA]
        have hg2:i<ys.length→(Zvw ys (Ql xs ys j) (dq ys (Ql xs ys j) (xs.length-ys.length-j)) (xs.length-ys.length-j) i).getD ((xs.length-ys.length-j)+i) 0=cf (Ql xs ys j) ((xs.length-ys.length-j)+i):=fun h=>Zyf (by omega)
        have hl2:=Zmk ys (Ql xs ys j) (dq ys (Ql xs ys j) (xs.length-ys.length-j)) (xs.length-ys.length-j) i
        refine Zd<|Zg<|dt (Xr J J J)<|Zf<|Za<|Zd<|Zs J (fun h356=>?_) (fun h356=>?_)
        ·refine Zj<|Za<|Zd<|Zo<|Zd<|Zg<|mv J<|dt (Xb (ii:=2) J J J J Zi Qx Yq J (by first | omega | (simp only [List.length_set];omega)))<|dt (Xv (ii:=2) 0 J J J Zi pV (by first | omega | (simp only [List.length_set];omega)))<|tt (Zn (i:=6) J J zeroValue31 J J hw) fun b_12 _=>as_ J<|tt (Zm (i:=6) J J J J J (by decide) J Yq J J ⟨Zb J,Zb J,trivial⟩ J hw trivial) fun _ _=>Zf<|Za<|Qi (fun x=>x=b) [(0,0),(1,0),(2,0),(3,0),(4,0),(5,0),(6,0),(7,0),(8,0),(9,0),(10,0),(11,0),(12,1),(13,1),(14,0),(15,3)] ?_ ?_
         ·kernel_rfl
         refine r0' J J (st1 3 J (Yo J J))<|r0' J J (st1 3 J (Yo J J))<|r0' J J (st1 3 J (Yo J J))<|r0' J J (st1 3 J (Yx J J J ⟨by omega,by omega⟩))<|r0' J J (st1 3 J (Yo J J))<|r0' J J (st1 3 J (Yo J J))<|r0' J J (st1 3 J (Yo J J))<|r0' J J (st1 3 J (Yx J J J ⟨by omega,by omega⟩))<|r0' J J (st1 3 J (Xb (ii:=4) (i:=((xs.length-ys.length-j)+i)) J J J J (Yt pV) Qx Yq))<|r0' J J (st1 3 J (Xv (ii:=4) 0 J J J (Yt pV) pV))<|r0' J J (st1 3 J (Zy (i:=97) J J J Qq Yq J J))<|r0' J J (st1 3 J (Zy (i:=6) J J J Qq Yq J J))<|r1' J (On (n:=6) (i:=3) (Da _ _ _ hb2 (hu.sz _) (hb3 _)) J J J K3 call153 J (by decide) Ze J hw J) fun _ _=>r1' J (On (n:=6) (i:=3) (Zum _ _ _ (by rw [hg2 (by omega)];exact hb1 _) (hb3 _) (by rw [hg2 (by omega)];exact hb4 _ _)) J J J K3 call137 J (by decide) Ze J hw J) fun _ _=>r0' J J (st1 3 J (Xb (ii:=4) (i:=((xs.length-ys.length-j)+i)) J J J J (Yt pV) Qx Yq))<|r3' J (Ii (i:=4) (enc:=wv) _ J J J J J J pV J hw) fun _ _=>Of<|Oe<|Za<|Zg<|dt (Yx J J J ⟨by omega,by omega⟩)<|mv J<|Zf ?_
         exact Xn (i+1) (by first | omega | (dsimp only<;>omega)) (by first | omega | (dsimp only<;>omega)) K9 ⟨by rw [←Zye (by omega),←hg2 (by omega)];rfl,rfl,rfl,rfl,rfl,rfl,rfl,rfl,trivial⟩
        ·refine Yv<|Zv<|Zv<|Ox<|Oe<|Za<|Zg<|mv J<|dt (Qd J J J ⟨by omega,by omega⟩)<|as_ J<|Zf ?_
         obtain rfl:i=ys.length:=by omega
         exact Xn (j+1) ⟨by first | omega | (dsimp only<;>omega),fun k h1 h2=>by rcases Nat.lt_or_ge (xs.length-ys.length) (k+j)with h3 | h3;(exact hx k h3 h2);(rw [show k=xs.length-ys.length-j by omega];exact hde)⟩ (by first | omega | (dsimp only<;>omega)) ⟨by rw [show(xs.length:Int)-(ys.length:Int)-((j+1:Nat):Int)=(xs.length:Int)-(ys.length:Int)-(j:Int)-1 by omega];rfl,rfl,rfl,rfl,rfl,trivial⟩ ⟨by rfl,by rw [←Zo5 (by omega)];rfl,rfl,rfl,rfl,rfl,trivial⟩
    ·refine Yv<|Zv<|Zv<|Ox<|Za<|Zd<|Zd ?_
     obtain rfl:j=xs.length-ys.length+1:=by omega
     have hall:∀k,k≤xs.length-ys.length→Lb xs ys k:=fun k hk=>hx k (by omega) hk
     refine Yr (Pd 4 J J pV)<|Zg<|dt (Xs J J Zhm J Zhc J J)<|dt (Xs J J Zlg J Gw J J)<|dt (Oj (i:=3) J J J Zag J)<|dt (Pg J J J)<|mv J<|Qm (d:=105) J (fun s360=>?_) (fun s360=>?_)
     ·refine gdt (Yo J J) J J<|gtt (Zh (n:=7) (Za4 _ _ (Zwb hF hall)) J J J K1 call152 (Zc 4 J J J Ze) J hw) J J J fun _ _=>gdt (Yd J J (i:=7) J Zi Qx) J J<|gdt (Pm J J J) J J<|dt (Ys J J J)<|Zf<|Za<|Zs J (fun h360=>?_) (fun h360=>?_)
      ·refine Zd<|Zg<|as_ J<|as_ J<|Zf<|Za<|Zu<|Xa ?_
       have hp:¬pdv xs ys:=fun h=>by rcases h with h | h;(exact hnx h);(rw [h.2.2]at h360;simp at h360)
       exact Ym (.inl J) hsc _ _ (fun a w hs=>Nl hs results111 J J) (by rw [if_neg hp]) trivial J (Lo (if_neg hp) Zk)
      ·refine Zj<|Za<|Zd<|Yr (Pd 5 J J pV)<|Zg<|mv J<|tt (On (n:=8) (i:=3) (Zbt _ _ _ (Zre hF hall _)) J J J K2 call154 J (by decide) (Zc 5 J J J Ze) J hw trivial) fun _ _=>dt (Yh J J J)<|dt (Yh J J J)<|as_ J<|as_ J<|Zf<|Za<|Zu ?_
       have hp:pdv xs ys:= .inr ⟨hge,hall,List.eq_nil_of_length_eq_zero (by omega)⟩
       exact Ym (.inl J) hsc _ _ (fun a w hs=>Nl hs results111 J J) (by rw [if_pos hp]<;>rfl) trivial J (Yi 8 J J J (by rw [if_pos hp,Zie hnx,←Zbo]<;>rfl) Zk)
     ·exfalso;exact s360 rfl
theorem Zj9(v:Value)(xs:List Int)(x y z:Int)(hv:Vp xs)(hx:bl x.natAbs≤65536)(hy:bl y.natAbs≤65536)(hz:bl z.natAbs≤65536)(hz0:0<z)(hE:¬Zpd xs x y z):Cal prog 141 #[v,wv x,wv y,wv z] [slp 2 wv v xs] true (G:=Value) (fun r=>True) (fun r=> .tuple #[r,.int .i64 0]) (fun r=>[slp 2 wv r (Ze6 xs x y z)]):=by
 refine Yc func141 J ntmps141 J K1 ?_
 intro w0 sc hw hsc
 simp only [Zq,Zp]
 have hlen:=hv.len
 refine Zd<|Zg<|tt (Yu (i:=2) J J J J J hw) fun b _=>tt (Yu (i:=3) J J J J J hw) fun b_2 _=>tt (Yu (i:=4) J J J J J hw) fun b_3 _=>as_ J<|as_ J<|Zf<|Za<|Zd<|Zd<|Zg<|mv J<|tt (Zh (n:=4) (Xy _ _ ‹_›) J J J K1 Zfq (Zc 1 J J J Ze) J hw) fun _ _=>dt (Xg J J)<|mv J<|gdt (Zy (i:=2) J J J Qq Yq J J) J J<|gtt (Zh (n:=4) (Kf _ ‹_›) J J J K1 Zga Ze J hw) J J J fun _ _=>gdt (Xg J J) J J<|dt (Zz J J J)<|mv J<|gdt (Zy (i:=3) J J J Qq Yq J J) J J<|gtt (Zh (n:=4) (Kf _ ‹_›) J J J K1 Zga Ze J hw) J J J fun _ _=>gdt (Xg J J) J J<|dt (Zz J J J)<|mv J<|gdt (Zy (i:=4) J J J Qq Yq J J) J J<|gtt (Zh (n:=4) (Kf _ ‹_›) J J J K1 Zga Ze J hw) J J J fun _ _=>gdt (Xg J J) J J<|dt (Zz J J J)<|Zf<|Za<|Ye J<|Zj<|Za<|Zd<|Zd<|Zg<|dt (Zy (i:=4) J J J Qq Yq J J)<|tt (Zh (n:=4) (Ms _ hz) J J J K1 call104 Ze J hw) fun _ _=>dt (Cf J J J)<|Zf<|Za<|Zs J (fun h232=>?_) (fun h232=>?_)
 ·exfalso;have h2:=decide_eq_decide.1 (Fb z);omega
 ·refine Zj<|Za<|Zd<|Zd<|Zg<|mv J<|dt (Yd J J (i:=1) J Zi Qx)<|dt (Pg J J J)<|Zf<|Za<|Zs J (fun h235=>?_) (fun h235=>?_)
  ·exact Zd<|Zg<|as_ J<|as_ J<|Zf<|Za<|Zu<|Xa<|Ym (.inl J) hsc _ _ (fun a w hs=>Nl hs results141 J J) J trivial J (Lo (by unfold Ze6;rw [if_pos (by omega)]) Zk)
  ·have hne:xs≠[]:=fun e=>by rw [e]at h235;simp at h235
   have hm1:=Ob hv.sz
   have hsxy:Sz 65536 [x,y,z]:=Sz.of_mem (by intro q hq;simp at hq;rcases hq with rfl | rfl | rfl<;>assumption)
   have hm2:=Ob hsxy
   have hm3:(xs.length-1)*(msz [x,y,z]+1)≤24*65537:=Nat.mul_le_mul (by omega) (by omega)
   have hm4:((xs.length:Int)-1)*((msz [x,y,z]:Int)+1)=(((xs.length-1)*(msz [x,y,z]+1):Nat):Int):=by rw [Int.natCast_mul];congr 1;omega
   refine Zj<|Za<|Zd<|Ez [(0,_),(5,_),(6,_),(7,_)] [(0,_),(1,_),(2,_),(3,_),(4,_)] (fun(_:Unit)=>[(55,.bool (decide ((65536:Int)<(msz xs:Int)+((xs.length:Int)-1)*((msz [x,y,z]:Int)+1)+8)))]) (fun(_:Unit)=>[]) (fun(_:Unit)=>True) K4 K5 ?_ ?_
   ·refine Hy (fun _=>False) []<|Zx (n:=8) [(0,0),(2,0),(3,0),(4,0),(5,0),(6,0),(7,0)]<|r0' J J (st0 (Yo J J))<|r0' J J (st0 (Yo J J))<|r0' J J (st0 (Yd J J (i:=1) J Zi Qx))<|r0' J J (st0 (Qd J J J ⟨by omega,by omega⟩))<|r0' J J (st0 (Zy (i:=2) J J J Qq Yq J J))<|r0' J J (st0 (Zy (i:=3) J J J Qq Yq J J))<|r0' J J (st0 (Zy (i:=4) J J J Qq Yq J J))<|Yk<|Pb (n:=7) 1 8 ?_ ?_
    ·exact Yj J (Zh (n:=4) (Ma _ _ (by first | exact hv.sz | exact hsxy)) J J J K1 Zae (Zc 1 J J J Ze) J hw) fun _ _=>Zx (n:=0) [(8,1),(9,1),(10,0),(11,0),(12,0),(13,0),(14,0)]<|r1' J (Po (i:=90) (ivs:=[(0,_),(1,_),(2,_)]) (enc:=wv) [x,y,z] J J K6 uT22 ti31 J J (fill3 _ _ _ _ _ _ _ _) J J pV.cells J J hw) fun v _=>r1' J (Zh (n:=4) (Ma _ _ (by first | exact hv.sz | exact hsxy)) J J J K1 Zae (Xu 90 J J pV Ze) J hw) fun _ _=>r0' J J (st0 (Yx J J J ⟨by omega,by omega⟩))<|r0' J J (st0 (Dx J J J (by rw [hm4];exact⟨by omega,by omega⟩)))<|r0' J J (st0 (Yx J J J (by rw [hm4];exact⟨by omega,by omega⟩)))<|r0' J J (st0 (Yx J J J (by rw [hm4];exact⟨by omega,by omega⟩)))<|r0' J J (st0 (Pm J J J))<|Yk<|Yf<|Qt () trivial K5 K5
    ·exact Yj J (Po (i:=90) (ivs:=[(0,_),(1,_),(2,_)]) (enc:=wv) [x,y,z] J J K6 uT22 ti31 J J (fill3 _ _ _ _ _ _ _ _) J J pV.cells J J hw) fun v_2 _=>Zx (n:=0) [(1,1),(9,1),(10,0),(11,0),(12,0),(13,0),(14,0)]<|r1' J (Zh (n:=4) (Ma _ _ (by first | exact hv.sz | exact hsxy)) J J J K1 Zae (Zc 1 J J J Ze) J hw) fun _ _=>r1' J (Zh (n:=4) (Ma _ _ (by first | exact hv.sz | exact hsxy)) J J J K1 Zae (Xu 90 J J pV Ze) J hw) fun _ _=>r0' J J (st0 (Yx J J J ⟨by omega,by omega⟩))<|r0' J J (st0 (Dx J J J (by rw [hm4];exact⟨by omega,by omega⟩)))<|r0' J J (st0 (Yx J J J (by rw [hm4];exact⟨by omega,by omega⟩)))<|r0' J J (st0 (Yx J J J (by rw [hm4];exact⟨by omega,by omega⟩)))<|r0' J J (st0 (Pm J J J))<|Yk<|Yf<|Qt () trivial K5 K5
   ·rintro _ -
    simp only [CA,NA]
    refine Zs J (fun h238=>?_) (fun h238=>?_)
    ·exfalso;exact hE ⟨hne,by rw [hm4]at h238;omega⟩
    ·have hF:msz xs+(xs.length-1)*(msz [x,y,z]+1)+8≤65536:=by rw [hm4]at h238;omega
     refine Zj<|Za<|Zd<|Zg<|tt (Zn (i:=5) J J zeroValue167 J J hw) fun b_4 _=>Zf<|Za<|Ez [(0,_),(5,_),(6,_),(7,_),(10,_)] [(0,_),(1,_),(2,_),(3,_),(4,_),(5,_)] (fun(q:Value×Nat)=>[(11,q.1),(12,.pointer (some ⟨q.2,0,none⟩))]) (fun(q:Value×Nat)=>[(70,osl 2 31 wv q.1 (Fl xs x y z 0)),(98,box q.2 31 (wc 1))]) (fun(q:Value×Nat)=>True) K5 K6 ?_ ?_
     ·refine Hy (fun _=>False) [9,10]<|Zx (n:=5) [(0,0),(1,0),(2,0),(3,0),(4,0),(5,0)]<|r0' J J (st0 (Yo J J))<|r0' J J (st0 (Yo J J))<|r0' J J (st0 (Yd J J (i:=1) J Zi Qx))<|r0' J J (st0 (Qd J J J ⟨by omega,by omega⟩))<|r0' J J (st0 (Xb (ii:=1) (i:=(xs.length-1)) J J J J Zi Qx Yq))<|r0' J J (st0 (Xv (ii:=1) 0 J J J Zi pV))<|Yk<|Ba (n:=4) 6 7 8 ?_ ?_ ?_
      ·refine Yj J (Po (i:=70) (ivs:=[(0,_)]) (enc:=wv) [cf xs (xs.length-1)] J J K2 Qx ti31 J J J J J pV.cells J J hw) fun v_3 _=>Pb (n:=3) 7 8 ?_ ?_
       ·exact Yj J (Zh (n:=5) (Xf _ (by first | assumption | exact⟨by omega,by omega⟩)) J J J K1 Bt Ze J hw) fun _ _=>Zx (n:=0) [(8,1),(9,3),(10,3)]<|r1' J (Zn (i:=98) J J zeroValue31 J J hw) fun b_5 _=>r3' J (Py (Mf J J) J) fun _ _=>r3' J (Zm (i:=98) J J J J J (by decide) J Yq J J ⟨Zb J,Zb J,trivial⟩ J hw trivial) fun _ _=>Yk<|Yf<|Qt (_,_) trivial K7 ⟨by rw [Dc];rfl,rfl,rfl,rfl,rfl,rfl,rfl,rfl,trivial⟩
       ·exact Yj J (Zn (i:=98) J J zeroValue31 J J hw) fun b_6 _=>Zx (n:=0) [(7,1),(9,3),(10,3)]<|r1' J (Zh (n:=5) (Xf _ (by first | assumption | exact⟨by omega,by omega⟩)) J J J K1 Bt Ze J hw) fun _ _=>r3' J (Py (Mf J J) J) fun _ _=>r3' J (Zm (i:=98) J J J J J (by decide) J Yq J J ⟨Zb J,Zb J,trivial⟩ J hw trivial) fun _ _=>Yk<|Yf<|Qt (_,_) trivial K7 ⟨by rw [Dc];rfl,rfl,rfl,rfl,rfl,rfl,rfl,rfl,trivial⟩
      ·refine Yj J (Zh (n:=5) (Xf _ (by first | assumption | exact⟨by omega,by omega⟩)) J J J K1 Bt Ze J hw) fun _ _=>Pb (n:=3) 6 8 ?_ ?_
       ·exact Yj J (Po (i:=70) (ivs:=[(0,_)]) (enc:=wv) [cf xs (xs.length-1)] J J K2 Qx ti31 J J J J J pV.cells J J hw) fun v_4 _=>Zx (n:=0) [(8,1),(9,3),(10,3)]<|r1' J (Zn (i:=98) J J zeroValue31 J J hw) fun b_7 _=>r3' J (Py (Mf J J) J) fun _ _=>r3' J (Zm (i:=98) J J J J J (by decide) J Yq J J ⟨Zb J,Zb J,trivial⟩ J hw trivial) fun _ _=>Yk<|Yf<|Qt (_,_) trivial K7 ⟨by rw [Dc];rfl,rfl,rfl,rfl,rfl,rfl,rfl,rfl,trivial⟩
       ·exact Yj J (Zn (i:=98) J J zeroValue31 J J hw) fun b_8 _=>Zx (n:=0) [(6,1),(9,3),(10,3)]<|r1' J (Po (i:=70) (ivs:=[(0,_)]) (enc:=wv) [cf xs (xs.length-1)] J J K2 Qx ti31 J J J J J pV.cells J J hw) fun v_5 _=>r3' J (Py (Mf J J) J) fun _ _=>r3' J (Zm (i:=98) J J J J J (by decide) J Yq J J ⟨Zb J,Zb J,trivial⟩ J hw trivial) fun _ _=>Yk<|Yf<|Qt (_,_) trivial K7 ⟨by rw [Dc];rfl,rfl,rfl,rfl,rfl,rfl,rfl,rfl,trivial⟩
      ·refine Yj J (Zn (i:=98) J J zeroValue31 J J hw) fun b_9 _=>Pb (n:=3) 6 7 ?_ ?_
       ·exact Yj J (Po (i:=70) (ivs:=[(0,_)]) (enc:=wv) [cf xs (xs.length-1)] J J K2 Qx ti31 J J J J J pV.cells J J hw) fun v_6 _=>Zx (n:=0) [(7,1),(9,3),(10,3)]<|r1' J (Zh (n:=5) (Xf _ (by first | assumption | exact⟨by omega,by omega⟩)) J J J K1 Bt Ze J hw) fun _ _=>r3' J (Py (Mf J J) J) fun _ _=>r3' J (Zm (i:=98) J J J J J (by decide) J Yq J J ⟨Zb J,Zb J,trivial⟩ J hw trivial) fun _ _=>Yk<|Yf<|Qt (_,_) trivial K7 ⟨by rw [Dc];rfl,rfl,rfl,rfl,rfl,rfl,rfl,rfl,trivial⟩
       ·exact Yj J (Zh (n:=5) (Xf _ (by first | assumption | exact⟨by omega,by omega⟩)) J J J K1 Bt Ze J hw) fun _ _=>Zx (n:=0) [(6,1),(9,3),(10,3)]<|r1' J (Po (i:=70) (ivs:=[(0,_)]) (enc:=wv) [cf xs (xs.length-1)] J J K2 Qx ti31 J J J J J pV.cells J J hw) fun v_7 _=>r3' J (Py (Mf J J) J) fun _ _=>r3' J (Zm (i:=98) J J J J J (by decide) J Yq J J ⟨Zb J,Zb J,trivial⟩ J hw trivial) fun _ _=>Yk<|Yf<|Qt (_,_) trivial K7 ⟨by rw [Dc];rfl,rfl,rfl,rfl,rfl,rfl,rfl,rfl,trivial⟩
     ·rintro⟨vo,b8⟩ -
      simp only [CA,NA]
      refine Zd<|Zd<|Zg<|mv J<|dt (Yd J J (i:=1) J Zi Qx)<|dt (Qd J J J ⟨by omega,by omega⟩)<|as_ J<|Zf<|Za<|Zo<|Nt [(0,_),(5,_),(6,_),(7,_),(10,_),(12,_)] [(0,_),(1,_),(2,_),(3,_),(4,_),(5,_)] (fun(q:Nat×Value)=>[(13,.int .i64 ((xs.length:Int)-2-(q.1:Int))),(11,q.2)]) (fun(q:Nat×Value)=>[(70,osl 2 31 wv q.2 (Fl xs x y z q.1)),(98,box b8 31 (wc (z^q.1)))]) (fun(q:Nat×Value)=>q.1≤xs.length-1) (fun(q:Nat×Value)=>xs.length-1-q.1) (0,vo) (by first | omega | (dsimp only<;>omega)) ⟨by rw [show(xs.length:Int)-2-((0:Nat):Int)=(xs.length:Int)-2 by omega];rfl,rfl,rfl,rfl,rfl,rfl,rfl,rfl,trivial⟩ ⟨J,by rw [Int.pow_zero];rfl,rfl,rfl,rfl,rfl,rfl,rfl,trivial⟩ ?_
      rintro⟨j,vo⟩ hj
      dsimp only at hj
      simp only [CA,NA]
      refine Zd<|Zd<|Zg<|mv J<|dt (Ke J J J)<|Zf<|Za<|Zs J (fun h243=>?_) (fun h243=>?_)
      ·obtain⟨c1,c2,c3,c4,c5,c6,c7,c8,c9⟩:=cp_all hF (j:=j) (by omega)
       have hcl:=Az xs x y z j
       refine Zj<|Za<|Zd<|Zo<|Zd<|Zg<|dt (Zy (i:=98) J J J Qq Yq J J)<|dt (Zy (i:=4) J J J Qq Yq J J)<|tt (On (n:=5) (i:=5) (Da _ _ _ c1 hz (by rw [←Int.pow_succ];exact c2)) J J J K3 call153 J (by decide) Ze J hw trivial) fun _ _=>tt (Zm (i:=98) J J J J J (by decide) J Yq J J ⟨Zb J,Zb J,trivial⟩ J hw trivial) fun _ _=>Zf<|Za<|Zd<|Zg<|mv J<|dt (Yd J J (i:=70) J (Yt pV) Qx)<|dt (Yx J J J ⟨by omega,by omega⟩)<|tt (Gb (i:=71) (n:=((Fl xs x y z j).length+1)) (by_:=24) (enc:=wv) 0 J J J J Qx ti31 J pV.cells pV.pos J J J hw) fun v_8 _=>as_ J<|Zf<|Za<|Zd<|Zd<|Zg<|mv J<|dt (Yd J J (i:=70) J (Yt pV) Qx)<|mv J<|Zf<|Za<|Zo<|Nt [(0,_),(5,_),(6,_),(7,_),(10,_),(12,_),(13,_),(14,_),(78,_),(79,_)] [(0,_),(70,_),(98,_),(1,_),(2,_),(3,_),(4,_),(5,_)] (fun(i:Nat)=>[(80,.int .i64 (i:Int))]) (fun(i:Nat)=>[(71,osl 2 31 wv v_8 (cnx (Fl xs x y z j) x y i))]) (fun(i:Nat)=>i≤(Fl xs x y z j).length) (fun(i:Nat)=>(Fl xs x y z j).length-i) 0 (by first | omega | (dsimp only<;>omega)) K11 ⟨by rw [Zyp];rfl,rfl,rfl,rfl,rfl,rfl,rfl,rfl,rfl,trivial⟩ ?_
       rintro i hi
       simp only [CA,NA]
       have hg1:i<(Fl xs x y z j).length→(cnx (Fl xs x y z j) x y i).getD i 0=if i=0 then 0 else cf (Fl xs x y z j) (i-1)*y:=fun h=>Zux h
       have hl1:=Ic (Fl xs x y z j) x y i
       refine Zd<|Zg<|dt (Xr J J J)<|Zf<|Za<|Zd<|Zs J (fun h247=>?_) (fun h247=>?_)
       ·refine Zj<|Za<|Zd<|Zo<|Zd<|Zg<|mv J<|dt (Xb (ii:=70) J J J J (Yt pV) Qx Yq J (by first | omega | (simp only [List.length_set];omega)))<|dt (Xv (ii:=70) 0 J J J (Yt pV) pV (by first | omega | (simp only [List.length_set];omega)))<|tt (Zn (i:=6) J J zeroValue31 J J hw) fun b_10 _=>as_ J<|tt (Zm (i:=6) J J J J J (by decide) J Yq J J ⟨Zb J,Zb J,trivial⟩ J hw trivial) fun _ _=>Zf<|Za<|Zd<|Qi (fun x=>x=b_4) [(0,0),(1,0),(2,0),(3,0),(4,0),(5,0),(6,0),(7,0),(8,1),(9,1),(10,0),(11,3)] ?_ ?_
        ·kernel_rfl
        refine r0' J J (st1 5 J (Yo J J))<|r0' J J (st1 5 J (Yo J J))<|r0' J J (st1 5 J (Yo J J))<|r0' J J (st1 5 J (Yo J J))<|r0' J J (st1 5 J (Xb (ii:=71) (i:=i) J J J J (Yt pV) Qx Yq J))<|r0' J J (st1 5 J (Xv (ii:=71) 0 J J J (Yt pV) pV))<|r0' J J (st1 5 J (Zy (i:=6) J J J Qq Yq J J))<|r0' J J (st1 5 J (Zy (i:=2) J J J Qq Yq J J))<|r1' J (On (n:=6) (i:=5) (Da _ _ _ (c3 _) hx (c4 _)) J J J K3 call153 J (by decide) Ze J hw J) fun _ _=>r1' J (On (n:=6) (i:=5) (Zo6 _ _ _ (by rw [hg1 (by omega)];exact c6 i) (c4 _) (by rw [hg1 (by omega)];exact c7 i)) J J J K3 call159 J (by decide) Ze J hw J) fun _ _=>r0' J J (st1 5 J (Xb (ii:=71) (i:=i) J J J J (Yt pV) Qx Yq J))<|r3' J (Ii (i:=71) (enc:=wv) _ J J J J J J pV J hw) fun _ _=>Of<|Za<|Zg<|mv J<|mv J<|dt (Yx J J J ⟨by omega,by omega⟩)<|dt (Zy (i:=6) J J J Qq Yq J J)<|dt (Zy (i:=3) J J J Qq Yq J J)<|tt (On (n:=6) (i:=5) (Da _ _ _ (c3 _) hy (c5 _)) J J J K3 call153 J (by decide) Ze J hw trivial) fun _ _=>dt (Xb (ii:=71) (i:=(i+1)) J J J J (Yt pV) Qx Yq (by omega) (by rw [List.length_set];omega)) ?_
        exact tt (Ii (i:=71) (enc:=wv) _ J J J J J J pV J hw (by decide) (by rw [List.length_set];omega)) fun _ _=>Zf<|Oe<|Za<|Zg<|dt (Yx J J J ⟨by omega,by omega⟩)<|mv J<|Zf<|Xn (i+1) (by first | omega | (dsimp only<;>omega)) (by first | omega | (dsimp only<;>omega)) K11 ⟨by rw [←cnx_set (by omega)];rfl,rfl,rfl,rfl,rfl,rfl,rfl,rfl,rfl,trivial⟩
       ·refine Yv<|Zv<|Zv<|Ox<|Za<|Zd ?_
        obtain rfl:i=(Fl xs x y z j).length:=by omega
        have hg0:(cnx (Fl xs x y z j) x y (Fl xs x y z j).length).getD 0 0=cf (Fl xs x y z j) 0*x:=Zpe (by omega)
        refine Qi (fun x=>x=b_4) [(0,0),(1,0),(2,0),(3,0),(4,0),(5,0),(6,0),(7,0),(8,0),(9,1),(10,1),(11,0),(12,3)] ?_ ?_
        ·kernel_rfl
        refine r0' J J (st1 5 J (Yo J J))<|r0' J J (st1 5 J (Yo J J))<|r0' J J (st1 5 J (Xb (ii:=71) (i:=0) J J J J (Yt pV) Qx Yq J))<|r0' J J (st1 5 J (Xv (ii:=71) 0 J J J (Yt pV) pV))<|r0' J J (st1 5 J (Yo J J))<|r0' J J (st1 5 J (Yo J J))<|r0' J J (st1 5 J (Xb (ii:=1) (i:=(xs.length-2-j)) J J J J Zi Qx Yq))<|r0' J J (st1 5 J (Xv (ii:=1) 0 J J J Zi pV))<|r0' J J (st1 5 J (Zy (i:=98) J J J Qq Yq J J))<|r1' J (On (n:=6) (i:=5) (Da _ _ _ (hv.sz _) (by rw [←Int.pow_succ];exact c2) (by rw [←Int.pow_succ];exact c8)) J J J K3 call153 J (by decide) Ze J hw J) fun _ _=>r1' J (On (n:=6) (i:=5) (Zo6 _ _ _ (by rw [hg0];exact c4 0) (by rw [←Int.pow_succ];exact c8) (by rw [hg0,←Int.pow_succ];exact c9)) J J J K3 call159 J (by decide) Ze J hw J) fun _ _=>r0' J J (st1 5 J (Xb (ii:=71) (i:=0) J J J J (Yt pV) Qx Yq J))<|r3' J (Ii (i:=71) (enc:=wv) _ J J J J J J pV J hw) fun _ _=>Of<|Za<|Zg<|mv J<|as_ J<|Zf<|Oe<|Za<|Zg<|mv J<|dt (Qd J J J ⟨by omega,by omega⟩)<|as_ J<|Zf<|Qu (s_move 71 70 J J J J) ?_
        exact Xn (j+1,_) (by first | omega | (dsimp only<;>omega)) (by first | omega | (dsimp only<;>omega)) ⟨by rw [show(xs.length:Int)-2-((j+1:Nat):Int)=(xs.length:Int)-2-(j:Int)-1 by omega];rfl,rfl,rfl,rfl,rfl,rfl,rfl,rfl,trivial⟩ ⟨by rw [cnx_fin (by omega)];simp only [←Int.pow_succ];rfl,by rw [Int.pow_succ];rfl,rfl,rfl,rfl,rfl,rfl,rfl,trivial⟩
      ·refine Yv<|Zv<|Zv<|Ox<|Za<|Zd ?_
       obtain rfl:j=xs.length-1:=by omega
       exact Yr (Pd 70 J J pV)<|Zg<|mv J<|tt (On (n:=7) (i:=5) (Zbt _ _ _ (cp_last hF)) J J J K2 call154 J (by decide) (Zc 70 J J J Ze) J hw trivial) fun _ _=>dt (Yh J J J)<|dt (Yh J J J)<|as_ J<|as_ J<|Zf<|Za<|Zu<|Ym (.inl J) hsc _ _ (fun a w hs=>Nl hs results141 J J) J trivial J (Yi 7 J J J (by unfold Ze6;rw [if_neg (by omega)]<;>rfl) Zk)
theorem Zoc(v u:Value)(xs ys:List Int)(hv:Vp xs)(hu:Vp ys)(F:Nat)(hg:¬Zqj xs ys)(hok:eok F (gA xs ys) (gB xs ys)):Cal prog 110 #[v,u] [slp 2 wv v xs,slp 2 wv u ys] true (G:=Value) (fun r=>True) (fun r=> .tuple #[r,.int .i64 0]) (fun r=>[slp 2 wv r (Ib F xs ys)]):=by
 refine Yc func110 J ntmps110 J K2 ?_
 intro w0 sc hw hsc
 simp only [Zq,Zp]
 have hlen:=hv.len
 have hlen2:=hu.len
 have hm1:=Ob hv.sz
 have hm2:=Ob hu.sz
 have hpx:=Yl xs
 have hpy:=Yl ys
 have hN2:(max xs.length ys.length+2)*(max xs.length ys.length+2)≤27*27:=Nat.mul_le_mul (by omega) (by omega)
 have hN3:(max xs.length ys.length+2)*(max xs.length ys.length+2)*(max (msz xs) (msz ys)+8)≤27*27*65544:=Nat.mul_le_mul hN2 (by omega)
 have hN4:(max (xs.length:Int) (ys.length:Int)+2)*(max (xs.length:Int) (ys.length:Int)+2)=(((max xs.length ys.length+2)*(max xs.length ys.length+2):Nat):Int):=by rw [Int.natCast_mul,show(((max xs.length ys.length+2):Nat):Int)=(max (xs.length:Int) (ys.length:Int)+2) by omega]
 have hN5:(max (xs.length:Int) (ys.length:Int)+2)*(max (xs.length:Int) (ys.length:Int)+2)*(max (msz xs:Int) (msz ys:Int)+8)=(((max xs.length ys.length+2)*(max xs.length ys.length+2)*(max (msz xs) (msz ys)+8):Nat):Int):=by rw [hN4,Int.natCast_mul ((max xs.length ys.length+2)*(max xs.length ys.length+2)),show((max (msz xs) (msz ys)+8:Nat):Int)=max (msz xs:Int) (msz ys:Int)+8 by omega]
 refine Zd<|Zg<|as_ J<|as_ J<|Zf<|Za<|Zd<|Zd<|Zg<|mv J<|tt (Zh (n:=2) (Xy _ _ ‹_›) J J J K1 Zfq (Zc 1 J J J Ze) J hw) fun _ _=>dt (Xg J J)<|mv J<|gdt (Yo J J) J J<|gtt (Zh (n:=2) (Xy _ _ ‹_›) J J J K1 Zfq (Zc 2 J J J Ze) J hw) J J J fun _ _=>gdt (Xg J J) J J<|dt (Zz J J J)<|Zf<|Za<|Ye J<|Zj<|Za<|Zd<|Zd<|Zg<|mv J<|dt (Yd J J (i:=1) J Zi Qx)<|mv J<|dt (Yd J J (i:=2) J Zi Qx)<|dt (Zur J J J)<|dt (Yx J J J ⟨by omega,by omega⟩)<|as_ J<|Zf<|Za<|Ez [(0,_),(1,_)] [(0,_),(1,_),(2,_)] (fun(_:Unit)=>[(46,.bool (decide (Zqj xs ys)))]) (fun(_:Unit)=>[]) (fun(_:Unit)=>True) K2 K3 ?_ ?_
 ·refine Zg<|mv J<|dt (Yd J J (i:=1) J Zi Qx)<|dt (Pm J J J)<|mv J<|Qm (d:=29) J (fun s371=>?_) (fun s371=>?_)
  ·refine gdt (Yo J J) J J<|gdt (Yd J J (i:=2) J Zi Qx) J J<|gdt (Pm J J J) J J<|dt (Ys J J J)<|mv J<|Qm (d:=34) J (fun s371_2=>?_) (fun s371_2=>?_)
   ·exact gdt (Yo J J) J J<|gdt (Yo J J) J J<|gdt (Dx J J J (by rw [hN4];exact⟨by omega,by omega⟩)) J J<|gdt (Yo J J) J J<|gtt (Zh (n:=2) (Ma _ _ (by first | exact hv.sz | exact hu.sz)) J J J K1 Zae (Zc 1 J J J Ze) J hw) J J J fun _ _=>gdt (Yo J J) J J<|gtt (Zh (n:=2) (Ma _ _ (by first | exact hv.sz | exact hu.sz)) J J J K1 Zae (Zc 2 J J J Ze) J hw) J J J fun _ _=>gdt (Zur J J J) J J<|gdt (Yx J J J ⟨by omega,by omega⟩) J J<|gdt (Dx J J J (by rw [hN5];exact⟨by omega,by omega⟩)) J J<|gdt (Pm J J J) J J<|dt (Ys J J J)<|Zf<|Qt () trivial ⟨by first | (rw [hN5];exact congrArg some (congrArg Value.bool (decide_eq_decide.2 ⟨fun h=>⟨by omega,by omega,by omega⟩,fun h=>by have:=h.2.2;omega⟩))) | exact congrArg some (congrArg Value.bool (decide_eq_false (fun h=>by have h1:=h.1;have h2:=h.2.1;omega)).symm),rfl,rfl,trivial⟩ K3
   ·exact gsk J J J<|gsk J J J<|gsk J J J<|gsk J J J<|gsk J J J<|gsk J J J<|gsk J J J<|gsk J J J<|gsk J J J<|gsk J J J<|gsk J J J<|dt (Zz J J J)<|Zf<|Qt () trivial ⟨by first | (rw [hN5];exact congrArg some (congrArg Value.bool (decide_eq_decide.2 ⟨fun h=>⟨by omega,by omega,by omega⟩,fun h=>by have:=h.2.2;omega⟩))) | exact congrArg some (congrArg Value.bool (decide_eq_false (fun h=>by have h1:=h.1;have h2:=h.2.1;omega)).symm),rfl,rfl,trivial⟩ K3
  ·exact gsk J J J<|gsk J J J<|gsk J J J<|dt (Zz J J J)<|mv J<|gsk J J J<|gsk J J J<|gsk J J J<|gsk J J J<|gsk J J J<|gsk J J J<|gsk J J J<|gsk J J J<|gsk J J J<|gsk J J J<|gsk J J J<|dt (Zz J J J)<|Zf<|Qt () trivial ⟨by first | (rw [hN5];exact congrArg some (congrArg Value.bool (decide_eq_decide.2 ⟨fun h=>⟨by omega,by omega,by omega⟩,fun h=>by have:=h.2.2;omega⟩))) | exact congrArg some (congrArg Value.bool (decide_eq_false (fun h=>by have h1:=h.1;have h2:=h.2.1;omega)).symm),rfl,rfl,trivial⟩ K3
 ·rintro _ -
  simp only [CA,NA]
  refine Zs J (fun h371=>?_) (fun h371=>?_)
  ·exfalso;exact hg h371
  ·refine Zj<|Za<|Zd<|Zg<|mv J<|tt (Zh (n:=3) (Mk _ _ hv) J J J K1 call150 (Zc 1 J J J Ze) J hw) fun _ _=>mv J<|dt (Yh J J J)<|dt (Yh J J J)<|as_ J<|as_ J<|Zf<|Za<|Zd<|Zd<|Zg<|mv J<|dt (Qc J J J)<|Zf<|Za<|Zs J (fun h375=>?_) (fun h375=>?_)
   ·exfalso;exact h375 rfl
   ·refine Zj<|Za<|Zd<|Zg<|mv J<|tt (Zh (n:=4) (Mk _ _ hu) J J J K1 call150 (Zc 2 J J J Ze) J hw) fun _ _=>mv J<|dt (Yh J J J)<|dt (Yh J J J)<|as_ J<|as_ J<|Zf<|Za<|Zd<|Zd<|Zg<|mv J<|dt (Qc J J J)<|Zf<|Za<|Zs J (fun h379=>?_) (fun h379=>?_)
    ·exfalso;exact h379 rfl
    ·refine Zj<|Za<|Ez [] [(0,_),(1,_),(2,_),(3,_),(4,_)] (fun(q:Value×Value)=>[(7,q.1),(9,q.2)]) (fun(q:Value×Value)=>[(80,slp 2 wv q.1 (gA xs ys)),(81,slp 2 wv q.2 (gB xs ys))]) (fun(q:Value×Value)=>True) trivial K5 ?_ ?_
     ·refine Zd<|Zg<|mv J<|dt (Yd J J (i:=3) J Zi Qx)<|mv J<|dt (Yd J J (i:=4) J Zi Qx)<|dt (Xr J J J)<|Zf<|Za<|Zs J (fun h382=>?_) (fun h382=>?_)
      ·exact Zg<|mv J<|mv J<|as_ J<|as_ J<|Zf<|Qu (Oa 4 80 J J J)<|Qu (Oa 3 81 J J J)<|Qt (_,_) trivial K2 ⟨by unfold gA;first | rw [if_pos (by omega)];rfl | rw [if_neg (by omega)];rfl,by unfold gB;first | rw [if_pos (by omega)];rfl | rw [if_neg (by omega)];rfl,rfl,rfl,rfl,rfl,rfl,trivial⟩
      ·exact Zj<|Qu (Oa 3 80 J J J)<|Qu (Oa 4 81 J J J)<|Qt (_,_) trivial K2 ⟨by unfold gA;first | rw [if_pos (by omega)];rfl | rw [if_neg (by omega)];rfl,by unfold gB;first | rw [if_pos (by omega)];rfl | rw [if_neg (by omega)];rfl,rfl,rfl,rfl,rfl,rfl,trivial⟩
     ·rintro⟨va,vb⟩ -
      simp only [CA,NA]
      refine Zd<|Zo<|Nt [] [(0,_),(1,_),(2,_),(3,_),(4,_)] (fun(q:Value×Value×List Int×List Int×Nat)=>[(7,q.1),(9,q.2.1)]) (fun(q:Value×Value×List Int×List Int×Nat)=>[(80,slp 2 wv q.1 q.2.2.1),(81,slp 2 wv q.2.1 q.2.2.2.1)]) (fun(q:Value×Value×List Int×List Int×Nat)=>(Vp q.2.2.1)∧(Vp q.2.2.2.1)∧(eok q.2.2.2.2 q.2.2.1 q.2.2.2.1)∧(eu q.2.2.2.2 q.2.2.1 q.2.2.2.1=eu F (gA xs ys) (gB xs ys))) (fun(q:Value×Value×List Int×List Int×Nat)=>q.2.2.2.2) (va,vb,gA xs ys,gB xs ys,F) ⟨vp_gA hv hu,vp_gB hv hu,hok,J⟩ K2 K7 ?_
      rintro⟨va,vb,a,b,f⟩ ⟨hva,hvb,hok0,heu⟩
      dsimp only at hva hvb hok0 heu
      simp only [CA,NA]
      refine Zd<|Zd<|Zg<|mv J<|dt (Yd J J (i:=81) J Zi Qx)<|dt (Pm J J J)<|Zf<|Za<|Zs J (fun h385=>?_) (fun h385=>?_)
      ·have hbn:b≠[]:=fun e=>by rw [e]at h385;simp at h385
       obtain⟨f1,rfl,hde,hok1,heu1⟩:=Zo1 hok0 hbn
       refine Zj<|Za<|Zo<|Zd<|Zg<|mv J<|mv J<|tt (Zh (n:=5) (Zj7 _ _ _ _ hva hvb hde) J J J K2 call155 (Zc 80 J J J (Zc 81 J J J Ze)) J hw) fun _ _=>mv J<|dt (Yh J J J)<|dt (Yh J J J)<|as_ J<|as_ J<|Zf<|Za<|Zd<|Zd<|Zg<|mv J<|dt (Qc J J J)<|Zf<|Za<|Zs J (fun h387=>?_) (fun h387=>?_)
       ·exfalso;exact h387 rfl
       ·refine Zj<|Za<|Zd<|Zd<|Zg<|mv J<|tt (Zh (n:=6) (Mk _ _ (Bd hva hde)) J J J K1 call150 (Zc 5 J J J Ze) J hw) fun _ _=>mv J<|dt (Yh J J J)<|dt (Yh J J J)<|as_ J<|as_ J<|Zf<|Za<|Zd<|Zg<|mv J<|dt (Qc J J J)<|Zf<|Za<|Zs J (fun h390=>?_) (fun h390=>?_)
        ·exfalso;exact h390 rfl
        ·exact Zj<|Za<|Zg<|mv J<|mv J<|as_ J<|as_ J<|Zf<|Oe<|Qu (Oa 81 80 J J J)<|Qu (Oa 6 81 J J J)<|Xn (_,_,b,Xc (Ps a b),f1) ⟨hvb,Lx (Bd hva hde),hok1,by rw [←heu1];exact heu⟩ (Nat.lt_succ_self f1) K2 K7
      ·obtain rfl:b=[]:=List.eq_nil_of_length_eq_zero (by omega)
       rw [Ey]at heu
       have hal:=hva.len
       refine Yv<|Zv<|Zv<|Ox<|Za<|Zd<|Zd<|Zg<|mv J<|dt (Yd J J (i:=80) J Zi Qx)<|dt (Pm J J J)<|mv J<|Qm (d:=95) J (fun s395=>?_) (fun s395=>?_)
       ·refine gdt (Yo J J) J J<|gdt (Yo J J) J J<|gdt (Yd J J (i:=80) J Zi Qx) J J<|gdt (Qd J J J ⟨by omega,by omega⟩) J J<|gdt (Xb (ii:=80) (i:=(a.length-1)) J J J J Zi Qx Yq) J J<|gdt (Xv (ii:=80) 0 J J J Zi pV) J J<|gtt (Zh (n:=6) (Ms _ (hva.sz _)) J J J K1 call104 Ze J hw) J J J fun _ _=>gdt (Xr J J J) J J<|dt (Ys J J J)<|Zf<|Za<|Zs J (fun h395=>?_) (fun h395=>?_)
        ·have hneg:a.length≠0∧cf a (a.length-1)<0:=⟨by omega,(Qe _).1 h395⟩
         exact Zd<|Zg<|mv J<|tt (Zh (n:=6) (Xf (-1) (by first | assumption | exact⟨by omega,by omega⟩)) J J J K1 Bt Ze J hw) fun _ _=>tt (Zh (n:=7) (Eo _ _ (-1) hva (by decide) (Zaf hva.sz)) J J J K2 call151 (Zc 80 J J J Ze) J hw) fun _ _=>dt (Yh J J J)<|dt (Yh J J J)<|as_ J<|as_ J<|Zf<|Za<|Zu<|Xa<|Ym (.inl J) hsc _ _ (fun a w hs=>Nl hs results110 J J) J trivial J (Yi 7 J J J (by unfold Ib Kp;rw [←heu,if_pos hneg]<;>rfl) Zk)
        ·refine Zj<|Za<|Zd<|Zg<|mv J<|as_ J<|as_ J<|Zf<|Za<|Zu ?_
         have hneg:¬(a.length≠0∧cf a (a.length-1)<0):=fun h=>by first | omega | exact absurd ((Qe (cf a (a.length-1))).2 h.2) ‹_›
         exact Ym (.inl J) hsc _ _ (fun a w hs=>Nl hs results110 J J) J trivial J (Yi 80 J J J (by unfold Ib Kp;rw [←heu,if_neg hneg]<;>rfl) Zk)
       ·refine gsk J J J<|gsk J J J<|gsk J J J<|gsk J J J<|gsk J J J<|gsk J J J<|gsk J J J<|gsk J J J<|dt (Zz J J J)<|Zf<|Za<|Ye J<|Zj<|Za<|Zd<|Zg<|mv J<|as_ J<|as_ J<|Zf<|Za<|Zu ?_
        have hneg:¬(a.length≠0∧cf a (a.length-1)<0):=fun h=>by first | omega | exact absurd ((Qe (cf a (a.length-1))).2 h.2) ‹_›
        exact Ym (.inl J) hsc _ _ (fun a w hs=>Nl hs results110 J J) J trivial J (Yi 80 J J J (by unfold Ib Kp;rw [←heu,if_neg hneg]<;>rfl) Zk)
theorem poly_of(v:Value)(l:List Int)(hl:∀x∈l,inI x)(hlen:l.length≤1000):Cal prog 108 #[v] [slp 1 Zah v l] true (G:=Value) (fun r=>True) (fun r=> .tuple #[r,.int .i64 (if 25<(tzl l).length then 7 else 0)]) (fun r=>[slp 2 wv r (if 25<(tzl l).length then []else tzl l)]):=by
 refine Yc func108 J ntmps108 J K1 ?_
 intro w0 sc hw hsc
 simp only [Zq,Zp]
 have hsz:=Zel hl
 refine Zd<|Zg<|as_ J<|as_ J<|Zf<|Za<|Zd<|Zg<|as_ J<|Zf<|Za<|Zd<|Zd<|Zg<|mv J<|dt (Yd J J (i:=1) J Zi Me)<|mv J<|Zf<|Za<|Zo<|Yr (Na 70 2 31 wv)<|Nt [(7,_),(8,_)] [(0,_),(1,_)] (fun(q:Nat×Value)=>[(9,.int .i64 (q.1:Int)),(4,q.2)]) (fun(q:Nat×Value)=>[(70,osl 2 31 wv q.2 (l.take q.1))]) (fun(q:Nat×Value)=>q.1≤l.length) (fun(q:Nat×Value)=>l.length-q.1) (0,.slice none 0 0) (by first | omega | (dsimp only<;>omega)) K4 K3 ?_
 rintro⟨k,vo⟩ hk
 dsimp only at hk
 simp only [CA,NA]
 have hlk:(l.take k).length=k:=by rw [List.length_take];omega
 refine Zd<|Zg<|dt (Xr J J J)<|Zf<|Za<|Zd<|Zs J (fun h62=>?_) (fun h62=>?_)
 ·exact Zj<|Za<|Zd<|Zo<|Zd<|Zg<|dt (Xb (ii:=1) J J J J Zi Me zT3 J (by first | omega | (simp only [List.length_set];omega)))<|dt (Xv (ii:=1) 0 J J J Zi pZ (by first | omega | (simp only [List.length_set];omega)))<|as_ J<|Zf<|Za<|Zg<|mv J<|mv J<|tt (Zh (n:=1) (Xf _ (hl _ (Yz))) J J J K1 Bt Ze J hw) fun _ _=>tt (Po (i:=2) (ivs:=[(0,_)]) (enc:=wv) [l.getD k 0] J J K2 Qx ti31 J J J J J pV.cells J J hw) fun v _=>tt (Iu (i:=70) (j:=2) (by_:=24) J J J J J J (by decide) J (Yt pV) Qx ti31 J pV J J J (by simp;omega) (by decide) J hw) fun v_2 _=>as_ J<|Zf<|Oe<|Za<|Zg<|dt (Yx J J J ⟨by omega,by omega⟩)<|mv J<|Zf<|Xn (k+1,_) (by first | omega | (dsimp only<;>omega)) (by first | omega | (dsimp only<;>omega)) K4 ⟨by rw [Oo 0 _ _ (by omega)];rfl,rfl,rfl,trivial⟩
 ·refine Yv<|Zv<|Zv<|Ox<|Za<|Zd ?_
  obtain rfl:k=l.length:=by omega
  rw [List.take_length]
  refine Yr (Pd 70 J J pV)<|Zg<|mv J<|tt (Zh (n:=3) (Za4 _ _ hsz) J J J K1 call152 (Zc 70 J J J Ze) J hw) fun _ _=>as_ J<|Zf<|Za<|Zd<|Zd<|Zg<|mv J<|dt (Yd J J (i:=3) J Zi Qx)<|dt (Pm J J J)<|Zf<|Za<|Zs J (fun h66=>?_) (fun h66=>?_)
  ·refine Zd<|Zg<|as_ J<|as_ J<|Zf<|Za<|Zu<|Xa ?_
   have h25:25<(tzl l).length:=by omega
   exact Ym (.inl J) hsc _ _ (fun a w hs=>Nl hs results108 J J) (by rw [if_pos h25]) trivial J (Lo (if_pos h25) Zk)
  ·refine Zj<|Za<|Zd<|Zg<|mv J<|as_ J<|as_ J<|Zf<|Za<|Zu ?_
   have h25:¬25<(tzl l).length:=by omega
   exact Ym (.inl J) hsc _ _ (fun a w hs=>Nl hs results108 J J) (by rw [if_neg h25]<;>rfl) trivial J (Yi 3 J J J (by rw [if_neg h25]<;>rfl) Zk)
end Go.Sky

