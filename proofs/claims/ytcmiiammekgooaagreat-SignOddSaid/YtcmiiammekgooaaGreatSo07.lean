/- rules, arithmetic and contracts: part 8
   Proved without conditions of its own: each theorem bears its own. -/
import Derived.Test.YtcmiiammekgooaaGreatSo03
import Derived.Test.YtcmiiammekgooaaGreatSo02
import Derived.Test.YtcmiiammekgooaaGreatSo01
import Derived.Test.YtcmiiammekgooaaGreatSo06
set_option linter.all false
namespace Go.Sky
open Go.Proofs
set_option maxRecDepth 20000
set_option maxHeartbeats 4000000
set_option linter.unusedSimpArgs false
theorem Ap(v u:Value)(xs ys:List Int)(hv:Vp xs)(hu:Vp ys):Cal Tryz.prog 156 #[v,u] [slp 2 wv v xs,slp 2 wv u ys] false (G:=Unit) (fun _=>True) (fun _=> .tuple #[.bool (dlow xs ys),.int .i64 (Zc1 xs ys)]) (fun _=>[]):=by
 refine Yd Tryz.func156 J Tryz.ntmps156 J K2 ?_
 intro w0 sc hw hsc
 simp only [Zp,Zn]
 have hlen:=hv.len
 have hlen2:=hu.len
 have hm1:=Pz hv.sz
 have hm2:=Pz hu.sz
 refine Zb<|Zg<|as_ J J<|as_ J J<|Zf<|Za<|Zb<|Zl<|Zb<|Zg<|mv J J<|tt (Zh (n:=2) (Xm _ _ (by assumption)) J J J K1 Zcf (Zd 1 J J J Ze) J hw) J fun _ _=>dt (Xo J J) J<|mv J J<|gdt (Ym J J) J J J J<|gtt (Zh (n:=2) (Xm _ _ (by assumption)) J J J K1 Zcf (Zd 2 J J J Ze) J hw) J J J J fun _ _=>gdt (Xo J J) J J J J<|dt (Yh J J J) J<|as_ J J<|Zf<|Za<|Yf J<|Zb<|Zg<|mv J J<|dt (Zy J J (i:=2) J Zi Qn) J<|dt (Pi J J J) J<|as_ J J<|Zf<|Za<|Zq J (fun h297=>?_) (fun h297=>?_)
 ·exact Zb<|Zg<|as_ J J<|as_ J J<|Zf<|Za<|Zu<|Iw<|Xe<|Zv (.inl J) hsc () _ (fun a w hs=>Ni hs Tryz.results156 J J) (by unfold Zc1 dlow;rw [if_pos (by omega),List.eq_nil_of_length_eq_zero (l:=ys) (by omega)];rfl) trivial J Zj
 ·refine Zb<|Zg<|mv J J<|dt (Zy J J (i:=1) J Zi Qn) J<|mv J J<|dt (Zy J J (i:=2) J Zi Qn) J<|dt (Qb J J J) J<|as_ J J<|Zf<|Za<|Zq J (fun h299=>?_) (fun h299=>?_)
  ·exact Zb<|Zg<|as_ J J<|as_ J J<|Zf<|Za<|Zu<|Iw<|Xe<|Zv (.inl J) hsc () _ (fun a w hs=>Ni hs Tryz.results156 J J) (by rw [Zef (by omega),decide_eq_true (by omega)];unfold Zc1;rw [if_neg (by omega),if_pos (by omega)]) trivial J Zj
  ·have hp3:(xs.length-ys.length+1)*(msz ys+1)≤26*65537:=Nat.mul_le_mul (by omega) (by omega)
   have hp4:((xs.length:Int)-(ys.length:Int)+1)*((msz ys:Int)+1)=(((xs.length-ys.length+1)*(msz ys+1):Nat):Int):=by rw [Int.natCast_mul];congr 1;omega
   refine Zb<|Zg<|mv J J<|tt (Zh (n:=2) (Nq _ _ (by first | exact hv.sz | exact hu.sz)) J J J K1 Bt (Zd 1 J J J Ze) J hw) J fun _ _=>mv J J<|dt (Zy J J (i:=1) J Zi Qn) J<|mv J J<|dt (Zy J J (i:=2) J Zi Qn) J<|dt (Qg J J J ⟨by omega,by omega⟩) J<|dt (Yt J J J ⟨by omega,by omega⟩) J<|mv J J<|tt (Zh (n:=2) (Nq _ _ (by first | exact hv.sz | exact hu.sz)) J J J K1 Bt (Zd 2 J J J Ze) J hw) J fun _ _=>dt (Yt J J J ⟨by omega,by omega⟩) J<|dt (Gz J J J (by rw [hp4];exact⟨by omega,by omega⟩)) J<|dt (Yt J J J (by rw [hp4];exact⟨by omega,by omega⟩)) J<|dt (On J J J) J<|as_ J J<|Zf<|Za<|Zq J (fun h301=>?_) (fun h301=>?_)
   ·exact Zb<|Zg<|as_ J J<|as_ J J<|Zf<|Za<|Zu<|Iw<|Xe<|Zv (.inl J) hsc () _ (fun a w hs=>Ni hs Tryz.results156 J J) (by rw [hp4]at h301;rw [Zef (by omega),decide_eq_false (by omega)];unfold Zc1;rw [if_neg (by omega),if_neg (by omega),if_pos (by omega)]) trivial J Zj
   ·exact Zk<|Ob<|Za<|Zb<|Zg<|as_ J J<|as_ J J<|Zf<|Za<|Zu<|Zv (.inl J) hsc () _ (fun a w hs=>Ni hs Tryz.results156 J J) (by rw [hp4]at h301;rw [Zef (by omega),decide_eq_false (by omega)];unfold Zc1;rw [if_neg (by omega),if_neg (by omega),if_neg (by omega)]) trivial J Zj
theorem Zi5(v u:Value)(xs ys:List Int)(hv:Vp xs)(hu:Vp ys)(hd:Zc1 xs ys=0):Cal Tryz.prog 155 #[v,u] [slp 2 wv v xs,slp 2 wv u ys] true (G:=Value) (fun r=>True) (fun r=> .tuple #[r,.int .i64 0]) (fun r=>[slp 2 wv r (Ph xs ys)]):=by
 refine Yd Tryz.func155 J Tryz.ntmps155 J K2 ?_
 intro w0 sc hw hsc
 simp only [Zp,Zn]
 have hlen:=hv.len
 have hlen2:=hu.len
 have hm1:=Pz hv.sz
 have hm2:=Pz hu.sz
 obtain⟨hm0,hF0⟩:=Bs hd
 have hdl:=Zef (p:=xs) hm0
 refine Zb<|Zg<|as_ J J<|as_ J J<|Zf<|Za<|Zb<|Zg<|mv J J<|mv J J<|tt (Zh (n:=2) (Ap _ _ _ _ hv hu) J J J K2 cF156 (Zd 1 J J J (Zd 2 J J J Ze)) J hw) J fun _ _=>mv J J<|dt (Yg J J J) J<|dt (Yg J J J) J<|as_ J J<|as_ J J<|Zf<|Za<|Zb<|Zb<|Zg<|mv J J<|dt (Qd J J J) J<|Zf<|Za<|Zq J (fun h310=>?_) (fun h310=>?_)
 ·exfalso;exact h310 hd
 ·refine Zk<|Za<|Zb<|Zg<|mv J J<|tt (Zke (n:=3) (Zto _ _ (by omega)) J J J K1 cF157 (Zd 1 J J J Ze) J hw) J fun v _=>as_ J J<|Zf<|Za<|Zb<|Zb<|Zg<|mv J J<|Zf<|Za<|Mq J (fun h314=>?_) (fun h314=>?_)
  ·have hlt:xs.length<ys.length:=by rw [hdl]at h314;simpa using h314
   exact Zb<|Zg<|mv J J<|as_ J J<|as_ J J<|Zf<|Za<|Zu<|Xe<|Zv (.inl J) hsc _ _ (fun a w hs=>Ni hs Tryz.results155 J J) J trivial J (Ps 3 J J pV (by unfold Ph;rw [if_pos hlt]) Zj)
  ·have hge:ys.length≤xs.length:=by rw [hdl]at h314;simpa using h314
   have hF:=hF0 hge
   refine Zk<|Za<|Zb<|Zg<|tt (Zo (i:=4) J J J Tryz.zeroValue167 J J hw) J fun b _=>Zf<|Za<|Zb<|Zg<|mv J J<|mv J J<|dt (Zy J J (i:=2) J Zi Qn) J<|dt (Qg J J J ⟨by omega,by omega⟩) J<|dt (Yz (ii:=2) (i:=(ys.length-1)) J J J J Zi Qn Yk (by omega) (by omega)) J<|dt (Xs (ii:=2) 0 J J J Zi pV (by omega)) J<|tt (Zo (i:=5) J J J Tryz.zeroValue31 J J hw) J fun b_2 _=>tt (Zm (i:=5) J J J J J (by decide) J Yk J J ⟨Zc J,Zc J,trivial⟩ J hw trivial) J fun _ _=>Zf<|Za<|Zb<|Zb<|Zg<|mv J J<|dt (Zy J J (i:=1) J Zi Qn) J<|dt (Qg J J J ⟨by omega,by omega⟩) J<|as_ J J<|Zf<|Za<|Zl<|Nt [(1,_),(8,_),(9,_),(10,_)] [(0,_),(1,_),(2,_),(4,_),(5,_)] (fun(j:Nat)=>[(11,.int .i64 ((xs.length:Int)-1-(j:Int)))]) (fun(j:Nat)=>[(3,osl 2 31 wv v (Pa xs ys j))]) (fun(j:Nat)=>j≤xs.length-ys.length+1) (fun(j:Nat)=>xs.length-ys.length+1-j) 0 (by first | omega | (dsimp only<;>omega)) ⟨by rw [show(xs.length:Int)-1-((0:Nat):Int)=(xs.length:Int)-1 by omega];rfl,rfl,rfl,rfl,rfl,trivial⟩ K6 ?_
   rintro j hj
   simp only [List.cons_append,List.nil_append]
   refine Zb<|Zb<|Zg<|mv J J<|mv J J<|dt (Zy J J (i:=2) J Zi Qn) J<|dt (Qg J J J ⟨by omega,by omega⟩) J<|dt (Lq J J J) J<|Zf<|Za<|Zq J (fun h319=>?_) (fun h319=>?_)
   ·obtain⟨hb1,hb2,hb3⟩:=rest_b hF (j:=j) (by omega)
    have hRl:=Qw xs ys j
    refine Zk<|Za<|Zb<|Zl<|Zb<|Zg<|mv J J<|mv J J<|dt (Yz (ii:=3) (i:=(xs.length-1-j)) J J J J (Yn pV) Qn Yk (by omega) (by omega)) J<|dt (Xs (ii:=3) 0 J J J (Yn pV) pV (by omega)) J<|tt (Zo (i:=6) J J J Tryz.zeroValue31 J J hw) J fun b_3 _=>tt (Zm (i:=6) J J J J J (by decide) J Yk J J ⟨Zc J,Zc J,trivial⟩ J hw trivial) J fun _ _=>Zf<|Za<|Zb<|Zb<|Zg<|mv J J<|dt (Zy J J (i:=3) J (Yn pV) Qn) J<|mv J J<|Zf<|Za<|Zl<|Nt [(1,_),(8,_),(9,_),(10,_),(11,_),(12,_),(51,_)] [(0,_),(1,_),(2,_),(4,_),(5,_),(6,_)] (fun(i:Nat)=>[(52,.int .i64 (i:Int))]) (fun(i:Nat)=>[(3,osl 2 31 wv v (Zpk (Pa xs ys j) (cf ys (ys.length-1)) i))]) (fun(i:Nat)=>i≤xs.length) (fun(i:Nat)=>xs.length-i) 0 (by first | omega | (dsimp only<;>omega)) K8 ⟨by rw [Zr1];rfl,rfl,rfl,rfl,rfl,rfl,rfl,trivial⟩ ?_
    rintro i hi
    simp only [List.cons_append,List.nil_append]
    have hg1:i<xs.length→(Zpk (Pa xs ys j) (cf ys (ys.length-1)) i).getD i 0=cf (Pa xs ys j) i:=fun h=>Zwd (by omega)
    have hl1:=Zlf (Pa xs ys j) (cf ys (ys.length-1)) i
    refine Zb<|Zg<|dt (Qb J J J) J<|Zf<|Za<|Zb<|Zq J (fun h322=>?_) (fun h322=>?_)
    ·refine Zk<|Za<|Zb<|Zl<|Zb<|Zg<|mv J J<|as_ J J<|Zf<|Za<|Qs (fun x=>x=b) [(0,0),(1,0),(2,0),(3,0),(4,0),(5,0),(6,0),(7,1),(8,0),(9,3)] (by kernel_rfl) ?_ ?_
     ·kernel_rfl
     exact r0' J J J J (st1 4 J (Ym J J))<|r0' J J J J (st1 4 J (Ym J J))<|r0' J J J J (st1 4 J (Ym J J))<|r0' J J J J (st1 4 J (Ym J J))<|r0' J J J J (st1 4 J (Yz (ii:=3) (i:=i) J J J J (Yn pV) Qn Yk J (by omega)))<|r0' J J J J (st1 4 J (Xs (ii:=3) 0 J J J (Yn pV) pV (by omega)))<|r0' J J J J (st1 4 J (Yc (i:=5) J J J Qo Yk J J))<|r1' J J (Oc (n:=6) (i:=4) (Fy _ _ _ (by rw [hg1 (by omega)];exact hb1 _) (hu.sz _) (by rw [hg1 (by omega)];exact hb2 _ _)) J J J K3 Zbr J (by decide) Ze J hw J) fun _ _=>r0' J J J J (st1 4 J (Yz (ii:=3) (i:=i) J J J J (Yn pV) Qn Yk J (by omega)))<|r3' J J (Kr (i:=3) (enc:=wv) _ J J J J J J (by decide) pV (by omega) J hw) fun _ _=>Og<|Ob<|Za<|Zg<|dt (Yt J J J ⟨by omega,by omega⟩) J<|mv J J<|Zf<|Xq (i+1) (by first | omega | (dsimp only<;>omega)) (by first | omega | (dsimp only<;>omega)) K8 ⟨by rw [←Zwc (by omega),←hg1 (by omega)];rfl,rfl,rfl,rfl,rfl,rfl,rfl,trivial⟩
    ·refine Yu<|Zs<|Zs<|Ox<|Za<|Zb ?_
     obtain rfl:i=xs.length:=by omega
     refine Zg<|mv J J<|dt (Zy J J (i:=2) J Zi Qn) J<|mv J J<|Zf<|Za<|Zl<|Nt [(1,_),(8,_),(9,_),(10,_),(11,_),(12,_),(65,_),(66,_)] [(0,_),(1,_),(2,_),(4,_),(5,_),(6,_)] (fun(i:Nat)=>[(67,.int .i64 (i:Int))]) (fun(i:Nat)=>[(3,osl 2 31 wv v (Zug ys (Pa xs ys j) (cf ys (ys.length-1)) (cf (Pa xs ys j) (xs.length-1-j)) (xs.length-1-j-(ys.length-1)) i))]) (fun(i:Nat)=>i≤ys.length) (fun(i:Nat)=>ys.length-i) 0 (by first | omega | (dsimp only<;>omega)) K9 ⟨by rw [←Zp7,hRl];rfl,rfl,rfl,rfl,rfl,rfl,rfl,trivial⟩ ?_
     rintro i hi
     simp only [List.cons_append,List.nil_append]
     have hg2:i<ys.length→(Zug ys (Pa xs ys j) (cf ys (ys.length-1)) (cf (Pa xs ys j) (xs.length-1-j)) (xs.length-1-j-(ys.length-1)) i).getD ((xs.length-1-j-(ys.length-1))+i) 0=cf (Pa xs ys j) ((xs.length-1-j-(ys.length-1))+i)*(cf ys (ys.length-1)):=fun h=>Zu1 (by omega)
     have hl2:=Zle ys (Pa xs ys j) (cf ys (ys.length-1)) (cf (Pa xs ys j) (xs.length-1-j)) (xs.length-1-j-(ys.length-1)) i
     refine Zb<|Zg<|dt (Qb J J J) J<|Zf<|Za<|Zb<|Zq J (fun h325=>?_) (fun h325=>?_)
     ·refine Zk<|Za<|Zb<|Zl<|Zb<|Zg<|mv J J<|dt (Yz (ii:=2) J J J J Zi Qn Yk J (by first | omega | (simp only [List.length_set];omega))) J<|dt (Xs (ii:=2) 0 J J J Zi pV (by first | omega | (simp only [List.length_set];omega))) J<|tt (Zo (i:=7) J J J Tryz.zeroValue31 J J hw) J fun b_4 _=>as_ J J<|tt (Zm (i:=7) J J J J J (by decide) J Yk J J ⟨Zc J,Zc J,trivial⟩ J hw trivial) J fun _ _=>Zf<|Za<|Zb<|Zg<|mv J J<|mv J J<|dt (Zy J J (i:=2) J Zi Qn) J<|dt (Qg J J J ⟨by omega,by omega⟩) J<|dt (Qg J J J ⟨by omega,by omega⟩) J<|mv J J<|dt (Yt J J J ⟨by omega,by omega⟩) J<|as_ J J<|Zf<|Za<|Qs (fun x=>x=b) [(0,0),(1,0),(2,0),(3,0),(4,0),(5,0),(6,0),(7,0),(8,1),(9,1),(10,0),(11,3)] (by kernel_rfl) ?_ ?_
      ·kernel_rfl
      refine r0' J J J J (st1 4 J (Ym J J))<|r0' J J J J (st1 4 J (Ym J J))<|r0' J J J J (st1 4 J (Ym J J))<|r0' J J J J (st1 4 J (Ym J J))<|r0' J J J J (st1 4 J (Yz (ii:=3) (i:=((xs.length-1-j-(ys.length-1))+i)) J J J J (Yn pV) Qn Yk (by omega) (by omega)))<|r0' J J J J (st1 4 J (Xs (ii:=3) 0 J J J (Yn pV) pV (by omega)))<|r0' J J J J (st1 4 J (Yc (i:=6) J J J Qo Yk J J))<|r0' J J J J (st1 4 J (Yc (i:=7) J J J Qo Yk J J))<|r1' J J (Oc (n:=7) (i:=4) (Fy _ _ _ (hb1 _) (hu.sz _) (hb2 _ _)) J J J K3 Zbr J (by decide) Ze J hw J) fun _ _=>r1' J J (Oc (n:=7) (i:=4) (Zs8 _ _ _ (by rw [hg2 (by omega)];exact hb2 _ _) (hb2 _ _) (by rw [hg2 (by omega)];exact hb3 _ _ _ _)) J J J K3 cF137 J (by decide) Ze J hw J) fun _ _=>r0' J J J J (st1 4 J (Yz (ii:=3) (i:=((xs.length-1-j-(ys.length-1))+i)) J J J J (Yn pV) Qn Yk (by omega) (by omega)))<|r3' J J (Kr (i:=3) (enc:=wv) _ J J J J J J (by decide) pV (by omega) J hw) fun _ _=>Og<|Ob<|Za<|Zg<|dt (Yt J J J ⟨by omega,by omega⟩) J<|mv J J<|Zf ?_
      exact Xq (i+1) (by first | omega | (dsimp only<;>omega)) (by first | omega | (dsimp only<;>omega)) K9 ⟨by rw [←Zu0 (by omega),←hg2 (by omega)];rfl,rfl,rfl,rfl,rfl,rfl,rfl,trivial⟩
     ·refine Yu<|Zs<|Zs<|Ox<|Ob<|Za<|Zg<|mv J J<|dt (Qg J J J ⟨by omega,by omega⟩) J<|as_ J J<|Zf ?_
      obtain rfl:i=ys.length:=by omega
      exact Xq (j+1) (by first | omega | (dsimp only<;>omega)) (by first | omega | (dsimp only<;>omega)) ⟨by rw [show(xs.length:Int)-1-((j+1:Nat):Int)=(xs.length:Int)-1-(j:Int)-1 by omega];rfl,rfl,rfl,rfl,rfl,trivial⟩ ⟨by rfl,rfl,rfl,rfl,rfl,rfl,trivial⟩
   ·refine Yu<|Zs<|Zs<|Ox<|Za<|Zb ?_
    obtain rfl:j=xs.length-ys.length+1:=by omega
    exact Ys (Po 3 J J pV)<|Zg<|mv J J<|tt (Oc (n:=8) (i:=4) (Zan _ _ _ (Zmn hF)) J J J K2 Zl1 J (by decide) (Zd 3 J J J Ze) J hw trivial) J fun _ _=>dt (Yg J J J) J<|dt (Yg J J J) J<|as_ J J<|as_ J J<|Zf<|Za<|Zu<|Zv (.inl J) hsc _ _ (fun a w hs=>Ni hs Tryz.results155 J J) J trivial J (Yj 8 J J J (by unfold Ph;rw [if_neg (by omega)]<;>rfl) Zj)
theorem Bm(v u:Value)(xs ys:List Int)(hv:Vp xs)(hu:Vp ys)(hd:Zc1 xs ys=0):Cal Tryz.prog 111 #[v,u] [slp 2 wv v xs,slp 2 wv u ys] true (G:=Value) (fun r=>True) (fun r=> .tuple #[r,.int .i64 (if pdv xs ys then 0 else 10)]) (fun r=>[slp 2 wv r (if pdv xs ys then Ki xs ys else [])]):=by
 refine Yd Tryz.func111 J Tryz.ntmps111 J K2 ?_
 intro w0 sc hw hsc
 simp only [Zp,Zn]
 have hlen:=hv.len
 have hlen2:=hu.len
 have hm1:=Pz hv.sz
 have hm2:=Pz hu.sz
 obtain⟨hm0,hF0⟩:=Bs hd
 have hdl:=Zef (p:=xs) hm0
 have hyz:cf ys (ys.length-1)≠0:=hu.tr.mem (fun e=>hm0 (by rw [e];rfl))
 refine Zb<|Zg<|as_ J J<|as_ J J<|Zf<|Za<|Zb<|Zg<|mv J J<|mv J J<|tt (Zh (n:=2) (Ap _ _ _ _ hv hu) J J J K2 cF156 (Zd 1 J J J (Zd 2 J J J Ze)) J hw) J fun _ _=>mv J J<|dt (Yg J J J) J<|dt (Yg J J J) J<|as_ J J<|as_ J J<|Zf<|Za<|Zb<|Zl<|Zb<|Zg<|mv J J<|dt (Qd J J J) J<|as_ J J<|Zf<|Za<|Zq J (fun h337=>?_) (fun h337=>?_)
 ·exfalso;exact h337 hd
 ·refine Zb<|Zg<|mv J J<|dt (Zy J J (i:=1) J Zi Qn) J<|dt (Pi J J J) J<|as_ J J<|Zf<|Za<|Zq J (fun h339=>?_) (fun h339=>?_)
  ·refine Zb<|Zg<|as_ J J<|as_ J J<|Zf<|Za<|Zu<|Iw<|Xe ?_
   have hx0:xs=[]:=List.eq_nil_of_length_eq_zero (by omega)
   have hp:pdv xs ys:= .inl hx0
   exact Zv (.inl J) hsc _ _ (fun a w hs=>Ni hs Tryz.results111 J J) (by rw [if_pos hp]) trivial J (Ld (by rw [if_pos hp,hx0];rfl) Zj)
  ·have hnx:xs≠[]:=fun e=>by rw [e]at h339;simp at h339
   refine Zb<|Zg<|mv J J<|as_ J J<|Zf<|Za<|Mq J (fun h341=>?_) (fun h341=>?_)
   ·have hlt:xs.length<ys.length:=by rw [hdl]at h341;simpa using h341
    refine Zb<|Zg<|as_ J J<|as_ J J<|Zf<|Za<|Zu<|Iw<|Xe ?_
    have hp:¬pdv xs ys:=fun h=>by rcases h with h | h;(exact hnx h);(have:=h.1;omega)
    exact Zv (.inl J) hsc _ _ (fun a w hs=>Ni hs Tryz.results111 J J) (by rw [if_neg hp]) trivial J (Ld (if_neg hp) Zj)
   ·have hge:ys.length≤xs.length:=by rw [hdl]at h341;simpa using h341
    have hF:=hF0 hge
    refine Zk<|Ob<|Za<|Zb<|Zg<|tt (Zo (i:=3) J J J Tryz.zeroValue167 J J hw) J fun b _=>Zf<|Za<|Zb<|Zg<|mv J J<|tt (Zke (n:=4) (Zto _ _ (by omega)) J J J K1 cF157 (Zd 1 J J J Ze) J hw) J fun v _=>as_ J J<|Zf<|Za<|Zb<|Zg<|mv J J<|dt (Zy J J (i:=1) J Zi Qn) J<|mv J J<|dt (Zy J J (i:=2) J Zi Qn) J<|dt (Qg J J J ⟨by omega,by omega⟩) J<|dt (Yt J J J ⟨by omega,by omega⟩) J<|tt (Hw (i:=5) (n:=(xs.length-ys.length+1)) (by_:=24) (enc:=wv) 0 J J J J J (by omega) Qn Tryz.ti31 J pV.cells pV.pos J J (by omega) (by decide) J hw) J fun v_2 _=>as_ J J<|Zf<|Za<|Zb<|Zb<|Zg<|mv J J<|dt (Zy J J (i:=5) J (Yn pV) Qn) J<|dt (Qg J J J ⟨by simp only [List.length_replicate];omega,by simp only [List.length_replicate];omega⟩) J<|as_ J J<|Zf<|Za<|Zl ?_
    refine Nt [(1,_),(8,_),(9,_),(10,_)] [(0,_),(1,_),(2,_),(3,_)] (fun(j:Nat)=>[(11,.int .i64 ((xs.length:Int)-(ys.length:Int)-(j:Int)))]) (fun(j:Nat)=>[(4,osl 2 31 wv v (Qi xs ys j)),(5,osl 2 31 wv v_2 (Zjq xs ys j))]) (fun(j:Nat)=>(j≤xs.length-ys.length+1)∧(∀k,xs.length-ys.length<k+j→k≤xs.length-ys.length→Mr xs ys k)) (fun(j:Nat)=>xs.length-ys.length+1-j) 0 ⟨by first | omega | (dsimp only<;>omega),fun k h1 h2=>by omega⟩ ⟨by simp only [List.length_replicate];exact congrArg some (Db (by omega)),rfl,rfl,rfl,rfl,trivial⟩ ⟨J,by rw [Zjp];rfl,rfl,rfl,rfl,rfl,trivial⟩ ?_
    rintro j ⟨hj,hx⟩
    simp only [List.cons_append,List.nil_append]
    have hol:=Ep xs ys j
    refine Zb<|Zb<|Zg<|mv J J<|dt (Lq J J J) J<|Zf<|Za<|Zq J (fun h347=>?_) (fun h347=>?_)
    ·obtain⟨hb1,hb5⟩:=div_b hF (j:=j) (by omega) hx
     have hRl:=Kw xs ys j
     have hi1:xs.length-ys.length-j+ys.length-1<xs.length:=by omega
     refine Zk<|Za<|Zb<|Zl<|Dd [(1,_),(8,_),(9,_),(10,_),(11,_)] [(0,_),(4,_),(5,_),(1,_),(2,_),(3,_)] (fun(q:Nat×Nat)=>[(12,.pointer (some ⟨q.1,0,none⟩)),(13,.pointer (some ⟨q.2,0,none⟩)),(14,.int .i64 0)]) (fun(q:Nat×Nat)=>[(97,box q.1 31 (wc (Zf2 (dq ys (Qi xs ys j) (xs.length-ys.length-j))))),(98,box q.2 31 (wc (Zf2 (cf (Qi xs ys j) ((xs.length-ys.length-j)+ys.length-1)%cf ys (ys.length-1)))))]) (fun(q:Nat×Nat)=>True) K5 K6 ?_ ?_
     ·refine Nr [2,4] [23] (by kernel_rfl)<|Zx (n:=10) [(0,0),(1,0),(2,0),(3,0),(4,0),(5,0),(6,0),(7,0),(8,0),(9,0),(10,0),(11,0),(12,0),(13,0)] (by kernel_rfl)<|r0' J J J J (stf (Ym J J) K2)<|r0' J J J J (stf (Ym J J) K2)<|r0' J J J J (stf (Ym J J) K2)<|r0' J J J J (stf (Zy J J (i:=2) J Zi Qn) K2)<|r0' J J J J (stf (Yt J J J ⟨by omega,by omega⟩) K2)<|r0' J J J J (stf (Qg J J J ⟨by omega,by omega⟩) K2)<|r0' J J J J (stf (Yz (ii:=4) (i:=((xs.length-ys.length-j)+ys.length-1)) J J J J (Yn pV) Qn Yk (by omega) (by omega)) K2)<|r0' J J J J (stf (Xs (ii:=4) 0 J J J (Yn pV) pV (by omega)) K2)<|r0' J J J J (stf (Ym J J) K2)<|r0' J J J J (stf (Ym J J) K2)<|r0' J J J J (stf (Zy J J (i:=2) J Zi Qn) K2)<|r0' J J J J (stf (Qg J J J ⟨by omega,by omega⟩) K2)<|r0' J J J J (stf (Yz (ii:=2) (i:=(ys.length-1)) J J J J Zi Qn Yk (by omega) (by omega)) K2)<|r0' J J J J (stf (Xs (ii:=2) 0 J J J Zi pV (by omega)) K2)<|Yr<|Zay (n:=9) 14 19 20 (by kernel_rfl) ?_ ?_ ?_
      ·refine Yo J J (Zh (n:=5) (Cf _ _ (hb1 _) (hu.sz _) hyz) J J J K2 Zpf Ze J hw) fun _ _=>Zx (n:=5) [(15,0),(16,0),(17,0),(18,0)] (by kernel_rfl)<|r0' J J J J (stf (Ym J J) K2)<|r0' J J J J (stf (Yg J J J) K2)<|r0' J J J J (stf (Yg J J J) K2)<|r0' J J J J (stf (Yg J J J) K2)<|Yr<|Pu (n:=4) 19 20 (by kernel_rfl) ?_ ?_
       ·exact Yo J J (Zt (i:=97) J J J Tryz.zeroValue31 J J hw K2) fun b_2 ho=>Zx (n:=0) [(20,1),(21,1),(22,1),(23,3)] (by kernel_rfl)<|r1' J J (Zt (i:=98) J J J Tryz.zeroValue31 J J hw K2) fun b_3 ho2=>r1' J J (Zm (i:=97) J J J J J (by decide) J Yk J J ⟨Zc J,Zc J,trivial⟩ J hw ho) fun _ _=>r1' J J (Zm (i:=98) J J J J J (by decide) J Yk J J ⟨Zc J,Zc J,trivial⟩ J hw ho2) fun _ _=>r3' J J (Od (Kk J J) J J) fun _ _=>Yr<|Yl (by kernel_rfl)<|Qv (_,_) trivial K8 K8
       ·exact Yo J J (Zt (i:=98) J J J Tryz.zeroValue31 J J hw K2) fun b_4 ho3=>Zx (n:=0) [(19,1),(21,1),(22,1),(23,3)] (by kernel_rfl)<|r1' J J (Zt (i:=97) J J J Tryz.zeroValue31 J J hw K2) fun b_5 ho4=>r1' J J (Zm (i:=97) J J J J J (by decide) J Yk J J ⟨Zc J,Zc J,trivial⟩ J hw ho4) fun _ _=>r1' J J (Zm (i:=98) J J J J J (by decide) J Yk J J ⟨Zc J,Zc J,trivial⟩ J hw ho3) fun _ _=>r3' J J (Od (Kk J J) J J) fun _ _=>Yr<|Yl (by kernel_rfl)<|Qv (_,_) trivial K8 K8
      ·refine Yo J J (Zt (i:=97) J J J Tryz.zeroValue31 J J hw K2) fun b_6 ho5=>Pu (n:=8) 14 20 (by kernel_rfl) ?_ ?_
       ·exact Yo J J (Zh (n:=5) (Cf _ _ (hb1 _) (hu.sz _) hyz) J J J K2 Zpf Ze J hw) fun _ _=>Zx (n:=0) [(15,0),(16,0),(17,0),(18,0),(20,1),(21,1),(22,1),(23,3)] (by kernel_rfl)<|r0' J J J J (stf (Ym J J) K2)<|r0' J J J J (stf (Yg J J J) K2)<|r0' J J J J (stf (Yg J J J) K2)<|r0' J J J J (stf (Yg J J J) K2)<|r1' J J (Zt (i:=98) J J J Tryz.zeroValue31 J J hw K2) fun b_7 ho6=>r1' J J (Zm (i:=97) J J J J J (by decide) J Yk J J ⟨Zc J,Zc J,trivial⟩ J hw ho5) fun _ _=>r1' J J (Zm (i:=98) J J J J J (by decide) J Yk J J ⟨Zc J,Zc J,trivial⟩ J hw ho6) fun _ _=>r3' J J (Od (Kk J J) J J) fun _ _=>Yr<|Yl (by kernel_rfl)<|Qv (_,_) trivial K8 K8
       ·exact Yo J J (Zt (i:=98) J J J Tryz.zeroValue31 J J hw K2) fun b_8 ho7=>Zx (n:=0) [(14,1),(15,0),(16,0),(17,0),(18,0),(21,1),(22,1),(23,3)] (by kernel_rfl)<|r1' J J (Zh (n:=5) (Cf _ _ (hb1 _) (hu.sz _) hyz) J J J K2 Zpf Ze J hw) fun _ _=>r0' J J J J (stf (Ym J J) K2)<|r0' J J J J (stf (Yg J J J) K2)<|r0' J J J J (stf (Yg J J J) K2)<|r0' J J J J (stf (Yg J J J) K2)<|r1' J J (Zm (i:=97) J J J J J (by decide) J Yk J J ⟨Zc J,Zc J,trivial⟩ J hw ho5) fun _ _=>r1' J J (Zm (i:=98) J J J J J (by decide) J Yk J J ⟨Zc J,Zc J,trivial⟩ J hw ho7) fun _ _=>r3' J J (Od (Kk J J) J J) fun _ _=>Yr<|Yl (by kernel_rfl)<|Qv (_,_) trivial K8 K8
      ·refine Yo J J (Zt (i:=98) J J J Tryz.zeroValue31 J J hw K2) fun b_9 ho8=>Pu (n:=8) 14 19 (by kernel_rfl) ?_ ?_
       ·exact Yo J J (Zh (n:=5) (Cf _ _ (hb1 _) (hu.sz _) hyz) J J J K2 Zpf Ze J hw) fun _ _=>Zx (n:=0) [(15,0),(16,0),(17,0),(18,0),(19,1),(21,1),(22,1),(23,3)] (by kernel_rfl)<|r0' J J J J (stf (Ym J J) K2)<|r0' J J J J (stf (Yg J J J) K2)<|r0' J J J J (stf (Yg J J J) K2)<|r0' J J J J (stf (Yg J J J) K2)<|r1' J J (Zt (i:=97) J J J Tryz.zeroValue31 J J hw K2) fun b_10 ho9=>r1' J J (Zm (i:=97) J J J J J (by decide) J Yk J J ⟨Zc J,Zc J,trivial⟩ J hw ho9) fun _ _=>r1' J J (Zm (i:=98) J J J J J (by decide) J Yk J J ⟨Zc J,Zc J,trivial⟩ J hw ho8) fun _ _=>r3' J J (Od (Kk J J) J J) fun _ _=>Yr<|Yl (by kernel_rfl)<|Qv (_,_) trivial K8 K8
       ·exact Yo J J (Zt (i:=97) J J J Tryz.zeroValue31 J J hw K2) fun b_11 ho10=>Zx (n:=0) [(14,1),(15,0),(16,0),(17,0),(18,0),(21,1),(22,1),(23,3)] (by kernel_rfl)<|r1' J J (Zh (n:=5) (Cf _ _ (hb1 _) (hu.sz _) hyz) J J J K2 Zpf Ze J hw) fun _ _=>r0' J J J J (stf (Ym J J) K2)<|r0' J J J J (stf (Yg J J J) K2)<|r0' J J J J (stf (Yg J J J) K2)<|r0' J J J J (stf (Yg J J J) K2)<|r1' J J (Zm (i:=97) J J J J J (by decide) J Yk J J ⟨Zc J,Zc J,trivial⟩ J hw ho10) fun _ _=>r1' J J (Zm (i:=98) J J J J J (by decide) J Yk J J ⟨Zc J,Zc J,trivial⟩ J hw ho8) fun _ _=>r3' J J (Od (Kk J J) J J) fun _ _=>Yr<|Yl (by kernel_rfl)<|Qv (_,_) trivial K8 K8
     ·rintro⟨b7,b8⟩ -
      simp only [List.cons_append,List.nil_append]
      refine Zb<|Zb<|Zg<|mv J J<|dt (Qd J J J) J<|Zf<|Za<|Zq J (fun h349=>?_) (fun h349=>?_)
      ·exfalso;exact h349 rfl
      ·refine Zk<|Za<|Zb<|Zb<|Zg<|dt (Yc (i:=98) J J J Qo Yk J J) J<|tt (Zh (n:=5) (Mh _ (clip_bl _)) J J J K1 Zbt Ze J hw) J fun _ _=>dt (Qd J J J) J<|Zf<|Za<|Zq J (fun h352=>?_) (fun h352=>?_)
       ·have hne:¬Mr xs ys (xs.length-ys.length-j):=fun he=>h352 (by rw [Zob hyz (hu.sz _),(Zcz (by omega)).1 he];rfl)
        refine Zb<|Zg<|as_ J J<|as_ J J<|Zf<|Za<|Zu<|Xe<|Iw<|Xe<|Xe<|Iw<|Xe ?_
        have hp:¬pdv xs ys:=fun h=>by rcases h with h | h;(exact hnx h);(exact hne (h.2.1 _ (by omega)))
        exact Zv (.inl J) hsc _ _ (fun a w hs=>Ni hs Tryz.results111 J J) (by rw [if_neg hp]) trivial J (Ld (if_neg hp) Zj)
       ·have hde:Mr xs ys (xs.length-ys.length-j):=(Zcz (by omega)).2 (by have h0:=Decidable.byContradiction h352;rw [Zob hyz (hu.sz _)]at h0;exact Int.sign_eq_zero_iff_zero.1 h0)
        obtain⟨hb2,hb3,hb4⟩:=hb5 hde
        refine Ys (Gf 97 (q:=box b7 31 (wc (dq ys (Qi xs ys j) (xs.length-ys.length-j)))) (by rw [Ot hb2]) J J)<|Zk<|Za<|Zb<|Zg<|mv J J<|mv J J<|dt (Yc (i:=97) J J J Qo Yk J J) J<|dt (Yz (ii:=5) (i:=(xs.length-ys.length-j)) J J J J (Yn pV) Qn Yk (by omega) (by omega)) J<|tt (Kr (i:=5) (enc:=wv) _ J J J J J J (by decide) pV (by omega) J hw) J fun _ _=>Zf<|Za<|Zb<|Zg<|mv J J<|dt (Zy J J (i:=2) J Zi Qn) J<|mv J J<|Zf<|Za<|Zl<|Nt [(1,_),(8,_),(9,_),(10,_),(11,_),(12,_),(78,_),(79,_)] [(0,_),(97,_),(98,_),(5,_),(1,_),(2,_),(3,_)] (fun(i:Nat)=>[(80,.int .i64 (i:Int))]) (fun(i:Nat)=>[(4,osl 2 31 wv v (Zuh ys (Qi xs ys j) (dq ys (Qi xs ys j) (xs.length-ys.length-j)) (xs.length-ys.length-j) i))]) (fun(i:Nat)=>i≤ys.length) (fun(i:Nat)=>ys.length-i) 0 (by first | omega | (dsimp only<;>omega)) K9 ⟨by rw [←Zs2];rfl,rfl,rfl,rfl,rfl,rfl,rfl,rfl,trivial⟩ ?_
        rintro i hi
        simp only [List.cons_append,List.nil_append]
        have hg2:i<ys.length→(Zuh ys (Qi xs ys j) (dq ys (Qi xs ys j) (xs.length-ys.length-j)) (xs.length-ys.length-j) i).getD ((xs.length-ys.length-j)+i) 0=cf (Qi xs ys j) ((xs.length-ys.length-j)+i):=fun h=>Zwu (by omega)
        have hl2:=Zlg ys (Qi xs ys j) (dq ys (Qi xs ys j) (xs.length-ys.length-j)) (xs.length-ys.length-j) i
        refine Zb<|Zg<|dt (Qb J J J) J<|Zf<|Za<|Zb<|Zq J (fun h356=>?_) (fun h356=>?_)
        ·refine Zk<|Za<|Zb<|Zl<|Zb<|Zg<|mv J J<|dt (Yz (ii:=2) J J J J Zi Qn Yk J (by first | omega | (simp only [List.length_set];omega))) J<|dt (Xs (ii:=2) 0 J J J Zi pV (by first | omega | (simp only [List.length_set];omega))) J<|tt (Zo (i:=6) J J J Tryz.zeroValue31 J J hw) J fun b_12 _=>as_ J J<|tt (Zm (i:=6) J J J J J (by decide) J Yk J J ⟨Zc J,Zc J,trivial⟩ J hw trivial) J fun _ _=>Zf<|Za<|Qs (fun x=>x=b) [(0,0),(1,0),(2,0),(3,0),(4,0),(5,0),(6,0),(7,0),(8,0),(9,0),(10,0),(11,0),(12,1),(13,1),(14,0),(15,3)] (by kernel_rfl) ?_ ?_
         ·kernel_rfl
         refine r0' J J J J (st1 3 J (Ym J J))<|r0' J J J J (st1 3 J (Ym J J))<|r0' J J J J (st1 3 J (Ym J J))<|r0' J J J J (st1 3 J (Yt J J J ⟨by omega,by omega⟩))<|r0' J J J J (st1 3 J (Ym J J))<|r0' J J J J (st1 3 J (Ym J J))<|r0' J J J J (st1 3 J (Ym J J))<|r0' J J J J (st1 3 J (Yt J J J ⟨by omega,by omega⟩))<|r0' J J J J (st1 3 J (Yz (ii:=4) (i:=((xs.length-ys.length-j)+i)) J J J J (Yn pV) Qn Yk (by omega) (by omega)))<|r0' J J J J (st1 3 J (Xs (ii:=4) 0 J J J (Yn pV) pV (by omega)))<|r0' J J J J (st1 3 J (Yc (i:=97) J J J Qo Yk J J))<|r0' J J J J (st1 3 J (Yc (i:=6) J J J Qo Yk J J))<|r1' J J (Oc (n:=6) (i:=3) (Fy _ _ _ hb2 (hu.sz _) (hb3 _)) J J J K3 Zbr J (by decide) Ze J hw J) fun _ _=>r1' J J (Oc (n:=6) (i:=3) (Zs8 _ _ _ (by rw [hg2 (by omega)];exact hb1 _) (hb3 _) (by rw [hg2 (by omega)];exact hb4 _ _)) J J J K3 cF137 J (by decide) Ze J hw J) fun _ _=>r0' J J J J (st1 3 J (Yz (ii:=4) (i:=((xs.length-ys.length-j)+i)) J J J J (Yn pV) Qn Yk (by omega) (by omega)))<|r3' J J (Kr (i:=4) (enc:=wv) _ J J J J J J (by decide) pV (by omega) J hw) fun _ _=>Og<|Ob<|Za<|Zg<|dt (Yt J J J ⟨by omega,by omega⟩) J<|mv J J<|Zf ?_
         exact Xq (i+1) (by first | omega | (dsimp only<;>omega)) (by first | omega | (dsimp only<;>omega)) K9 ⟨by rw [←Zwt (by omega),←hg2 (by omega)];rfl,rfl,rfl,rfl,rfl,rfl,rfl,rfl,trivial⟩
        ·refine Yu<|Zs<|Zs<|Ox<|Ob<|Za<|Zg<|mv J J<|dt (Qg J J J ⟨by omega,by omega⟩) J<|as_ J J<|Zf ?_
         obtain rfl:i=ys.length:=by omega
         exact Xq (j+1) ⟨by first | omega | (dsimp only<;>omega),fun k h1 h2=>by rcases Nat.lt_or_ge (xs.length-ys.length) (k+j)with h3 | h3;(exact hx k h3 h2);(rw [show k=xs.length-ys.length-j by omega];exact hde)⟩ (by first | omega | (dsimp only<;>omega)) ⟨by rw [show(xs.length:Int)-(ys.length:Int)-((j+1:Nat):Int)=(xs.length:Int)-(ys.length:Int)-(j:Int)-1 by omega];rfl,rfl,rfl,rfl,rfl,trivial⟩ ⟨by rfl,by rw [←Zn0 (by omega)];rfl,rfl,rfl,rfl,rfl,trivial⟩
    ·refine Yu<|Zs<|Zs<|Ox<|Za<|Zb<|Zb ?_
     obtain rfl:j=xs.length-ys.length+1:=by omega
     have hall:∀k,k≤xs.length-ys.length→Mr xs ys k:=fun k hk=>hx k (by omega) hk
     refine Ys (Po 4 J J pV)<|Zg<|dt (Xy J J Zgg J Zf7 J J) J<|dt (Xy J J Zj9 J Gg J J) J<|dt (Oa (i:=3) J J J Bv J) J<|dt (Pi J J J) J<|mv J J<|Qx (d:=105) J (fun s360=>?_) (fun s360=>?_)
     ·refine gdt (Ym J J) J J J J<|gtt (Zh (n:=7) (Ao _ _ (Zuy hF hall)) J J J K1 Zxd (Zd 4 J J J Ze) J hw) J J J J fun _ _=>gdt (Zy J J (i:=7) J Zi Qn) J J J J<|gdt (On J J J) J J J J<|dt (Xh J J J) J<|Zf<|Za<|Zq J (fun h360=>?_) (fun h360=>?_)
      ·refine Zb<|Zg<|as_ J J<|as_ J J<|Zf<|Za<|Zu<|Xe ?_
       have hp:¬pdv xs ys:=fun h=>by rcases h with h | h;(exact hnx h);(rw [h.2.2]at h360;simp at h360)
       exact Zv (.inl J) hsc _ _ (fun a w hs=>Ni hs Tryz.results111 J J) (by rw [if_neg hp]) trivial J (Ld (if_neg hp) Zj)
      ·refine Zk<|Za<|Zb<|Ys (Po 5 J J pV)<|Zg<|mv J J<|tt (Oc (n:=8) (i:=3) (Zan _ _ _ (Zp4 hF hall _)) J J J K2 Zl1 J (by decide) (Zd 5 J J J Ze) J hw trivial) J fun _ _=>dt (Yg J J J) J<|dt (Yg J J J) J<|as_ J J<|as_ J J<|Zf<|Za<|Zu ?_
       have hp:pdv xs ys:= .inr ⟨hge,hall,List.eq_nil_of_length_eq_zero (by omega)⟩
       exact Zv (.inl J) hsc _ _ (fun a w hs=>Ni hs Tryz.results111 J J) (by rw [if_pos hp]<;>rfl) trivial J (Yj 8 J J J (by rw [if_pos hp,Zhe hnx,←Zaj]<;>rfl) Zj)
     ·exfalso;exact s360 rfl
theorem Zi7(v:Value)(xs:List Int)(x y z:Int)(hv:Vp xs)(hx:bl x.natAbs≤65536)(hy:bl y.natAbs≤65536)(hz:bl z.natAbs≤65536)(hz0:0<z)(hE:¬Zn7 xs x y z):Cal Tryz.prog 141 #[v,wv x,wv y,wv z] [slp 2 wv v xs] true (G:=Value) (fun r=>True) (fun r=> .tuple #[r,.int .i64 0]) (fun r=>[slp 2 wv r (Zd5 xs x y z)]):=by
 refine Yd Tryz.func141 J Tryz.ntmps141 J K1 ?_
 intro w0 sc hw hsc
 simp only [Zp,Zn]
 have hlen:=hv.len
 refine Zb<|Zg<|tt (Xl (i:=2) J J J J J J hw) J fun b _=>tt (Xl (i:=3) J J J J J J hw) J fun b_2 _=>tt (Xl (i:=4) J J J J J J hw) J fun b_3 _=>as_ J J<|as_ J J<|Zf<|Za<|Zb<|Zb<|Zg<|mv J J<|tt (Zh (n:=4) (Xm _ _ (by assumption)) J J J K1 Zcf (Zd 1 J J J Ze) J hw) J fun _ _=>dt (Xo J J) J<|mv J J<|gdt (Yc (i:=2) J J J Qo Yk J J) J J J J<|gtt (Zh (n:=4) (Lr _ (by assumption)) J J J K1 Ze7 Ze J hw) J J J J fun _ _=>gdt (Xo J J) J J J J<|dt (Yh J J J) J<|mv J J<|gdt (Yc (i:=3) J J J Qo Yk J J) J J J J<|gtt (Zh (n:=4) (Lr _ (by assumption)) J J J K1 Ze7 Ze J hw) J J J J fun _ _=>gdt (Xo J J) J J J J<|dt (Yh J J J) J<|mv J J<|gdt (Yc (i:=4) J J J Qo Yk J J) J J J J<|gtt (Zh (n:=4) (Lr _ (by assumption)) J J J K1 Ze7 Ze J hw) J J J J fun _ _=>gdt (Xo J J) J J J J<|dt (Yh J J J) J<|Zf<|Za<|Yf J<|Zk<|Za<|Zb<|Zb<|Zg<|dt (Yc (i:=4) J J J Qo Yk J J) J<|tt (Zh (n:=4) (Mh _ hz) J J J K1 Zbt Ze J hw) J fun _ _=>dt (De J J J) J<|Zf<|Za<|Zq J (fun h232=>?_) (fun h232=>?_)
 ·exfalso;have h2:=decide_eq_decide.1 (Gl z);omega
 ·refine Zk<|Za<|Zb<|Zb<|Zg<|mv J J<|dt (Zy J J (i:=1) J Zi Qn) J<|dt (Pi J J J) J<|Zf<|Za<|Zq J (fun h235=>?_) (fun h235=>?_)
  ·exact Zb<|Zg<|as_ J J<|as_ J J<|Zf<|Za<|Zu<|Xe<|Zv (.inl J) hsc _ _ (fun a w hs=>Ni hs Tryz.results141 J J) J trivial J (Ld (by unfold Zd5;rw [if_pos (by omega)]) Zj)
  ·have hne:xs≠[]:=fun e=>by rw [e]at h235;simp at h235
   have hm1:=Pz hv.sz
   have hsxy:Sz 65536 [x,y,z]:=Sz.of_mem (by intro q hq;simp at hq;rcases hq with rfl | rfl | rfl<;>assumption)
   have hm2:=Pz hsxy
   have hm3:(xs.length-1)*(msz [x,y,z]+1)≤24*65537:=Nat.mul_le_mul (by omega) (by omega)
   have hm4:((xs.length:Int)-1)*((msz [x,y,z]:Int)+1)=(((xs.length-1)*(msz [x,y,z]+1):Nat):Int):=by rw [Int.natCast_mul];congr 1;omega
   refine Zk<|Za<|Zb<|Dd [(0,_),(5,_),(6,_),(7,_)] [(0,_),(1,_),(2,_),(3,_),(4,_)] (fun(_:Unit)=>[(55,.bool (decide ((65536:Int)<(msz xs:Int)+((xs.length:Int)-1)*((msz [x,y,z]:Int)+1)+8)))]) (fun(_:Unit)=>[]) (fun(_:Unit)=>True) K4 K5 ?_ ?_
   ·refine Ga (fun _=>False) [] (by kernel_rfl)<|Zx (n:=8) [(0,0),(2,0),(3,0),(4,0),(5,0),(6,0),(7,0)] (by kernel_rfl)<|r0' J J J J (st0 (Ym J J))<|r0' J J J J (st0 (Ym J J))<|r0' J J J J (st0 (Zy J J (i:=1) J Zi Qn))<|r0' J J J J (st0 (Qg J J J ⟨by omega,by omega⟩))<|r0' J J J J (st0 (Yc (i:=2) J J J Qo Yk J J))<|r0' J J J J (st0 (Yc (i:=3) J J J Qo Yk J J))<|r0' J J J J (st0 (Yc (i:=4) J J J Qo Yk J J))<|Yr<|Pu (n:=7) 1 8 (by kernel_rfl) ?_ ?_
    ·exact Yo J J (Zh (n:=4) (Nq _ _ (by first | exact hv.sz | exact hsxy)) J J J K1 Bt (Zd 1 J J J Ze) J hw) fun _ _=>Zx (n:=0) [(8,1),(9,1),(10,0),(11,0),(12,0),(13,0),(14,0)] (by kernel_rfl)<|r1' J J (Pt (i:=90) (ivs:=[(0,_),(1,_),(2,_)]) (enc:=wv) [x,y,z] J J J K6 uT22 Tryz.ti31 J J J (fill3 _ _ _ _ _ _ _ _) J J pV.cells J J hw) fun v _=>r1' J J (Zh (n:=4) (Nq _ _ (by first | exact hv.sz | exact hsxy)) J J J K1 Bt (Xu 90 J J pV Ze) J hw) fun _ _=>r0' J J J J (st0 (Yt J J J ⟨by omega,by omega⟩))<|r0' J J J J (st0 (Gz J J J (by rw [hm4];exact⟨by omega,by omega⟩)))<|r0' J J J J (st0 (Yt J J J (by rw [hm4];exact⟨by omega,by omega⟩)))<|r0' J J J J (st0 (Yt J J J (by rw [hm4];exact⟨by omega,by omega⟩)))<|r0' J J J J (st0 (On J J J))<|Yr<|Yl (by kernel_rfl)<|Qv () trivial K5 K5
    ·exact Yo J J (Pt (i:=90) (ivs:=[(0,_),(1,_),(2,_)]) (enc:=wv) [x,y,z] J J J K6 uT22 Tryz.ti31 J J J (fill3 _ _ _ _ _ _ _ _) J J pV.cells J J hw) fun v_2 _=>Zx (n:=0) [(1,1),(9,1),(10,0),(11,0),(12,0),(13,0),(14,0)] (by kernel_rfl)<|r1' J J (Zh (n:=4) (Nq _ _ (by first | exact hv.sz | exact hsxy)) J J J K1 Bt (Zd 1 J J J Ze) J hw) fun _ _=>r1' J J (Zh (n:=4) (Nq _ _ (by first | exact hv.sz | exact hsxy)) J J J K1 Bt (Xu 90 J J pV Ze) J hw) fun _ _=>r0' J J J J (st0 (Yt J J J ⟨by omega,by omega⟩))<|r0' J J J J (st0 (Gz J J J (by rw [hm4];exact⟨by omega,by omega⟩)))<|r0' J J J J (st0 (Yt J J J (by rw [hm4];exact⟨by omega,by omega⟩)))<|r0' J J J J (st0 (Yt J J J (by rw [hm4];exact⟨by omega,by omega⟩)))<|r0' J J J J (st0 (On J J J))<|Yr<|Yl (by kernel_rfl)<|Qv () trivial K5 K5
   ·rintro _ -
    simp only [List.cons_append,List.nil_append]
    refine Zq J (fun h238=>?_) (fun h238=>?_)
    ·exfalso;exact hE ⟨hne,by rw [hm4]at h238;omega⟩
    ·have hF:msz xs+(xs.length-1)*(msz [x,y,z]+1)+8≤65536:=by rw [hm4]at h238;omega
     refine Zk<|Za<|Zb<|Zg<|tt (Zo (i:=5) J J J Tryz.zeroValue167 J J hw) J fun b_4 _=>Zf<|Za<|Dd [(0,_),(5,_),(6,_),(7,_),(10,_)] [(0,_),(1,_),(2,_),(3,_),(4,_),(5,_)] (fun(q:Value×Nat)=>[(11,q.1),(12,.pointer (some ⟨q.2,0,none⟩))]) (fun(q:Value×Nat)=>[(70,osl 2 31 wv q.1 (Gr xs x y z 0)),(98,box q.2 31 (wc 1))]) (fun(q:Value×Nat)=>True) K5 K6 ?_ ?_
     ·refine Ga (fun _=>False) [9,10] (by kernel_rfl)<|Zx (n:=5) [(0,0),(1,0),(2,0),(3,0),(4,0),(5,0)] (by kernel_rfl)<|r0' J J J J (st0 (Ym J J))<|r0' J J J J (st0 (Ym J J))<|r0' J J J J (st0 (Zy J J (i:=1) J Zi Qn))<|r0' J J J J (st0 (Qg J J J ⟨by omega,by omega⟩))<|r0' J J J J (st0 (Yz (ii:=1) (i:=(xs.length-1)) J J J J Zi Qn Yk (by omega) (by omega)))<|r0' J J J J (st0 (Xs (ii:=1) 0 J J J Zi pV (by omega)))<|Yr<|Zay (n:=4) 6 7 8 (by kernel_rfl) ?_ ?_ ?_
      ·refine Yo J J (Pt (i:=70) (ivs:=[(0,_)]) (enc:=wv) [cf xs (xs.length-1)] J J J K2 Qn Tryz.ti31 J J J J J J pV.cells J J hw) fun v_3 _=>Pu (n:=3) 7 8 (by kernel_rfl) ?_ ?_
       ·exact Yo J J (Zh (n:=5) (Xa _ (by first | assumption | exact⟨by omega,by omega⟩)) J J J K1 Cu Ze J hw) fun _ _=>Zx (n:=0) [(8,1),(9,3),(10,3)] (by kernel_rfl)<|r1' J J (Zo (i:=98) J J J Tryz.zeroValue31 J J hw) fun b_5 _=>r3' J J (Od (Kk J J) J J) fun _ _=>r3' J J (Zm (i:=98) J J J J J (by decide) J Yk J J ⟨Zc J,Zc J,trivial⟩ J hw trivial) fun _ _=>Yr<|Yl (by kernel_rfl)<|Qv (_,_) trivial K7 ⟨by rw [Ea];rfl,rfl,rfl,rfl,rfl,rfl,rfl,rfl,trivial⟩
       ·exact Yo J J (Zo (i:=98) J J J Tryz.zeroValue31 J J hw) fun b_6 _=>Zx (n:=0) [(7,1),(9,3),(10,3)] (by kernel_rfl)<|r1' J J (Zh (n:=5) (Xa _ (by first | assumption | exact⟨by omega,by omega⟩)) J J J K1 Cu Ze J hw) fun _ _=>r3' J J (Od (Kk J J) J J) fun _ _=>r3' J J (Zm (i:=98) J J J J J (by decide) J Yk J J ⟨Zc J,Zc J,trivial⟩ J hw trivial) fun _ _=>Yr<|Yl (by kernel_rfl)<|Qv (_,_) trivial K7 ⟨by rw [Ea];rfl,rfl,rfl,rfl,rfl,rfl,rfl,rfl,trivial⟩
      ·refine Yo J J (Zh (n:=5) (Xa _ (by first | assumption | exact⟨by omega,by omega⟩)) J J J K1 Cu Ze J hw) fun _ _=>Pu (n:=3) 6 8 (by kernel_rfl) ?_ ?_
       ·exact Yo J J (Pt (i:=70) (ivs:=[(0,_)]) (enc:=wv) [cf xs (xs.length-1)] J J J K2 Qn Tryz.ti31 J J J J J J pV.cells J J hw) fun v_4 _=>Zx (n:=0) [(8,1),(9,3),(10,3)] (by kernel_rfl)<|r1' J J (Zo (i:=98) J J J Tryz.zeroValue31 J J hw) fun b_7 _=>r3' J J (Od (Kk J J) J J) fun _ _=>r3' J J (Zm (i:=98) J J J J J (by decide) J Yk J J ⟨Zc J,Zc J,trivial⟩ J hw trivial) fun _ _=>Yr<|Yl (by kernel_rfl)<|Qv (_,_) trivial K7 ⟨by rw [Ea];rfl,rfl,rfl,rfl,rfl,rfl,rfl,rfl,trivial⟩
       ·exact Yo J J (Zo (i:=98) J J J Tryz.zeroValue31 J J hw) fun b_8 _=>Zx (n:=0) [(6,1),(9,3),(10,3)] (by kernel_rfl)<|r1' J J (Pt (i:=70) (ivs:=[(0,_)]) (enc:=wv) [cf xs (xs.length-1)] J J J K2 Qn Tryz.ti31 J J J J J J pV.cells J J hw) fun v_5 _=>r3' J J (Od (Kk J J) J J) fun _ _=>r3' J J (Zm (i:=98) J J J J J (by decide) J Yk J J ⟨Zc J,Zc J,trivial⟩ J hw trivial) fun _ _=>Yr<|Yl (by kernel_rfl)<|Qv (_,_) trivial K7 ⟨by rw [Ea];rfl,rfl,rfl,rfl,rfl,rfl,rfl,rfl,trivial⟩
      ·refine Yo J J (Zo (i:=98) J J J Tryz.zeroValue31 J J hw) fun b_9 _=>Pu (n:=3) 6 7 (by kernel_rfl) ?_ ?_
       ·exact Yo J J (Pt (i:=70) (ivs:=[(0,_)]) (enc:=wv) [cf xs (xs.length-1)] J J J K2 Qn Tryz.ti31 J J J J J J pV.cells J J hw) fun v_6 _=>Zx (n:=0) [(7,1),(9,3),(10,3)] (by kernel_rfl)<|r1' J J (Zh (n:=5) (Xa _ (by first | assumption | exact⟨by omega,by omega⟩)) J J J K1 Cu Ze J hw) fun _ _=>r3' J J (Od (Kk J J) J J) fun _ _=>r3' J J (Zm (i:=98) J J J J J (by decide) J Yk J J ⟨Zc J,Zc J,trivial⟩ J hw trivial) fun _ _=>Yr<|Yl (by kernel_rfl)<|Qv (_,_) trivial K7 ⟨by rw [Ea];rfl,rfl,rfl,rfl,rfl,rfl,rfl,rfl,trivial⟩
       ·exact Yo J J (Zh (n:=5) (Xa _ (by first | assumption | exact⟨by omega,by omega⟩)) J J J K1 Cu Ze J hw) fun _ _=>Zx (n:=0) [(6,1),(9,3),(10,3)] (by kernel_rfl)<|r1' J J (Pt (i:=70) (ivs:=[(0,_)]) (enc:=wv) [cf xs (xs.length-1)] J J J K2 Qn Tryz.ti31 J J J J J J pV.cells J J hw) fun v_7 _=>r3' J J (Od (Kk J J) J J) fun _ _=>r3' J J (Zm (i:=98) J J J J J (by decide) J Yk J J ⟨Zc J,Zc J,trivial⟩ J hw trivial) fun _ _=>Yr<|Yl (by kernel_rfl)<|Qv (_,_) trivial K7 ⟨by rw [Ea];rfl,rfl,rfl,rfl,rfl,rfl,rfl,rfl,trivial⟩
     ·rintro⟨vo,b8⟩ -
      simp only [List.cons_append,List.nil_append]
      refine Zb<|Zb<|Zg<|mv J J<|dt (Zy J J (i:=1) J Zi Qn) J<|dt (Qg J J J ⟨by omega,by omega⟩) J<|as_ J J<|Zf<|Za<|Zl<|Nt [(0,_),(5,_),(6,_),(7,_),(10,_),(12,_)] [(0,_),(1,_),(2,_),(3,_),(4,_),(5,_)] (fun(q:Nat×Value)=>[(13,.int .i64 ((xs.length:Int)-2-(q.1:Int))),(11,q.2)]) (fun(q:Nat×Value)=>[(70,osl 2 31 wv q.2 (Gr xs x y z q.1)),(98,box b8 31 (wc (z^q.1)))]) (fun(q:Nat×Value)=>q.1≤xs.length-1) (fun(q:Nat×Value)=>xs.length-1-q.1) (0,vo) (by first | omega | (dsimp only<;>omega)) ⟨by rw [show(xs.length:Int)-2-((0:Nat):Int)=(xs.length:Int)-2 by omega];rfl,rfl,rfl,rfl,rfl,rfl,rfl,rfl,trivial⟩ ⟨J,by rw [Int.pow_zero];rfl,rfl,rfl,rfl,rfl,rfl,rfl,trivial⟩ ?_
      rintro⟨j,vo⟩ hj
      dsimp only at hj
      simp only [List.cons_append,List.nil_append]
      refine Zb<|Zb<|Zg<|mv J J<|dt (Lq J J J) J<|Zf<|Za<|Zq J (fun h243=>?_) (fun h243=>?_)
      ·obtain⟨c1,c2,c3,c4,c5,c6,c7,c8,c9⟩:=cp_all hF (j:=j) (by omega)
       have hcl:=Bp xs x y z j
       refine Zk<|Za<|Zb<|Zl<|Zb<|Zg<|dt (Yc (i:=98) J J J Qo Yk J J) J<|dt (Yc (i:=4) J J J Qo Yk J J) J<|tt (Oc (n:=5) (i:=5) (Fy _ _ _ c1 hz (by rw [←Int.pow_succ];exact c2)) J J J K3 Zbr J (by decide) Ze J hw trivial) J fun _ _=>tt (Zm (i:=98) J J J J J (by decide) J Yk J J ⟨Zc J,Zc J,trivial⟩ J hw trivial) J fun _ _=>Zf<|Za<|Zb<|Zg<|mv J J<|dt (Zy J J (i:=70) J (Yn pV) Qn) J<|dt (Yt J J J ⟨by omega,by omega⟩) J<|tt (Hw (i:=71) (n:=((Gr xs x y z j).length+1)) (by_:=24) (enc:=wv) 0 J J J J J (by omega) Qn Tryz.ti31 J pV.cells pV.pos J J (by omega) (by decide) J hw) J fun v_8 _=>as_ J J<|Zf<|Za<|Zb<|Zb<|Zg<|mv J J<|dt (Zy J J (i:=70) J (Yn pV) Qn) J<|mv J J<|Zf<|Za<|Zl ?_
       refine Nt [(0,_),(5,_),(6,_),(7,_),(10,_),(12,_),(13,_),(14,_),(78,_),(79,_)] [(0,_),(70,_),(98,_),(1,_),(2,_),(3,_),(4,_),(5,_)] (fun(i:Nat)=>[(80,.int .i64 (i:Int))]) (fun(i:Nat)=>[(71,osl 2 31 wv v_8 (cnx (Gr xs x y z j) x y i))]) (fun(i:Nat)=>i≤(Gr xs x y z j).length) (fun(i:Nat)=>(Gr xs x y z j).length-i) 0 (by first | omega | (dsimp only<;>omega)) K11 ⟨by rw [Zw4];rfl,rfl,rfl,rfl,rfl,rfl,rfl,rfl,rfl,trivial⟩ ?_
       rintro i hi
       simp only [List.cons_append,List.nil_append]
       have hg1:i<(Gr xs x y z j).length→(cnx (Gr xs x y z j) x y i).getD i 0=if i=0 then 0 else cf (Gr xs x y z j) (i-1)*y:=fun h=>Ztk h
       have hl1:=Kp (Gr xs x y z j) x y i
       refine Zb<|Zg<|dt (Qb J J J) J<|Zf<|Za<|Zb<|Zq J (fun h247=>?_) (fun h247=>?_)
       ·refine Zk<|Za<|Zb<|Zl<|Zb<|Zg<|mv J J<|dt (Yz (ii:=70) J J J J (Yn pV) Qn Yk J (by first | omega | (simp only [List.length_set];omega))) J<|dt (Xs (ii:=70) 0 J J J (Yn pV) pV (by first | omega | (simp only [List.length_set];omega))) J<|tt (Zo (i:=6) J J J Tryz.zeroValue31 J J hw) J fun b_10 _=>as_ J J<|tt (Zm (i:=6) J J J J J (by decide) J Yk J J ⟨Zc J,Zc J,trivial⟩ J hw trivial) J fun _ _=>Zf<|Za<|Zb<|Qs (fun x=>x=b_4) [(0,0),(1,0),(2,0),(3,0),(4,0),(5,0),(6,0),(7,0),(8,1),(9,1),(10,0),(11,3)] (by kernel_rfl) ?_ ?_
        ·kernel_rfl
        refine r0' J J J J (st1 5 J (Ym J J))<|r0' J J J J (st1 5 J (Ym J J))<|r0' J J J J (st1 5 J (Ym J J))<|r0' J J J J (st1 5 J (Ym J J))<|r0' J J J J (st1 5 J (Yz (ii:=71) (i:=i) J J J J (Yn pV) Qn Yk J (by omega)))<|r0' J J J J (st1 5 J (Xs (ii:=71) 0 J J J (Yn pV) pV (by omega)))<|r0' J J J J (st1 5 J (Yc (i:=6) J J J Qo Yk J J))<|r0' J J J J (st1 5 J (Yc (i:=2) J J J Qo Yk J J))<|r1' J J (Oc (n:=6) (i:=5) (Fy _ _ _ (c3 _) hx (c4 _)) J J J K3 Zbr J (by decide) Ze J hw J) fun _ _=>r1' J J (Oc (n:=6) (i:=5) (Zn1 _ _ _ (by rw [hg1 (by omega)];exact c6 i) (c4 _) (by rw [hg1 (by omega)];exact c7 i)) J J J K3 Zxc J (by decide) Ze J hw J) fun _ _=>r0' J J J J (st1 5 J (Yz (ii:=71) (i:=i) J J J J (Yn pV) Qn Yk J (by omega)))<|r3' J J (Kr (i:=71) (enc:=wv) _ J J J J J J (by decide) pV (by omega) J hw) fun _ _=>Og<|Za<|Zg<|mv J J<|mv J J<|dt (Yt J J J ⟨by omega,by omega⟩) J<|dt (Yc (i:=6) J J J Qo Yk J J) J<|dt (Yc (i:=3) J J J Qo Yk J J) J<|tt (Oc (n:=6) (i:=5) (Fy _ _ _ (c3 _) hy (c5 _)) J J J K3 Zbr J (by decide) Ze J hw trivial) J (fun _ _=>?_)
        exact dt (Yz (ii:=71) (i:=(i+1)) J J J J (Yn pV) Qn Yk (by omega) (by rw [List.length_set];omega)) J<|tt (Kr (i:=71) (enc:=wv) _ J J J J J J (by decide) pV (by rw [List.length_set];omega) J hw) J fun _ _=>Zf<|Ob<|Za<|Zg<|dt (Yt J J J ⟨by omega,by omega⟩) J<|mv J J<|Zf<|Xq (i+1) (by first | omega | (dsimp only<;>omega)) (by first | omega | (dsimp only<;>omega)) K11 ⟨by rw [←cnx_set (by omega)];rfl,rfl,rfl,rfl,rfl,rfl,rfl,rfl,rfl,trivial⟩
       ·refine Yu<|Zs<|Zs<|Ox<|Za<|Zb ?_
        obtain rfl:i=(Gr xs x y z j).length:=by omega
        have hg0:(cnx (Gr xs x y z j) x y (Gr xs x y z j).length).getD 0 0=cf (Gr xs x y z j) 0*x:=Zn8 (by omega)
        refine Qs (fun x=>x=b_4) [(0,0),(1,0),(2,0),(3,0),(4,0),(5,0),(6,0),(7,0),(8,0),(9,1),(10,1),(11,0),(12,3)] (by kernel_rfl) ?_ ?_
        ·kernel_rfl
        refine r0' J J J J (st1 5 J (Ym J J))<|r0' J J J J (st1 5 J (Ym J J))<|r0' J J J J (st1 5 J (Yz (ii:=71) (i:=0) J J J J (Yn pV) Qn Yk J (by omega)))<|r0' J J J J (st1 5 J (Xs (ii:=71) 0 J J J (Yn pV) pV (by omega)))<|r0' J J J J (st1 5 J (Ym J J))<|r0' J J J J (st1 5 J (Ym J J))<|r0' J J J J (st1 5 J (Yz (ii:=1) (i:=(xs.length-2-j)) J J J J Zi Qn Yk (by omega) (by omega)))<|r0' J J J J (st1 5 J (Xs (ii:=1) 0 J J J Zi pV (by omega)))<|r0' J J J J (st1 5 J (Yc (i:=98) J J J Qo Yk J J))<|r1' J J (Oc (n:=6) (i:=5) (Fy _ _ _ (hv.sz _) (by rw [←Int.pow_succ];exact c2) (by rw [←Int.pow_succ];exact c8)) J J J K3 Zbr J (by decide) Ze J hw J) fun _ _=>r1' J J (Oc (n:=6) (i:=5) (Zn1 _ _ _ (by rw [hg0];exact c4 0) (by rw [←Int.pow_succ];exact c8) (by rw [hg0,←Int.pow_succ];exact c9)) J J J K3 Zxc J (by decide) Ze J hw J) fun _ _=>r0' J J J J (st1 5 J (Yz (ii:=71) (i:=0) J J J J (Yn pV) Qn Yk J (by omega)))<|r3' J J (Kr (i:=71) (enc:=wv) _ J J J J J J (by decide) pV (by omega) J hw) fun _ _=>Og<|Za<|Zg<|mv J J<|as_ J J<|Zf<|Ob<|Za<|Zg<|mv J J<|dt (Qg J J J ⟨by omega,by omega⟩) J<|as_ J J<|Zf<|Pr (s_move 71 70 J J J J) ?_
        exact Xq (j+1,_) (by first | omega | (dsimp only<;>omega)) (by first | omega | (dsimp only<;>omega)) ⟨by rw [show(xs.length:Int)-2-((j+1:Nat):Int)=(xs.length:Int)-2-(j:Int)-1 by omega];rfl,rfl,rfl,rfl,rfl,rfl,rfl,rfl,trivial⟩ ⟨by rw [cnx_fin (by omega)];simp only [←Int.pow_succ];rfl,by rw [Int.pow_succ];rfl,rfl,rfl,rfl,rfl,rfl,rfl,trivial⟩
      ·refine Yu<|Zs<|Zs<|Ox<|Za<|Zb ?_
       obtain rfl:j=xs.length-1:=by omega
       exact Ys (Po 70 J J pV)<|Zg<|mv J J<|tt (Oc (n:=7) (i:=5) (Zan _ _ _ (cp_last hF)) J J J K2 Zl1 J (by decide) (Zd 70 J J J Ze) J hw trivial) J fun _ _=>dt (Yg J J J) J<|dt (Yg J J J) J<|as_ J J<|as_ J J<|Zf<|Za<|Zu<|Zv (.inl J) hsc _ _ (fun a w hs=>Ni hs Tryz.results141 J J) J trivial J (Yj 7 J J J (by unfold Zd5;rw [if_neg (by omega)]<;>rfl) Zj)
theorem Zm8(v u:Value)(xs ys:List Int)(hv:Vp xs)(hu:Vp ys)(F:Nat)(hg:¬Zo9 xs ys)(hok:eok F (gA xs ys) (gB xs ys)):Cal Tryz.prog 110 #[v,u] [slp 2 wv v xs,slp 2 wv u ys] true (G:=Value) (fun r=>True) (fun r=> .tuple #[r,.int .i64 0]) (fun r=>[slp 2 wv r (Ko F xs ys)]):=by
 refine Yd Tryz.func110 J Tryz.ntmps110 J K2 ?_
 intro w0 sc hw hsc
 simp only [Zp,Zn]
 have hlen:=hv.len
 have hlen2:=hu.len
 have hm1:=Pz hv.sz
 have hm2:=Pz hu.sz
 have hpx:=Yi xs
 have hpy:=Yi ys
 have hN2:(max xs.length ys.length+2)*(max xs.length ys.length+2)≤27*27:=Nat.mul_le_mul (by omega) (by omega)
 have hN3:(max xs.length ys.length+2)*(max xs.length ys.length+2)*(max (msz xs) (msz ys)+8)≤27*27*65544:=Nat.mul_le_mul hN2 (by omega)
 have hN4:(max (xs.length:Int) (ys.length:Int)+2)*(max (xs.length:Int) (ys.length:Int)+2)=(((max xs.length ys.length+2)*(max xs.length ys.length+2):Nat):Int):=by rw [Int.natCast_mul,show(((max xs.length ys.length+2):Nat):Int)=(max (xs.length:Int) (ys.length:Int)+2) by omega]
 have hN5:(max (xs.length:Int) (ys.length:Int)+2)*(max (xs.length:Int) (ys.length:Int)+2)*(max (msz xs:Int) (msz ys:Int)+8)=(((max xs.length ys.length+2)*(max xs.length ys.length+2)*(max (msz xs) (msz ys)+8):Nat):Int):=by rw [hN4,Int.natCast_mul ((max xs.length ys.length+2)*(max xs.length ys.length+2)),show((max (msz xs) (msz ys)+8:Nat):Int)=max (msz xs:Int) (msz ys:Int)+8 by omega]
 refine Zb<|Zg<|as_ J J<|as_ J J<|Zf<|Za<|Zb<|Zb<|Zg<|mv J J<|tt (Zh (n:=2) (Xm _ _ (by assumption)) J J J K1 Zcf (Zd 1 J J J Ze) J hw) J fun _ _=>dt (Xo J J) J<|mv J J<|gdt (Ym J J) J J J J<|gtt (Zh (n:=2) (Xm _ _ (by assumption)) J J J K1 Zcf (Zd 2 J J J Ze) J hw) J J J J fun _ _=>gdt (Xo J J) J J J J<|dt (Yh J J J) J<|Zf<|Za<|Yf J<|Zk<|Za<|Zb<|Zb<|Zg<|mv J J<|dt (Zy J J (i:=1) J Zi Qn) J<|mv J J<|dt (Zy J J (i:=2) J Zi Qn) J<|dt (Zte J J J) J<|dt (Yt J J J ⟨by omega,by omega⟩) J<|as_ J J<|Zf<|Za<|Dd [(0,_),(1,_)] [(0,_),(1,_),(2,_)] (fun(_:Unit)=>[(46,.bool (decide (Zo9 xs ys)))]) (fun(_:Unit)=>[]) (fun(_:Unit)=>True) K2 K3 ?_ ?_
 ·refine Zg<|mv J J<|dt (Zy J J (i:=1) J Zi Qn) J<|dt (On J J J) J<|mv J J<|Qx (d:=29) J (fun s371=>?_) (fun s371=>?_)
  ·refine gdt (Ym J J) J J J J<|gdt (Zy J J (i:=2) J Zi Qn) J J J J<|gdt (On J J J) J J J J<|dt (Xh J J J) J<|mv J J<|Qx (d:=34) J (fun s371_2=>?_) (fun s371_2=>?_)
   ·exact gdt (Ym J J) J J J J<|gdt (Ym J J) J J J J<|gdt (Gz J J J (by rw [hN4];exact⟨by omega,by omega⟩)) J J J J<|gdt (Ym J J) J J J J<|gtt (Zh (n:=2) (Nq _ _ (by first | exact hv.sz | exact hu.sz)) J J J K1 Bt (Zd 1 J J J Ze) J hw) J J J J fun _ _=>gdt (Ym J J) J J J J<|gtt (Zh (n:=2) (Nq _ _ (by first | exact hv.sz | exact hu.sz)) J J J K1 Bt (Zd 2 J J J Ze) J hw) J J J J fun _ _=>gdt (Zte J J J) J J J J<|gdt (Yt J J J ⟨by omega,by omega⟩) J J J J<|gdt (Gz J J J (by rw [hN5];exact⟨by omega,by omega⟩)) J J J J<|gdt (On J J J) J J J J<|dt (Xh J J J) J<|Zf<|Qv () trivial ⟨by first | (rw [hN5];exact congrArg some (congrArg Value.bool (decide_eq_decide.2 ⟨fun h=>⟨by omega,by omega,by omega⟩,fun h=>by have:=h.2.2;omega⟩))) | exact congrArg some (congrArg Value.bool (decide_eq_false (fun h=>by have h1:=h.1;have h2:=h.2.1;omega)).symm),rfl,rfl,trivial⟩ K3
   ·exact gsk J J J J J<|gsk J J J J J<|gsk J J J J J<|gsk J J J J J<|gsk J J J J J<|gsk J J J J J<|gsk J J J J J<|gsk J J J J J<|gsk J J J J J<|gsk J J J J J<|gsk J J J J J<|dt (Yh J J J) J<|Zf<|Qv () trivial ⟨by first | (rw [hN5];exact congrArg some (congrArg Value.bool (decide_eq_decide.2 ⟨fun h=>⟨by omega,by omega,by omega⟩,fun h=>by have:=h.2.2;omega⟩))) | exact congrArg some (congrArg Value.bool (decide_eq_false (fun h=>by have h1:=h.1;have h2:=h.2.1;omega)).symm),rfl,rfl,trivial⟩ K3
  ·exact gsk J J J J J<|gsk J J J J J<|gsk J J J J J<|dt (Yh J J J) J<|mv J J<|gsk J J J J J<|gsk J J J J J<|gsk J J J J J<|gsk J J J J J<|gsk J J J J J<|gsk J J J J J<|gsk J J J J J<|gsk J J J J J<|gsk J J J J J<|gsk J J J J J<|gsk J J J J J<|dt (Yh J J J) J<|Zf<|Qv () trivial ⟨by first | (rw [hN5];exact congrArg some (congrArg Value.bool (decide_eq_decide.2 ⟨fun h=>⟨by omega,by omega,by omega⟩,fun h=>by have:=h.2.2;omega⟩))) | exact congrArg some (congrArg Value.bool (decide_eq_false (fun h=>by have h1:=h.1;have h2:=h.2.1;omega)).symm),rfl,rfl,trivial⟩ K3
 ·rintro _ -
  simp only [List.cons_append,List.nil_append]
  refine Zq J (fun h371=>?_) (fun h371=>?_)
  ·exfalso;exact hg h371
  ·refine Zk<|Za<|Zb<|Zg<|mv J J<|tt (Zh (n:=3) (Mc _ _ hv) J J J K1 Zl2 (Zd 1 J J J Ze) J hw) J fun _ _=>mv J J<|dt (Yg J J J) J<|dt (Yg J J J) J<|as_ J J<|as_ J J<|Zf<|Za<|Zb<|Zb<|Zg<|mv J J<|dt (Qd J J J) J<|Zf<|Za<|Zq J (fun h375=>?_) (fun h375=>?_)
   ·exfalso;exact h375 rfl
   ·refine Zk<|Za<|Zb<|Zg<|mv J J<|tt (Zh (n:=4) (Mc _ _ hu) J J J K1 Zl2 (Zd 2 J J J Ze) J hw) J fun _ _=>mv J J<|dt (Yg J J J) J<|dt (Yg J J J) J<|as_ J J<|as_ J J<|Zf<|Za<|Zb<|Zb<|Zg<|mv J J<|dt (Qd J J J) J<|Zf<|Za<|Zq J (fun h379=>?_) (fun h379=>?_)
    ·exfalso;exact h379 rfl
    ·refine Zk<|Za<|Dd [] [(0,_),(1,_),(2,_),(3,_),(4,_)] (fun(q:Value×Value)=>[(7,q.1),(9,q.2)]) (fun(q:Value×Value)=>[(80,slp 2 wv q.1 (gA xs ys)),(81,slp 2 wv q.2 (gB xs ys))]) (fun(q:Value×Value)=>True) trivial K5 ?_ ?_
     ·refine Zb<|Zg<|mv J J<|dt (Zy J J (i:=3) J Zi Qn) J<|mv J J<|dt (Zy J J (i:=4) J Zi Qn) J<|dt (Qb J J J) J<|Zf<|Za<|Zq J (fun h382=>?_) (fun h382=>?_)
      ·exact Zg<|mv J J<|mv J J<|as_ J J<|as_ J J<|Zf<|Pr (Nk 4 80 J J J)<|Pr (Nk 3 81 J J J)<|Qv (_,_) trivial K2 ⟨by unfold gA;first | rw [if_pos (by omega)];rfl | rw [if_neg (by omega)];rfl,by unfold gB;first | rw [if_pos (by omega)];rfl | rw [if_neg (by omega)];rfl,rfl,rfl,rfl,rfl,rfl,trivial⟩
      ·exact Zk<|Pr (Nk 3 80 J J J)<|Pr (Nk 4 81 J J J)<|Qv (_,_) trivial K2 ⟨by unfold gA;first | rw [if_pos (by omega)];rfl | rw [if_neg (by omega)];rfl,by unfold gB;first | rw [if_pos (by omega)];rfl | rw [if_neg (by omega)];rfl,rfl,rfl,rfl,rfl,rfl,trivial⟩
     ·rintro⟨va,vb⟩ -
      simp only [List.cons_append,List.nil_append]
      refine Zb<|Zl<|Nt [] [(0,_),(1,_),(2,_),(3,_),(4,_)] (fun(q:Value×Value×List Int×List Int×Nat)=>[(7,q.1),(9,q.2.1)]) (fun(q:Value×Value×List Int×List Int×Nat)=>[(80,slp 2 wv q.1 q.2.2.1),(81,slp 2 wv q.2.1 q.2.2.2.1)]) (fun(q:Value×Value×List Int×List Int×Nat)=>(Vp q.2.2.1)∧(Vp q.2.2.2.1)∧(eok q.2.2.2.2 q.2.2.1 q.2.2.2.1)∧(eu q.2.2.2.2 q.2.2.1 q.2.2.2.1=eu F (gA xs ys) (gB xs ys))) (fun(q:Value×Value×List Int×List Int×Nat)=>q.2.2.2.2) (va,vb,gA xs ys,gB xs ys,F) ⟨vp_gA hv hu,vp_gB hv hu,hok,J⟩ K2 K7 ?_
      rintro⟨va,vb,a,b,f⟩ ⟨hva,hvb,hok0,heu⟩
      dsimp only at hva hvb hok0 heu
      simp only [List.cons_append,List.nil_append]
      refine Zb<|Zb<|Zg<|mv J J<|dt (Zy J J (i:=81) J Zi Qn) J<|dt (On J J J) J<|Zf<|Za<|Zq J (fun h385=>?_) (fun h385=>?_)
      ·have hbn:b≠[]:=fun e=>by rw [e]at h385;simp at h385
       obtain⟨f1,rfl,hde,hok1,heu1⟩:=Znx hok0 hbn
       refine Zk<|Za<|Zl<|Zb<|Zg<|mv J J<|mv J J<|tt (Zh (n:=5) (Zi5 _ _ _ _ hva hvb hde) J J J K2 cF155 (Zd 80 J J J (Zd 81 J J J Ze)) J hw) J fun _ _=>mv J J<|dt (Yg J J J) J<|dt (Yg J J J) J<|as_ J J<|as_ J J<|Zf<|Za<|Zb<|Zb<|Zg<|mv J J<|dt (Qd J J J) J<|Zf<|Za<|Zq J (fun h387=>?_) (fun h387=>?_)
       ·exfalso;exact h387 rfl
       ·refine Zk<|Za<|Zb<|Zb<|Zg<|mv J J<|tt (Zh (n:=6) (Mc _ _ (Cg hva hde)) J J J K1 Zl2 (Zd 5 J J J Ze) J hw) J fun _ _=>mv J J<|dt (Yg J J J) J<|dt (Yg J J J) J<|as_ J J<|as_ J J<|Zf<|Za<|Zb<|Zg<|mv J J<|dt (Qd J J J) J<|Zf<|Za<|Zq J (fun h390=>?_) (fun h390=>?_)
        ·exfalso;exact h390 rfl
        ·exact Zk<|Za<|Zg<|mv J J<|mv J J<|as_ J J<|as_ J J<|Zf<|Ob<|Pr (Nk 81 80 J J J)<|Pr (Nk 6 81 J J J)<|Xq (_,_,b,Yx (Ph a b),f1) ⟨hvb,Lt (Cg hva hde),hok1,by rw [←heu1];exact heu⟩ (Nat.lt_succ_self f1) K2 K7
      ·obtain rfl:b=[]:=List.eq_nil_of_length_eq_zero (by omega)
       rw [Fx]at heu
       have hal:=hva.len
       refine Yu<|Zs<|Zs<|Ox<|Za<|Zb<|Zb<|Zg<|mv J J<|dt (Zy J J (i:=80) J Zi Qn) J<|dt (On J J J) J<|mv J J<|Qx (d:=95) J (fun s395=>?_) (fun s395=>?_)
       ·refine gdt (Ym J J) J J J J<|gdt (Ym J J) J J J J<|gdt (Zy J J (i:=80) J Zi Qn) J J J J<|gdt (Qg J J J ⟨by omega,by omega⟩) J J J J<|gdt (Yz (ii:=80) (i:=(a.length-1)) J J J J Zi Qn Yk (by omega) (by omega)) J J J J<|gdt (Xs (ii:=80) 0 J J J Zi pV (by omega)) J J J J<|gtt (Zh (n:=6) (Mh _ (hva.sz _)) J J J K1 Zbt Ze J hw) J J J J fun _ _=>gdt (Qb J J J) J J J J<|dt (Xh J J J) J<|Zf<|Za<|Zq J (fun h395=>?_) (fun h395=>?_)
        ·have hneg:a.length≠0∧cf a (a.length-1)<0:=⟨by omega,(Qk _).1 h395⟩
         exact Zb<|Zg<|mv J J<|tt (Zh (n:=6) (Xa (-1) (by first | assumption | exact⟨by omega,by omega⟩)) J J J K1 Cu Ze J hw) J fun _ _=>tt (Zh (n:=7) (Fq _ _ (-1) hva (by decide) (Bu hva.sz)) J J J K2 Zt0 (Zd 80 J J J Ze) J hw) J fun _ _=>dt (Yg J J J) J<|dt (Yg J J J) J<|as_ J J<|as_ J J<|Zf<|Za<|Zu<|Xe<|Zv (.inl J) hsc _ _ (fun a w hs=>Ni hs Tryz.results110 J J) J trivial J (Yj 7 J J J (by unfold Ko Kd;rw [←heu,if_pos hneg]<;>rfl) Zj)
        ·refine Zk<|Za<|Zb<|Zg<|mv J J<|as_ J J<|as_ J J<|Zf<|Za<|Zu ?_
         have hneg:¬(a.length≠0∧cf a (a.length-1)<0):=fun h=>by first | omega | exact absurd ((Qk (cf a (a.length-1))).2 h.2) (by assumption)
         exact Zv (.inl J) hsc _ _ (fun a w hs=>Ni hs Tryz.results110 J J) J trivial J (Yj 80 J J J (by unfold Ko Kd;rw [←heu,if_neg hneg]<;>rfl) Zj)
       ·refine gsk J J J J J<|gsk J J J J J<|gsk J J J J J<|gsk J J J J J<|gsk J J J J J<|gsk J J J J J<|gsk J J J J J<|gsk J J J J J<|dt (Yh J J J) J<|Zf<|Za<|Yf J<|Zk<|Za<|Zb<|Zg<|mv J J<|as_ J J<|as_ J J<|Zf<|Za<|Zu ?_
        have hneg:¬(a.length≠0∧cf a (a.length-1)<0):=fun h=>by first | omega | exact absurd ((Qk (cf a (a.length-1))).2 h.2) (by assumption)
        exact Zv (.inl J) hsc _ _ (fun a w hs=>Ni hs Tryz.results110 J J) J trivial J (Yj 80 J J J (by unfold Ko Kd;rw [←heu,if_neg hneg]<;>rfl) Zj)
theorem poly_of(v:Value)(l:List Int)(hl:∀x∈l,inI x)(hlen:l.length≤1000):Cal Tryz.prog 108 #[v] [slp 1 Zb4 v l] true (G:=Value) (fun r=>True) (fun r=> .tuple #[r,.int .i64 (if 25<(tzl l).length then 7 else 0)]) (fun r=>[slp 2 wv r (if 25<(tzl l).length then []else tzl l)]):=by
 refine Yd Tryz.func108 J Tryz.ntmps108 J K1 ?_
 intro w0 sc hw hsc
 simp only [Zp,Zn]
 have hsz:=Zdh hl
 refine Zb<|Zg<|as_ J J<|as_ J J<|Zf<|Za<|Zb<|Zg<|as_ J J<|Zf<|Za<|Zb<|Zb<|Zg<|mv J J<|dt (Zy J J (i:=1) J Zi Mi) J<|mv J J<|Zf<|Za<|Zl<|Ys (Nj 70 2 31 wv)<|Nt [(7,_),(8,_)] [(0,_),(1,_)] (fun(q:Nat×Value)=>[(9,.int .i64 (q.1:Int)),(4,q.2)]) (fun(q:Nat×Value)=>[(70,osl 2 31 wv q.2 (l.take q.1))]) (fun(q:Nat×Value)=>q.1≤l.length) (fun(q:Nat×Value)=>l.length-q.1) (0,.slice none 0 0) (by first | omega | (dsimp only<;>omega)) K4 K3 ?_
 rintro⟨k,vo⟩ hk
 dsimp only at hk
 simp only [List.cons_append,List.nil_append]
 have hlk:(l.take k).length=k:=by rw [List.length_take];omega
 refine Zb<|Zg<|dt (Qb J J J) J<|Zf<|Za<|Zb<|Zq J (fun h62=>?_) (fun h62=>?_)
 ·exact Zk<|Za<|Zb<|Zl<|Zb<|Zg<|dt (Yz (ii:=1) J J J J Zi Mi zT3 J (by first | omega | (simp only [List.length_set];omega))) J<|dt (Xs (ii:=1) 0 J J J Zi pZ (by first | omega | (simp only [List.length_set];omega))) J<|as_ J J<|Zf<|Za<|Zg<|mv J J<|mv J J<|tt (Zh (n:=1) (Xa _ (hl _ (Yv (by omega)))) J J J K1 Cu Ze J hw) J fun _ _=>tt (Pt (i:=2) (ivs:=[(0,_)]) (enc:=wv) [l.getD k 0] J J J K2 Qn Tryz.ti31 J J J J J J pV.cells J J hw) J fun v _=>tt (Kt (i:=70) (j:=2) (by_:=24) J J J J J J (by decide) J (Yn pV) Qn Tryz.ti31 J pV J J J (by simp;omega) (by decide) J hw) J fun v_2 _=>as_ J J<|Zf<|Ob<|Za<|Zg<|dt (Yt J J J ⟨by omega,by omega⟩) J<|mv J J<|Zf<|Xq (k+1,_) (by first | omega | (dsimp only<;>omega)) (by first | omega | (dsimp only<;>omega)) K4 ⟨by rw [Om 0 _ _ (by omega)];rfl,rfl,rfl,trivial⟩
 ·refine Yu<|Zs<|Zs<|Ox<|Za<|Zb ?_
  obtain rfl:k=l.length:=by omega
  rw [List.take_length]
  refine Ys (Po 70 J J pV)<|Zg<|mv J J<|tt (Zh (n:=3) (Ao _ _ hsz) J J J K1 Zxd (Zd 70 J J J Ze) J hw) J fun _ _=>as_ J J<|Zf<|Za<|Zb<|Zb<|Zg<|mv J J<|dt (Zy J J (i:=3) J Zi Qn) J<|dt (On J J J) J<|Zf<|Za<|Zq J (fun h66=>?_) (fun h66=>?_)
  ·refine Zb<|Zg<|as_ J J<|as_ J J<|Zf<|Za<|Zu<|Xe ?_
   have h25:25<(tzl l).length:=by omega
   exact Zv (.inl J) hsc _ _ (fun a w hs=>Ni hs Tryz.results108 J J) (by rw [if_pos h25]) trivial J (Ld (if_pos h25) Zj)
  ·refine Zk<|Za<|Zb<|Zg<|mv J J<|as_ J J<|as_ J J<|Zf<|Za<|Zu ?_
   have h25:¬25<(tzl l).length:=by omega
   exact Zv (.inl J) hsc _ _ (fun a w hs=>Ni hs Tryz.results108 J J) (by rw [if_neg h25]<;>rfl) trivial J (Yj 3 J J J (by rw [if_neg h25]<;>rfl) Zj)
end Go.Sky

