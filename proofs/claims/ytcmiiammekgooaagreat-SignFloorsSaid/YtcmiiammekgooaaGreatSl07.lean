/- rules, arithmetic and contracts: part 8
   Proved without conditions of its own: each theorem bears its own. -/
import Derived.Test.YtcmiiammekgooaaGreatSl03
import Derived.Test.YtcmiiammekgooaaGreatSl02
import Derived.Test.YtcmiiammekgooaaGreatSl01
import Derived.Test.YtcmiiammekgooaaGreatSl06
set_option linter.all false
namespace Go.Sky
open Go.Proofs.Tryz
open Go.Proofs
set_option maxRecDepth 20000
set_option maxHeartbeats 4000000
set_option linter.unusedSimpArgs false
theorem Zat(v u:Value)(xs ys:List Int)(hv:Vp xs)(hu:Vp ys):Ml prog 156 #[v,u] [slp 2 wv v xs,slp 2 wv u ys] (.tuple #[.bool (dlow xs ys),.int .i64 (Zdn xs ys)]):=by
 refine Ya func156 J ntmps156 J K2 ?_
 intro w0 sc hw hsc
 simp only [Zp,Zn]
 have hlen:=hv.len
 have hlen2:=hu.len
 have hm1:=Ps hv.sz
 have hm2:=Ps hu.sz
 refine Zc<|Zg<|as_ J<|as_ J<|Zf<|Za<|Zc<|Zl<|Zc<|Zg<|mv J<|tt (Zh (n:=2) (Xq _ _ ‹_›) J J J K1 Zdr (Zb 1 J J J Ze) J hw) fun _ _=>dt (Xp J J)<|mv J<|gdt (Ym J J) J J<|gtt (Zh (n:=2) (Xq _ _ ‹_›) J J J K1 Zdr (Zb 2 J J J Ze) J hw) J J J fun _ _=>gdt (Xp J J) J J<|dt (Yh J J J)<|as_ J<|Zf<|Za<|Ye J<|Zc<|Zg<|mv J<|dt (Yb J J (i:=2) J Zi Qp)<|dt (Pm J J J)<|as_ J<|Zf<|Za<|Zq J (fun h297=>?_) (fun h297=>?_)
 ·exact Zc<|Zg<|as_ J<|as_ J<|Zf<|Za<|Zv<|Hf<|Xc<|Yn (.inl J) hsc () _ (fun a w hs=>Np hs results156 J J) (by unfold Zdn dlow;rw [if_pos (by omega),List.eq_nil_of_length_eq_zero (l:=ys) (by omega)];rfl) trivial J Zk
 ·refine Zc<|Zg<|mv J<|dt (Yb J J (i:=1) J Zi Qp)<|mv J<|dt (Yb J J (i:=2) J Zi Qp)<|dt (Xu J J J)<|as_ J<|Zf<|Za<|Zq J (fun h299=>?_) (fun h299=>?_)
  ·exact Zc<|Zg<|as_ J<|as_ J<|Zf<|Za<|Zv<|Hf<|Xc<|Yn (.inl J) hsc () _ (fun a w hs=>Np hs results156 J J) (by rw [Ze4 (by omega),decide_eq_true (by omega)];unfold Zdn;rw [if_neg (by omega),if_pos (by omega)]) trivial J Zk
  ·have hp3:(xs.length-ys.length+1)*(msz ys+1)≤26*65537:=Nat.mul_le_mul (by omega) (by omega)
   have hp4:((xs.length:Int)-(ys.length:Int)+1)*((msz ys:Int)+1)=(((xs.length-ys.length+1)*(msz ys+1):Nat):Int):=by rw [Int.natCast_mul];congr 1;omega
   refine Zc<|Zg<|mv J<|tt (Zh (n:=2) (Nw _ _ (by first | exact hv.sz | exact hu.sz)) J J J K1 Av (Zb 1 J J J Ze) J hw) fun _ _=>mv J<|dt (Yb J J (i:=1) J Zi Qp)<|mv J<|dt (Yb J J (i:=2) J Zi Qp)<|dt (Qa J J J ⟨by omega,by omega⟩)<|dt (Ys J J J ⟨by omega,by omega⟩)<|mv J<|tt (Zh (n:=2) (Nw _ _ (by first | exact hv.sz | exact hu.sz)) J J J K1 Av (Zb 2 J J J Ze) J hw) fun _ _=>dt (Ys J J J ⟨by omega,by omega⟩)<|dt (Gq J J J (by rw [hp4];exact⟨by omega,by omega⟩))<|dt (Ys J J J (by rw [hp4];exact⟨by omega,by omega⟩))<|dt (Oq J J J)<|as_ J<|Zf<|Za<|Zq J (fun h301=>?_) (fun h301=>?_)
   ·exact Zc<|Zg<|as_ J<|as_ J<|Zf<|Za<|Zv<|Hf<|Xc<|Yn (.inl J) hsc () _ (fun a w hs=>Np hs results156 J J) (by rw [hp4]at h301;rw [Ze4 (by omega),decide_eq_false (by omega)];unfold Zdn;rw [if_neg (by omega),if_neg (by omega),if_pos (by omega)]) trivial J Zk
   ·exact Zj<|Oa<|Za<|Zc<|Zg<|as_ J<|as_ J<|Zf<|Za<|Zv<|Yn (.inl J) hsc () _ (fun a w hs=>Np hs results156 J J) (by rw [hp4]at h301;rw [Ze4 (by omega),decide_eq_false (by omega)];unfold Zdn;rw [if_neg (by omega),if_neg (by omega),if_neg (by omega)]) trivial J Zk
theorem Zjp(v u:Value)(xs ys:List Int)(hv:Vp xs)(hu:Vp ys)(hd:Zdn xs ys=0):Cal prog 155 #[v,u] [slp 2 wv v xs,slp 2 wv u ys] true (G:=Value) (fun r=>True) (fun r=> .tuple #[r,.int .i64 0]) (fun r=>[slp 2 wv r (Pk xs ys)]):=by
 refine Ya func155 J ntmps155 J K2 ?_
 intro w0 sc hw hsc
 simp only [Zp,Zn]
 have hlen:=hv.len
 have hlen2:=hu.len
 have hm1:=Ps hv.sz
 have hm2:=Ps hu.sz
 obtain⟨hm0,hF0⟩:=Ar hd
 have hdl:=Ze4 (p:=xs) hm0
 refine Zc<|Zg<|as_ J<|as_ J<|Zf<|Za<|Zc<|Zg<|mv J<|mv J<|tt (Zh (n:=2) (Zat _ _ _ _ hv hu) J J J K2 call156 (Zb 1 J J J (Zb 2 J J J Ze)) J hw) fun _ _=>mv J<|dt (Yf J J J)<|dt (Yf J J J)<|as_ J<|as_ J<|Zf<|Za<|Zc<|Zc<|Zg<|mv J<|dt (Qb J J J)<|Zf<|Za<|Zq J (fun h310=>?_) (fun h310=>?_)
 ·exfalso;exact h310 hd
 ·refine Zj<|Za<|Zc<|Zg<|mv J<|tt (Zk1 (n:=3) (Zuh _ _) J J J K1 call157 (Zb 1 J J J Ze) J hw) fun v _=>as_ J<|Zf<|Za<|Zc<|Zc<|Zg<|mv J<|Zf<|Za<|Lm J (fun h314=>?_) (fun h314=>?_)
  ·have hlt:xs.length<ys.length:=by rw [hdl]at h314;simpa using h314
   exact Zc<|Zg<|mv J<|as_ J<|as_ J<|Zf<|Za<|Zv<|Xc<|Yn (.inl J) hsc _ _ (fun a w hs=>Np hs results155 J J) J trivial J (Py 3 J J pV (by unfold Pk;rw [if_pos hlt]) Zk)
  ·have hge:ys.length≤xs.length:=by rw [hdl]at h314;simpa using h314
   have hF:=hF0 hge
   refine Zj<|Za<|Zc<|Zg<|tt (Zo (i:=4) J J zeroValue167 J J hw) fun b _=>Zf<|Za<|Zc<|Zg<|mv J<|mv J<|dt (Yb J J (i:=2) J Zi Qp)<|dt (Qa J J J ⟨by omega,by omega⟩)<|dt (Yw (ii:=2) (i:=(ys.length-1)) J J J J Zi Qp Yj)<|dt (Xm (ii:=2) 0 J J J Zi pV)<|tt (Zo (i:=5) J J zeroValue31 J J hw) fun b_2 _=>tt (Zm (i:=5) J J J J J (by decide) J Yj J J ⟨Zd J,Zd J,trivial⟩ J hw trivial) fun _ _=>Zf<|Za<|Zc<|Zc<|Zg<|mv J<|dt (Yb J J (i:=1) J Zi Qp)<|dt (Qa J J J ⟨by omega,by omega⟩)<|as_ J<|Zf<|Za<|Zl<|Nt [(1,_),(8,_),(9,_),(10,_)] [(0,_),(1,_),(2,_),(4,_),(5,_)] (fun(j:Nat)=>[(11,.int .i64 ((xs.length:Int)-1-(j:Int)))]) (fun(j:Nat)=>[(3,osl 2 31 wv v (Pe xs ys j))]) (fun(j:Nat)=>j≤xs.length-ys.length+1) (fun(j:Nat)=>xs.length-ys.length+1-j) 0 (by first | omega | (dsimp only<;>omega)) ⟨by rw [show(xs.length:Int)-1-((0:Nat):Int)=(xs.length:Int)-1 by omega];rfl,rfl,rfl,rfl,rfl,trivial⟩ K6 ?_
   rintro j hj
   simp only [CA,NA]
   refine Zc<|Zc<|Zg<|mv J<|mv J<|dt (Yb J J (i:=2) J Zi Qp)<|dt (Qa J J J ⟨by omega,by omega⟩)<|dt (Lx J J J)<|Zf<|Za<|Zq J (fun h319=>?_) (fun h319=>?_)
   ·obtain⟨hb1,hb2,hb3⟩:=rest_b hF (j:=j) (by omega)
    have hRl:=Pa xs ys j
    refine Zj<|Za<|Zc<|Zl<|Zc<|Zg<|mv J<|mv J<|dt (Yw (ii:=3) (i:=(xs.length-1-j)) J J J J (Yq pV) Qp Yj)<|dt (Xm (ii:=3) 0 J J J (Yq pV) pV)<|tt (Zo (i:=6) J J zeroValue31 J J hw) fun b_3 _=>tt (Zm (i:=6) J J J J J (by decide) J Yj J J ⟨Zd J,Zd J,trivial⟩ J hw trivial) fun _ _=>Zf<|Za<|Zc<|Zc<|Zg<|mv J<|dt (Yb J J (i:=3) J (Yq pV) Qp)<|mv J<|Zf<|Za<|Zl<|Nt [(1,_),(8,_),(9,_),(10,_),(11,_),(12,_),(51,_)] [(0,_),(1,_),(2,_),(4,_),(5,_),(6,_)] (fun(i:Nat)=>[(52,.int .i64 (i:Int))]) (fun(i:Nat)=>[(3,osl 2 31 wv v (Zp8 (Pe xs ys j) (cf ys (ys.length-1)) i))]) (fun(i:Nat)=>i≤xs.length) (fun(i:Nat)=>xs.length-i) 0 (by first | omega | (dsimp only<;>omega)) K8 ⟨by rw [Zsr];rfl,rfl,rfl,rfl,rfl,rfl,rfl,trivial⟩ ?_
    rintro i hi
    simp only [CA,NA]
    have hg1:i<xs.length→(Zp8 (Pe xs ys j) (cf ys (ys.length-1)) i).getD i 0=cf (Pe xs ys j) i:=fun h=>Zxg (by omega)
    have hl1:=Zly (Pe xs ys j) (cf ys (ys.length-1)) i
    refine Zc<|Zg<|dt (Xu J J J)<|Zf<|Za<|Zc<|Zq J (fun h322=>?_) (fun h322=>?_)
    ·refine Zj<|Za<|Zc<|Zl<|Zc<|Zg<|mv J<|as_ J<|Zf<|Za<|Ql (fun x=>x=b) [(0,0),(1,0),(2,0),(3,0),(4,0),(5,0),(6,0),(7,1),(8,0),(9,3)] ?_ ?_
     ·kernel_rfl
     exact r0' J J (st1 4 J (Ym J J))<|r0' J J (st1 4 J (Ym J J))<|r0' J J (st1 4 J (Ym J J))<|r0' J J (st1 4 J (Ym J J))<|r0' J J (st1 4 J (Yw (ii:=3) (i:=i) J J J J (Yq pV) Qp Yj J))<|r0' J J (st1 4 J (Xm (ii:=3) 0 J J J (Yq pV) pV))<|r0' J J (st1 4 J (Zz (i:=5) J J J Qj Yj J J))<|r1' J (Om (n:=6) (i:=4) (El _ _ _ (by rw [hg1 (by omega)];exact hb1 _) (hu.sz _) (by rw [hg1 (by omega)];exact hb2 _ _)) J J J K3 call153 J (by decide) Ze J hw J) fun _ _=>r0' J J (st1 4 J (Yw (ii:=3) (i:=i) J J J J (Yq pV) Qp Yj J))<|r3' J (Kz (i:=3) (enc:=wv) _ J J J J J J pV J hw) fun _ _=>Og<|Oa<|Za<|Zg<|dt (Ys J J J ⟨by omega,by omega⟩)<|mv J<|Zf<|Xk (i+1) (by first | omega | (dsimp only<;>omega)) (by first | omega | (dsimp only<;>omega)) K8 ⟨by rw [←Zxf (by omega),←hg1 (by omega)];rfl,rfl,rfl,rfl,rfl,rfl,rfl,trivial⟩
    ·refine Yu<|Zu<|Zu<|Ox<|Za<|Zc ?_
     obtain rfl:i=xs.length:=by omega
     refine Zg<|mv J<|dt (Yb J J (i:=2) J Zi Qp)<|mv J<|Zf<|Za<|Zl<|Nt [(1,_),(8,_),(9,_),(10,_),(11,_),(12,_),(65,_),(66,_)] [(0,_),(1,_),(2,_),(4,_),(5,_),(6,_)] (fun(i:Nat)=>[(67,.int .i64 (i:Int))]) (fun(i:Nat)=>[(3,osl 2 31 wv v (Zu9 ys (Pe xs ys j) (cf ys (ys.length-1)) (cf (Pe xs ys j) (xs.length-1-j)) (xs.length-1-j-(ys.length-1)) i))]) (fun(i:Nat)=>i≤ys.length) (fun(i:Nat)=>ys.length-i) 0 (by first | omega | (dsimp only<;>omega)) K9 ⟨by rw [←Zqw,hRl];rfl,rfl,rfl,rfl,rfl,rfl,rfl,trivial⟩ ?_
     rintro i hi
     simp only [CA,NA]
     have hg2:i<ys.length→(Zu9 ys (Pe xs ys j) (cf ys (ys.length-1)) (cf (Pe xs ys j) (xs.length-1-j)) (xs.length-1-j-(ys.length-1)) i).getD ((xs.length-1-j-(ys.length-1))+i) 0=cf (Pe xs ys j) ((xs.length-1-j-(ys.length-1))+i)*(cf ys (ys.length-1)):=fun h=>Zvs (by omega)
     have hl2:=Zlx ys (Pe xs ys j) (cf ys (ys.length-1)) (cf (Pe xs ys j) (xs.length-1-j)) (xs.length-1-j-(ys.length-1)) i
     refine Zc<|Zg<|dt (Xu J J J)<|Zf<|Za<|Zc<|Zq J (fun h325=>?_) (fun h325=>?_)
     ·refine Zj<|Za<|Zc<|Zl<|Zc<|Zg<|mv J<|dt (Yw (ii:=2) J J J J Zi Qp Yj J (by first | omega | (simp only [List.length_set];omega)))<|dt (Xm (ii:=2) 0 J J J Zi pV (by first | omega | (simp only [List.length_set];omega)))<|tt (Zo (i:=7) J J zeroValue31 J J hw) fun b_4 _=>as_ J<|tt (Zm (i:=7) J J J J J (by decide) J Yj J J ⟨Zd J,Zd J,trivial⟩ J hw trivial) fun _ _=>Zf<|Za<|Zc<|Zg<|mv J<|mv J<|dt (Yb J J (i:=2) J Zi Qp)<|dt (Qa J J J ⟨by omega,by omega⟩)<|dt (Qa J J J ⟨by omega,by omega⟩)<|mv J<|dt (Ys J J J ⟨by omega,by omega⟩)<|as_ J<|Zf<|Za<|Ql (fun x=>x=b) [(0,0),(1,0),(2,0),(3,0),(4,0),(5,0),(6,0),(7,0),(8,1),(9,1),(10,0),(11,3)] ?_ ?_
      ·kernel_rfl
      exact r0' J J (st1 4 J (Ym J J))<|r0' J J (st1 4 J (Ym J J))<|r0' J J (st1 4 J (Ym J J))<|r0' J J (st1 4 J (Ym J J))<|r0' J J (st1 4 J (Yw (ii:=3) (i:=((xs.length-1-j-(ys.length-1))+i)) J J J J (Yq pV) Qp Yj))<|r0' J J (st1 4 J (Xm (ii:=3) 0 J J J (Yq pV) pV))<|r0' J J (st1 4 J (Zz (i:=6) J J J Qj Yj J J))<|r0' J J (st1 4 J (Zz (i:=7) J J J Qj Yj J J))<|r1' J (Om (n:=7) (i:=4) (El _ _ _ (hb1 _) (hu.sz _) (hb2 _ _)) J J J K3 call153 J (by decide) Ze J hw J) fun _ _=>r1' J (Om (n:=7) (i:=4) (Zt1 _ _ _ (by rw [hg2 (by omega)];exact hb2 _ _) (hb2 _ _) (by rw [hg2 (by omega)];exact hb3 _ _ _ _)) J J J K3 call137 J (by decide) Ze J hw J) fun _ _=>r0' J J (st1 4 J (Yw (ii:=3) (i:=((xs.length-1-j-(ys.length-1))+i)) J J J J (Yq pV) Qp Yj))<|r3' J (Kz (i:=3) (enc:=wv) _ J J J J J J pV J hw) fun _ _=>Og<|Oa<|Za<|Zg<|dt (Ys J J J ⟨by omega,by omega⟩)<|mv J<|Zf<|Xk (i+1) (by first | omega | (dsimp only<;>omega)) (by first | omega | (dsimp only<;>omega)) K9 ⟨by rw [←Zvr (by omega),←hg2 (by omega)];rfl,rfl,rfl,rfl,rfl,rfl,rfl,trivial⟩
     ·refine Yu<|Zu<|Zu<|Ox<|Oa<|Za<|Zg<|mv J<|dt (Qa J J J ⟨by omega,by omega⟩)<|as_ J<|Zf ?_
      obtain rfl:i=ys.length:=by omega
      exact Xk (j+1) (by first | omega | (dsimp only<;>omega)) (by first | omega | (dsimp only<;>omega)) ⟨by rw [show(xs.length:Int)-1-((j+1:Nat):Int)=(xs.length:Int)-1-(j:Int)-1 by omega];rfl,rfl,rfl,rfl,rfl,trivial⟩ ⟨by rfl,rfl,rfl,rfl,rfl,rfl,trivial⟩
   ·refine Yu<|Zu<|Zu<|Ox<|Za<|Zc ?_
    obtain rfl:j=xs.length-ys.length+1:=by omega
    exact Yl (Qz 3 J J pV)<|Zg<|mv J<|tt (Om (n:=8) (i:=4) (Zbf _ _ _ (Zm0 hF)) J J J K2 call154 J (by decide) (Zb 3 J J J Ze) J hw trivial) fun _ _=>dt (Yf J J J)<|dt (Yf J J J)<|as_ J<|as_ J<|Zf<|Za<|Zv<|Yn (.inl J) hsc _ _ (fun a w hs=>Np hs results155 J J) J trivial J (Yk 8 J J J (by unfold Pk;rw [if_neg (by omega)]<;>rfl) Zk)
theorem Ak(v u:Value)(xs ys:List Int)(hv:Vp xs)(hu:Vp ys)(hd:Zdn xs ys=0):Cal prog 111 #[v,u] [slp 2 wv v xs,slp 2 wv u ys] true (G:=Value) (fun r=>True) (fun r=> .tuple #[r,.int .i64 (if pdv xs ys then 0 else 10)]) (fun r=>[slp 2 wv r (if pdv xs ys then Kn xs ys else [])]):=by
 refine Ya func111 J ntmps111 J K2 ?_
 intro w0 sc hw hsc
 simp only [Zp,Zn]
 have hlen:=hv.len
 have hlen2:=hu.len
 have hm1:=Ps hv.sz
 have hm2:=Ps hu.sz
 obtain⟨hm0,hF0⟩:=Ar hd
 have hdl:=Ze4 (p:=xs) hm0
 have hyz:cf ys (ys.length-1)≠0:=hu.tr.mem (fun e=>hm0 (by rw [e];rfl))
 refine Zc<|Zg<|as_ J<|as_ J<|Zf<|Za<|Zc<|Zg<|mv J<|mv J<|tt (Zh (n:=2) (Zat _ _ _ _ hv hu) J J J K2 call156 (Zb 1 J J J (Zb 2 J J J Ze)) J hw) fun _ _=>mv J<|dt (Yf J J J)<|dt (Yf J J J)<|as_ J<|as_ J<|Zf<|Za<|Zc<|Zl<|Zc<|Zg<|mv J<|dt (Qb J J J)<|as_ J<|Zf<|Za<|Zq J (fun h337=>?_) (fun h337=>?_)
 ·exfalso;exact h337 hd
 ·refine Zc<|Zg<|mv J<|dt (Yb J J (i:=1) J Zi Qp)<|dt (Pm J J J)<|as_ J<|Zf<|Za<|Zq J (fun h339=>?_) (fun h339=>?_)
  ·refine Zc<|Zg<|as_ J<|as_ J<|Zf<|Za<|Zv<|Hf<|Xc ?_
   have hx0:xs=[]:=List.eq_nil_of_length_eq_zero (by omega)
   have hp:pdv xs ys:= .inl hx0
   exact Yn (.inl J) hsc _ _ (fun a w hs=>Np hs results111 J J) (by rw [if_pos hp]) trivial J (Lh (by rw [if_pos hp,hx0];rfl) Zk)
  ·have hnx:xs≠[]:=fun e=>by rw [e]at h339;simp at h339
   refine Zc<|Zg<|mv J<|as_ J<|Zf<|Za<|Lm J (fun h341=>?_) (fun h341=>?_)
   ·have hlt:xs.length<ys.length:=by rw [hdl]at h341;simpa using h341
    refine Zc<|Zg<|as_ J<|as_ J<|Zf<|Za<|Zv<|Hf<|Xc ?_
    have hp:¬pdv xs ys:=fun h=>by rcases h with h | h;(exact hnx h);(have:=h.1;omega)
    exact Yn (.inl J) hsc _ _ (fun a w hs=>Np hs results111 J J) (by rw [if_neg hp]) trivial J (Lh (if_neg hp) Zk)
   ·have hge:ys.length≤xs.length:=by rw [hdl]at h341;simpa using h341
    have hF:=hF0 hge
    refine Zj<|Oa<|Za<|Zc<|Zg<|tt (Zo (i:=3) J J zeroValue167 J J hw) fun b _=>Zf<|Za<|Zc<|Zg<|mv J<|tt (Zk1 (n:=4) (Zuh _ _) J J J K1 call157 (Zb 1 J J J Ze) J hw) fun v _=>as_ J<|Zf<|Za<|Zc<|Zg<|mv J<|dt (Yb J J (i:=1) J Zi Qp)<|mv J<|dt (Yb J J (i:=2) J Zi Qp)<|dt (Qa J J J ⟨by omega,by omega⟩)<|dt (Ys J J J ⟨by omega,by omega⟩)<|tt (Hr (i:=5) (n:=(xs.length-ys.length+1)) (by_:=24) (enc:=wv) 0 J J J J Qp ti31 J pV.cells pV.pos J J J hw) fun v_2 _=>as_ J<|Zf<|Za<|Zc<|Zc<|Zg<|mv J<|dt (Yb J J (i:=5) J (Yq pV) Qp)<|dt (Qa J J J ⟨by simp only [List.length_replicate];omega,by simp only [List.length_replicate];omega⟩)<|as_ J<|Zf<|Za<|Zl ?_
    refine Nt [(1,_),(8,_),(9,_),(10,_)] [(0,_),(1,_),(2,_),(3,_)] (fun(j:Nat)=>[(11,.int .i64 ((xs.length:Int)-(ys.length:Int)-(j:Int)))]) (fun(j:Nat)=>[(4,osl 2 31 wv v (Qi xs ys j)),(5,osl 2 31 wv v_2 (Zkb xs ys j))]) (fun(j:Nat)=>(j≤xs.length-ys.length+1)∧(∀k,xs.length-ys.length<k+j→k≤xs.length-ys.length→Mv xs ys k)) (fun(j:Nat)=>xs.length-ys.length+1-j) 0 ⟨by first | omega | (dsimp only<;>omega),fun k h1 h2=>by omega⟩ ⟨by simp only [List.length_replicate];exact congrArg some (Dr (by omega)),rfl,rfl,rfl,rfl,trivial⟩ ⟨J,by rw [Zka];rfl,rfl,rfl,rfl,rfl,trivial⟩ ?_
    rintro j ⟨hj,hx⟩
    simp only [CA,NA]
    have hol:=Df xs ys j
    refine Zc<|Zc<|Zg<|mv J<|dt (Lx J J J)<|Zf<|Za<|Zq J (fun h347=>?_) (fun h347=>?_)
    ·obtain⟨hb1,hb5⟩:=div_b hF (j:=j) (by omega) hx
     have hRl:=Ig xs ys j
     have hi1:xs.length-ys.length-j+ys.length-1<xs.length:=by omega
     refine Zj<|Za<|Zc<|Zl<|Dj [(1,_),(8,_),(9,_),(10,_),(11,_)] [(0,_),(4,_),(5,_),(1,_),(2,_),(3,_)] (fun(q:Nat×Nat)=>[(12,.pointer (some ⟨q.1,0,none⟩)),(13,.pointer (some ⟨q.2,0,none⟩)),(14,.int .i64 0)]) (fun(q:Nat×Nat)=>[(97,box q.1 31 (wc (Zgm (dq ys (Qi xs ys j) (xs.length-ys.length-j))))),(98,box q.2 31 (wc (Zgm (cf (Qi xs ys j) ((xs.length-ys.length-j)+ys.length-1)%cf ys (ys.length-1)))))]) (fun(q:Nat×Nat)=>True) K5 K6 ?_ ?_
     ·refine Oo [2,4] [23]<|Zy (n:=10) [(0,0),(1,0),(2,0),(3,0),(4,0),(5,0),(6,0),(7,0),(8,0),(9,0),(10,0),(11,0),(12,0),(13,0)]<|r0' J J (stf (Ym J J) K2)<|r0' J J (stf (Ym J J) K2)<|r0' J J (stf (Ym J J) K2)<|r0' J J (stf (Yb J J (i:=2) J Zi Qp) K2)<|r0' J J (stf (Ys J J J ⟨by omega,by omega⟩) K2)<|r0' J J (stf (Qa J J J ⟨by omega,by omega⟩) K2)<|r0' J J (stf (Yw (ii:=4) (i:=((xs.length-ys.length-j)+ys.length-1)) J J J J (Yq pV) Qp Yj) K2)<|r0' J J (stf (Xm (ii:=4) 0 J J J (Yq pV) pV) K2)<|r0' J J (stf (Ym J J) K2)<|r0' J J (stf (Ym J J) K2)<|r0' J J (stf (Yb J J (i:=2) J Zi Qp) K2)<|r0' J J (stf (Qa J J J ⟨by omega,by omega⟩) K2)<|r0' J J (stf (Yw (ii:=2) (i:=(ys.length-1)) J J J J Zi Qp Yj) K2)<|r0' J J (stf (Xm (ii:=2) 0 J J J Zi pV) K2)<|Yo<|Zbo (n:=9) 14 19 20 ?_ ?_ ?_
      ·refine Yp J (Zh (n:=5) (Cu _ _ (hb1 _) (hu.sz _) hyz) J J J K2 call158 Ze J hw) fun _ _=>Zy (n:=5) [(15,0),(16,0),(17,0),(18,0)]<|r0' J J (stf (Ym J J) K2)<|r0' J J (stf (Yf J J J) K2)<|r0' J J (stf (Yf J J J) K2)<|r0' J J (stf (Yf J J J) K2)<|Yo<|Pu (n:=4) 19 20 ?_ ?_
       ·exact Yp J (Zw (i:=97) J J zeroValue31 J J hw K2) fun b_2 ho=>Zy (n:=0) [(20,1),(21,1),(22,1),(23,3)]<|r1' J (Zw (i:=98) J J zeroValue31 J J hw K2) fun b_3 ho2=>r1' J (Zm (i:=97) J J J J J (by decide) J Yj J J ⟨Zd J,Zd J,trivial⟩ J hw ho) fun _ _=>r1' J (Zm (i:=98) J J J J J (by decide) J Yj J J ⟨Zd J,Zd J,trivial⟩ J hw ho2) fun _ _=>r3' J (Px (Lq J J) J) fun _ _=>Yo<|Yg<|Qy (_,_) trivial K8 K8
       ·exact Yp J (Zw (i:=98) J J zeroValue31 J J hw K2) fun b_4 ho3=>Zy (n:=0) [(19,1),(21,1),(22,1),(23,3)]<|r1' J (Zw (i:=97) J J zeroValue31 J J hw K2) fun b_5 ho4=>r1' J (Zm (i:=97) J J J J J (by decide) J Yj J J ⟨Zd J,Zd J,trivial⟩ J hw ho4) fun _ _=>r1' J (Zm (i:=98) J J J J J (by decide) J Yj J J ⟨Zd J,Zd J,trivial⟩ J hw ho3) fun _ _=>r3' J (Px (Lq J J) J) fun _ _=>Yo<|Yg<|Qy (_,_) trivial K8 K8
      ·refine Yp J (Zw (i:=97) J J zeroValue31 J J hw K2) fun b_6 ho5=>Pu (n:=8) 14 20 ?_ ?_
       ·exact Yp J (Zh (n:=5) (Cu _ _ (hb1 _) (hu.sz _) hyz) J J J K2 call158 Ze J hw) fun _ _=>Zy (n:=0) [(15,0),(16,0),(17,0),(18,0),(20,1),(21,1),(22,1),(23,3)]<|r0' J J (stf (Ym J J) K2)<|r0' J J (stf (Yf J J J) K2)<|r0' J J (stf (Yf J J J) K2)<|r0' J J (stf (Yf J J J) K2)<|r1' J (Zw (i:=98) J J zeroValue31 J J hw K2) fun b_7 ho6=>r1' J (Zm (i:=97) J J J J J (by decide) J Yj J J ⟨Zd J,Zd J,trivial⟩ J hw ho5) fun _ _=>r1' J (Zm (i:=98) J J J J J (by decide) J Yj J J ⟨Zd J,Zd J,trivial⟩ J hw ho6) fun _ _=>r3' J (Px (Lq J J) J) fun _ _=>Yo<|Yg<|Qy (_,_) trivial K8 K8
       ·exact Yp J (Zw (i:=98) J J zeroValue31 J J hw K2) fun b_8 ho7=>Zy (n:=0) [(14,1),(15,0),(16,0),(17,0),(18,0),(21,1),(22,1),(23,3)]<|r1' J (Zh (n:=5) (Cu _ _ (hb1 _) (hu.sz _) hyz) J J J K2 call158 Ze J hw) fun _ _=>r0' J J (stf (Ym J J) K2)<|r0' J J (stf (Yf J J J) K2)<|r0' J J (stf (Yf J J J) K2)<|r0' J J (stf (Yf J J J) K2)<|r1' J (Zm (i:=97) J J J J J (by decide) J Yj J J ⟨Zd J,Zd J,trivial⟩ J hw ho5) fun _ _=>r1' J (Zm (i:=98) J J J J J (by decide) J Yj J J ⟨Zd J,Zd J,trivial⟩ J hw ho7) fun _ _=>r3' J (Px (Lq J J) J) fun _ _=>Yo<|Yg<|Qy (_,_) trivial K8 K8
      ·refine Yp J (Zw (i:=98) J J zeroValue31 J J hw K2) fun b_9 ho8=>Pu (n:=8) 14 19 ?_ ?_
       ·exact Yp J (Zh (n:=5) (Cu _ _ (hb1 _) (hu.sz _) hyz) J J J K2 call158 Ze J hw) fun _ _=>Zy (n:=0) [(15,0),(16,0),(17,0),(18,0),(19,1),(21,1),(22,1),(23,3)]<|r0' J J (stf (Ym J J) K2)<|r0' J J (stf (Yf J J J) K2)<|r0' J J (stf (Yf J J J) K2)<|r0' J J (stf (Yf J J J) K2)<|r1' J (Zw (i:=97) J J zeroValue31 J J hw K2) fun b_10 ho9=>r1' J (Zm (i:=97) J J J J J (by decide) J Yj J J ⟨Zd J,Zd J,trivial⟩ J hw ho9) fun _ _=>r1' J (Zm (i:=98) J J J J J (by decide) J Yj J J ⟨Zd J,Zd J,trivial⟩ J hw ho8) fun _ _=>r3' J (Px (Lq J J) J) fun _ _=>Yo<|Yg<|Qy (_,_) trivial K8 K8
       ·exact Yp J (Zw (i:=97) J J zeroValue31 J J hw K2) fun b_11 ho10=>Zy (n:=0) [(14,1),(15,0),(16,0),(17,0),(18,0),(21,1),(22,1),(23,3)]<|r1' J (Zh (n:=5) (Cu _ _ (hb1 _) (hu.sz _) hyz) J J J K2 call158 Ze J hw) fun _ _=>r0' J J (stf (Ym J J) K2)<|r0' J J (stf (Yf J J J) K2)<|r0' J J (stf (Yf J J J) K2)<|r0' J J (stf (Yf J J J) K2)<|r1' J (Zm (i:=97) J J J J J (by decide) J Yj J J ⟨Zd J,Zd J,trivial⟩ J hw ho10) fun _ _=>r1' J (Zm (i:=98) J J J J J (by decide) J Yj J J ⟨Zd J,Zd J,trivial⟩ J hw ho8) fun _ _=>r3' J (Px (Lq J J) J) fun _ _=>Yo<|Yg<|Qy (_,_) trivial K8 K8
     ·rintro⟨b7,b8⟩ -
      simp only [CA,NA]
      refine Zc<|Zc<|Zg<|mv J<|dt (Qb J J J)<|Zf<|Za<|Zq J (fun h349=>?_) (fun h349=>?_)
      ·exfalso;exact h349 rfl
      ·refine Zj<|Za<|Zc<|Zc<|Zg<|dt (Zz (i:=98) J J J Qj Yj J J)<|tt (Zh (n:=5) (Mo _ (clip_bl _)) J J J K1 call104 Ze J hw) fun _ _=>dt (Qb J J J)<|Zf<|Za<|Zq J (fun h352=>?_) (fun h352=>?_)
       ·have hne:¬Mv xs ys (xs.length-ys.length-j):=fun he=>h352 (by rw [Zov hyz (hu.sz _),(Zdl (by omega)).1 he];rfl)
        refine Zc<|Zg<|as_ J<|as_ J<|Zf<|Za<|Zv<|Xc<|Hf<|Xc<|Xc<|Hf<|Xc ?_
        have hp:¬pdv xs ys:=fun h=>by rcases h with h | h;(exact hnx h);(exact hne (h.2.1 _ (by omega)))
        exact Yn (.inl J) hsc _ _ (fun a w hs=>Np hs results111 J J) (by rw [if_neg hp]) trivial J (Lh (if_neg hp) Zk)
       ·have hde:Mv xs ys (xs.length-ys.length-j):=(Zdl (by omega)).2 (by have h0:=Decidable.byContradiction h352;rw [Zov hyz (hu.sz _)]at h0;exact Int.sign_eq_zero_iff_zero.1 h0)
        obtain⟨hb2,hb3,hb4⟩:=hb5 hde
        refine Yl (Gp 97 (q:=box b7 31 (wc (dq ys (Qi xs ys j) (xs.length-ys.length-j)))) (by rw [Oz hb2]) J J)<|Zj<|Za<|Zc<|Zg<|mv J<|mv J<|dt (Zz (i:=97) J J J Qj Yj J J)<|dt (Yw (ii:=5) (i:=(xs.length-ys.length-j)) J J J J (Yq pV) Qp Yj)<|tt (Kz (i:=5) (enc:=wv) _ J J J J J J pV J hw) fun _ _=>Zf<|Za<|Zc<|Zg<|mv J<|dt (Yb J J (i:=2) J Zi Qp)<|mv J<|Zf<|Za<|Zl<|Nt [(1,_),(8,_),(9,_),(10,_),(11,_),(12,_),(78,_),(79,_)] [(0,_),(97,_),(98,_),(5,_),(1,_),(2,_),(3,_)] (fun(i:Nat)=>[(80,.int .i64 (i:Int))]) (fun(i:Nat)=>[(4,osl 2 31 wv v (Zva ys (Qi xs ys j) (dq ys (Qi xs ys j) (xs.length-ys.length-j)) (xs.length-ys.length-j) i))]) (fun(i:Nat)=>i≤ys.length) (fun(i:Nat)=>ys.length-i) 0 (by first | omega | (dsimp only<;>omega)) K9 ⟨by rw [←Ztv];rfl,rfl,rfl,rfl,rfl,rfl,rfl,rfl,trivial⟩ ?_
        rintro i hi
        simp only [CA,NA]
        have hg2:i<ys.length→(Zva ys (Qi xs ys j) (dq ys (Qi xs ys j) (xs.length-ys.length-j)) (xs.length-ys.length-j) i).getD ((xs.length-ys.length-j)+i) 0=cf (Qi xs ys j) ((xs.length-ys.length-j)+i):=fun h=>Zxw (by omega)
        have hl2:=Zlz ys (Qi xs ys j) (dq ys (Qi xs ys j) (xs.length-ys.length-j)) (xs.length-ys.length-j) i
        refine Zc<|Zg<|dt (Xu J J J)<|Zf<|Za<|Zc<|Zq J (fun h356=>?_) (fun h356=>?_)
        ·refine Zj<|Za<|Zc<|Zl<|Zc<|Zg<|mv J<|dt (Yw (ii:=2) J J J J Zi Qp Yj J (by first | omega | (simp only [List.length_set];omega)))<|dt (Xm (ii:=2) 0 J J J Zi pV (by first | omega | (simp only [List.length_set];omega)))<|tt (Zo (i:=6) J J zeroValue31 J J hw) fun b_12 _=>as_ J<|tt (Zm (i:=6) J J J J J (by decide) J Yj J J ⟨Zd J,Zd J,trivial⟩ J hw trivial) fun _ _=>Zf<|Za<|Ql (fun x=>x=b) [(0,0),(1,0),(2,0),(3,0),(4,0),(5,0),(6,0),(7,0),(8,0),(9,0),(10,0),(11,0),(12,1),(13,1),(14,0),(15,3)] ?_ ?_
         ·kernel_rfl
         refine r0' J J (st1 3 J (Ym J J))<|r0' J J (st1 3 J (Ym J J))<|r0' J J (st1 3 J (Ym J J))<|r0' J J (st1 3 J (Ys J J J ⟨by omega,by omega⟩))<|r0' J J (st1 3 J (Ym J J))<|r0' J J (st1 3 J (Ym J J))<|r0' J J (st1 3 J (Ym J J))<|r0' J J (st1 3 J (Ys J J J ⟨by omega,by omega⟩))<|r0' J J (st1 3 J (Yw (ii:=4) (i:=((xs.length-ys.length-j)+i)) J J J J (Yq pV) Qp Yj))<|r0' J J (st1 3 J (Xm (ii:=4) 0 J J J (Yq pV) pV))<|r0' J J (st1 3 J (Zz (i:=97) J J J Qj Yj J J))<|r0' J J (st1 3 J (Zz (i:=6) J J J Qj Yj J J))<|r1' J (Om (n:=6) (i:=3) (El _ _ _ hb2 (hu.sz _) (hb3 _)) J J J K3 call153 J (by decide) Ze J hw J) fun _ _=>r1' J (Om (n:=6) (i:=3) (Zt1 _ _ _ (by rw [hg2 (by omega)];exact hb1 _) (hb3 _) (by rw [hg2 (by omega)];exact hb4 _ _)) J J J K3 call137 J (by decide) Ze J hw J) fun _ _=>r0' J J (st1 3 J (Yw (ii:=4) (i:=((xs.length-ys.length-j)+i)) J J J J (Yq pV) Qp Yj))<|r3' J (Kz (i:=4) (enc:=wv) _ J J J J J J pV J hw) fun _ _=>Og<|Oa<|Za<|Zg<|dt (Ys J J J ⟨by omega,by omega⟩)<|mv J<|Zf ?_
         exact Xk (i+1) (by first | omega | (dsimp only<;>omega)) (by first | omega | (dsimp only<;>omega)) K9 ⟨by rw [←Zxv (by omega),←hg2 (by omega)];rfl,rfl,rfl,rfl,rfl,rfl,rfl,rfl,trivial⟩
        ·refine Yu<|Zu<|Zu<|Ox<|Oa<|Za<|Zg<|mv J<|dt (Qa J J J ⟨by omega,by omega⟩)<|as_ J<|Zf ?_
         obtain rfl:i=ys.length:=by omega
         exact Xk (j+1) ⟨by first | omega | (dsimp only<;>omega),fun k h1 h2=>by rcases Nat.lt_or_ge (xs.length-ys.length) (k+j)with h3 | h3;(exact hx k h3 h2);(rw [show k=xs.length-ys.length-j by omega];exact hde)⟩ (by first | omega | (dsimp only<;>omega)) ⟨by rw [show(xs.length:Int)-(ys.length:Int)-((j+1:Nat):Int)=(xs.length:Int)-(ys.length:Int)-(j:Int)-1 by omega];rfl,rfl,rfl,rfl,rfl,trivial⟩ ⟨by rfl,by rw [←Zok (by omega)];rfl,rfl,rfl,rfl,rfl,trivial⟩
    ·refine Yu<|Zu<|Zu<|Ox<|Za<|Zc<|Zc ?_
     obtain rfl:j=xs.length-ys.length+1:=by omega
     have hall:∀k,k≤xs.length-ys.length→Mv xs ys k:=fun k hk=>hx k (by omega) hk
     refine Yl (Qz 4 J J pV)<|Zg<|dt (Xx J J Zg1 J Zgr J J)<|dt (Xx J J Zkw J Gr J J)<|dt (Ok (i:=3) J J J Ax J)<|dt (Pm J J J)<|mv J<|Qu (d:=105) J (fun s360=>?_) (fun s360=>?_)
     ·refine gdt (Ym J J) J J<|gtt (Zh (n:=7) (Zas _ _ (Zvp hF hall)) J J J K1 call152 (Zb 4 J J J Ze) J hw) J J J fun _ _=>gdt (Yb J J (i:=7) J Zi Qp) J J<|gdt (Oq J J J) J J<|dt (Xh J J J)<|Zf<|Za<|Zq J (fun h360=>?_) (fun h360=>?_)
      ·refine Zc<|Zg<|as_ J<|as_ J<|Zf<|Za<|Zv<|Xc ?_
       have hp:¬pdv xs ys:=fun h=>by rcases h with h | h;(exact hnx h);(rw [h.2.2]at h360;simp at h360)
       exact Yn (.inl J) hsc _ _ (fun a w hs=>Np hs results111 J J) (by rw [if_neg hp]) trivial J (Lh (if_neg hp) Zk)
      ·refine Zj<|Za<|Zc<|Yl (Qz 5 J J pV)<|Zg<|mv J<|tt (Om (n:=8) (i:=3) (Zbf _ _ _ (Zqt hF hall _)) J J J K2 call154 J (by decide) (Zb 5 J J J Ze) J hw trivial) fun _ _=>dt (Yf J J J)<|dt (Yf J J J)<|as_ J<|as_ J<|Zf<|Za<|Zv ?_
       have hp:pdv xs ys:= .inr ⟨hge,hall,List.eq_nil_of_length_eq_zero (by omega)⟩
       exact Yn (.inl J) hsc _ _ (fun a w hs=>Np hs results111 J J) (by rw [if_pos hp]<;>rfl) trivial J (Yk 8 J J J (by rw [if_pos hp,Zhv hnx,←Zbb]<;>rfl) Zk)
     ·exfalso;exact s360 rfl
theorem Zjr(v:Value)(xs:List Int)(x y z:Int)(hv:Vp xs)(hx:bl x.natAbs≤65536)(hy:bl y.natAbs≤65536)(hz:bl z.natAbs≤65536)(hz0:0<z)(hE:¬Zor xs x y z):Cal prog 141 #[v,wv x,wv y,wv z] [slp 2 wv v xs] true (G:=Value) (fun r=>True) (fun r=> .tuple #[r,.int .i64 0]) (fun r=>[slp 2 wv r (Zer xs x y z)]):=by
 refine Ya func141 J ntmps141 J K1 ?_
 intro w0 sc hw hsc
 simp only [Zp,Zn]
 have hlen:=hv.len
 refine Zc<|Zg<|tt (Xe (i:=2) J J J J J hw) fun b _=>tt (Xe (i:=3) J J J J J hw) fun b_2 _=>tt (Xe (i:=4) J J J J J hw) fun b_3 _=>as_ J<|as_ J<|Zf<|Za<|Zc<|Zc<|Zg<|mv J<|tt (Zh (n:=4) (Xq _ _ ‹_›) J J J K1 Zdr (Zb 1 J J J Ze) J hw) fun _ _=>dt (Xp J J)<|mv J<|gdt (Zz (i:=2) J J J Qj Yj J J) J J<|gtt (Zh (n:=4) (Ly _ ‹_›) J J J K1 Zft Ze J hw) J J J fun _ _=>gdt (Xp J J) J J<|dt (Yh J J J)<|mv J<|gdt (Zz (i:=3) J J J Qj Yj J J) J J<|gtt (Zh (n:=4) (Ly _ ‹_›) J J J K1 Zft Ze J hw) J J J fun _ _=>gdt (Xp J J) J J<|dt (Yh J J J)<|mv J<|gdt (Zz (i:=4) J J J Qj Yj J J) J J<|gtt (Zh (n:=4) (Ly _ ‹_›) J J J K1 Zft Ze J hw) J J J fun _ _=>gdt (Xp J J) J J<|dt (Yh J J J)<|Zf<|Za<|Ye J<|Zj<|Za<|Zc<|Zc<|Zg<|dt (Zz (i:=4) J J J Qj Yj J J)<|tt (Zh (n:=4) (Mo _ hz) J J J K1 call104 Ze J hw) fun _ _=>dt (Co J J J)<|Zf<|Za<|Zq J (fun h232=>?_) (fun h232=>?_)
 ·exfalso;have h2:=decide_eq_decide.1 (Gw z);omega
 ·refine Zj<|Za<|Zc<|Zc<|Zg<|mv J<|dt (Yb J J (i:=1) J Zi Qp)<|dt (Pm J J J)<|Zf<|Za<|Zq J (fun h235=>?_) (fun h235=>?_)
  ·exact Zc<|Zg<|as_ J<|as_ J<|Zf<|Za<|Zv<|Xc<|Yn (.inl J) hsc _ _ (fun a w hs=>Np hs results141 J J) J trivial J (Lh (by unfold Zer;rw [if_pos (by omega)]) Zk)
  ·have hne:xs≠[]:=fun e=>by rw [e]at h235;simp at h235
   have hm1:=Ps hv.sz
   have hsxy:Sz 65536 [x,y,z]:=Sz.of_mem (by intro q hq;simp at hq;rcases hq with rfl | rfl | rfl<;>assumption)
   have hm2:=Ps hsxy
   have hm3:(xs.length-1)*(msz [x,y,z]+1)≤24*65537:=Nat.mul_le_mul (by omega) (by omega)
   have hm4:((xs.length:Int)-1)*((msz [x,y,z]:Int)+1)=(((xs.length-1)*(msz [x,y,z]+1):Nat):Int):=by rw [Int.natCast_mul];congr 1;omega
   refine Zj<|Za<|Zc<|Dj [(0,_),(5,_),(6,_),(7,_)] [(0,_),(1,_),(2,_),(3,_),(4,_)] (fun(_:Unit)=>[(55,.bool (decide ((65536:Int)<(msz xs:Int)+((xs.length:Int)-1)*((msz [x,y,z]:Int)+1)+8)))]) (fun(_:Unit)=>[]) (fun(_:Unit)=>True) K4 K5 ?_ ?_
   ·refine Hb (fun _=>False) []<|Zy (n:=8) [(0,0),(2,0),(3,0),(4,0),(5,0),(6,0),(7,0)]<|r0' J J (st0 (Ym J J))<|r0' J J (st0 (Ym J J))<|r0' J J (st0 (Yb J J (i:=1) J Zi Qp))<|r0' J J (st0 (Qa J J J ⟨by omega,by omega⟩))<|r0' J J (st0 (Zz (i:=2) J J J Qj Yj J J))<|r0' J J (st0 (Zz (i:=3) J J J Qj Yj J J))<|r0' J J (st0 (Zz (i:=4) J J J Qj Yj J J))<|Yo<|Pu (n:=7) 1 8 ?_ ?_
    ·exact Yp J (Zh (n:=4) (Nw _ _ (by first | exact hv.sz | exact hsxy)) J J J K1 Av (Zb 1 J J J Ze) J hw) fun _ _=>Zy (n:=0) [(8,1),(9,1),(10,0),(11,0),(12,0),(13,0),(14,0)]<|r1' J (Pn (i:=90) (ivs:=[(0,_),(1,_),(2,_)]) (enc:=wv) [x,y,z] J J K6 uT22 ti31 J J (fill3 _ _ _ _ _ _ _ _) J J pV.cells J J hw) fun v _=>r1' J (Zh (n:=4) (Nw _ _ (by first | exact hv.sz | exact hsxy)) J J J K1 Av (Xw 90 J J pV Ze) J hw) fun _ _=>r0' J J (st0 (Ys J J J ⟨by omega,by omega⟩))<|r0' J J (st0 (Gq J J J (by rw [hm4];exact⟨by omega,by omega⟩)))<|r0' J J (st0 (Ys J J J (by rw [hm4];exact⟨by omega,by omega⟩)))<|r0' J J (st0 (Ys J J J (by rw [hm4];exact⟨by omega,by omega⟩)))<|r0' J J (st0 (Oq J J J))<|Yo<|Yg<|Qy () trivial K5 K5
    ·exact Yp J (Pn (i:=90) (ivs:=[(0,_),(1,_),(2,_)]) (enc:=wv) [x,y,z] J J K6 uT22 ti31 J J (fill3 _ _ _ _ _ _ _ _) J J pV.cells J J hw) fun v_2 _=>Zy (n:=0) [(1,1),(9,1),(10,0),(11,0),(12,0),(13,0),(14,0)]<|r1' J (Zh (n:=4) (Nw _ _ (by first | exact hv.sz | exact hsxy)) J J J K1 Av (Zb 1 J J J Ze) J hw) fun _ _=>r1' J (Zh (n:=4) (Nw _ _ (by first | exact hv.sz | exact hsxy)) J J J K1 Av (Xw 90 J J pV Ze) J hw) fun _ _=>r0' J J (st0 (Ys J J J ⟨by omega,by omega⟩))<|r0' J J (st0 (Gq J J J (by rw [hm4];exact⟨by omega,by omega⟩)))<|r0' J J (st0 (Ys J J J (by rw [hm4];exact⟨by omega,by omega⟩)))<|r0' J J (st0 (Ys J J J (by rw [hm4];exact⟨by omega,by omega⟩)))<|r0' J J (st0 (Oq J J J))<|Yo<|Yg<|Qy () trivial K5 K5
   ·rintro _ -
    simp only [CA,NA]
    refine Zq J (fun h238=>?_) (fun h238=>?_)
    ·exfalso;exact hE ⟨hne,by rw [hm4]at h238;omega⟩
    ·have hF:msz xs+(xs.length-1)*(msz [x,y,z]+1)+8≤65536:=by rw [hm4]at h238;omega
     refine Zj<|Za<|Zc<|Zg<|tt (Zo (i:=5) J J zeroValue167 J J hw) fun b_4 _=>Zf<|Za<|Dj [(0,_),(5,_),(6,_),(7,_),(10,_)] [(0,_),(1,_),(2,_),(3,_),(4,_),(5,_)] (fun(q:Value×Nat)=>[(11,q.1),(12,.pointer (some ⟨q.2,0,none⟩))]) (fun(q:Value×Nat)=>[(70,osl 2 31 wv q.1 (Fd xs x y z 0)),(98,box q.2 31 (wc 1))]) (fun(q:Value×Nat)=>True) K5 K6 ?_ ?_
     ·refine Hb (fun _=>False) [9,10]<|Zy (n:=5) [(0,0),(1,0),(2,0),(3,0),(4,0),(5,0)]<|r0' J J (st0 (Ym J J))<|r0' J J (st0 (Ym J J))<|r0' J J (st0 (Yb J J (i:=1) J Zi Qp))<|r0' J J (st0 (Qa J J J ⟨by omega,by omega⟩))<|r0' J J (st0 (Yw (ii:=1) (i:=(xs.length-1)) J J J J Zi Qp Yj))<|r0' J J (st0 (Xm (ii:=1) 0 J J J Zi pV))<|Yo<|Zbo (n:=4) 6 7 8 ?_ ?_ ?_
      ·refine Yp J (Pn (i:=70) (ivs:=[(0,_)]) (enc:=wv) [cf xs (xs.length-1)] J J K2 Qp ti31 J J J J J pV.cells J J hw) fun v_3 _=>Pu (n:=3) 7 8 ?_ ?_
       ·exact Yp J (Zh (n:=5) (Xd _ (by first | assumption | exact⟨by omega,by omega⟩)) J J J K1 Bj Ze J hw) fun _ _=>Zy (n:=0) [(8,1),(9,3),(10,3)]<|r1' J (Zo (i:=98) J J zeroValue31 J J hw) fun b_5 _=>r3' J (Px (Lq J J) J) fun _ _=>r3' J (Zm (i:=98) J J J J J (by decide) J Yj J J ⟨Zd J,Zd J,trivial⟩ J hw trivial) fun _ _=>Yo<|Yg<|Qy (_,_) trivial K7 ⟨by rw [Eo];rfl,rfl,rfl,rfl,rfl,rfl,rfl,rfl,trivial⟩
       ·exact Yp J (Zo (i:=98) J J zeroValue31 J J hw) fun b_6 _=>Zy (n:=0) [(7,1),(9,3),(10,3)]<|r1' J (Zh (n:=5) (Xd _ (by first | assumption | exact⟨by omega,by omega⟩)) J J J K1 Bj Ze J hw) fun _ _=>r3' J (Px (Lq J J) J) fun _ _=>r3' J (Zm (i:=98) J J J J J (by decide) J Yj J J ⟨Zd J,Zd J,trivial⟩ J hw trivial) fun _ _=>Yo<|Yg<|Qy (_,_) trivial K7 ⟨by rw [Eo];rfl,rfl,rfl,rfl,rfl,rfl,rfl,rfl,trivial⟩
      ·refine Yp J (Zh (n:=5) (Xd _ (by first | assumption | exact⟨by omega,by omega⟩)) J J J K1 Bj Ze J hw) fun _ _=>Pu (n:=3) 6 8 ?_ ?_
       ·exact Yp J (Pn (i:=70) (ivs:=[(0,_)]) (enc:=wv) [cf xs (xs.length-1)] J J K2 Qp ti31 J J J J J pV.cells J J hw) fun v_4 _=>Zy (n:=0) [(8,1),(9,3),(10,3)]<|r1' J (Zo (i:=98) J J zeroValue31 J J hw) fun b_7 _=>r3' J (Px (Lq J J) J) fun _ _=>r3' J (Zm (i:=98) J J J J J (by decide) J Yj J J ⟨Zd J,Zd J,trivial⟩ J hw trivial) fun _ _=>Yo<|Yg<|Qy (_,_) trivial K7 ⟨by rw [Eo];rfl,rfl,rfl,rfl,rfl,rfl,rfl,rfl,trivial⟩
       ·exact Yp J (Zo (i:=98) J J zeroValue31 J J hw) fun b_8 _=>Zy (n:=0) [(6,1),(9,3),(10,3)]<|r1' J (Pn (i:=70) (ivs:=[(0,_)]) (enc:=wv) [cf xs (xs.length-1)] J J K2 Qp ti31 J J J J J pV.cells J J hw) fun v_5 _=>r3' J (Px (Lq J J) J) fun _ _=>r3' J (Zm (i:=98) J J J J J (by decide) J Yj J J ⟨Zd J,Zd J,trivial⟩ J hw trivial) fun _ _=>Yo<|Yg<|Qy (_,_) trivial K7 ⟨by rw [Eo];rfl,rfl,rfl,rfl,rfl,rfl,rfl,rfl,trivial⟩
      ·refine Yp J (Zo (i:=98) J J zeroValue31 J J hw) fun b_9 _=>Pu (n:=3) 6 7 ?_ ?_
       ·exact Yp J (Pn (i:=70) (ivs:=[(0,_)]) (enc:=wv) [cf xs (xs.length-1)] J J K2 Qp ti31 J J J J J pV.cells J J hw) fun v_6 _=>Zy (n:=0) [(7,1),(9,3),(10,3)]<|r1' J (Zh (n:=5) (Xd _ (by first | assumption | exact⟨by omega,by omega⟩)) J J J K1 Bj Ze J hw) fun _ _=>r3' J (Px (Lq J J) J) fun _ _=>r3' J (Zm (i:=98) J J J J J (by decide) J Yj J J ⟨Zd J,Zd J,trivial⟩ J hw trivial) fun _ _=>Yo<|Yg<|Qy (_,_) trivial K7 ⟨by rw [Eo];rfl,rfl,rfl,rfl,rfl,rfl,rfl,rfl,trivial⟩
       ·exact Yp J (Zh (n:=5) (Xd _ (by first | assumption | exact⟨by omega,by omega⟩)) J J J K1 Bj Ze J hw) fun _ _=>Zy (n:=0) [(6,1),(9,3),(10,3)]<|r1' J (Pn (i:=70) (ivs:=[(0,_)]) (enc:=wv) [cf xs (xs.length-1)] J J K2 Qp ti31 J J J J J pV.cells J J hw) fun v_7 _=>r3' J (Px (Lq J J) J) fun _ _=>r3' J (Zm (i:=98) J J J J J (by decide) J Yj J J ⟨Zd J,Zd J,trivial⟩ J hw trivial) fun _ _=>Yo<|Yg<|Qy (_,_) trivial K7 ⟨by rw [Eo];rfl,rfl,rfl,rfl,rfl,rfl,rfl,rfl,trivial⟩
     ·rintro⟨vo,b8⟩ -
      simp only [CA,NA]
      refine Zc<|Zc<|Zg<|mv J<|dt (Yb J J (i:=1) J Zi Qp)<|dt (Qa J J J ⟨by omega,by omega⟩)<|as_ J<|Zf<|Za<|Zl<|Nt [(0,_),(5,_),(6,_),(7,_),(10,_),(12,_)] [(0,_),(1,_),(2,_),(3,_),(4,_),(5,_)] (fun(q:Nat×Value)=>[(13,.int .i64 ((xs.length:Int)-2-(q.1:Int))),(11,q.2)]) (fun(q:Nat×Value)=>[(70,osl 2 31 wv q.2 (Fd xs x y z q.1)),(98,box b8 31 (wc (z^q.1)))]) (fun(q:Nat×Value)=>q.1≤xs.length-1) (fun(q:Nat×Value)=>xs.length-1-q.1) (0,vo) (by first | omega | (dsimp only<;>omega)) ⟨by rw [show(xs.length:Int)-2-((0:Nat):Int)=(xs.length:Int)-2 by omega];rfl,rfl,rfl,rfl,rfl,rfl,rfl,rfl,trivial⟩ ⟨J,by rw [Int.pow_zero];rfl,rfl,rfl,rfl,rfl,rfl,rfl,trivial⟩ ?_
      rintro⟨j,vo⟩ hj
      dsimp only at hj
      simp only [CA,NA]
      refine Zc<|Zc<|Zg<|mv J<|dt (Lx J J J)<|Zf<|Za<|Zq J (fun h243=>?_) (fun h243=>?_)
      ·obtain⟨c1,c2,c3,c4,c5,c6,c7,c8,c9⟩:=cp_all hF (j:=j) (by omega)
       have hcl:=Ao xs x y z j
       refine Zj<|Za<|Zc<|Zl<|Zc<|Zg<|dt (Zz (i:=98) J J J Qj Yj J J)<|dt (Zz (i:=4) J J J Qj Yj J J)<|tt (Om (n:=5) (i:=5) (El _ _ _ c1 hz (by rw [←Int.pow_succ];exact c2)) J J J K3 call153 J (by decide) Ze J hw trivial) fun _ _=>tt (Zm (i:=98) J J J J J (by decide) J Yj J J ⟨Zd J,Zd J,trivial⟩ J hw trivial) fun _ _=>Zf<|Za<|Zc<|Zg<|mv J<|dt (Yb J J (i:=70) J (Yq pV) Qp)<|dt (Ys J J J ⟨by omega,by omega⟩)<|tt (Hr (i:=71) (n:=((Fd xs x y z j).length+1)) (by_:=24) (enc:=wv) 0 J J J J Qp ti31 J pV.cells pV.pos J J J hw) fun v_8 _=>as_ J<|Zf<|Za<|Zc<|Zc<|Zg<|mv J<|dt (Yb J J (i:=70) J (Yq pV) Qp)<|mv J<|Zf<|Za<|Zl<|Nt [(0,_),(5,_),(6,_),(7,_),(10,_),(12,_),(13,_),(14,_),(78,_),(79,_)] [(0,_),(70,_),(98,_),(1,_),(2,_),(3,_),(4,_),(5,_)] (fun(i:Nat)=>[(80,.int .i64 (i:Int))]) (fun(i:Nat)=>[(71,osl 2 31 wv v_8 (cnx (Fd xs x y z j) x y i))]) (fun(i:Nat)=>i≤(Fd xs x y z j).length) (fun(i:Nat)=>(Fd xs x y z j).length-i) 0 (by first | omega | (dsimp only<;>omega)) K11 ⟨by rw [Zx6];rfl,rfl,rfl,rfl,rfl,rfl,rfl,rfl,rfl,trivial⟩ ?_
       rintro i hi
       simp only [CA,NA]
       have hg1:i<(Fd xs x y z j).length→(cnx (Fd xs x y z j) x y i).getD i 0=if i=0 then 0 else cf (Fd xs x y z j) (i-1)*y:=fun h=>Zuc h
       have hl1:=Kv (Fd xs x y z j) x y i
       refine Zc<|Zg<|dt (Xu J J J)<|Zf<|Za<|Zc<|Zq J (fun h247=>?_) (fun h247=>?_)
       ·refine Zj<|Za<|Zc<|Zl<|Zc<|Zg<|mv J<|dt (Yw (ii:=70) J J J J (Yq pV) Qp Yj J (by first | omega | (simp only [List.length_set];omega)))<|dt (Xm (ii:=70) 0 J J J (Yq pV) pV (by first | omega | (simp only [List.length_set];omega)))<|tt (Zo (i:=6) J J zeroValue31 J J hw) fun b_10 _=>as_ J<|tt (Zm (i:=6) J J J J J (by decide) J Yj J J ⟨Zd J,Zd J,trivial⟩ J hw trivial) fun _ _=>Zf<|Za<|Zc<|Ql (fun x=>x=b_4) [(0,0),(1,0),(2,0),(3,0),(4,0),(5,0),(6,0),(7,0),(8,1),(9,1),(10,0),(11,3)] ?_ ?_
        ·kernel_rfl
        refine r0' J J (st1 5 J (Ym J J))<|r0' J J (st1 5 J (Ym J J))<|r0' J J (st1 5 J (Ym J J))<|r0' J J (st1 5 J (Ym J J))<|r0' J J (st1 5 J (Yw (ii:=71) (i:=i) J J J J (Yq pV) Qp Yj J))<|r0' J J (st1 5 J (Xm (ii:=71) 0 J J J (Yq pV) pV))<|r0' J J (st1 5 J (Zz (i:=6) J J J Qj Yj J J))<|r0' J J (st1 5 J (Zz (i:=2) J J J Qj Yj J J))<|r1' J (Om (n:=6) (i:=5) (El _ _ _ (c3 _) hx (c4 _)) J J J K3 call153 J (by decide) Ze J hw J) fun _ _=>r1' J (Om (n:=6) (i:=5) (Zol _ _ _ (by rw [hg1 (by omega)];exact c6 i) (c4 _) (by rw [hg1 (by omega)];exact c7 i)) J J J K3 call159 J (by decide) Ze J hw J) fun _ _=>r0' J J (st1 5 J (Yw (ii:=71) (i:=i) J J J J (Yq pV) Qp Yj J))<|r3' J (Kz (i:=71) (enc:=wv) _ J J J J J J pV J hw) fun _ _=>Og<|Za<|Zg<|mv J<|mv J<|dt (Ys J J J ⟨by omega,by omega⟩)<|dt (Zz (i:=6) J J J Qj Yj J J)<|dt (Zz (i:=3) J J J Qj Yj J J)<|tt (Om (n:=6) (i:=5) (El _ _ _ (c3 _) hy (c5 _)) J J J K3 call153 J (by decide) Ze J hw trivial) fun _ _=>dt (Yw (ii:=71) (i:=(i+1)) J J J J (Yq pV) Qp Yj (by omega) (by rw [List.length_set];omega)) ?_
        exact tt (Kz (i:=71) (enc:=wv) _ J J J J J J pV J hw (by decide) (by rw [List.length_set];omega)) fun _ _=>Zf<|Oa<|Za<|Zg<|dt (Ys J J J ⟨by omega,by omega⟩)<|mv J<|Zf<|Xk (i+1) (by first | omega | (dsimp only<;>omega)) (by first | omega | (dsimp only<;>omega)) K11 ⟨by rw [←cnx_set (by omega)];rfl,rfl,rfl,rfl,rfl,rfl,rfl,rfl,rfl,trivial⟩
       ·refine Yu<|Zu<|Zu<|Ox<|Za<|Zc ?_
        obtain rfl:i=(Fd xs x y z j).length:=by omega
        have hg0:(cnx (Fd xs x y z j) x y (Fd xs x y z j).length).getD 0 0=cf (Fd xs x y z j) 0*x:=Zos (by omega)
        refine Ql (fun x=>x=b_4) [(0,0),(1,0),(2,0),(3,0),(4,0),(5,0),(6,0),(7,0),(8,0),(9,1),(10,1),(11,0),(12,3)] ?_ ?_
        ·kernel_rfl
        refine r0' J J (st1 5 J (Ym J J))<|r0' J J (st1 5 J (Ym J J))<|r0' J J (st1 5 J (Yw (ii:=71) (i:=0) J J J J (Yq pV) Qp Yj J))<|r0' J J (st1 5 J (Xm (ii:=71) 0 J J J (Yq pV) pV))<|r0' J J (st1 5 J (Ym J J))<|r0' J J (st1 5 J (Ym J J))<|r0' J J (st1 5 J (Yw (ii:=1) (i:=(xs.length-2-j)) J J J J Zi Qp Yj))<|r0' J J (st1 5 J (Xm (ii:=1) 0 J J J Zi pV))<|r0' J J (st1 5 J (Zz (i:=98) J J J Qj Yj J J))<|r1' J (Om (n:=6) (i:=5) (El _ _ _ (hv.sz _) (by rw [←Int.pow_succ];exact c2) (by rw [←Int.pow_succ];exact c8)) J J J K3 call153 J (by decide) Ze J hw J) fun _ _=>r1' J (Om (n:=6) (i:=5) (Zol _ _ _ (by rw [hg0];exact c4 0) (by rw [←Int.pow_succ];exact c8) (by rw [hg0,←Int.pow_succ];exact c9)) J J J K3 call159 J (by decide) Ze J hw J) fun _ _=>r0' J J (st1 5 J (Yw (ii:=71) (i:=0) J J J J (Yq pV) Qp Yj J))<|r3' J (Kz (i:=71) (enc:=wv) _ J J J J J J pV J hw) fun _ _=>Og<|Za<|Zg<|mv J<|as_ J<|Zf<|Oa<|Za<|Zg<|mv J<|dt (Qa J J J ⟨by omega,by omega⟩)<|as_ J<|Zf<|Qv (s_move 71 70 J J J J) ?_
        exact Xk (j+1,_) (by first | omega | (dsimp only<;>omega)) (by first | omega | (dsimp only<;>omega)) ⟨by rw [show(xs.length:Int)-2-((j+1:Nat):Int)=(xs.length:Int)-2-(j:Int)-1 by omega];rfl,rfl,rfl,rfl,rfl,rfl,rfl,rfl,trivial⟩ ⟨by rw [cnx_fin (by omega)];simp only [←Int.pow_succ];rfl,by rw [Int.pow_succ];rfl,rfl,rfl,rfl,rfl,rfl,rfl,trivial⟩
      ·refine Yu<|Zu<|Zu<|Ox<|Za<|Zc ?_
       obtain rfl:j=xs.length-1:=by omega
       exact Yl (Qz 70 J J pV)<|Zg<|mv J<|tt (Om (n:=7) (i:=5) (Zbf _ _ _ (cp_last hF)) J J J K2 call154 J (by decide) (Zb 70 J J J Ze) J hw trivial) fun _ _=>dt (Yf J J J)<|dt (Yf J J J)<|as_ J<|as_ J<|Zf<|Za<|Zv<|Yn (.inl J) hsc _ _ (fun a w hs=>Np hs results141 J J) J trivial J (Yk 7 J J J (by unfold Zer;rw [if_neg (by omega)]<;>rfl) Zk)
theorem Znr(v u:Value)(xs ys:List Int)(hv:Vp xs)(hu:Vp ys)(F:Nat)(hg:¬Zpz xs ys)(hok:eok F (gA xs ys) (gB xs ys)):Cal prog 110 #[v,u] [slp 2 wv v xs,slp 2 wv u ys] true (G:=Value) (fun r=>True) (fun r=> .tuple #[r,.int .i64 0]) (fun r=>[slp 2 wv r (Ku F xs ys)]):=by
 refine Ya func110 J ntmps110 J K2 ?_
 intro w0 sc hw hsc
 simp only [Zp,Zn]
 have hlen:=hv.len
 have hlen2:=hu.len
 have hm1:=Ps hv.sz
 have hm2:=Ps hu.sz
 have hpx:=Yi xs
 have hpy:=Yi ys
 have hN2:(max xs.length ys.length+2)*(max xs.length ys.length+2)≤27*27:=Nat.mul_le_mul (by omega) (by omega)
 have hN3:(max xs.length ys.length+2)*(max xs.length ys.length+2)*(max (msz xs) (msz ys)+8)≤27*27*65544:=Nat.mul_le_mul hN2 (by omega)
 have hN4:(max (xs.length:Int) (ys.length:Int)+2)*(max (xs.length:Int) (ys.length:Int)+2)=(((max xs.length ys.length+2)*(max xs.length ys.length+2):Nat):Int):=by rw [Int.natCast_mul,show(((max xs.length ys.length+2):Nat):Int)=(max (xs.length:Int) (ys.length:Int)+2) by omega]
 have hN5:(max (xs.length:Int) (ys.length:Int)+2)*(max (xs.length:Int) (ys.length:Int)+2)*(max (msz xs:Int) (msz ys:Int)+8)=(((max xs.length ys.length+2)*(max xs.length ys.length+2)*(max (msz xs) (msz ys)+8):Nat):Int):=by rw [hN4,Int.natCast_mul ((max xs.length ys.length+2)*(max xs.length ys.length+2)),show((max (msz xs) (msz ys)+8:Nat):Int)=max (msz xs:Int) (msz ys:Int)+8 by omega]
 refine Zc<|Zg<|as_ J<|as_ J<|Zf<|Za<|Zc<|Zc<|Zg<|mv J<|tt (Zh (n:=2) (Xq _ _ ‹_›) J J J K1 Zdr (Zb 1 J J J Ze) J hw) fun _ _=>dt (Xp J J)<|mv J<|gdt (Ym J J) J J<|gtt (Zh (n:=2) (Xq _ _ ‹_›) J J J K1 Zdr (Zb 2 J J J Ze) J hw) J J J fun _ _=>gdt (Xp J J) J J<|dt (Yh J J J)<|Zf<|Za<|Ye J<|Zj<|Za<|Zc<|Zc<|Zg<|mv J<|dt (Yb J J (i:=1) J Zi Qp)<|mv J<|dt (Yb J J (i:=2) J Zi Qp)<|dt (Zt6 J J J)<|dt (Ys J J J ⟨by omega,by omega⟩)<|as_ J<|Zf<|Za<|Dj [(0,_),(1,_)] [(0,_),(1,_),(2,_)] (fun(_:Unit)=>[(46,.bool (decide (Zpz xs ys)))]) (fun(_:Unit)=>[]) (fun(_:Unit)=>True) K2 K3 ?_ ?_
 ·refine Zg<|mv J<|dt (Yb J J (i:=1) J Zi Qp)<|dt (Oq J J J)<|mv J<|Qu (d:=29) J (fun s371=>?_) (fun s371=>?_)
  ·refine gdt (Ym J J) J J<|gdt (Yb J J (i:=2) J Zi Qp) J J<|gdt (Oq J J J) J J<|dt (Xh J J J)<|mv J<|Qu (d:=34) J (fun s371_2=>?_) (fun s371_2=>?_)
   ·exact gdt (Ym J J) J J<|gdt (Ym J J) J J<|gdt (Gq J J J (by rw [hN4];exact⟨by omega,by omega⟩)) J J<|gdt (Ym J J) J J<|gtt (Zh (n:=2) (Nw _ _ (by first | exact hv.sz | exact hu.sz)) J J J K1 Av (Zb 1 J J J Ze) J hw) J J J fun _ _=>gdt (Ym J J) J J<|gtt (Zh (n:=2) (Nw _ _ (by first | exact hv.sz | exact hu.sz)) J J J K1 Av (Zb 2 J J J Ze) J hw) J J J fun _ _=>gdt (Zt6 J J J) J J<|gdt (Ys J J J ⟨by omega,by omega⟩) J J<|gdt (Gq J J J (by rw [hN5];exact⟨by omega,by omega⟩)) J J<|gdt (Oq J J J) J J<|dt (Xh J J J)<|Zf<|Qy () trivial ⟨by first | (rw [hN5];exact congrArg some (congrArg Value.bool (decide_eq_decide.2 ⟨fun h=>⟨by omega,by omega,by omega⟩,fun h=>by have:=h.2.2;omega⟩))) | exact congrArg some (congrArg Value.bool (decide_eq_false (fun h=>by have h1:=h.1;have h2:=h.2.1;omega)).symm),rfl,rfl,trivial⟩ K3
   ·exact gsk J J J<|gsk J J J<|gsk J J J<|gsk J J J<|gsk J J J<|gsk J J J<|gsk J J J<|gsk J J J<|gsk J J J<|gsk J J J<|gsk J J J<|dt (Yh J J J)<|Zf<|Qy () trivial ⟨by first | (rw [hN5];exact congrArg some (congrArg Value.bool (decide_eq_decide.2 ⟨fun h=>⟨by omega,by omega,by omega⟩,fun h=>by have:=h.2.2;omega⟩))) | exact congrArg some (congrArg Value.bool (decide_eq_false (fun h=>by have h1:=h.1;have h2:=h.2.1;omega)).symm),rfl,rfl,trivial⟩ K3
  ·exact gsk J J J<|gsk J J J<|gsk J J J<|dt (Yh J J J)<|mv J<|gsk J J J<|gsk J J J<|gsk J J J<|gsk J J J<|gsk J J J<|gsk J J J<|gsk J J J<|gsk J J J<|gsk J J J<|gsk J J J<|gsk J J J<|dt (Yh J J J)<|Zf<|Qy () trivial ⟨by first | (rw [hN5];exact congrArg some (congrArg Value.bool (decide_eq_decide.2 ⟨fun h=>⟨by omega,by omega,by omega⟩,fun h=>by have:=h.2.2;omega⟩))) | exact congrArg some (congrArg Value.bool (decide_eq_false (fun h=>by have h1:=h.1;have h2:=h.2.1;omega)).symm),rfl,rfl,trivial⟩ K3
 ·rintro _ -
  simp only [CA,NA]
  refine Zq J (fun h371=>?_) (fun h371=>?_)
  ·exfalso;exact hg h371
  ·refine Zj<|Za<|Zc<|Zg<|mv J<|tt (Zh (n:=3) (Mi _ _ hv) J J J K1 call150 (Zb 1 J J J Ze) J hw) fun _ _=>mv J<|dt (Yf J J J)<|dt (Yf J J J)<|as_ J<|as_ J<|Zf<|Za<|Zc<|Zc<|Zg<|mv J<|dt (Qb J J J)<|Zf<|Za<|Zq J (fun h375=>?_) (fun h375=>?_)
   ·exfalso;exact h375 rfl
   ·refine Zj<|Za<|Zc<|Zg<|mv J<|tt (Zh (n:=4) (Mi _ _ hu) J J J K1 call150 (Zb 2 J J J Ze) J hw) fun _ _=>mv J<|dt (Yf J J J)<|dt (Yf J J J)<|as_ J<|as_ J<|Zf<|Za<|Zc<|Zc<|Zg<|mv J<|dt (Qb J J J)<|Zf<|Za<|Zq J (fun h379=>?_) (fun h379=>?_)
    ·exfalso;exact h379 rfl
    ·refine Zj<|Za<|Dj [] [(0,_),(1,_),(2,_),(3,_),(4,_)] (fun(q:Value×Value)=>[(7,q.1),(9,q.2)]) (fun(q:Value×Value)=>[(80,slp 2 wv q.1 (gA xs ys)),(81,slp 2 wv q.2 (gB xs ys))]) (fun(q:Value×Value)=>True) trivial K5 ?_ ?_
     ·refine Zc<|Zg<|mv J<|dt (Yb J J (i:=3) J Zi Qp)<|mv J<|dt (Yb J J (i:=4) J Zi Qp)<|dt (Xu J J J)<|Zf<|Za<|Zq J (fun h382=>?_) (fun h382=>?_)
      ·exact Zg<|mv J<|mv J<|as_ J<|as_ J<|Zf<|Qv (Oc 4 80 J J J)<|Qv (Oc 3 81 J J J)<|Qy (_,_) trivial K2 ⟨by unfold gA;first | rw [if_pos (by omega)];rfl | rw [if_neg (by omega)];rfl,by unfold gB;first | rw [if_pos (by omega)];rfl | rw [if_neg (by omega)];rfl,rfl,rfl,rfl,rfl,rfl,trivial⟩
      ·exact Zj<|Qv (Oc 3 80 J J J)<|Qv (Oc 4 81 J J J)<|Qy (_,_) trivial K2 ⟨by unfold gA;first | rw [if_pos (by omega)];rfl | rw [if_neg (by omega)];rfl,by unfold gB;first | rw [if_pos (by omega)];rfl | rw [if_neg (by omega)];rfl,rfl,rfl,rfl,rfl,rfl,trivial⟩
     ·rintro⟨va,vb⟩ -
      simp only [CA,NA]
      refine Zc<|Zl<|Nt [] [(0,_),(1,_),(2,_),(3,_),(4,_)] (fun(q:Value×Value×List Int×List Int×Nat)=>[(7,q.1),(9,q.2.1)]) (fun(q:Value×Value×List Int×List Int×Nat)=>[(80,slp 2 wv q.1 q.2.2.1),(81,slp 2 wv q.2.1 q.2.2.2.1)]) (fun(q:Value×Value×List Int×List Int×Nat)=>(Vp q.2.2.1)∧(Vp q.2.2.2.1)∧(eok q.2.2.2.2 q.2.2.1 q.2.2.2.1)∧(eu q.2.2.2.2 q.2.2.1 q.2.2.2.1=eu F (gA xs ys) (gB xs ys))) (fun(q:Value×Value×List Int×List Int×Nat)=>q.2.2.2.2) (va,vb,gA xs ys,gB xs ys,F) ⟨vp_gA hv hu,vp_gB hv hu,hok,J⟩ K2 K7 ?_
      rintro⟨va,vb,a,b,f⟩ ⟨hva,hvb,hok0,heu⟩
      dsimp only at hva hvb hok0 heu
      simp only [CA,NA]
      refine Zc<|Zc<|Zg<|mv J<|dt (Yb J J (i:=81) J Zi Qp)<|dt (Oq J J J)<|Zf<|Za<|Zq J (fun h385=>?_) (fun h385=>?_)
      ·have hbn:b≠[]:=fun e=>by rw [e]at h385;simp at h385
       obtain⟨f1,rfl,hde,hok1,heu1⟩:=Zoh hok0 hbn
       refine Zj<|Za<|Zl<|Zc<|Zg<|mv J<|mv J<|tt (Zh (n:=5) (Zjp _ _ _ _ hva hvb hde) J J J K2 call155 (Zb 80 J J J (Zb 81 J J J Ze)) J hw) fun _ _=>mv J<|dt (Yf J J J)<|dt (Yf J J J)<|as_ J<|as_ J<|Zf<|Za<|Zc<|Zc<|Zg<|mv J<|dt (Qb J J J)<|Zf<|Za<|Zq J (fun h387=>?_) (fun h387=>?_)
       ·exfalso;exact h387 rfl
       ·refine Zj<|Za<|Zc<|Zc<|Zg<|mv J<|tt (Zh (n:=6) (Mi _ _ (Cv hva hde)) J J J K1 call150 (Zb 5 J J J Ze) J hw) fun _ _=>mv J<|dt (Yf J J J)<|dt (Yf J J J)<|as_ J<|as_ J<|Zf<|Za<|Zc<|Zg<|mv J<|dt (Qb J J J)<|Zf<|Za<|Zq J (fun h390=>?_) (fun h390=>?_)
        ·exfalso;exact h390 rfl
        ·exact Zj<|Za<|Zg<|mv J<|mv J<|as_ J<|as_ J<|Zf<|Oa<|Qv (Oc 81 80 J J J)<|Qv (Oc 6 81 J J J)<|Xk (_,_,b,Yx (Pk a b),f1) ⟨hvb,Lo (Cv hva hde),hok1,by rw [←heu1];exact heu⟩ (Nat.lt_succ_self f1) K2 K7
      ·obtain rfl:b=[]:=List.eq_nil_of_length_eq_zero (by omega)
       rw [Ek]at heu
       have hal:=hva.len
       refine Yu<|Zu<|Zu<|Ox<|Za<|Zc<|Zc<|Zg<|mv J<|dt (Yb J J (i:=80) J Zi Qp)<|dt (Oq J J J)<|mv J<|Qu (d:=95) J (fun s395=>?_) (fun s395=>?_)
       ·refine gdt (Ym J J) J J<|gdt (Ym J J) J J<|gdt (Yb J J (i:=80) J Zi Qp) J J<|gdt (Qa J J J ⟨by omega,by omega⟩) J J<|gdt (Yw (ii:=80) (i:=(a.length-1)) J J J J Zi Qp Yj) J J<|gdt (Xm (ii:=80) 0 J J J Zi pV) J J<|gtt (Zh (n:=6) (Mo _ (hva.sz _)) J J J K1 call104 Ze J hw) J J J fun _ _=>gdt (Xu J J J) J J<|dt (Xh J J J)<|Zf<|Za<|Zq J (fun h395=>?_) (fun h395=>?_)
        ·have hneg:a.length≠0∧cf a (a.length-1)<0:=⟨by omega,(Qk _).1 h395⟩
         exact Zc<|Zg<|mv J<|tt (Zh (n:=6) (Xd (-1) (by first | assumption | exact⟨by omega,by omega⟩)) J J J K1 Bj Ze J hw) fun _ _=>tt (Zh (n:=7) (Ec _ _ (-1) hva (by decide) (Aw hva.sz)) J J J K2 call151 (Zb 80 J J J Ze) J hw) fun _ _=>dt (Yf J J J)<|dt (Yf J J J)<|as_ J<|as_ J<|Zf<|Za<|Zv<|Xc<|Yn (.inl J) hsc _ _ (fun a w hs=>Np hs results110 J J) J trivial J (Yk 7 J J J (by unfold Ku Ki;rw [←heu,if_pos hneg]<;>rfl) Zk)
        ·refine Zj<|Za<|Zc<|Zg<|mv J<|as_ J<|as_ J<|Zf<|Za<|Zv ?_
         have hneg:¬(a.length≠0∧cf a (a.length-1)<0):=fun h=>by first | omega | exact absurd ((Qk (cf a (a.length-1))).2 h.2) ‹_›
         exact Yn (.inl J) hsc _ _ (fun a w hs=>Np hs results110 J J) J trivial J (Yk 80 J J J (by unfold Ku Ki;rw [←heu,if_neg hneg]<;>rfl) Zk)
       ·refine gsk J J J<|gsk J J J<|gsk J J J<|gsk J J J<|gsk J J J<|gsk J J J<|gsk J J J<|gsk J J J<|dt (Yh J J J)<|Zf<|Za<|Ye J<|Zj<|Za<|Zc<|Zg<|mv J<|as_ J<|as_ J<|Zf<|Za<|Zv ?_
        have hneg:¬(a.length≠0∧cf a (a.length-1)<0):=fun h=>by first | omega | exact absurd ((Qk (cf a (a.length-1))).2 h.2) ‹_›
        exact Yn (.inl J) hsc _ _ (fun a w hs=>Np hs results110 J J) J trivial J (Yk 80 J J J (by unfold Ku Ki;rw [←heu,if_neg hneg]<;>rfl) Zk)
theorem poly_of(v:Value)(l:List Int)(hl:∀x∈l,inI x)(hlen:l.length≤1000):Cal prog 108 #[v] [slp 1 Ay v l] true (G:=Value) (fun r=>True) (fun r=> .tuple #[r,.int .i64 (if 25<(tzl l).length then 7 else 0)]) (fun r=>[slp 2 wv r (if 25<(tzl l).length then []else tzl l)]):=by
 refine Ya func108 J ntmps108 J K1 ?_
 intro w0 sc hw hsc
 simp only [Zp,Zn]
 have hsz:=Zd5 hl
 refine Zc<|Zg<|as_ J<|as_ J<|Zf<|Za<|Zc<|Zg<|as_ J<|Zf<|Za<|Zc<|Zc<|Zg<|mv J<|dt (Yb J J (i:=1) J Zi Ny)<|mv J<|Zf<|Za<|Zl<|Yl (Nj 70 2 31 wv)<|Nt [(7,_),(8,_)] [(0,_),(1,_)] (fun(q:Nat×Value)=>[(9,.int .i64 (q.1:Int)),(4,q.2)]) (fun(q:Nat×Value)=>[(70,osl 2 31 wv q.2 (l.take q.1))]) (fun(q:Nat×Value)=>q.1≤l.length) (fun(q:Nat×Value)=>l.length-q.1) (0,.slice none 0 0) (by first | omega | (dsimp only<;>omega)) K4 K3 ?_
 rintro⟨k,vo⟩ hk
 dsimp only at hk
 simp only [CA,NA]
 have hlk:(l.take k).length=k:=by rw [List.length_take];omega
 refine Zc<|Zg<|dt (Xu J J J)<|Zf<|Za<|Zc<|Zq J (fun h62=>?_) (fun h62=>?_)
 ·exact Zj<|Za<|Zc<|Zl<|Zc<|Zg<|dt (Yw (ii:=1) J J J J Zi Ny zT3 J (by first | omega | (simp only [List.length_set];omega)))<|dt (Xm (ii:=1) 0 J J J Zi pZ (by first | omega | (simp only [List.length_set];omega)))<|as_ J<|Zf<|Za<|Zg<|mv J<|mv J<|tt (Zh (n:=1) (Xd _ (hl _ (Yv))) J J J K1 Bj Ze J hw) fun _ _=>tt (Pn (i:=2) (ivs:=[(0,_)]) (enc:=wv) [l.getD k 0] J J K2 Qp ti31 J J J J J pV.cells J J hw) fun v _=>tt (Im (i:=70) (j:=2) (by_:=24) J J J J J J (by decide) J (Yq pV) Qp ti31 J pV J J J (by simp;omega) (by decide) J hw) fun v_2 _=>as_ J<|Zf<|Oa<|Za<|Zg<|dt (Ys J J J ⟨by omega,by omega⟩)<|mv J<|Zf<|Xk (k+1,_) (by first | omega | (dsimp only<;>omega)) (by first | omega | (dsimp only<;>omega)) K4 ⟨by rw [Of 0 _ _ (by omega)];rfl,rfl,rfl,trivial⟩
 ·refine Yu<|Zu<|Zu<|Ox<|Za<|Zc ?_
  obtain rfl:k=l.length:=by omega
  rw [List.take_length]
  refine Yl (Qz 70 J J pV)<|Zg<|mv J<|tt (Zh (n:=3) (Zas _ _ hsz) J J J K1 call152 (Zb 70 J J J Ze) J hw) fun _ _=>as_ J<|Zf<|Za<|Zc<|Zc<|Zg<|mv J<|dt (Yb J J (i:=3) J Zi Qp)<|dt (Oq J J J)<|Zf<|Za<|Zq J (fun h66=>?_) (fun h66=>?_)
  ·refine Zc<|Zg<|as_ J<|as_ J<|Zf<|Za<|Zv<|Xc ?_
   have h25:25<(tzl l).length:=by omega
   exact Yn (.inl J) hsc _ _ (fun a w hs=>Np hs results108 J J) (by rw [if_pos h25]) trivial J (Lh (if_pos h25) Zk)
  ·refine Zj<|Za<|Zc<|Zg<|mv J<|as_ J<|as_ J<|Zf<|Za<|Zv ?_
   have h25:¬25<(tzl l).length:=by omega
   exact Yn (.inl J) hsc _ _ (fun a w hs=>Np hs results108 J J) (by rw [if_neg h25]<;>rfl) trivial J (Yk 3 J J J (by rw [if_neg h25]<;>rfl) Zk)
end Go.Sky

