/- rules, arithmetic and contracts: part 12
   Proved without conditions of its own: each theorem bears its own. -/
import Derived.Test.YtcmiiammekgooaaGreatSd03
import Derived.Test.YtcmiiammekgooaaGreatSd02
import Derived.Test.YtcmiiammekgooaaGreatSd01
import Derived.Test.YtcmiiammekgooaaGreatSd10
set_option linter.all false
namespace Go.Sky
open Go.Proofs.Tryz
open Go.Proofs
set_option maxRecDepth 20000
set_option maxHeartbeats 4000000
set_option linter.unusedSimpArgs false
theorem Ay(v u:Value)(xs ys:List Int)(hv:Vp xs)(hu:Vp ys):Mv prog 156 #[v,u] [slp 2 wv v xs,slp 2 wv u ys] (.tuple #[.bool (dlow xs ys),.int .i64 (Zcz xs ys)]):=by
 refine Yd func156 J ntmps156 J K2 ?_
 intro w0 sc hw hsc
 simp only [Zq,Zp]
 have hlen:=hv.len
 have hlen2:=hu.len
 have hm1:=Oo hv.sz
 have hm2:=Oo hu.sz
 refine Zc<|Zg<|as_ J<|as_ J<|Zf<|Za<|Zc<|Zm<|Zc<|Zg<|mv J<|tt (Zh (n:=2) (Xm _ _ ‹_›) J J J K1 Zes (Zd 1 J J J Ze) J hw) J fun _ _=>dt (Yr J J)<|mv J<|gdt (Yf J J) J J<|gtt (Zh (n:=2) (Xm _ _ ‹_›) J J J K1 Zes (Zd 2 J J J Ze) J hw) J J J fun _ _=>gdt (Yr J J) J J<|dt (Zo J J J)<|as_ J<|Zf<|Za<|Zw J<|Zc<|Zg<|mv J<|dt (Yc J J (i:=2) J Zi Qi)<|dt (Pg J J J)<|as_ J<|Zf<|Za<|Zr J (fun h297=>?_) (fun h297=>?_)
 ·exact Zc<|Zg<|as_ J<|as_ J<|Zf<|Za<|Zt<|Lx<|Ys<|Yl (.inl J) hsc () _ (fun a w hs=>Ns hs results156 J J) (by unfold Zcz dlow;rw [if_pos (by omega),List.eq_nil_of_length_eq_zero (l:=ys) (by omega)];rfl) trivial J Zk
 ·refine Zc<|Zg<|mv J<|dt (Yc J J (i:=1) J Zi Qi)<|mv J<|dt (Yc J J (i:=2) J Zi Qi)<|dt (Qd J J J)<|as_ J<|Zf<|Za<|Zr J (fun h299=>?_) (fun h299=>?_)
  ·exact Zc<|Zg<|as_ J<|as_ J<|Zf<|Za<|Zt<|Lx<|Ys<|Yl (.inl J) hsc () _ (fun a w hs=>Ns hs results156 J J) (by rw [Zej (by omega),decide_eq_true (by omega)];unfold Zcz;rw [if_neg (by omega),if_pos (by omega)]) trivial J Zk
  ·have hp3:(xs.length-ys.length+1)*(msz ys+1)≤26*65537:=Nat.mul_le_mul (by omega) (by omega)
   have hp4:((xs.length:Int)-(ys.length:Int)+1)*((msz ys:Int)+1)=(((xs.length-ys.length+1)*(msz ys+1):Nat):Int):=by rw [Int.natCast_mul];congr 1;omega
   refine Zc<|Zg<|mv J<|tt (Zh (n:=2) (Nl _ _ (by first | exact hv.sz | exact hu.sz)) J J J K1 Af (Zd 1 J J J Ze) J hw) J fun _ _=>mv J<|dt (Yc J J (i:=1) J Zi Qi)<|mv J<|dt (Yc J J (i:=2) J Zi Qi)<|dt (Qo J J J ⟨by omega,by omega⟩)<|dt (Yu J J J ⟨by omega,by omega⟩)<|mv J<|tt (Zh (n:=2) (Nl _ _ (by first | exact hv.sz | exact hu.sz)) J J J K1 Af (Zd 2 J J J Ze) J hw) J fun _ _=>dt (Yu J J J ⟨by omega,by omega⟩)<|dt (Cf J J J (by rw [hp4];exact⟨by omega,by omega⟩))<|dt (Yu J J J (by rw [hp4];exact⟨by omega,by omega⟩))<|dt (Qr J J J)<|as_ J<|Zf<|Za<|Zr J (fun h301=>?_) (fun h301=>?_)
   ·exact Zc<|Zg<|as_ J<|as_ J<|Zf<|Za<|Zt<|Lx<|Ys<|Yl (.inl J) hsc () _ (fun a w hs=>Ns hs results156 J J) (by rw [hp4]at h301;rw [Zej (by omega),decide_eq_false (by omega)];unfold Zcz;rw [if_neg (by omega),if_neg (by omega),if_pos (by omega)]) trivial J Zk
   ·exact Zj<|Og<|Za<|Zc<|Zg<|as_ J<|as_ J<|Zf<|Za<|Zt<|Yl (.inl J) hsc () _ (fun a w hs=>Ns hs results156 J J) (by rw [hp4]at h301;rw [Zej (by omega),decide_eq_false (by omega)];unfold Zcz;rw [if_neg (by omega),if_neg (by omega),if_neg (by omega)]) trivial J Zk
theorem Zil(v u:Value)(xs ys:List Int)(hv:Vp xs)(hu:Vp ys)(hd:Zcz xs ys=0):Cal prog 155 #[v,u] [slp 2 wv v xs,slp 2 wv u ys] true (G:=Value) (fun r=>True) (fun r=> .tuple #[r,.int .i64 0]) (fun r=>[slp 2 wv r (Pz xs ys)]):=by
 refine Yd func155 J ntmps155 J K2 ?_
 intro w0 sc hw hsc
 simp only [Zq,Zp]
 have hlen:=hv.len
 have hlen2:=hu.len
 have hm1:=Oo hv.sz
 have hm2:=Oo hu.sz
 obtain⟨hm0,hF0⟩:=Zbn hd
 have hdl:=Zej (p:=xs) hm0
 refine Zc<|Zg<|as_ J<|as_ J<|Zf<|Za<|Zc<|Zg<|mv J<|mv J<|tt (Zh (n:=2) (Ay _ _ _ _ hv hu) J J J K2 call156 (Zd 1 J J J (Zd 2 J J J Ze)) J hw) J fun _ _=>mv J<|dt (Ya J J J)<|dt (Ya J J J)<|as_ J<|as_ J<|Zf<|Za<|Zc<|Zc<|Zg<|mv J<|dt (Xo J J J)<|Zf<|Za<|Zr J (fun h310=>?_) (fun h310=>?_)
 ·exfalso;exact h310 hd
 ·refine Zj<|Za<|Zc<|Zg<|mv J<|tt (Zjs (n:=3) (Zs6 _ _) J J J K1 call157 (Zd 1 J J J Ze) J hw) J fun v _=>as_ J<|Zf<|Za<|Zc<|Zc<|Zg<|mv J<|Zf<|Za<|Nn J (fun h314=>?_) (fun h314=>?_)
  ·have hlt:xs.length<ys.length:=by rw [hdl]at h314;simpa using h314
   exact Zc<|Zg<|mv J<|as_ J<|as_ J<|Zf<|Za<|Zt<|Ys<|Yl (.inl J) hsc _ _ (fun a w hs=>Ns hs results155 J J) J trivial J (Pq 3 J J pV (by unfold Pz;rw [if_pos hlt]) Zk)
  ·have hge:ys.length≤xs.length:=by rw [hdl]at h314;simpa using h314
   have hF:=hF0 hge
   refine Zj<|Za<|Zc<|Zg<|tt (Zl (i:=4) J J zeroValue167 J J hw) J fun b _=>Zf<|Za<|Zc<|Zg<|mv J<|mv J<|dt (Yc J J (i:=2) J Zi Qi)<|dt (Qo J J J ⟨by omega,by omega⟩)<|dt (Xf (ii:=2) (i:=(ys.length-1)) J J J J Zi Qi Ye)<|dt (Xx (ii:=2) 0 J J J Zi pV)<|tt (Zl (i:=5) J J zeroValue31 J J hw) J fun b_2 _=>tt (Zn (i:=5) J J J J J (by decide) J Ye J J ⟨Zb J,Zb J,trivial⟩ J hw trivial) J fun _ _=>Zf<|Za<|Zc<|Zc<|Zg<|mv J<|dt (Yc J J (i:=1) J Zi Qi)<|dt (Qo J J J ⟨by omega,by omega⟩)<|as_ J<|Zf<|Za<|Zm<|Mm [(1,_),(8,_),(9,_),(10,_)] [(0,_),(1,_),(2,_),(4,_),(5,_)] (fun(j:Nat)=>[(11,.int .i64 ((xs.length:Int)-1-(j:Int)))]) (fun(j:Nat)=>[(3,osl 2 31 wv v (Oc xs ys j))]) (fun(j:Nat)=>j≤xs.length-ys.length+1) (fun(j:Nat)=>xs.length-ys.length+1-j) 0 (by first | omega | (dsimp only<;>omega)) ⟨by rw [show(xs.length:Int)-1-((0:Nat):Int)=(xs.length:Int)-1 by omega];rfl,rfl,rfl,rfl,rfl,trivial⟩ K6 ?_
   rintro j hj
   simp only [CA,NA]
   refine Zc<|Zc<|Zg<|mv J<|mv J<|dt (Yc J J (i:=2) J Zi Qi)<|dt (Qo J J J ⟨by omega,by omega⟩)<|dt (Kj J J J)<|Zf<|Za<|Zr J (fun h319=>?_) (fun h319=>?_)
   ·obtain⟨hb1,hb2,hb3⟩:=rest_b hF (j:=j) (by omega)
    have hRl:=Nv xs ys j
    refine Zj<|Za<|Zc<|Zm<|Zc<|Zg<|mv J<|mv J<|dt (Xf (ii:=3) (i:=(xs.length-1-j)) J J J J (Yk pV) Qi Ye)<|dt (Xx (ii:=3) 0 J J J (Yk pV) pV)<|tt (Zl (i:=6) J J zeroValue31 J J hw) J fun b_3 _=>tt (Zn (i:=6) J J J J J (by decide) J Ye J J ⟨Zb J,Zb J,trivial⟩ J hw trivial) J fun _ _=>Zf<|Za<|Zc<|Zc<|Zg<|mv J<|dt (Yc J J (i:=3) J (Yk pV) Qi)<|mv J<|Zf<|Za<|Zm<|Mm [(1,_),(8,_),(9,_),(10,_),(11,_),(12,_),(51,_)] [(0,_),(1,_),(2,_),(4,_),(5,_),(6,_)] (fun(i:Nat)=>[(52,.int .i64 (i:Int))]) (fun(i:Nat)=>[(3,osl 2 31 wv v (Zo4 (Oc xs ys j) (cf ys (ys.length-1)) i))]) (fun(i:Nat)=>i≤xs.length) (fun(i:Nat)=>xs.length-i) 0 (by first | omega | (dsimp only<;>omega)) K8 ⟨by rw [Zrh];rfl,rfl,rfl,rfl,rfl,rfl,rfl,trivial⟩ ?_
    rintro i hi
    simp only [CA,NA]
    have hg1:i<xs.length→(Zo4 (Oc xs ys j) (cf ys (ys.length-1)) i).getD i 0=cf (Oc xs ys j) i:=fun h=>Zvq (by omega)
    have hl1:=Zks (Oc xs ys j) (cf ys (ys.length-1)) i
    refine Zc<|Zg<|dt (Qd J J J)<|Zf<|Za<|Zc<|Zr J (fun h322=>?_) (fun h322=>?_)
    ·refine Zj<|Za<|Zc<|Zm<|Zc<|Zg<|mv J<|as_ J<|Zf<|Za<|Qf (fun x=>x=b) [(0,0),(1,0),(2,0),(3,0),(4,0),(5,0),(6,0),(7,1),(8,0),(9,3)] ?_ ?_
     ·kernel_rfl
     exact r0' J J (st1 4 J (Yf J J))<|r0' J J (st1 4 J (Yf J J))<|r0' J J (st1 4 J (Yf J J))<|r0' J J (st1 4 J (Yf J J))<|r0' J J (st1 4 J (Xf (ii:=3) (i:=i) J J J J (Yk pV) Qi Ye J))<|r0' J J (st1 4 J (Xx (ii:=3) 0 J J J (Yk pV) pV))<|r0' J J (st1 4 J (Yb (i:=5) J J J Qg Ye J J))<|r1' J (Ob (n:=6) (i:=4) (Eg _ _ _ (by rw [hg1 (by omega)];exact hb1 _) (hu.sz _) (by rw [hg1 (by omega)];exact hb2 _ _)) J J J K3 call153 J (by decide) Ze J hw J) fun _ _=>r0' J J (st1 4 J (Xf (ii:=3) (i:=i) J J J J (Yk pV) Qi Ye J))<|r3' J (Ih (i:=3) (enc:=wv) _ J J J J J J pV J hw) fun _ _=>Py<|Og<|Za<|Zg<|dt (Yu J J J ⟨by omega,by omega⟩)<|mv J<|Zf<|Xq (i+1) (by first | omega | (dsimp only<;>omega)) (by first | omega | (dsimp only<;>omega)) K8 ⟨by rw [←Zvp (by omega),←hg1 (by omega)];rfl,rfl,rfl,rfl,rfl,rfl,rfl,trivial⟩
    ·refine Yx<|Zu<|Zu<|Nc<|Za<|Zc ?_
     obtain rfl:i=xs.length:=by omega
     refine Zg<|mv J<|dt (Yc J J (i:=2) J Zi Qi)<|mv J<|Zf<|Za<|Zm<|Mm [(1,_),(8,_),(9,_),(10,_),(11,_),(12,_),(65,_),(66,_)] [(0,_),(1,_),(2,_),(4,_),(5,_),(6,_)] (fun(i:Nat)=>[(67,.int .i64 (i:Int))]) (fun(i:Nat)=>[(3,osl 2 31 wv v (Ztx ys (Oc xs ys j) (cf ys (ys.length-1)) (cf (Oc xs ys j) (xs.length-1-j)) (xs.length-1-j-(ys.length-1)) i))]) (fun(i:Nat)=>i≤ys.length) (fun(i:Nat)=>ys.length-i) 0 (by first | omega | (dsimp only<;>omega)) K9 ⟨by rw [←Zpq,hRl];rfl,rfl,rfl,rfl,rfl,rfl,rfl,trivial⟩ ?_
     rintro i hi
     simp only [CA,NA]
     have hg2:i<ys.length→(Ztx ys (Oc xs ys j) (cf ys (ys.length-1)) (cf (Oc xs ys j) (xs.length-1-j)) (xs.length-1-j-(ys.length-1)) i).getD ((xs.length-1-j-(ys.length-1))+i) 0=cf (Oc xs ys j) ((xs.length-1-j-(ys.length-1))+i)*(cf ys (ys.length-1)):=fun h=>Zuf (by omega)
     have hl2:=Zkr ys (Oc xs ys j) (cf ys (ys.length-1)) (cf (Oc xs ys j) (xs.length-1-j)) (xs.length-1-j-(ys.length-1)) i
     refine Zc<|Zg<|dt (Qd J J J)<|Zf<|Za<|Zc<|Zr J (fun h325=>?_) (fun h325=>?_)
     ·refine Zj<|Za<|Zc<|Zm<|Zc<|Zg<|mv J<|dt (Xf (ii:=2) J J J J Zi Qi Ye J (by first | omega | (simp only [List.length_set];omega)))<|dt (Xx (ii:=2) 0 J J J Zi pV (by first | omega | (simp only [List.length_set];omega)))<|tt (Zl (i:=7) J J zeroValue31 J J hw) J fun b_4 _=>as_ J<|tt (Zn (i:=7) J J J J J (by decide) J Ye J J ⟨Zb J,Zb J,trivial⟩ J hw trivial) J fun _ _=>Zf<|Za<|Zc<|Zg<|mv J<|mv J<|dt (Yc J J (i:=2) J Zi Qi)<|dt (Qo J J J ⟨by omega,by omega⟩)<|dt (Qo J J J ⟨by omega,by omega⟩)<|mv J<|dt (Yu J J J ⟨by omega,by omega⟩)<|as_ J<|Zf<|Za<|Qf (fun x=>x=b) [(0,0),(1,0),(2,0),(3,0),(4,0),(5,0),(6,0),(7,0),(8,1),(9,1),(10,0),(11,3)] ?_ ?_
      ·kernel_rfl
      exact r0' J J (st1 4 J (Yf J J))<|r0' J J (st1 4 J (Yf J J))<|r0' J J (st1 4 J (Yf J J))<|r0' J J (st1 4 J (Yf J J))<|r0' J J (st1 4 J (Xf (ii:=3) (i:=((xs.length-1-j-(ys.length-1))+i)) J J J J (Yk pV) Qi Ye))<|r0' J J (st1 4 J (Xx (ii:=3) 0 J J J (Yk pV) pV))<|r0' J J (st1 4 J (Yb (i:=6) J J J Qg Ye J J))<|r0' J J (st1 4 J (Yb (i:=7) J J J Qg Ye J J))<|r1' J (Ob (n:=7) (i:=4) (Eg _ _ _ (hb1 _) (hu.sz _) (hb2 _ _)) J J J K3 call153 J (by decide) Ze J hw J) fun _ _=>r1' J (Ob (n:=7) (i:=4) (Zsr _ _ _ (by rw [hg2 (by omega)];exact hb2 _ _) (hb2 _ _) (by rw [hg2 (by omega)];exact hb3 _ _ _ _)) J J J K3 call137 J (by decide) Ze J hw J) fun _ _=>r0' J J (st1 4 J (Xf (ii:=3) (i:=((xs.length-1-j-(ys.length-1))+i)) J J J J (Yk pV) Qi Ye))<|r3' J (Ih (i:=3) (enc:=wv) _ J J J J J J pV J hw) fun _ _=>Py<|Og<|Za<|Zg<|dt (Yu J J J ⟨by omega,by omega⟩)<|mv J<|Zf<|Xq (i+1) (by first | omega | (dsimp only<;>omega)) (by first | omega | (dsimp only<;>omega)) K9 ⟨by rw [←Zue (by omega),←hg2 (by omega)];rfl,rfl,rfl,rfl,rfl,rfl,rfl,trivial⟩
     ·refine Yx<|Zu<|Zu<|Nc<|Og<|Za<|Zg<|mv J<|dt (Qo J J J ⟨by omega,by omega⟩)<|as_ J<|Zf ?_
      obtain rfl:i=ys.length:=by omega
      exact Xq (j+1) (by first | omega | (dsimp only<;>omega)) (by first | omega | (dsimp only<;>omega)) ⟨by rw [show(xs.length:Int)-1-((j+1:Nat):Int)=(xs.length:Int)-1-(j:Int)-1 by omega];rfl,rfl,rfl,rfl,rfl,trivial⟩ ⟨by rfl,rfl,rfl,rfl,rfl,rfl,trivial⟩
   ·refine Yx<|Zu<|Zu<|Nc<|Za<|Zc ?_
    obtain rfl:j=xs.length-ys.length+1:=by omega
    exact Xc (Pt 3 J J pV)<|Zg<|mv J<|tt (Ob (n:=8) (i:=4) (Zao _ _ _ (Zlz hF)) J J J K2 call154 J (by decide) (Zd 3 J J J Ze) J hw trivial) J fun _ _=>dt (Ya J J J)<|dt (Ya J J J)<|as_ J<|as_ J<|Zf<|Za<|Zt<|Yl (.inl J) hsc _ _ (fun a w hs=>Ns hs results155 J J) J trivial J (Yh 8 J J J (by unfold Pz;rw [if_neg (by omega)]<;>rfl) Zk)
theorem Bt(v u:Value)(xs ys:List Int)(hv:Vp xs)(hu:Vp ys)(hd:Zcz xs ys=0):Cal prog 111 #[v,u] [slp 2 wv v xs,slp 2 wv u ys] true (G:=Value) (fun r=>True) (fun r=> .tuple #[r,.int .i64 (if pdv xs ys then 0 else 10)]) (fun r=>[slp 2 wv r (if pdv xs ys then Iq xs ys else [])]):=by
 refine Yd func111 J ntmps111 J K2 ?_
 intro w0 sc hw hsc
 simp only [Zq,Zp]
 have hlen:=hv.len
 have hlen2:=hu.len
 have hm1:=Oo hv.sz
 have hm2:=Oo hu.sz
 obtain⟨hm0,hF0⟩:=Zbn hd
 have hdl:=Zej (p:=xs) hm0
 have hyz:cf ys (ys.length-1)≠0:=hu.tr.mem (fun e=>hm0 (by rw [e];rfl))
 refine Zc<|Zg<|as_ J<|as_ J<|Zf<|Za<|Zc<|Zg<|mv J<|mv J<|tt (Zh (n:=2) (Ay _ _ _ _ hv hu) J J J K2 call156 (Zd 1 J J J (Zd 2 J J J Ze)) J hw) J fun _ _=>mv J<|dt (Ya J J J)<|dt (Ya J J J)<|as_ J<|as_ J<|Zf<|Za<|Zc<|Zm<|Zc<|Zg<|mv J<|dt (Xo J J J)<|as_ J<|Zf<|Za<|Zr J (fun h337=>?_) (fun h337=>?_)
 ·exfalso;exact h337 hd
 ·refine Zc<|Zg<|mv J<|dt (Yc J J (i:=1) J Zi Qi)<|dt (Pg J J J)<|as_ J<|Zf<|Za<|Zr J (fun h339=>?_) (fun h339=>?_)
  ·refine Zc<|Zg<|as_ J<|as_ J<|Zf<|Za<|Zt<|Lx<|Ys ?_
   have hx0:xs=[]:=List.eq_nil_of_length_eq_zero (by omega)
   have hp:pdv xs ys:= .inl hx0
   exact Yl (.inl J) hsc _ _ (fun a w hs=>Ns hs results111 J J) (by rw [if_pos hp]) trivial J (My (by rw [if_pos hp,hx0];rfl) Zk)
  ·have hnx:xs≠[]:=fun e=>by rw [e]at h339;simp at h339
   refine Zc<|Zg<|mv J<|as_ J<|Zf<|Za<|Nn J (fun h341=>?_) (fun h341=>?_)
   ·have hlt:xs.length<ys.length:=by rw [hdl]at h341;simpa using h341
    refine Zc<|Zg<|as_ J<|as_ J<|Zf<|Za<|Zt<|Lx<|Ys ?_
    have hp:¬pdv xs ys:=fun h=>by rcases h with h | h;(exact hnx h);(have:=h.1;omega)
    exact Yl (.inl J) hsc _ _ (fun a w hs=>Ns hs results111 J J) (by rw [if_neg hp]) trivial J (My (if_neg hp) Zk)
   ·have hge:ys.length≤xs.length:=by rw [hdl]at h341;simpa using h341
    have hF:=hF0 hge
    refine Zj<|Og<|Za<|Zc<|Zg<|tt (Zl (i:=3) J J zeroValue167 J J hw) J fun b _=>Zf<|Za<|Zc<|Zg<|mv J<|tt (Zjs (n:=4) (Zs6 _ _) J J J K1 call157 (Zd 1 J J J Ze) J hw) J fun v _=>as_ J<|Zf<|Za<|Zc<|Zg<|mv J<|dt (Yc J J (i:=1) J Zi Qi)<|mv J<|dt (Yc J J (i:=2) J Zi Qi)<|dt (Qo J J J ⟨by omega,by omega⟩)<|dt (Yu J J J ⟨by omega,by omega⟩)<|tt (Di (i:=5) (n:=(xs.length-ys.length+1)) (by_:=24) (enc:=wv) 0 J J J J Qi ti31 J pV.cells pV.pos J J J hw) J fun v_2 _=>as_ J<|Zf<|Za<|Zc<|Zc<|Zg<|mv J<|dt (Yc J J (i:=5) J (Yk pV) Qi)<|dt (Qo J J J ⟨by simp only [List.length_replicate];omega,by simp only [List.length_replicate];omega⟩)<|as_ J<|Zf<|Za<|Zm ?_
    refine Mm [(1,_),(8,_),(9,_),(10,_)] [(0,_),(1,_),(2,_),(3,_)] (fun(j:Nat)=>[(11,.int .i64 ((xs.length:Int)-(ys.length:Int)-(j:Int)))]) (fun(j:Nat)=>[(4,osl 2 31 wv v (Of xs ys j)),(5,osl 2 31 wv v_2 (Zox xs ys j))]) (fun(j:Nat)=>(j≤xs.length-ys.length+1)∧(∀k,xs.length-ys.length<k+j→k≤xs.length-ys.length→Ic xs ys k)) (fun(j:Nat)=>xs.length-ys.length+1-j) 0 ⟨by first | omega | (dsimp only<;>omega),fun k h1 h2=>by omega⟩ ⟨by simp only [List.length_replicate];exact congrArg some (Zb5 (by omega)),rfl,rfl,rfl,rfl,trivial⟩ ⟨J,by rw [Zsq];rfl,rfl,rfl,rfl,rfl,trivial⟩ ?_
    rintro j ⟨hj,hx⟩
    simp only [CA,NA]
    have hol:=Bv xs ys j
    refine Zc<|Zc<|Zg<|mv J<|dt (Kj J J J)<|Zf<|Za<|Zr J (fun h347=>?_) (fun h347=>?_)
    ·obtain⟨hb1,hb5⟩:=div_b hF (j:=j) (by omega) hx
     have hRl:=Ey xs ys j
     have hi1:xs.length-ys.length-j+ys.length-1<xs.length:=by omega
     refine Zj<|Za<|Zc<|Zm<|Dc [(1,_),(8,_),(9,_),(10,_),(11,_)] [(0,_),(4,_),(5,_),(1,_),(2,_),(3,_)] (fun(q:Nat×Nat)=>[(12,.pointer (some ⟨q.1,0,none⟩)),(13,.pointer (some ⟨q.2,0,none⟩)),(14,.int .i64 0)]) (fun(q:Nat×Nat)=>[(97,box q.1 31 (wc (Zf2 (dq ys (Of xs ys j) (xs.length-ys.length-j))))),(98,box q.2 31 (wc (Zf2 (cf (Of xs ys j) ((xs.length-ys.length-j)+ys.length-1)%cf ys (ys.length-1)))))]) (fun(q:Nat×Nat)=>True) K5 K6 ?_ ?_
     ·refine Mc [2,4] [23]<|Zz (n:=10) [(0,0),(1,0),(2,0),(3,0),(4,0),(5,0),(6,0),(7,0),(8,0),(9,0),(10,0),(11,0),(12,0),(13,0)]<|r0' J J (stf (Yf J J) K2)<|r0' J J (stf (Yf J J) K2)<|r0' J J (stf (Yf J J) K2)<|r0' J J (stf (Yc J J (i:=2) J Zi Qi) K2)<|r0' J J (stf (Yu J J J ⟨by omega,by omega⟩) K2)<|r0' J J (stf (Qo J J J ⟨by omega,by omega⟩) K2)<|r0' J J (stf (Xf (ii:=4) (i:=((xs.length-ys.length-j)+ys.length-1)) J J J J (Yk pV) Qi Ye) K2)<|r0' J J (stf (Xx (ii:=4) 0 J J J (Yk pV) pV) K2)<|r0' J J (stf (Yf J J) K2)<|r0' J J (stf (Yf J J) K2)<|r0' J J (stf (Yc J J (i:=2) J Zi Qi) K2)<|r0' J J (stf (Qo J J J ⟨by omega,by omega⟩) K2)<|r0' J J (stf (Xf (ii:=2) (i:=(ys.length-1)) J J J J Zi Qi Ye) K2)<|r0' J J (stf (Xx (ii:=2) 0 J J J Zi pV) K2)<|Yt<|Zfa (n:=9) 14 19 20 ?_ ?_ ?_
      ·refine Yo J (Zh (n:=5) (Cl _ _ (hb1 _) (hu.sz _) hyz) J J J K2 call158 Ze J hw) fun _ _=>Zz (n:=5) [(15,0),(16,0),(17,0),(18,0)]<|r0' J J (stf (Yf J J) K2)<|r0' J J (stf (Ya J J J) K2)<|r0' J J (stf (Ya J J J) K2)<|r0' J J (stf (Ya J J J) K2)<|Yt<|Pf (n:=4) 19 20 ?_ ?_
       ·exact Yo J (Zv (i:=97) J J zeroValue31 J J hw K2) fun b_2 ho=>Zz (n:=0) [(20,1),(21,1),(22,1),(23,3)]<|r1' J (Zv (i:=98) J J zeroValue31 J J hw K2) fun b_3 ho2=>r1' J (Zn (i:=97) J J J J J (by decide) J Ye J J ⟨Zb J,Zb J,trivial⟩ J hw ho) fun _ _=>r1' J (Zn (i:=98) J J J J J (by decide) J Ye J J ⟨Zb J,Zb J,trivial⟩ J hw ho2) fun _ _=>r3' J (Qq (Ot J J) J) fun _ _=>Yt<|Yj<|Qz (_,_) trivial K8 K8
       ·exact Yo J (Zv (i:=98) J J zeroValue31 J J hw K2) fun b_4 ho3=>Zz (n:=0) [(19,1),(21,1),(22,1),(23,3)]<|r1' J (Zv (i:=97) J J zeroValue31 J J hw K2) fun b_5 ho4=>r1' J (Zn (i:=97) J J J J J (by decide) J Ye J J ⟨Zb J,Zb J,trivial⟩ J hw ho4) fun _ _=>r1' J (Zn (i:=98) J J J J J (by decide) J Ye J J ⟨Zb J,Zb J,trivial⟩ J hw ho3) fun _ _=>r3' J (Qq (Ot J J) J) fun _ _=>Yt<|Yj<|Qz (_,_) trivial K8 K8
      ·refine Yo J (Zv (i:=97) J J zeroValue31 J J hw K2) fun b_6 ho5=>Pf (n:=8) 14 20 ?_ ?_
       ·exact Yo J (Zh (n:=5) (Cl _ _ (hb1 _) (hu.sz _) hyz) J J J K2 call158 Ze J hw) fun _ _=>Zz (n:=0) [(15,0),(16,0),(17,0),(18,0),(20,1),(21,1),(22,1),(23,3)]<|r0' J J (stf (Yf J J) K2)<|r0' J J (stf (Ya J J J) K2)<|r0' J J (stf (Ya J J J) K2)<|r0' J J (stf (Ya J J J) K2)<|r1' J (Zv (i:=98) J J zeroValue31 J J hw K2) fun b_7 ho6=>r1' J (Zn (i:=97) J J J J J (by decide) J Ye J J ⟨Zb J,Zb J,trivial⟩ J hw ho5) fun _ _=>r1' J (Zn (i:=98) J J J J J (by decide) J Ye J J ⟨Zb J,Zb J,trivial⟩ J hw ho6) fun _ _=>r3' J (Qq (Ot J J) J) fun _ _=>Yt<|Yj<|Qz (_,_) trivial K8 K8
       ·exact Yo J (Zv (i:=98) J J zeroValue31 J J hw K2) fun b_8 ho7=>Zz (n:=0) [(14,1),(15,0),(16,0),(17,0),(18,0),(21,1),(22,1),(23,3)]<|r1' J (Zh (n:=5) (Cl _ _ (hb1 _) (hu.sz _) hyz) J J J K2 call158 Ze J hw) fun _ _=>r0' J J (stf (Yf J J) K2)<|r0' J J (stf (Ya J J J) K2)<|r0' J J (stf (Ya J J J) K2)<|r0' J J (stf (Ya J J J) K2)<|r1' J (Zn (i:=97) J J J J J (by decide) J Ye J J ⟨Zb J,Zb J,trivial⟩ J hw ho5) fun _ _=>r1' J (Zn (i:=98) J J J J J (by decide) J Ye J J ⟨Zb J,Zb J,trivial⟩ J hw ho7) fun _ _=>r3' J (Qq (Ot J J) J) fun _ _=>Yt<|Yj<|Qz (_,_) trivial K8 K8
      ·refine Yo J (Zv (i:=98) J J zeroValue31 J J hw K2) fun b_9 ho8=>Pf (n:=8) 14 19 ?_ ?_
       ·exact Yo J (Zh (n:=5) (Cl _ _ (hb1 _) (hu.sz _) hyz) J J J K2 call158 Ze J hw) fun _ _=>Zz (n:=0) [(15,0),(16,0),(17,0),(18,0),(19,1),(21,1),(22,1),(23,3)]<|r0' J J (stf (Yf J J) K2)<|r0' J J (stf (Ya J J J) K2)<|r0' J J (stf (Ya J J J) K2)<|r0' J J (stf (Ya J J J) K2)<|r1' J (Zv (i:=97) J J zeroValue31 J J hw K2) fun b_10 ho9=>r1' J (Zn (i:=97) J J J J J (by decide) J Ye J J ⟨Zb J,Zb J,trivial⟩ J hw ho9) fun _ _=>r1' J (Zn (i:=98) J J J J J (by decide) J Ye J J ⟨Zb J,Zb J,trivial⟩ J hw ho8) fun _ _=>r3' J (Qq (Ot J J) J) fun _ _=>Yt<|Yj<|Qz (_,_) trivial K8 K8
       ·exact Yo J (Zv (i:=97) J J zeroValue31 J J hw K2) fun b_11 ho10=>Zz (n:=0) [(14,1),(15,0),(16,0),(17,0),(18,0),(21,1),(22,1),(23,3)]<|r1' J (Zh (n:=5) (Cl _ _ (hb1 _) (hu.sz _) hyz) J J J K2 call158 Ze J hw) fun _ _=>r0' J J (stf (Yf J J) K2)<|r0' J J (stf (Ya J J J) K2)<|r0' J J (stf (Ya J J J) K2)<|r0' J J (stf (Ya J J J) K2)<|r1' J (Zn (i:=97) J J J J J (by decide) J Ye J J ⟨Zb J,Zb J,trivial⟩ J hw ho10) fun _ _=>r1' J (Zn (i:=98) J J J J J (by decide) J Ye J J ⟨Zb J,Zb J,trivial⟩ J hw ho8) fun _ _=>r3' J (Qq (Ot J J) J) fun _ _=>Yt<|Yj<|Qz (_,_) trivial K8 K8
     ·rintro⟨b7,b8⟩ -
      simp only [CA,NA]
      refine Zc<|Zc<|Zg<|mv J<|dt (Xo J J J)<|Zf<|Za<|Zr J (fun h349=>?_) (fun h349=>?_)
      ·exfalso;exact h349 rfl
      ·refine Zj<|Za<|Zc<|Zc<|Zg<|dt (Yb (i:=98) J J J Qg Ye J J)<|tt (Zh (n:=5) (Mg _ (clip_bl _)) J J J K1 call104 Ze J hw) J fun _ _=>dt (Xo J J J)<|Zf<|Za<|Zr J (fun h352=>?_) (fun h352=>?_)
       ·have hne:¬Ic xs ys (xs.length-ys.length-j):=fun he=>h352 (by rw [Znq hyz (hu.sz _),(Znj (by omega)).1 he];rfl)
        refine Zc<|Zg<|as_ J<|as_ J<|Zf<|Za<|Zt<|Ys<|Lx<|Ys<|Ys<|Lx<|Ys ?_
        have hp:¬pdv xs ys:=fun h=>by rcases h with h | h;(exact hnx h);(exact hne (h.2.1 _ (by omega)))
        exact Yl (.inl J) hsc _ _ (fun a w hs=>Ns hs results111 J J) (by rw [if_neg hp]) trivial J (My (if_neg hp) Zk)
       ·have hde:Ic xs ys (xs.length-ys.length-j):=(Znj (by omega)).2 (by have h0:=Decidable.byContradiction h352;rw [Znq hyz (hu.sz _)]at h0;exact Int.sign_eq_zero_iff_zero.1 h0)
        obtain⟨hb2,hb3,hb4⟩:=hb5 hde
        refine Xc (Fe 97 (q:=box b7 31 (wc (dq ys (Of xs ys j) (xs.length-ys.length-j)))) (by rw [Ok hb2]) J J)<|Zj<|Za<|Zc<|Zg<|mv J<|mv J<|dt (Yb (i:=97) J J J Qg Ye J J)<|dt (Xf (ii:=5) (i:=(xs.length-ys.length-j)) J J J J (Yk pV) Qi Ye)<|tt (Ih (i:=5) (enc:=wv) _ J J J J J J pV J hw) J fun _ _=>Zf<|Za<|Zc<|Zg<|mv J<|dt (Yc J J (i:=2) J Zi Qi)<|mv J<|Zf<|Za<|Zm<|Mm [(1,_),(8,_),(9,_),(10,_),(11,_),(12,_),(78,_),(79,_)] [(0,_),(97,_),(98,_),(5,_),(1,_),(2,_),(3,_)] (fun(i:Nat)=>[(80,.int .i64 (i:Int))]) (fun(i:Nat)=>[(4,osl 2 31 wv v (Ztz ys (Of xs ys j) (dq ys (Of xs ys j) (xs.length-ys.length-j)) (xs.length-ys.length-j) i))]) (fun(i:Nat)=>i≤ys.length) (fun(i:Nat)=>ys.length-i) 0 (by first | omega | (dsimp only<;>omega)) K9 ⟨by rw [←Zsm];rfl,rfl,rfl,rfl,rfl,rfl,rfl,rfl,trivial⟩ ?_
        rintro i hi
        simp only [CA,NA]
        have hg2:i<ys.length→(Ztz ys (Of xs ys j) (dq ys (Of xs ys j) (xs.length-ys.length-j)) (xs.length-ys.length-j) i).getD ((xs.length-ys.length-j)+i) 0=cf (Of xs ys j) ((xs.length-ys.length-j)+i):=fun h=>Zv7 (by omega)
        have hl2:=Zkt ys (Of xs ys j) (dq ys (Of xs ys j) (xs.length-ys.length-j)) (xs.length-ys.length-j) i
        refine Zc<|Zg<|dt (Qd J J J)<|Zf<|Za<|Zc<|Zr J (fun h356=>?_) (fun h356=>?_)
        ·refine Zj<|Za<|Zc<|Zm<|Zc<|Zg<|mv J<|dt (Xf (ii:=2) J J J J Zi Qi Ye J (by first | omega | (simp only [List.length_set];omega)))<|dt (Xx (ii:=2) 0 J J J Zi pV (by first | omega | (simp only [List.length_set];omega)))<|tt (Zl (i:=6) J J zeroValue31 J J hw) J fun b_12 _=>as_ J<|tt (Zn (i:=6) J J J J J (by decide) J Ye J J ⟨Zb J,Zb J,trivial⟩ J hw trivial) J fun _ _=>Zf<|Za<|Qf (fun x=>x=b) [(0,0),(1,0),(2,0),(3,0),(4,0),(5,0),(6,0),(7,0),(8,0),(9,0),(10,0),(11,0),(12,1),(13,1),(14,0),(15,3)] ?_ ?_
         ·kernel_rfl
         refine r0' J J (st1 3 J (Yf J J))<|r0' J J (st1 3 J (Yf J J))<|r0' J J (st1 3 J (Yf J J))<|r0' J J (st1 3 J (Yu J J J ⟨by omega,by omega⟩))<|r0' J J (st1 3 J (Yf J J))<|r0' J J (st1 3 J (Yf J J))<|r0' J J (st1 3 J (Yf J J))<|r0' J J (st1 3 J (Yu J J J ⟨by omega,by omega⟩))<|r0' J J (st1 3 J (Xf (ii:=4) (i:=((xs.length-ys.length-j)+i)) J J J J (Yk pV) Qi Ye))<|r0' J J (st1 3 J (Xx (ii:=4) 0 J J J (Yk pV) pV))<|r0' J J (st1 3 J (Yb (i:=97) J J J Qg Ye J J))<|r0' J J (st1 3 J (Yb (i:=6) J J J Qg Ye J J))<|r1' J (Ob (n:=6) (i:=3) (Eg _ _ _ hb2 (hu.sz _) (hb3 _)) J J J K3 call153 J (by decide) Ze J hw J) fun _ _=>r1' J (Ob (n:=6) (i:=3) (Zsr _ _ _ (by rw [hg2 (by omega)];exact hb1 _) (hb3 _) (by rw [hg2 (by omega)];exact hb4 _ _)) J J J K3 call137 J (by decide) Ze J hw J) fun _ _=>r0' J J (st1 3 J (Xf (ii:=4) (i:=((xs.length-ys.length-j)+i)) J J J J (Yk pV) Qi Ye))<|r3' J (Ih (i:=4) (enc:=wv) _ J J J J J J pV J hw) fun _ _=>Py<|Og<|Za<|Zg<|dt (Yu J J J ⟨by omega,by omega⟩)<|mv J<|Zf ?_
         exact Xq (i+1) (by first | omega | (dsimp only<;>omega)) (by first | omega | (dsimp only<;>omega)) K9 ⟨by rw [←Zv6 (by omega),←hg2 (by omega)];rfl,rfl,rfl,rfl,rfl,rfl,rfl,rfl,trivial⟩
        ·refine Yx<|Zu<|Zu<|Nc<|Og<|Za<|Zg<|mv J<|dt (Qo J J J ⟨by omega,by omega⟩)<|as_ J<|Zf ?_
         obtain rfl:i=ys.length:=by omega
         exact Xq (j+1) ⟨by first | omega | (dsimp only<;>omega),fun k h1 h2=>by rcases Nat.lt_or_ge (xs.length-ys.length) (k+j)with h3 | h3;(exact hx k h3 h2);(rw [show k=xs.length-ys.length-j by omega];exact hde)⟩ (by first | omega | (dsimp only<;>omega)) ⟨by rw [show(xs.length:Int)-(ys.length:Int)-((j+1:Nat):Int)=(xs.length:Int)-(ys.length:Int)-(j:Int)-1 by omega];rfl,rfl,rfl,rfl,rfl,trivial⟩ ⟨by rfl,by rw [←Zwa (by omega)];rfl,rfl,rfl,rfl,rfl,trivial⟩
    ·refine Yx<|Zu<|Zu<|Nc<|Za<|Zc<|Zc ?_
     obtain rfl:j=xs.length-ys.length+1:=by omega
     have hall:∀k,k≤xs.length-ys.length→Ic xs ys k:=fun k hk=>hx k (by omega) hk
     refine Xc (Pt 4 J J pV)<|Zg<|dt (Xk J J Zgf J Zf7 J J)<|dt (Xk J J Zjl J Gj J J)<|dt (Pr (i:=3) J J J Ai J)<|dt (Pg J J J)<|mv J<|Qp (d:=105) J (fun s360=>?_) (fun s360=>?_)
     ·refine gdt (Yf J J) J J<|gtt (Zh (n:=7) (Ax _ _ (Zuc hF hall)) J J J K1 call152 (Zd 4 J J J Ze) J hw) J J J fun _ _=>gdt (Yc J J (i:=7) J Zi Qi) J J<|gdt (Qr J J J) J J<|dt (Yi J J J)<|Zf<|Za<|Zr J (fun h360=>?_) (fun h360=>?_)
      ·refine Zc<|Zg<|as_ J<|as_ J<|Zf<|Za<|Zt<|Ys ?_
       have hp:¬pdv xs ys:=fun h=>by rcases h with h | h;(exact hnx h);(rw [h.2.2]at h360;simp at h360)
       exact Yl (.inl J) hsc _ _ (fun a w hs=>Ns hs results111 J J) (by rw [if_neg hp]) trivial J (My (if_neg hp) Zk)
      ·refine Zj<|Za<|Zc<|Xc (Pt 5 J J pV)<|Zg<|mv J<|tt (Ob (n:=8) (i:=3) (Zao _ _ _ (Zpl hF hall _)) J J J K2 call154 J (by decide) (Zd 5 J J J Ze) J hw trivial) J fun _ _=>dt (Ya J J J)<|dt (Ya J J J)<|as_ J<|as_ J<|Zf<|Za<|Zt ?_
       have hp:pdv xs ys:= .inr ⟨hge,hall,List.eq_nil_of_length_eq_zero (by omega)⟩
       exact Yl (.inl J) hsc _ _ (fun a w hs=>Ns hs results111 J J) (by rw [if_pos hp]<;>rfl) trivial J (Yh 8 J J J (by rw [if_pos hp,Zmi hnx,←Zcx]<;>rfl) Zk)
     ·exfalso;exact s360 rfl
theorem Zin(v:Value)(xs:List Int)(x y z:Int)(hv:Vp xs)(hx:bl x.natAbs≤65536)(hy:bl y.natAbs≤65536)(hz:bl z.natAbs≤65536)(hz0:0<z)(hE:¬Znn xs x y z):Cal prog 141 #[v,wv x,wv y,wv z] [slp 2 wv v xs] true (G:=Value) (fun r=>True) (fun r=> .tuple #[r,.int .i64 0]) (fun r=>[slp 2 wv r (Az xs x y z)]):=by
 refine Yd func141 J ntmps141 J K1 ?_
 intro w0 sc hw hsc
 simp only [Zq,Zp]
 have hlen:=hv.len
 refine Zc<|Zg<|tt (Xa (i:=2) J J J J J hw) J fun b _=>tt (Xa (i:=3) J J J J J hw) J fun b_2 _=>tt (Xa (i:=4) J J J J J hw) J fun b_3 _=>as_ J<|as_ J<|Zf<|Za<|Zc<|Zc<|Zg<|mv J<|tt (Zh (n:=4) (Xm _ _ ‹_›) J J J K1 Zes (Zd 1 J J J Ze) J hw) J fun _ _=>dt (Yr J J)<|mv J<|gdt (Yb (i:=2) J J J Qg Ye J J) J J<|gtt (Zh (n:=4) (Lo _ ‹_›) J J J K1 Ze9 Ze J hw) J J J fun _ _=>gdt (Yr J J) J J<|dt (Zo J J J)<|mv J<|gdt (Yb (i:=3) J J J Qg Ye J J) J J<|gtt (Zh (n:=4) (Lo _ ‹_›) J J J K1 Ze9 Ze J hw) J J J fun _ _=>gdt (Yr J J) J J<|dt (Zo J J J)<|mv J<|gdt (Yb (i:=4) J J J Qg Ye J J) J J<|gtt (Zh (n:=4) (Lo _ ‹_›) J J J K1 Ze9 Ze J hw) J J J fun _ _=>gdt (Yr J J) J J<|dt (Zo J J J)<|Zf<|Za<|Zw J<|Zj<|Za<|Zc<|Zc<|Zg<|dt (Yb (i:=4) J J J Qg Ye J J)<|tt (Zh (n:=4) (Mg _ hz) J J J K1 call104 Ze J hw) J fun _ _=>dt (Ac J J J)<|Zf<|Za<|Zr J (fun h232=>?_) (fun h232=>?_)
 ·exfalso;have h2:=decide_eq_decide.1 (Zbw z);omega
 ·refine Zj<|Za<|Zc<|Zc<|Zg<|mv J<|dt (Yc J J (i:=1) J Zi Qi)<|dt (Pg J J J)<|Zf<|Za<|Zr J (fun h235=>?_) (fun h235=>?_)
  ·exact Zc<|Zg<|as_ J<|as_ J<|Zf<|Za<|Zt<|Ys<|Yl (.inl J) hsc _ _ (fun a w hs=>Ns hs results141 J J) J trivial J (My (by unfold Az;rw [if_pos (by omega)]) Zk)
  ·have hne:xs≠[]:=fun e=>by rw [e]at h235;simp at h235
   have hm1:=Oo hv.sz
   have hsxy:Sz 65536 [x,y,z]:=Sz.of_mem (by intro q hq;simp at hq;rcases hq with rfl | rfl | rfl<;>assumption)
   have hm2:=Oo hsxy
   have hm3:(xs.length-1)*(msz [x,y,z]+1)≤24*65537:=Nat.mul_le_mul (by omega) (by omega)
   have hm4:((xs.length:Int)-1)*((msz [x,y,z]:Int)+1)=(((xs.length-1)*(msz [x,y,z]+1):Nat):Int):=by rw [Int.natCast_mul];congr 1;omega
   refine Zj<|Za<|Zc<|Dc [(0,_),(5,_),(6,_),(7,_)] [(0,_),(1,_),(2,_),(3,_),(4,_)] (fun(_:Unit)=>[(55,.bool (decide ((65536:Int)<(msz xs:Int)+((xs.length:Int)-1)*((msz [x,y,z]:Int)+1)+8)))]) (fun(_:Unit)=>[]) (fun(_:Unit)=>True) K4 K5 ?_ ?_
   ·refine Fh (fun _=>False) []<|Zz (n:=8) [(0,0),(2,0),(3,0),(4,0),(5,0),(6,0),(7,0)]<|r0' J J (st0 (Yf J J))<|r0' J J (st0 (Yf J J))<|r0' J J (st0 (Yc J J (i:=1) J Zi Qi))<|r0' J J (st0 (Qo J J J ⟨by omega,by omega⟩))<|r0' J J (st0 (Yb (i:=2) J J J Qg Ye J J))<|r0' J J (st0 (Yb (i:=3) J J J Qg Ye J J))<|r0' J J (st0 (Yb (i:=4) J J J Qg Ye J J))<|Yt<|Pf (n:=7) 1 8 ?_ ?_
    ·exact Yo J (Zh (n:=4) (Nl _ _ (by first | exact hv.sz | exact hsxy)) J J J K1 Af (Zd 1 J J J Ze) J hw) fun _ _=>Zz (n:=0) [(8,1),(9,1),(10,0),(11,0),(12,0),(13,0),(14,0)]<|r1' J (Ps (i:=90) (ivs:=[(0,_),(1,_),(2,_)]) (enc:=wv) [x,y,z] J J K6 uT22 ti31 J J (fill3 _ _ _ _ _ _ _ _) J J pV.cells J J hw) fun v _=>r1' J (Zh (n:=4) (Nl _ _ (by first | exact hv.sz | exact hsxy)) J J J K1 Af (Xw 90 J J pV Ze) J hw) fun _ _=>r0' J J (st0 (Yu J J J ⟨by omega,by omega⟩))<|r0' J J (st0 (Cf J J J (by rw [hm4];exact⟨by omega,by omega⟩)))<|r0' J J (st0 (Yu J J J (by rw [hm4];exact⟨by omega,by omega⟩)))<|r0' J J (st0 (Yu J J J (by rw [hm4];exact⟨by omega,by omega⟩)))<|r0' J J (st0 (Qr J J J))<|Yt<|Yj<|Qz () trivial K5 K5
    ·exact Yo J (Ps (i:=90) (ivs:=[(0,_),(1,_),(2,_)]) (enc:=wv) [x,y,z] J J K6 uT22 ti31 J J (fill3 _ _ _ _ _ _ _ _) J J pV.cells J J hw) fun v_2 _=>Zz (n:=0) [(1,1),(9,1),(10,0),(11,0),(12,0),(13,0),(14,0)]<|r1' J (Zh (n:=4) (Nl _ _ (by first | exact hv.sz | exact hsxy)) J J J K1 Af (Zd 1 J J J Ze) J hw) fun _ _=>r1' J (Zh (n:=4) (Nl _ _ (by first | exact hv.sz | exact hsxy)) J J J K1 Af (Xw 90 J J pV Ze) J hw) fun _ _=>r0' J J (st0 (Yu J J J ⟨by omega,by omega⟩))<|r0' J J (st0 (Cf J J J (by rw [hm4];exact⟨by omega,by omega⟩)))<|r0' J J (st0 (Yu J J J (by rw [hm4];exact⟨by omega,by omega⟩)))<|r0' J J (st0 (Yu J J J (by rw [hm4];exact⟨by omega,by omega⟩)))<|r0' J J (st0 (Qr J J J))<|Yt<|Yj<|Qz () trivial K5 K5
   ·rintro _ -
    simp only [CA,NA]
    refine Zr J (fun h238=>?_) (fun h238=>?_)
    ·exfalso;exact hE ⟨hne,by rw [hm4]at h238;omega⟩
    ·have hF:msz xs+(xs.length-1)*(msz [x,y,z]+1)+8≤65536:=by rw [hm4]at h238;omega
     refine Zj<|Za<|Zc<|Zg<|tt (Zl (i:=5) J J zeroValue167 J J hw) J fun b_4 _=>Zf<|Za<|Dc [(0,_),(5,_),(6,_),(7,_),(10,_)] [(0,_),(1,_),(2,_),(3,_),(4,_),(5,_)] (fun(q:Value×Nat)=>[(11,q.1),(12,.pointer (some ⟨q.2,0,none⟩))]) (fun(q:Value×Nat)=>[(70,osl 2 31 wv q.1 (Ho xs x y z 0)),(98,box q.2 31 (wc 1))]) (fun(q:Value×Nat)=>True) K5 K6 ?_ ?_
     ·refine Fh (fun _=>False) [9,10]<|Zz (n:=5) [(0,0),(1,0),(2,0),(3,0),(4,0),(5,0)]<|r0' J J (st0 (Yf J J))<|r0' J J (st0 (Yf J J))<|r0' J J (st0 (Yc J J (i:=1) J Zi Qi))<|r0' J J (st0 (Qo J J J ⟨by omega,by omega⟩))<|r0' J J (st0 (Xf (ii:=1) (i:=(xs.length-1)) J J J J Zi Qi Ye))<|r0' J J (st0 (Xx (ii:=1) 0 J J J Zi pV))<|Yt<|Zfa (n:=4) 6 7 8 ?_ ?_ ?_
      ·refine Yo J (Ps (i:=70) (ivs:=[(0,_)]) (enc:=wv) [cf xs (xs.length-1)] J J K2 Qi ti31 J J J J J pV.cells J J hw) fun v_3 _=>Pf (n:=3) 7 8 ?_ ?_
       ·exact Yo J (Zh (n:=5) (Xb _ (by first | assumption | exact⟨by omega,by omega⟩)) J J J K1 Bg Ze J hw) fun _ _=>Zz (n:=0) [(8,1),(9,3),(10,3)]<|r1' J (Zl (i:=98) J J zeroValue31 J J hw) fun b_5 _=>r3' J (Qq (Ot J J) J) fun _ _=>r3' J (Zn (i:=98) J J J J J (by decide) J Ye J J ⟨Zb J,Zb J,trivial⟩ J hw trivial) fun _ _=>Yt<|Yj<|Qz (_,_) trivial K7 ⟨by rw [Gf];rfl,rfl,rfl,rfl,rfl,rfl,rfl,rfl,trivial⟩
       ·exact Yo J (Zl (i:=98) J J zeroValue31 J J hw) fun b_6 _=>Zz (n:=0) [(7,1),(9,3),(10,3)]<|r1' J (Zh (n:=5) (Xb _ (by first | assumption | exact⟨by omega,by omega⟩)) J J J K1 Bg Ze J hw) fun _ _=>r3' J (Qq (Ot J J) J) fun _ _=>r3' J (Zn (i:=98) J J J J J (by decide) J Ye J J ⟨Zb J,Zb J,trivial⟩ J hw trivial) fun _ _=>Yt<|Yj<|Qz (_,_) trivial K7 ⟨by rw [Gf];rfl,rfl,rfl,rfl,rfl,rfl,rfl,rfl,trivial⟩
      ·refine Yo J (Zh (n:=5) (Xb _ (by first | assumption | exact⟨by omega,by omega⟩)) J J J K1 Bg Ze J hw) fun _ _=>Pf (n:=3) 6 8 ?_ ?_
       ·exact Yo J (Ps (i:=70) (ivs:=[(0,_)]) (enc:=wv) [cf xs (xs.length-1)] J J K2 Qi ti31 J J J J J pV.cells J J hw) fun v_4 _=>Zz (n:=0) [(8,1),(9,3),(10,3)]<|r1' J (Zl (i:=98) J J zeroValue31 J J hw) fun b_7 _=>r3' J (Qq (Ot J J) J) fun _ _=>r3' J (Zn (i:=98) J J J J J (by decide) J Ye J J ⟨Zb J,Zb J,trivial⟩ J hw trivial) fun _ _=>Yt<|Yj<|Qz (_,_) trivial K7 ⟨by rw [Gf];rfl,rfl,rfl,rfl,rfl,rfl,rfl,rfl,trivial⟩
       ·exact Yo J (Zl (i:=98) J J zeroValue31 J J hw) fun b_8 _=>Zz (n:=0) [(6,1),(9,3),(10,3)]<|r1' J (Ps (i:=70) (ivs:=[(0,_)]) (enc:=wv) [cf xs (xs.length-1)] J J K2 Qi ti31 J J J J J pV.cells J J hw) fun v_5 _=>r3' J (Qq (Ot J J) J) fun _ _=>r3' J (Zn (i:=98) J J J J J (by decide) J Ye J J ⟨Zb J,Zb J,trivial⟩ J hw trivial) fun _ _=>Yt<|Yj<|Qz (_,_) trivial K7 ⟨by rw [Gf];rfl,rfl,rfl,rfl,rfl,rfl,rfl,rfl,trivial⟩
      ·refine Yo J (Zl (i:=98) J J zeroValue31 J J hw) fun b_9 _=>Pf (n:=3) 6 7 ?_ ?_
       ·exact Yo J (Ps (i:=70) (ivs:=[(0,_)]) (enc:=wv) [cf xs (xs.length-1)] J J K2 Qi ti31 J J J J J pV.cells J J hw) fun v_6 _=>Zz (n:=0) [(7,1),(9,3),(10,3)]<|r1' J (Zh (n:=5) (Xb _ (by first | assumption | exact⟨by omega,by omega⟩)) J J J K1 Bg Ze J hw) fun _ _=>r3' J (Qq (Ot J J) J) fun _ _=>r3' J (Zn (i:=98) J J J J J (by decide) J Ye J J ⟨Zb J,Zb J,trivial⟩ J hw trivial) fun _ _=>Yt<|Yj<|Qz (_,_) trivial K7 ⟨by rw [Gf];rfl,rfl,rfl,rfl,rfl,rfl,rfl,rfl,trivial⟩
       ·exact Yo J (Zh (n:=5) (Xb _ (by first | assumption | exact⟨by omega,by omega⟩)) J J J K1 Bg Ze J hw) fun _ _=>Zz (n:=0) [(6,1),(9,3),(10,3)]<|r1' J (Ps (i:=70) (ivs:=[(0,_)]) (enc:=wv) [cf xs (xs.length-1)] J J K2 Qi ti31 J J J J J pV.cells J J hw) fun v_7 _=>r3' J (Qq (Ot J J) J) fun _ _=>r3' J (Zn (i:=98) J J J J J (by decide) J Ye J J ⟨Zb J,Zb J,trivial⟩ J hw trivial) fun _ _=>Yt<|Yj<|Qz (_,_) trivial K7 ⟨by rw [Gf];rfl,rfl,rfl,rfl,rfl,rfl,rfl,rfl,trivial⟩
     ·rintro⟨vo,b8⟩ -
      simp only [CA,NA]
      refine Zc<|Zc<|Zg<|mv J<|dt (Yc J J (i:=1) J Zi Qi)<|dt (Qo J J J ⟨by omega,by omega⟩)<|as_ J<|Zf<|Za<|Zm<|Mm [(0,_),(5,_),(6,_),(7,_),(10,_),(12,_)] [(0,_),(1,_),(2,_),(3,_),(4,_),(5,_)] (fun(q:Nat×Value)=>[(13,.int .i64 ((xs.length:Int)-2-(q.1:Int))),(11,q.2)]) (fun(q:Nat×Value)=>[(70,osl 2 31 wv q.2 (Ho xs x y z q.1)),(98,box b8 31 (wc (z^q.1)))]) (fun(q:Nat×Value)=>q.1≤xs.length-1) (fun(q:Nat×Value)=>xs.length-1-q.1) (0,vo) (by first | omega | (dsimp only<;>omega)) ⟨by rw [show(xs.length:Int)-2-((0:Nat):Int)=(xs.length:Int)-2 by omega];rfl,rfl,rfl,rfl,rfl,rfl,rfl,rfl,trivial⟩ ⟨J,by rw [Int.pow_zero];rfl,rfl,rfl,rfl,rfl,rfl,rfl,trivial⟩ ?_
      rintro⟨j,vo⟩ hj
      dsimp only at hj
      simp only [CA,NA]
      refine Zc<|Zc<|Zg<|mv J<|dt (Kj J J J)<|Zf<|Za<|Zr J (fun h243=>?_) (fun h243=>?_)
      ·obtain⟨c1,c2,c3,c4,c5,c6,c7,c8,c9⟩:=cp_all hF (j:=j) (by omega)
       have hcl:=Bw xs x y z j
       refine Zj<|Za<|Zc<|Zm<|Zc<|Zg<|dt (Yb (i:=98) J J J Qg Ye J J)<|dt (Yb (i:=4) J J J Qg Ye J J)<|tt (Ob (n:=5) (i:=5) (Eg _ _ _ c1 hz (by rw [←Int.pow_succ];exact c2)) J J J K3 call153 J (by decide) Ze J hw trivial) J fun _ _=>tt (Zn (i:=98) J J J J J (by decide) J Ye J J ⟨Zb J,Zb J,trivial⟩ J hw trivial) J fun _ _=>Zf<|Za<|Zc<|Zg<|mv J<|dt (Yc J J (i:=70) J (Yk pV) Qi)<|dt (Yu J J J ⟨by omega,by omega⟩)<|tt (Di (i:=71) (n:=((Ho xs x y z j).length+1)) (by_:=24) (enc:=wv) 0 J J J J Qi ti31 J pV.cells pV.pos J J J hw) J fun v_8 _=>as_ J<|Zf<|Za<|Zc<|Zc<|Zg<|mv J<|dt (Yc J J (i:=70) J (Yk pV) Qi)<|mv J<|Zf<|Za<|Zm<|Mm [(0,_),(5,_),(6,_),(7,_),(10,_),(12,_),(13,_),(14,_),(78,_),(79,_)] [(0,_),(70,_),(98,_),(1,_),(2,_),(3,_),(4,_),(5,_)] (fun(i:Nat)=>[(80,.int .i64 (i:Int))]) (fun(i:Nat)=>[(71,osl 2 31 wv v_8 (cnx (Ho xs x y z j) x y i))]) (fun(i:Nat)=>i≤(Ho xs x y z j).length) (fun(i:Nat)=>(Ho xs x y z j).length-i) 0 (by first | omega | (dsimp only<;>omega)) K11 ⟨by rw [Zwi];rfl,rfl,rfl,rfl,rfl,rfl,rfl,rfl,rfl,trivial⟩ ?_
       rintro i hi
       simp only [CA,NA]
       have hg1:i<(Ho xs x y z j).length→(cnx (Ho xs x y z j) x y i).getD i 0=if i=0 then 0 else cf (Ho xs x y z j) (i-1)*y:=fun h=>Zs4 h
       have hl1:=Ko (Ho xs x y z j) x y i
       refine Zc<|Zg<|dt (Qd J J J)<|Zf<|Za<|Zc<|Zr J (fun h247=>?_) (fun h247=>?_)
       ·refine Zj<|Za<|Zc<|Zm<|Zc<|Zg<|mv J<|dt (Xf (ii:=70) J J J J (Yk pV) Qi Ye J (by first | omega | (simp only [List.length_set];omega)))<|dt (Xx (ii:=70) 0 J J J (Yk pV) pV (by first | omega | (simp only [List.length_set];omega)))<|tt (Zl (i:=6) J J zeroValue31 J J hw) J fun b_10 _=>as_ J<|tt (Zn (i:=6) J J J J J (by decide) J Ye J J ⟨Zb J,Zb J,trivial⟩ J hw trivial) J fun _ _=>Zf<|Za<|Zc<|Qf (fun x=>x=b_4) [(0,0),(1,0),(2,0),(3,0),(4,0),(5,0),(6,0),(7,0),(8,1),(9,1),(10,0),(11,3)] ?_ ?_
        ·kernel_rfl
        refine r0' J J (st1 5 J (Yf J J))<|r0' J J (st1 5 J (Yf J J))<|r0' J J (st1 5 J (Yf J J))<|r0' J J (st1 5 J (Yf J J))<|r0' J J (st1 5 J (Xf (ii:=71) (i:=i) J J J J (Yk pV) Qi Ye J))<|r0' J J (st1 5 J (Xx (ii:=71) 0 J J J (Yk pV) pV))<|r0' J J (st1 5 J (Yb (i:=6) J J J Qg Ye J J))<|r0' J J (st1 5 J (Yb (i:=2) J J J Qg Ye J J))<|r1' J (Ob (n:=6) (i:=5) (Eg _ _ _ (c3 _) hx (c4 _)) J J J K3 call153 J (by decide) Ze J hw J) fun _ _=>r1' J (Ob (n:=6) (i:=5) (Znf _ _ _ (by rw [hg1 (by omega)];exact c6 i) (c4 _) (by rw [hg1 (by omega)];exact c7 i)) J J J K3 call159 J (by decide) Ze J hw J) fun _ _=>r0' J J (st1 5 J (Xf (ii:=71) (i:=i) J J J J (Yk pV) Qi Ye J))<|r3' J (Ih (i:=71) (enc:=wv) _ J J J J J J pV J hw) fun _ _=>Py<|Za<|Zg<|mv J<|mv J<|dt (Yu J J J ⟨by omega,by omega⟩)<|dt (Yb (i:=6) J J J Qg Ye J J)<|dt (Yb (i:=3) J J J Qg Ye J J)<|tt (Ob (n:=6) (i:=5) (Eg _ _ _ (c3 _) hy (c5 _)) J J J K3 call153 J (by decide) Ze J hw trivial) J fun _ _=>dt (Xf (ii:=71) (i:=(i+1)) J J J J (Yk pV) Qi Ye (by omega) (by rw [List.length_set];omega)) ?_
        exact tt (Ih (i:=71) (enc:=wv) _ J J J J J J pV J hw (by decide) (by rw [List.length_set];omega)) J fun _ _=>Zf<|Og<|Za<|Zg<|dt (Yu J J J ⟨by omega,by omega⟩)<|mv J<|Zf<|Xq (i+1) (by first | omega | (dsimp only<;>omega)) (by first | omega | (dsimp only<;>omega)) K11 ⟨by rw [←cnx_set (by omega)];rfl,rfl,rfl,rfl,rfl,rfl,rfl,rfl,rfl,trivial⟩
       ·refine Yx<|Zu<|Zu<|Nc<|Za<|Zc ?_
        obtain rfl:i=(Ho xs x y z j).length:=by omega
        have hg0:(cnx (Ho xs x y z j) x y (Ho xs x y z j).length).getD 0 0=cf (Ho xs x y z j) 0*x:=Zno (by omega)
        refine Qf (fun x=>x=b_4) [(0,0),(1,0),(2,0),(3,0),(4,0),(5,0),(6,0),(7,0),(8,0),(9,1),(10,1),(11,0),(12,3)] ?_ ?_
        ·kernel_rfl
        refine r0' J J (st1 5 J (Yf J J))<|r0' J J (st1 5 J (Yf J J))<|r0' J J (st1 5 J (Xf (ii:=71) (i:=0) J J J J (Yk pV) Qi Ye J))<|r0' J J (st1 5 J (Xx (ii:=71) 0 J J J (Yk pV) pV))<|r0' J J (st1 5 J (Yf J J))<|r0' J J (st1 5 J (Yf J J))<|r0' J J (st1 5 J (Xf (ii:=1) (i:=(xs.length-2-j)) J J J J Zi Qi Ye))<|r0' J J (st1 5 J (Xx (ii:=1) 0 J J J Zi pV))<|r0' J J (st1 5 J (Yb (i:=98) J J J Qg Ye J J))<|r1' J (Ob (n:=6) (i:=5) (Eg _ _ _ (hv.sz _) (by rw [←Int.pow_succ];exact c2) (by rw [←Int.pow_succ];exact c8)) J J J K3 call153 J (by decide) Ze J hw J) fun _ _=>r1' J (Ob (n:=6) (i:=5) (Znf _ _ _ (by rw [hg0];exact c4 0) (by rw [←Int.pow_succ];exact c8) (by rw [hg0,←Int.pow_succ];exact c9)) J J J K3 call159 J (by decide) Ze J hw J) fun _ _=>r0' J J (st1 5 J (Xf (ii:=71) (i:=0) J J J J (Yk pV) Qi Ye J))<|r3' J (Ih (i:=71) (enc:=wv) _ J J J J J J pV J hw) fun _ _=>Py<|Za<|Zg<|mv J<|as_ J<|Zf<|Og<|Za<|Zg<|mv J<|dt (Qo J J J ⟨by omega,by omega⟩)<|as_ J<|Zf<|Nq (s_move 71 70 J J J J) ?_
        exact Xq (j+1,_) (by first | omega | (dsimp only<;>omega)) (by first | omega | (dsimp only<;>omega)) ⟨by rw [show(xs.length:Int)-2-((j+1:Nat):Int)=(xs.length:Int)-2-(j:Int)-1 by omega];rfl,rfl,rfl,rfl,rfl,rfl,rfl,rfl,trivial⟩ ⟨by rw [cnx_fin (by omega)];simp only [←Int.pow_succ];rfl,by rw [Int.pow_succ];rfl,rfl,rfl,rfl,rfl,rfl,rfl,trivial⟩
      ·refine Yx<|Zu<|Zu<|Nc<|Za<|Zc ?_
       obtain rfl:j=xs.length-1:=by omega
       exact Xc (Pt 70 J J pV)<|Zg<|mv J<|tt (Ob (n:=7) (i:=5) (Zao _ _ _ (cp_last hF)) J J J K2 call154 J (by decide) (Zd 70 J J J Ze) J hw trivial) J fun _ _=>dt (Ya J J J)<|dt (Ya J J J)<|as_ J<|as_ J<|Zf<|Za<|Zt<|Yl (.inl J) hsc _ _ (fun a w hs=>Ns hs results141 J J) J trivial J (Yh 7 J J J (by unfold Az;rw [if_neg (by omega)]<;>rfl) Zk)
theorem Zml(v u:Value)(xs ys:List Int)(hv:Vp xs)(hu:Vp ys)(F:Nat)(hg:¬Zov xs ys)(hok:eok F (gA xs ys) (gB xs ys)):Cal prog 110 #[v,u] [slp 2 wv v xs,slp 2 wv u ys] true (G:=Value) (fun r=>True) (fun r=> .tuple #[r,.int .i64 0]) (fun r=>[slp 2 wv r (Hc F xs ys)]):=by
 refine Yd func110 J ntmps110 J K2 ?_
 intro w0 sc hw hsc
 simp only [Zq,Zp]
 have hlen:=hv.len
 have hlen2:=hu.len
 have hm1:=Oo hv.sz
 have hm2:=Oo hu.sz
 have hpx:=Ym xs
 have hpy:=Ym ys
 have hN2:(max xs.length ys.length+2)*(max xs.length ys.length+2)≤27*27:=Nat.mul_le_mul (by omega) (by omega)
 have hN3:(max xs.length ys.length+2)*(max xs.length ys.length+2)*(max (msz xs) (msz ys)+8)≤27*27*65544:=Nat.mul_le_mul hN2 (by omega)
 have hN4:(max (xs.length:Int) (ys.length:Int)+2)*(max (xs.length:Int) (ys.length:Int)+2)=(((max xs.length ys.length+2)*(max xs.length ys.length+2):Nat):Int):=by rw [Int.natCast_mul,show(((max xs.length ys.length+2):Nat):Int)=(max (xs.length:Int) (ys.length:Int)+2) by omega]
 have hN5:(max (xs.length:Int) (ys.length:Int)+2)*(max (xs.length:Int) (ys.length:Int)+2)*(max (msz xs:Int) (msz ys:Int)+8)=(((max xs.length ys.length+2)*(max xs.length ys.length+2)*(max (msz xs) (msz ys)+8):Nat):Int):=by rw [hN4,Int.natCast_mul ((max xs.length ys.length+2)*(max xs.length ys.length+2)),show((max (msz xs) (msz ys)+8:Nat):Int)=max (msz xs:Int) (msz ys:Int)+8 by omega]
 refine Zc<|Zg<|as_ J<|as_ J<|Zf<|Za<|Zc<|Zc<|Zg<|mv J<|tt (Zh (n:=2) (Xm _ _ ‹_›) J J J K1 Zes (Zd 1 J J J Ze) J hw) J fun _ _=>dt (Yr J J)<|mv J<|gdt (Yf J J) J J<|gtt (Zh (n:=2) (Xm _ _ ‹_›) J J J K1 Zes (Zd 2 J J J Ze) J hw) J J J fun _ _=>gdt (Yr J J) J J<|dt (Zo J J J)<|Zf<|Za<|Zw J<|Zj<|Za<|Zc<|Zc<|Zg<|mv J<|dt (Yc J J (i:=1) J Zi Qi)<|mv J<|dt (Yc J J (i:=2) J Zi Qi)<|dt (Zsw J J J)<|dt (Yu J J J ⟨by omega,by omega⟩)<|as_ J<|Zf<|Za<|Dc [(0,_),(1,_)] [(0,_),(1,_),(2,_)] (fun(_:Unit)=>[(46,.bool (decide (Zov xs ys)))]) (fun(_:Unit)=>[]) (fun(_:Unit)=>True) K2 K3 ?_ ?_
 ·refine Zg<|mv J<|dt (Yc J J (i:=1) J Zi Qi)<|dt (Qr J J J)<|mv J<|Qp (d:=29) J (fun s371=>?_) (fun s371=>?_)
  ·refine gdt (Yf J J) J J<|gdt (Yc J J (i:=2) J Zi Qi) J J<|gdt (Qr J J J) J J<|dt (Yi J J J)<|mv J<|Qp (d:=34) J (fun s371_2=>?_) (fun s371_2=>?_)
   ·exact gdt (Yf J J) J J<|gdt (Yf J J) J J<|gdt (Cf J J J (by rw [hN4];exact⟨by omega,by omega⟩)) J J<|gdt (Yf J J) J J<|gtt (Zh (n:=2) (Nl _ _ (by first | exact hv.sz | exact hu.sz)) J J J K1 Af (Zd 1 J J J Ze) J hw) J J J fun _ _=>gdt (Yf J J) J J<|gtt (Zh (n:=2) (Nl _ _ (by first | exact hv.sz | exact hu.sz)) J J J K1 Af (Zd 2 J J J Ze) J hw) J J J fun _ _=>gdt (Zsw J J J) J J<|gdt (Yu J J J ⟨by omega,by omega⟩) J J<|gdt (Cf J J J (by rw [hN5];exact⟨by omega,by omega⟩)) J J<|gdt (Qr J J J) J J<|dt (Yi J J J)<|Zf<|Qz () trivial ⟨by first | (rw [hN5];exact congrArg some (congrArg Value.bool (decide_eq_decide.2 ⟨fun h=>⟨by omega,by omega,by omega⟩,fun h=>by have:=h.2.2;omega⟩))) | exact congrArg some (congrArg Value.bool (decide_eq_false (fun h=>by have h1:=h.1;have h2:=h.2.1;omega)).symm),rfl,rfl,trivial⟩ K3
   ·exact gsk J J J<|gsk J J J<|gsk J J J<|gsk J J J<|gsk J J J<|gsk J J J<|gsk J J J<|gsk J J J<|gsk J J J<|gsk J J J<|gsk J J J<|dt (Zo J J J)<|Zf<|Qz () trivial ⟨by first | (rw [hN5];exact congrArg some (congrArg Value.bool (decide_eq_decide.2 ⟨fun h=>⟨by omega,by omega,by omega⟩,fun h=>by have:=h.2.2;omega⟩))) | exact congrArg some (congrArg Value.bool (decide_eq_false (fun h=>by have h1:=h.1;have h2:=h.2.1;omega)).symm),rfl,rfl,trivial⟩ K3
  ·exact gsk J J J<|gsk J J J<|gsk J J J<|dt (Zo J J J)<|mv J<|gsk J J J<|gsk J J J<|gsk J J J<|gsk J J J<|gsk J J J<|gsk J J J<|gsk J J J<|gsk J J J<|gsk J J J<|gsk J J J<|gsk J J J<|dt (Zo J J J)<|Zf<|Qz () trivial ⟨by first | (rw [hN5];exact congrArg some (congrArg Value.bool (decide_eq_decide.2 ⟨fun h=>⟨by omega,by omega,by omega⟩,fun h=>by have:=h.2.2;omega⟩))) | exact congrArg some (congrArg Value.bool (decide_eq_false (fun h=>by have h1:=h.1;have h2:=h.2.1;omega)).symm),rfl,rfl,trivial⟩ K3
 ·rintro _ -
  simp only [CA,NA]
  refine Zr J (fun h371=>?_) (fun h371=>?_)
  ·exfalso;exact hg h371
  ·refine Zj<|Za<|Zc<|Zg<|mv J<|tt (Zh (n:=3) (Nz _ _ hv) J J J K1 call150 (Zd 1 J J J Ze) J hw) J fun _ _=>mv J<|dt (Ya J J J)<|dt (Ya J J J)<|as_ J<|as_ J<|Zf<|Za<|Zc<|Zc<|Zg<|mv J<|dt (Xo J J J)<|Zf<|Za<|Zr J (fun h375=>?_) (fun h375=>?_)
   ·exfalso;exact h375 rfl
   ·refine Zj<|Za<|Zc<|Zg<|mv J<|tt (Zh (n:=4) (Nz _ _ hu) J J J K1 call150 (Zd 2 J J J Ze) J hw) J fun _ _=>mv J<|dt (Ya J J J)<|dt (Ya J J J)<|as_ J<|as_ J<|Zf<|Za<|Zc<|Zc<|Zg<|mv J<|dt (Xo J J J)<|Zf<|Za<|Zr J (fun h379=>?_) (fun h379=>?_)
    ·exfalso;exact h379 rfl
    ·refine Zj<|Za<|Dc [] [(0,_),(1,_),(2,_),(3,_),(4,_)] (fun(q:Value×Value)=>[(7,q.1),(9,q.2)]) (fun(q:Value×Value)=>[(80,slp 2 wv q.1 (gA xs ys)),(81,slp 2 wv q.2 (gB xs ys))]) (fun(q:Value×Value)=>True) trivial K5 ?_ ?_
     ·refine Zc<|Zg<|mv J<|dt (Yc J J (i:=3) J Zi Qi)<|mv J<|dt (Yc J J (i:=4) J Zi Qi)<|dt (Qd J J J)<|Zf<|Za<|Zr J (fun h382=>?_) (fun h382=>?_)
      ·exact Zg<|mv J<|mv J<|as_ J<|as_ J<|Zf<|Nq (Kt 4 80 J J J)<|Nq (Kt 3 81 J J J)<|Qz (_,_) trivial K2 ⟨by unfold gA;first | rw [if_pos (by omega)];rfl | rw [if_neg (by omega)];rfl,by unfold gB;first | rw [if_pos (by omega)];rfl | rw [if_neg (by omega)];rfl,rfl,rfl,rfl,rfl,rfl,trivial⟩
      ·exact Zj<|Nq (Kt 3 80 J J J)<|Nq (Kt 4 81 J J J)<|Qz (_,_) trivial K2 ⟨by unfold gA;first | rw [if_pos (by omega)];rfl | rw [if_neg (by omega)];rfl,by unfold gB;first | rw [if_pos (by omega)];rfl | rw [if_neg (by omega)];rfl,rfl,rfl,rfl,rfl,rfl,trivial⟩
     ·rintro⟨va,vb⟩ -
      simp only [CA,NA]
      refine Zc<|Zm<|Mm [] [(0,_),(1,_),(2,_),(3,_),(4,_)] (fun(q:Value×Value×List Int×List Int×Nat)=>[(7,q.1),(9,q.2.1)]) (fun(q:Value×Value×List Int×List Int×Nat)=>[(80,slp 2 wv q.1 q.2.2.1),(81,slp 2 wv q.2.1 q.2.2.2.1)]) (fun(q:Value×Value×List Int×List Int×Nat)=>(Vp q.2.2.1)∧(Vp q.2.2.2.1)∧(eok q.2.2.2.2 q.2.2.1 q.2.2.2.1)∧(eu q.2.2.2.2 q.2.2.1 q.2.2.2.1=eu F (gA xs ys) (gB xs ys))) (fun(q:Value×Value×List Int×List Int×Nat)=>q.2.2.2.2) (va,vb,gA xs ys,gB xs ys,F) ⟨vp_gA hv hu,vp_gB hv hu,hok,J⟩ K2 K7 ?_
      rintro⟨va,vb,a,b,f⟩ ⟨hva,hvb,hok0,heu⟩
      dsimp only at hva hvb hok0 heu
      simp only [CA,NA]
      refine Zc<|Zc<|Zg<|mv J<|dt (Yc J J (i:=81) J Zi Qi)<|dt (Qr J J J)<|Zf<|Za<|Zr J (fun h385=>?_) (fun h385=>?_)
      ·have hbn:b≠[]:=fun e=>by rw [e]at h385;simp at h385
       obtain⟨f1,rfl,hde,hok1,heu1⟩:=Zv5 hok0 hbn
       refine Zj<|Za<|Zm<|Zc<|Zg<|mv J<|mv J<|tt (Zh (n:=5) (Zil _ _ _ _ hva hvb hde) J J J K2 call155 (Zd 80 J J J (Zd 81 J J J Ze)) J hw) J fun _ _=>mv J<|dt (Ya J J J)<|dt (Ya J J J)<|as_ J<|as_ J<|Zf<|Za<|Zc<|Zc<|Zg<|mv J<|dt (Xo J J J)<|Zf<|Za<|Zr J (fun h387=>?_) (fun h387=>?_)
       ·exfalso;exact h387 rfl
       ·refine Zj<|Za<|Zc<|Zc<|Zg<|mv J<|tt (Zh (n:=6) (Nz _ _ (Am hva hde)) J J J K1 call150 (Zd 5 J J J Ze) J hw) J fun _ _=>mv J<|dt (Ya J J J)<|dt (Ya J J J)<|as_ J<|as_ J<|Zf<|Za<|Zc<|Zg<|mv J<|dt (Xo J J J)<|Zf<|Za<|Zr J (fun h390=>?_) (fun h390=>?_)
        ·exfalso;exact h390 rfl
        ·exact Zj<|Za<|Zg<|mv J<|mv J<|as_ J<|as_ J<|Zf<|Og<|Nq (Kt 81 80 J J J)<|Nq (Kt 6 81 J J J)<|Xq (_,_,b,Xg (Pz a b),f1) ⟨hvb,Ku (Am hva hde),hok1,by rw [←heu1];exact heu⟩ (Nat.lt_succ_self f1) K2 K7
      ·obtain rfl:b=[]:=List.eq_nil_of_length_eq_zero (by omega)
       rw [Zf0]at heu
       have hal:=hva.len
       refine Yx<|Zu<|Zu<|Nc<|Za<|Zc<|Zc<|Zg<|mv J<|dt (Yc J J (i:=80) J Zi Qi)<|dt (Qr J J J)<|mv J<|Qp (d:=95) J (fun s395=>?_) (fun s395=>?_)
       ·refine gdt (Yf J J) J J<|gdt (Yf J J) J J<|gdt (Yc J J (i:=80) J Zi Qi) J J<|gdt (Qo J J J ⟨by omega,by omega⟩) J J<|gdt (Xf (ii:=80) (i:=(a.length-1)) J J J J Zi Qi Ye) J J<|gdt (Xx (ii:=80) 0 J J J Zi pV) J J<|gtt (Zh (n:=6) (Mg _ (hva.sz _)) J J J K1 call104 Ze J hw) J J J fun _ _=>gdt (Qd J J J) J J<|dt (Yi J J J)<|Zf<|Za<|Zr J (fun h395=>?_) (fun h395=>?_)
        ·have hneg:a.length≠0∧cf a (a.length-1)<0:=⟨by omega,(Ph _).1 h395⟩
         exact Zc<|Zg<|mv J<|tt (Zh (n:=6) (Xb (-1) (by first | assumption | exact⟨by omega,by omega⟩)) J J J K1 Bg Ze J hw) J fun _ _=>tt (Zh (n:=7) (Fy _ _ (-1) hva (by decide) (Ag hva.sz)) J J J K2 call151 (Zd 80 J J J Ze) J hw) J fun _ _=>dt (Ya J J J)<|dt (Ya J J J)<|as_ J<|as_ J<|Zf<|Za<|Zt<|Ys<|Yl (.inl J) hsc _ _ (fun a w hs=>Ns hs results110 J J) J trivial J (Yh 7 J J J (by unfold Hc Gb;rw [←heu,if_pos hneg]<;>rfl) Zk)
        ·refine Zj<|Za<|Zc<|Zg<|mv J<|as_ J<|as_ J<|Zf<|Za<|Zt ?_
         have hneg:¬(a.length≠0∧cf a (a.length-1)<0):=fun h=>by first | omega | exact absurd ((Ph (cf a (a.length-1))).2 h.2) ‹_›
         exact Yl (.inl J) hsc _ _ (fun a w hs=>Ns hs results110 J J) J trivial J (Yh 80 J J J (by unfold Hc Gb;rw [←heu,if_neg hneg]<;>rfl) Zk)
       ·refine gsk J J J<|gsk J J J<|gsk J J J<|gsk J J J<|gsk J J J<|gsk J J J<|gsk J J J<|gsk J J J<|dt (Zo J J J)<|Zf<|Za<|Zw J<|Zj<|Za<|Zc<|Zg<|mv J<|as_ J<|as_ J<|Zf<|Za<|Zt ?_
        have hneg:¬(a.length≠0∧cf a (a.length-1)<0):=fun h=>by first | omega | exact absurd ((Ph (cf a (a.length-1))).2 h.2) ‹_›
        exact Yl (.inl J) hsc _ _ (fun a w hs=>Ns hs results110 J J) J trivial J (Yh 80 J J J (by unfold Hc Gb;rw [←heu,if_neg hneg]<;>rfl) Zk)
theorem poly_of(v:Value)(l:List Int)(hl:∀x∈l,inI x)(hlen:l.length≤1000):Cal prog 108 #[v] [slp 1 Zb6 v l] true (G:=Value) (fun r=>True) (fun r=> .tuple #[r,.int .i64 (if 25<(tzl l).length then 7 else 0)]) (fun r=>[slp 2 wv r (if 25<(tzl l).length then []else tzl l)]):=by
 refine Yd func108 J ntmps108 J K1 ?_
 intro w0 sc hw hsc
 simp only [Zq,Zp]
 have hsz:=Zdf hl
 refine Zc<|Zg<|as_ J<|as_ J<|Zf<|Za<|Zc<|Zg<|as_ J<|Zf<|Za<|Zc<|Zc<|Zg<|mv J<|dt (Yc J J (i:=1) J Zi Lc)<|mv J<|Zf<|Za<|Zm<|Xc (Nt 70 2 31 wv)<|Mm [(7,_),(8,_)] [(0,_),(1,_)] (fun(q:Nat×Value)=>[(9,.int .i64 (q.1:Int)),(4,q.2)]) (fun(q:Nat×Value)=>[(70,osl 2 31 wv q.2 (l.take q.1))]) (fun(q:Nat×Value)=>q.1≤l.length) (fun(q:Nat×Value)=>l.length-q.1) (0,.slice none 0 0) (by first | omega | (dsimp only<;>omega)) K4 K3 ?_
 rintro⟨k,vo⟩ hk
 dsimp only at hk
 simp only [CA,NA]
 have hlk:(l.take k).length=k:=by rw [List.length_take];omega
 refine Zc<|Zg<|dt (Qd J J J)<|Zf<|Za<|Zc<|Zr J (fun h62=>?_) (fun h62=>?_)
 ·exact Zj<|Za<|Zc<|Zm<|Zc<|Zg<|dt (Xf (ii:=1) J J J J Zi Lc zT3 J (by first | omega | (simp only [List.length_set];omega)))<|dt (Xx (ii:=1) 0 J J J Zi pZ (by first | omega | (simp only [List.length_set];omega)))<|as_ J<|Zf<|Za<|Zg<|mv J<|mv J<|tt (Zh (n:=1) (Xb _ (hl _ (Pu))) J J J K1 Bg Ze J hw) J fun _ _=>tt (Ps (i:=2) (ivs:=[(0,_)]) (enc:=wv) [l.getD k 0] J J K2 Qi ti31 J J J J J pV.cells J J hw) J fun v _=>tt (Hw (i:=70) (j:=2) (by_:=24) J J J J J J (by decide) J (Yk pV) Qi ti31 J pV J J J (by simp;omega) (by decide) J hw) J fun v_2 _=>as_ J<|Zf<|Og<|Za<|Zg<|dt (Yu J J J ⟨by omega,by omega⟩)<|mv J<|Zf<|Xq (k+1,_) (by first | omega | (dsimp only<;>omega)) (by first | omega | (dsimp only<;>omega)) K4 ⟨by rw [On 0 _ _ (by omega)];rfl,rfl,rfl,trivial⟩
 ·refine Yx<|Zu<|Zu<|Nc<|Za<|Zc ?_
  obtain rfl:k=l.length:=by omega
  rw [List.take_length]
  refine Xc (Pt 70 J J pV)<|Zg<|mv J<|tt (Zh (n:=3) (Ax _ _ hsz) J J J K1 call152 (Zd 70 J J J Ze) J hw) J fun _ _=>as_ J<|Zf<|Za<|Zc<|Zc<|Zg<|mv J<|dt (Yc J J (i:=3) J Zi Qi)<|dt (Qr J J J)<|Zf<|Za<|Zr J (fun h66=>?_) (fun h66=>?_)
  ·refine Zc<|Zg<|as_ J<|as_ J<|Zf<|Za<|Zt<|Ys ?_
   have h25:25<(tzl l).length:=by omega
   exact Yl (.inl J) hsc _ _ (fun a w hs=>Ns hs results108 J J) (by rw [if_pos h25]) trivial J (My (if_pos h25) Zk)
  ·refine Zj<|Za<|Zc<|Zg<|mv J<|as_ J<|as_ J<|Zf<|Za<|Zt ?_
   have h25:¬25<(tzl l).length:=by omega
   exact Yl (.inl J) hsc _ _ (fun a w hs=>Ns hs results108 J J) (by rw [if_neg h25]<;>rfl) trivial J (Yh 3 J J J (by rw [if_neg h25]<;>rfl) Zk)
end Go.Sky

