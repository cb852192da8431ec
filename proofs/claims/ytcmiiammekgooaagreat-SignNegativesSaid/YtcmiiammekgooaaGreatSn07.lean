/- rules, arithmetic and contracts: part 8
   Proved without conditions of its own: each theorem bears its own. -/
import Derived.Test.YtcmiiammekgooaaGreatSn03
import Derived.Test.YtcmiiammekgooaaGreatSn02
import Derived.Test.YtcmiiammekgooaaGreatSn01
import Derived.Test.YtcmiiammekgooaaGreatSn06
set_option linter.all false
namespace Go.Sky
open Go.Proofs.Tryz
open Go.Proofs
set_option maxRecDepth 20000
set_option maxHeartbeats 4000000
set_option linter.unusedSimpArgs false
theorem Za1(v u:Value)(xs ys:List Int)(hv:Vp xs)(hu:Vp ys):Mb prog 156 #[v,u] [slp 2 wv v xs,slp 2 wv u ys] (.tuple #[.bool (dlow xs ys),.int .i64 (Zdy xs ys)]):=by
 refine Yd func156 J ntmps156 J K2 ?_
 intro w0 sc hw hsc
 simp only [Zq,Zp]
 have hlen:=hv.len
 have hlen2:=hu.len
 have hm1:=Pz hv.sz
 have hm2:=Pz hu.sz
 refine Ze<|Zg<|as_ J<|as_ J<|Zf<|Za<|Ze<|Zo<|Ze<|Zg<|mv J<|tt (Zh (n:=2) (Xz _ _ ‹_›) J J J K1 Zfo (Zc 1 J J J Zd) J hw) fun _ _=>dt (Xh J J)<|mv J<|gdt (Yr J J) J J<|gtt (Zh (n:=2) (Xz _ _ ‹_›) J J J K1 Zfo (Zc 2 J J J Zd) J hw) J J J fun _ _=>gdt (Xh J J) J J<|dt (Yg J J J)<|as_ J<|Zf<|Za<|Yi J<|Ze<|Zg<|mv J<|dt (Yh J J (i:=2) J Zi Qx)<|dt (Pv J J J)<|as_ J<|Zf<|Za<|Zs J (fun h297=>?_) (fun h297=>?_)
 ·exact Ze<|Zg<|as_ J<|as_ J<|Zf<|Za<|Zw<|Iw<|Xa<|Zy (.inl J) hsc () _ (fun a w hs=>Nr hs results156 J J) (by unfold Zdy dlow;rw [if_pos (by omega),List.eq_nil_of_length_eq_zero (l:=ys) (by omega)];rfl) trivial J Zj
 ·refine Ze<|Zg<|mv J<|dt (Yh J J (i:=1) J Zi Qx)<|mv J<|dt (Yh J J (i:=2) J Zi Qx)<|dt (Xv J J J)<|as_ J<|Zf<|Za<|Zs J (fun h299=>?_) (fun h299=>?_)
  ·exact Ze<|Zg<|as_ J<|as_ J<|Zf<|Za<|Zw<|Iw<|Xa<|Zy (.inl J) hsc () _ (fun a w hs=>Nr hs results156 J J) (by rw [Zfe (by omega),decide_eq_true (by omega)];unfold Zdy;rw [if_neg (by omega),if_pos (by omega)]) trivial J Zj
  ·have hp3:(xs.length-ys.length+1)*(msz ys+1)≤26*65537:=Nat.mul_le_mul (by omega) (by omega)
   have hp4:((xs.length:Int)-(ys.length:Int)+1)*((msz ys:Int)+1)=(((xs.length-ys.length+1)*(msz ys+1):Nat):Int):=by rw [Int.natCast_mul];congr 1;omega
   refine Ze<|Zg<|mv J<|tt (Zh (n:=2) (Nz _ _ (by first | exact hv.sz | exact hu.sz)) J J J K1 Zac (Zc 1 J J J Zd) J hw) fun _ _=>mv J<|dt (Yh J J (i:=1) J Zi Qx)<|mv J<|dt (Yh J J (i:=2) J Zi Qx)<|dt (Qf J J J ⟨by omega,by omega⟩)<|dt (Yy J J J ⟨by omega,by omega⟩)<|mv J<|tt (Zh (n:=2) (Nz _ _ (by first | exact hv.sz | exact hu.sz)) J J J K1 Zac (Zc 2 J J J Zd) J hw) fun _ _=>dt (Yy J J J ⟨by omega,by omega⟩)<|dt (Cb J J J (by rw [hp4];exact⟨by omega,by omega⟩))<|dt (Yy J J J (by rw [hp4];exact⟨by omega,by omega⟩))<|dt (Of J J J)<|as_ J<|Zf<|Za<|Zs J (fun h301=>?_) (fun h301=>?_)
   ·exact Ze<|Zg<|as_ J<|as_ J<|Zf<|Za<|Zw<|Iw<|Xa<|Zy (.inl J) hsc () _ (fun a w hs=>Nr hs results156 J J) (by rw [hp4]at h301;rw [Zfe (by omega),decide_eq_false (by omega)];unfold Zdy;rw [if_neg (by omega),if_neg (by omega),if_pos (by omega)]) trivial J Zj
   ·exact Zl<|Oe<|Za<|Ze<|Zg<|as_ J<|as_ J<|Zf<|Za<|Zw<|Zy (.inl J) hsc () _ (fun a w hs=>Nr hs results156 J J) (by rw [hp4]at h301;rw [Zfe (by omega),decide_eq_false (by omega)];unfold Zdy;rw [if_neg (by omega),if_neg (by omega),if_neg (by omega)]) trivial J Zj
theorem Zj2(v u:Value)(xs ys:List Int)(hv:Vp xs)(hu:Vp ys)(hd:Zdy xs ys=0):Cal prog 155 #[v,u] [slp 2 wv v xs,slp 2 wv u ys] true (G:=Value) (fun r=>True) (fun r=> .tuple #[r,.int .i64 0]) (fun r=>[slp 2 wv r (Pp xs ys)]):=by
 refine Yd func155 J ntmps155 J K2 ?_
 intro w0 sc hw hsc
 simp only [Zq,Zp]
 have hlen:=hv.len
 have hlen2:=hu.len
 have hm1:=Pz hv.sz
 have hm2:=Pz hu.sz
 obtain⟨hm0,hF0⟩:=Zaa hd
 have hdl:=Zfe (p:=xs) hm0
 refine Ze<|Zg<|as_ J<|as_ J<|Zf<|Za<|Ze<|Zg<|mv J<|mv J<|tt (Zh (n:=2) (Za1 _ _ _ _ hv hu) J J J K2 call156 (Zc 1 J J J (Zc 2 J J J Zd)) J hw) fun _ _=>mv J<|dt (Yl J J J)<|dt (Yl J J J)<|as_ J<|as_ J<|Zf<|Za<|Ze<|Ze<|Zg<|mv J<|dt (Qc J J J)<|Zf<|Za<|Zs J (fun h310=>?_) (fun h310=>?_)
 ·exfalso;exact h310 hd
 ·refine Zl<|Za<|Ze<|Zg<|mv J<|tt (Zlk (n:=3) (Zux _ _) J J J K1 call157 (Zc 1 J J J Zd) J hw) fun v _=>as_ J<|Zf<|Za<|Ze<|Ze<|Zg<|mv J<|Zf<|Za<|La J (fun h314=>?_) (fun h314=>?_)
  ·have hlt:xs.length<ys.length:=by rw [hdl]at h314;simpa using h314
   exact Ze<|Zg<|mv J<|as_ J<|as_ J<|Zf<|Za<|Zw<|Xa<|Zy (.inl J) hsc _ _ (fun a w hs=>Nr hs results155 J J) J trivial J (Ob 3 J J pV (by unfold Pp;rw [if_pos hlt]) Zj)
  ·have hge:ys.length≤xs.length:=by rw [hdl]at h314;simpa using h314
   have hF:=hF0 hge
   refine Zl<|Za<|Ze<|Zg<|tt (Zr (i:=4) J J zeroValue167 J J hw) fun b _=>Zf<|Za<|Ze<|Zg<|mv J<|mv J<|dt (Yh J J (i:=2) J Zi Qx)<|dt (Qf J J J ⟨by omega,by omega⟩)<|dt (Xc (ii:=2) (i:=(ys.length-1)) J J J J Zi Qx Yo)<|dt (Xs (ii:=2) 0 J J J Zi pV)<|tt (Zr (i:=5) J J zeroValue31 J J hw) fun b_2 _=>tt (Zm (i:=5) J J J J J (by decide) J Yo J J ⟨Zb J,Zb J,trivial⟩ J hw trivial) fun _ _=>Zf<|Za<|Ze<|Ze<|Zg<|mv J<|dt (Yh J J (i:=1) J Zi Qx)<|dt (Qf J J J ⟨by omega,by omega⟩)<|as_ J<|Zf<|Za<|Zo<|Nw [(1,_),(8,_),(9,_),(10,_)] [(0,_),(1,_),(2,_),(4,_),(5,_)] (fun(j:Nat)=>[(11,.int .i64 ((xs.length:Int)-1-(j:Int)))]) (fun(j:Nat)=>[(3,osl 2 31 wv v (Pi xs ys j))]) (fun(j:Nat)=>j≤xs.length-ys.length+1) (fun(j:Nat)=>xs.length-ys.length+1-j) 0 (by first | omega | (dsimp only<;>omega)) ⟨by rw [show(xs.length:Int)-1-((0:Nat):Int)=(xs.length:Int)-1 by omega];rfl,rfl,rfl,rfl,rfl,trivial⟩ K6 ?_
   rintro j hj
   simp only [CA,NA]
   refine Ze<|Ze<|Zg<|mv J<|mv J<|dt (Yh J J (i:=2) J Zi Qx)<|dt (Qf J J J ⟨by omega,by omega⟩)<|dt (Ke J J J)<|Zf<|Za<|Zs J (fun h319=>?_) (fun h319=>?_)
   ·obtain⟨hb1,hb2,hb3⟩:=rest_b hF (j:=j) (by omega)
    have hRl:=Pf xs ys j
    refine Zl<|Za<|Ze<|Zo<|Ze<|Zg<|mv J<|mv J<|dt (Xc (ii:=3) (i:=(xs.length-1-j)) J J J J (Yt pV) Qx Yo)<|dt (Xs (ii:=3) 0 J J J (Yt pV) pV)<|tt (Zr (i:=6) J J zeroValue31 J J hw) fun b_3 _=>tt (Zm (i:=6) J J J J J (by decide) J Yo J J ⟨Zb J,Zb J,trivial⟩ J hw trivial) fun _ _=>Zf<|Za<|Ze<|Ze<|Zg<|mv J<|dt (Yh J J (i:=3) J (Yt pV) Qx)<|mv J<|Zf<|Za<|Zo<|Nw [(1,_),(8,_),(9,_),(10,_),(11,_),(12,_),(51,_)] [(0,_),(1,_),(2,_),(4,_),(5,_),(6,_)] (fun(i:Nat)=>[(52,.int .i64 (i:Int))]) (fun(i:Nat)=>[(3,osl 2 31 wv v (Zqp (Pi xs ys j) (cf ys (ys.length-1)) i))]) (fun(i:Nat)=>i≤xs.length) (fun(i:Nat)=>xs.length-i) 0 (by first | omega | (dsimp only<;>omega)) K8 ⟨by rw [Zs6];rfl,rfl,rfl,rfl,rfl,rfl,rfl,trivial⟩ ?_
    rintro i hi
    simp only [CA,NA]
    have hg1:i<xs.length→(Zqp (Pi xs ys j) (cf ys (ys.length-1)) i).getD i 0=cf (Pi xs ys j) i:=fun h=>Zxt (by omega)
    have hl1:=Zmi (Pi xs ys j) (cf ys (ys.length-1)) i
    refine Ze<|Zg<|dt (Xv J J J)<|Zf<|Za<|Ze<|Zs J (fun h322=>?_) (fun h322=>?_)
    ·refine Zl<|Za<|Ze<|Zo<|Ze<|Zg<|mv J<|as_ J<|Zf<|Za<|Qo (fun x=>x=b) [(0,0),(1,0),(2,0),(3,0),(4,0),(5,0),(6,0),(7,1),(8,0),(9,3)] ?_ ?_
     ·kernel_rfl
     exact r0' J J (st1 4 J (Yr J J))<|r0' J J (st1 4 J (Yr J J))<|r0' J J (st1 4 J (Yr J J))<|r0' J J (st1 4 J (Yr J J))<|r0' J J (st1 4 J (Xc (ii:=3) (i:=i) J J J J (Yt pV) Qx Yo J))<|r0' J J (st1 4 J (Xs (ii:=3) 0 J J J (Yt pV) pV))<|r0' J J (st1 4 J (Ya (i:=5) J J J Qr Yo J J))<|r1' J (Oo (n:=6) (i:=4) (Db _ _ _ (by rw [hg1 (by omega)];exact hb1 _) (hu.sz _) (by rw [hg1 (by omega)];exact hb2 _ _)) J J J K3 call153 J (by decide) Zd J hw J) fun _ _=>r0' J J (st1 4 J (Xc (ii:=3) (i:=i) J J J J (Yt pV) Qx Yo J))<|r3' J (Ij (i:=3) (enc:=wv) _ J J J J J J pV J hw) fun _ _=>Oh<|Oe<|Za<|Zg<|dt (Yy J J J ⟨by omega,by omega⟩)<|mv J<|Zf<|Xp (i+1) (by first | omega | (dsimp only<;>omega)) (by first | omega | (dsimp only<;>omega)) K8 ⟨by rw [←Zxs (by omega),←hg1 (by omega)];rfl,rfl,rfl,rfl,rfl,rfl,rfl,trivial⟩
    ·refine Yw<|Zx<|Zx<|Na<|Za<|Ze ?_
     obtain rfl:i=xs.length:=by omega
     refine Zg<|mv J<|dt (Yh J J (i:=2) J Zi Qx)<|mv J<|Zf<|Za<|Zo<|Nw [(1,_),(8,_),(9,_),(10,_),(11,_),(12,_),(65,_),(66,_)] [(0,_),(1,_),(2,_),(4,_),(5,_),(6,_)] (fun(i:Nat)=>[(67,.int .i64 (i:Int))]) (fun(i:Nat)=>[(3,osl 2 31 wv v (Zvo ys (Pi xs ys j) (cf ys (ys.length-1)) (cf (Pi xs ys j) (xs.length-1-j)) (xs.length-1-j-(ys.length-1)) i))]) (fun(i:Nat)=>i≤ys.length) (fun(i:Nat)=>ys.length-i) 0 (by first | omega | (dsimp only<;>omega)) K9 ⟨by rw [←Zrd,hRl];rfl,rfl,rfl,rfl,rfl,rfl,rfl,trivial⟩ ?_
     rintro i hi
     simp only [CA,NA]
     have hg2:i<ys.length→(Zvo ys (Pi xs ys j) (cf ys (ys.length-1)) (cf (Pi xs ys j) (xs.length-1-j)) (xs.length-1-j-(ys.length-1)) i).getD ((xs.length-1-j-(ys.length-1))+i) 0=cf (Pi xs ys j) ((xs.length-1-j-(ys.length-1))+i)*(cf ys (ys.length-1)):=fun h=>Zv7 (by omega)
     have hl2:=Zmh ys (Pi xs ys j) (cf ys (ys.length-1)) (cf (Pi xs ys j) (xs.length-1-j)) (xs.length-1-j-(ys.length-1)) i
     refine Ze<|Zg<|dt (Xv J J J)<|Zf<|Za<|Ze<|Zs J (fun h325=>?_) (fun h325=>?_)
     ·refine Zl<|Za<|Ze<|Zo<|Ze<|Zg<|mv J<|dt (Xc (ii:=2) J J J J Zi Qx Yo J (by first | omega | (simp only [List.length_set];omega)))<|dt (Xs (ii:=2) 0 J J J Zi pV (by first | omega | (simp only [List.length_set];omega)))<|tt (Zr (i:=7) J J zeroValue31 J J hw) fun b_4 _=>as_ J<|tt (Zm (i:=7) J J J J J (by decide) J Yo J J ⟨Zb J,Zb J,trivial⟩ J hw trivial) fun _ _=>Zf<|Za<|Ze<|Zg<|mv J<|mv J<|dt (Yh J J (i:=2) J Zi Qx)<|dt (Qf J J J ⟨by omega,by omega⟩)<|dt (Qf J J J ⟨by omega,by omega⟩)<|mv J<|dt (Yy J J J ⟨by omega,by omega⟩)<|as_ J<|Zf<|Za<|Qo (fun x=>x=b) [(0,0),(1,0),(2,0),(3,0),(4,0),(5,0),(6,0),(7,0),(8,1),(9,1),(10,0),(11,3)] ?_ ?_
      ·kernel_rfl
      exact r0' J J (st1 4 J (Yr J J))<|r0' J J (st1 4 J (Yr J J))<|r0' J J (st1 4 J (Yr J J))<|r0' J J (st1 4 J (Yr J J))<|r0' J J (st1 4 J (Xc (ii:=3) (i:=((xs.length-1-j-(ys.length-1))+i)) J J J J (Yt pV) Qx Yo))<|r0' J J (st1 4 J (Xs (ii:=3) 0 J J J (Yt pV) pV))<|r0' J J (st1 4 J (Ya (i:=6) J J J Qr Yo J J))<|r0' J J (st1 4 J (Ya (i:=7) J J J Qr Yo J J))<|r1' J (Oo (n:=7) (i:=4) (Db _ _ _ (hb1 _) (hu.sz _) (hb2 _ _)) J J J K3 call153 J (by decide) Zd J hw J) fun _ _=>r1' J (Oo (n:=7) (i:=4) (Zuh _ _ _ (by rw [hg2 (by omega)];exact hb2 _ _) (hb2 _ _) (by rw [hg2 (by omega)];exact hb3 _ _ _ _)) J J J K3 call137 J (by decide) Zd J hw J) fun _ _=>r0' J J (st1 4 J (Xc (ii:=3) (i:=((xs.length-1-j-(ys.length-1))+i)) J J J J (Yt pV) Qx Yo))<|r3' J (Ij (i:=3) (enc:=wv) _ J J J J J J pV J hw) fun _ _=>Oh<|Oe<|Za<|Zg<|dt (Yy J J J ⟨by omega,by omega⟩)<|mv J<|Zf<|Xp (i+1) (by first | omega | (dsimp only<;>omega)) (by first | omega | (dsimp only<;>omega)) K9 ⟨by rw [←Zv6 (by omega),←hg2 (by omega)];rfl,rfl,rfl,rfl,rfl,rfl,rfl,trivial⟩
     ·refine Yw<|Zx<|Zx<|Na<|Oe<|Za<|Zg<|mv J<|dt (Qf J J J ⟨by omega,by omega⟩)<|as_ J<|Zf ?_
      obtain rfl:i=ys.length:=by omega
      exact Xp (j+1) (by first | omega | (dsimp only<;>omega)) (by first | omega | (dsimp only<;>omega)) ⟨by rw [show(xs.length:Int)-1-((j+1:Nat):Int)=(xs.length:Int)-1-(j:Int)-1 by omega];rfl,rfl,rfl,rfl,rfl,trivial⟩ ⟨by rfl,rfl,rfl,rfl,rfl,rfl,trivial⟩
   ·refine Yw<|Zx<|Zx<|Na<|Za<|Ze ?_
    obtain rfl:j=xs.length-ys.length+1:=by omega
    exact Yq (Pe 3 J J pV)<|Zg<|mv J<|tt (Oo (n:=8) (i:=4) (Zbn _ _ _ (Znk hF)) J J J K2 call154 J (by decide) (Zc 3 J J J Zd) J hw trivial) fun _ _=>dt (Yl J J J)<|dt (Yl J J J)<|as_ J<|as_ J<|Zf<|Za<|Zw<|Zy (.inl J) hsc _ _ (fun a w hs=>Nr hs results155 J J) J trivial J (Yp 8 J J J (by unfold Pp;rw [if_neg (by omega)]<;>rfl) Zj)
theorem Ar(v u:Value)(xs ys:List Int)(hv:Vp xs)(hu:Vp ys)(hd:Zdy xs ys=0):Cal prog 111 #[v,u] [slp 2 wv v xs,slp 2 wv u ys] true (G:=Value) (fun r=>True) (fun r=> .tuple #[r,.int .i64 (if pdv xs ys then 0 else 10)]) (fun r=>[slp 2 wv r (if pdv xs ys then Kv xs ys else [])]):=by
 refine Yd func111 J ntmps111 J K2 ?_
 intro w0 sc hw hsc
 simp only [Zq,Zp]
 have hlen:=hv.len
 have hlen2:=hu.len
 have hm1:=Pz hv.sz
 have hm2:=Pz hu.sz
 obtain⟨hm0,hF0⟩:=Zaa hd
 have hdl:=Zfe (p:=xs) hm0
 have hyz:cf ys (ys.length-1)≠0:=hu.tr.mem (fun e=>hm0 (by rw [e];rfl))
 refine Ze<|Zg<|as_ J<|as_ J<|Zf<|Za<|Ze<|Zg<|mv J<|mv J<|tt (Zh (n:=2) (Za1 _ _ _ _ hv hu) J J J K2 call156 (Zc 1 J J J (Zc 2 J J J Zd)) J hw) fun _ _=>mv J<|dt (Yl J J J)<|dt (Yl J J J)<|as_ J<|as_ J<|Zf<|Za<|Ze<|Zo<|Ze<|Zg<|mv J<|dt (Qc J J J)<|as_ J<|Zf<|Za<|Zs J (fun h337=>?_) (fun h337=>?_)
 ·exfalso;exact h337 hd
 ·refine Ze<|Zg<|mv J<|dt (Yh J J (i:=1) J Zi Qx)<|dt (Pv J J J)<|as_ J<|Zf<|Za<|Zs J (fun h339=>?_) (fun h339=>?_)
  ·refine Ze<|Zg<|as_ J<|as_ J<|Zf<|Za<|Zw<|Iw<|Xa ?_
   have hx0:xs=[]:=List.eq_nil_of_length_eq_zero (by omega)
   have hp:pdv xs ys:= .inl hx0
   exact Zy (.inl J) hsc _ _ (fun a w hs=>Nr hs results111 J J) (by rw [if_pos hp]) trivial J (Ln (by rw [if_pos hp,hx0];rfl) Zj)
  ·have hnx:xs≠[]:=fun e=>by rw [e]at h339;simp at h339
   refine Ze<|Zg<|mv J<|as_ J<|Zf<|Za<|La J (fun h341=>?_) (fun h341=>?_)
   ·have hlt:xs.length<ys.length:=by rw [hdl]at h341;simpa using h341
    refine Ze<|Zg<|as_ J<|as_ J<|Zf<|Za<|Zw<|Iw<|Xa ?_
    have hp:¬pdv xs ys:=fun h=>by rcases h with h | h;(exact hnx h);(have:=h.1;omega)
    exact Zy (.inl J) hsc _ _ (fun a w hs=>Nr hs results111 J J) (by rw [if_neg hp]) trivial J (Ln (if_neg hp) Zj)
   ·have hge:ys.length≤xs.length:=by rw [hdl]at h341;simpa using h341
    have hF:=hF0 hge
    refine Zl<|Oe<|Za<|Ze<|Zg<|tt (Zr (i:=3) J J zeroValue167 J J hw) fun b _=>Zf<|Za<|Ze<|Zg<|mv J<|tt (Zlk (n:=4) (Zux _ _) J J J K1 call157 (Zc 1 J J J Zd) J hw) fun v _=>as_ J<|Zf<|Za<|Ze<|Zg<|mv J<|dt (Yh J J (i:=1) J Zi Qx)<|mv J<|dt (Yh J J (i:=2) J Zi Qx)<|dt (Qf J J J ⟨by omega,by omega⟩)<|dt (Yy J J J ⟨by omega,by omega⟩)<|tt (Gd (i:=5) (n:=(xs.length-ys.length+1)) (by_:=24) (enc:=wv) 0 J J J J Qx ti31 J pV.cells pV.pos J J J hw) fun v_2 _=>as_ J<|Zf<|Za<|Ze<|Ze<|Zg<|mv J<|dt (Yh J J (i:=5) J (Yt pV) Qx)<|dt (Qf J J J ⟨by simp only [List.length_replicate];omega,by simp only [List.length_replicate];omega⟩)<|as_ J<|Zf<|Za<|Zo ?_
    refine Nw [(1,_),(8,_),(9,_),(10,_)] [(0,_),(1,_),(2,_),(3,_)] (fun(j:Nat)=>[(11,.int .i64 ((xs.length:Int)-(ys.length:Int)-(j:Int)))]) (fun(j:Nat)=>[(4,osl 2 31 wv v (Qq xs ys j)),(5,osl 2 31 wv v_2 (Zkt xs ys j))]) (fun(j:Nat)=>(j≤xs.length-ys.length+1)∧(∀k,xs.length-ys.length<k+j→k≤xs.length-ys.length→Lb xs ys k)) (fun(j:Nat)=>xs.length-ys.length+1-j) 0 ⟨by first | omega | (dsimp only<;>omega),fun k h1 h2=>by omega⟩ ⟨by simp only [List.length_replicate];exact congrArg some (Ag (by omega)),rfl,rfl,rfl,rfl,trivial⟩ ⟨J,by rw [Zks];rfl,rfl,rfl,rfl,rfl,trivial⟩ ?_
    rintro j ⟨hj,hx⟩
    simp only [CA,NA]
    have hol:=Du xs ys j
    refine Ze<|Ze<|Zg<|mv J<|dt (Ke J J J)<|Zf<|Za<|Zs J (fun h347=>?_) (fun h347=>?_)
    ·obtain⟨hb1,hb5⟩:=div_b hF (j:=j) (by omega) hx
     have hRl:=Ip xs ys j
     have hi1:xs.length-ys.length-j+ys.length-1<xs.length:=by omega
     refine Zl<|Za<|Ze<|Zo<|Da [(1,_),(8,_),(9,_),(10,_),(11,_)] [(0,_),(4,_),(5,_),(1,_),(2,_),(3,_)] (fun(q:Nat×Nat)=>[(12,.pointer (some ⟨q.1,0,none⟩)),(13,.pointer (some ⟨q.2,0,none⟩)),(14,.int .i64 0)]) (fun(q:Nat×Nat)=>[(97,box q.1 31 (wc (Zg2 (dq ys (Qq xs ys j) (xs.length-ys.length-j))))),(98,box q.2 31 (wc (Zg2 (cf (Qq xs ys j) ((xs.length-ys.length-j)+ys.length-1)%cf ys (ys.length-1)))))]) (fun(q:Nat×Nat)=>True) K5 K6 ?_ ?_
     ·refine Oj [2,4] [23]<|Zu (n:=10) [(0,0),(1,0),(2,0),(3,0),(4,0),(5,0),(6,0),(7,0),(8,0),(9,0),(10,0),(11,0),(12,0),(13,0)]<|r0' J J (stf (Yr J J) K2)<|r0' J J (stf (Yr J J) K2)<|r0' J J (stf (Yr J J) K2)<|r0' J J (stf (Yh J J (i:=2) J Zi Qx) K2)<|r0' J J (stf (Yy J J J ⟨by omega,by omega⟩) K2)<|r0' J J (stf (Qf J J J ⟨by omega,by omega⟩) K2)<|r0' J J (stf (Xc (ii:=4) (i:=((xs.length-ys.length-j)+ys.length-1)) J J J J (Yt pV) Qx Yo) K2)<|r0' J J (stf (Xs (ii:=4) 0 J J J (Yt pV) pV) K2)<|r0' J J (stf (Yr J J) K2)<|r0' J J (stf (Yr J J) K2)<|r0' J J (stf (Yh J J (i:=2) J Zi Qx) K2)<|r0' J J (stf (Qf J J J ⟨by omega,by omega⟩) K2)<|r0' J J (stf (Xc (ii:=2) (i:=(ys.length-1)) J J J J Zi Qx Yo) K2)<|r0' J J (stf (Xs (ii:=2) 0 J J J Zi pV) K2)<|Yk<|Dg (n:=9) 14 19 20 ?_ ?_ ?_
      ·refine Yf J (Zh (n:=5) (Bb _ _ (hb1 _) (hu.sz _) hyz) J J J K2 call158 Zd J hw) fun _ _=>Zu (n:=5) [(15,0),(16,0),(17,0),(18,0)]<|r0' J J (stf (Yr J J) K2)<|r0' J J (stf (Yl J J J) K2)<|r0' J J (stf (Yl J J J) K2)<|r0' J J (stf (Yl J J J) K2)<|Yk<|Qp (n:=4) 19 20 ?_ ?_
       ·exact Yf J (Zn (i:=97) J J zeroValue31 J J hw K2) fun b_2 ho=>Zu (n:=0) [(20,1),(21,1),(22,1),(23,3)]<|r1' J (Zn (i:=98) J J zeroValue31 J J hw K2) fun b_3 ho2=>r1' J (Zm (i:=97) J J J J J (by decide) J Yo J J ⟨Zb J,Zb J,trivial⟩ J hw ho) fun _ _=>r1' J (Zm (i:=98) J J J J J (by decide) J Yo J J ⟨Zb J,Zb J,trivial⟩ J hw ho2) fun _ _=>r3' J (Pt (Oy J J) J) fun _ _=>Yk<|Yb<|Ql (_,_) trivial K8 K8
       ·exact Yf J (Zn (i:=98) J J zeroValue31 J J hw K2) fun b_4 ho3=>Zu (n:=0) [(19,1),(21,1),(22,1),(23,3)]<|r1' J (Zn (i:=97) J J zeroValue31 J J hw K2) fun b_5 ho4=>r1' J (Zm (i:=97) J J J J J (by decide) J Yo J J ⟨Zb J,Zb J,trivial⟩ J hw ho4) fun _ _=>r1' J (Zm (i:=98) J J J J J (by decide) J Yo J J ⟨Zb J,Zb J,trivial⟩ J hw ho3) fun _ _=>r3' J (Pt (Oy J J) J) fun _ _=>Yk<|Yb<|Ql (_,_) trivial K8 K8
      ·refine Yf J (Zn (i:=97) J J zeroValue31 J J hw K2) fun b_6 ho5=>Qp (n:=8) 14 20 ?_ ?_
       ·exact Yf J (Zh (n:=5) (Bb _ _ (hb1 _) (hu.sz _) hyz) J J J K2 call158 Zd J hw) fun _ _=>Zu (n:=0) [(15,0),(16,0),(17,0),(18,0),(20,1),(21,1),(22,1),(23,3)]<|r0' J J (stf (Yr J J) K2)<|r0' J J (stf (Yl J J J) K2)<|r0' J J (stf (Yl J J J) K2)<|r0' J J (stf (Yl J J J) K2)<|r1' J (Zn (i:=98) J J zeroValue31 J J hw K2) fun b_7 ho6=>r1' J (Zm (i:=97) J J J J J (by decide) J Yo J J ⟨Zb J,Zb J,trivial⟩ J hw ho5) fun _ _=>r1' J (Zm (i:=98) J J J J J (by decide) J Yo J J ⟨Zb J,Zb J,trivial⟩ J hw ho6) fun _ _=>r3' J (Pt (Oy J J) J) fun _ _=>Yk<|Yb<|Ql (_,_) trivial K8 K8
       ·exact Yf J (Zn (i:=98) J J zeroValue31 J J hw K2) fun b_8 ho7=>Zu (n:=0) [(14,1),(15,0),(16,0),(17,0),(18,0),(21,1),(22,1),(23,3)]<|r1' J (Zh (n:=5) (Bb _ _ (hb1 _) (hu.sz _) hyz) J J J K2 call158 Zd J hw) fun _ _=>r0' J J (stf (Yr J J) K2)<|r0' J J (stf (Yl J J J) K2)<|r0' J J (stf (Yl J J J) K2)<|r0' J J (stf (Yl J J J) K2)<|r1' J (Zm (i:=97) J J J J J (by decide) J Yo J J ⟨Zb J,Zb J,trivial⟩ J hw ho5) fun _ _=>r1' J (Zm (i:=98) J J J J J (by decide) J Yo J J ⟨Zb J,Zb J,trivial⟩ J hw ho7) fun _ _=>r3' J (Pt (Oy J J) J) fun _ _=>Yk<|Yb<|Ql (_,_) trivial K8 K8
      ·refine Yf J (Zn (i:=98) J J zeroValue31 J J hw K2) fun b_9 ho8=>Qp (n:=8) 14 19 ?_ ?_
       ·exact Yf J (Zh (n:=5) (Bb _ _ (hb1 _) (hu.sz _) hyz) J J J K2 call158 Zd J hw) fun _ _=>Zu (n:=0) [(15,0),(16,0),(17,0),(18,0),(19,1),(21,1),(22,1),(23,3)]<|r0' J J (stf (Yr J J) K2)<|r0' J J (stf (Yl J J J) K2)<|r0' J J (stf (Yl J J J) K2)<|r0' J J (stf (Yl J J J) K2)<|r1' J (Zn (i:=97) J J zeroValue31 J J hw K2) fun b_10 ho9=>r1' J (Zm (i:=97) J J J J J (by decide) J Yo J J ⟨Zb J,Zb J,trivial⟩ J hw ho9) fun _ _=>r1' J (Zm (i:=98) J J J J J (by decide) J Yo J J ⟨Zb J,Zb J,trivial⟩ J hw ho8) fun _ _=>r3' J (Pt (Oy J J) J) fun _ _=>Yk<|Yb<|Ql (_,_) trivial K8 K8
       ·exact Yf J (Zn (i:=97) J J zeroValue31 J J hw K2) fun b_11 ho10=>Zu (n:=0) [(14,1),(15,0),(16,0),(17,0),(18,0),(21,1),(22,1),(23,3)]<|r1' J (Zh (n:=5) (Bb _ _ (hb1 _) (hu.sz _) hyz) J J J K2 call158 Zd J hw) fun _ _=>r0' J J (stf (Yr J J) K2)<|r0' J J (stf (Yl J J J) K2)<|r0' J J (stf (Yl J J J) K2)<|r0' J J (stf (Yl J J J) K2)<|r1' J (Zm (i:=97) J J J J J (by decide) J Yo J J ⟨Zb J,Zb J,trivial⟩ J hw ho10) fun _ _=>r1' J (Zm (i:=98) J J J J J (by decide) J Yo J J ⟨Zb J,Zb J,trivial⟩ J hw ho8) fun _ _=>r3' J (Pt (Oy J J) J) fun _ _=>Yk<|Yb<|Ql (_,_) trivial K8 K8
     ·rintro⟨b7,b8⟩ -
      simp only [CA,NA]
      refine Ze<|Ze<|Zg<|mv J<|dt (Qc J J J)<|Zf<|Za<|Zs J (fun h349=>?_) (fun h349=>?_)
      ·exfalso;exact h349 rfl
      ·refine Zl<|Za<|Ze<|Ze<|Zg<|dt (Ya (i:=98) J J J Qr Yo J J)<|tt (Zh (n:=5) (Ms _ (clip_bl _)) J J J K1 call104 Zd J hw) fun _ _=>dt (Qc J J J)<|Zf<|Za<|Zs J (fun h352=>?_) (fun h352=>?_)
       ·have hne:¬Lb xs ys (xs.length-ys.length-j):=fun he=>h352 (by rw [Zpf hyz (hu.sz _),(Zdw (by omega)).1 he];rfl)
        refine Ze<|Zg<|as_ J<|as_ J<|Zf<|Za<|Zw<|Xa<|Iw<|Xa<|Xa<|Iw<|Xa ?_
        have hp:¬pdv xs ys:=fun h=>by rcases h with h | h;(exact hnx h);(exact hne (h.2.1 _ (by omega)))
        exact Zy (.inl J) hsc _ _ (fun a w hs=>Nr hs results111 J J) (by rw [if_neg hp]) trivial J (Ln (if_neg hp) Zj)
       ·have hde:Lb xs ys (xs.length-ys.length-j):=(Zdw (by omega)).2 (by have h0:=Decidable.byContradiction h352;rw [Zpf hyz (hu.sz _)]at h0;exact Int.sign_eq_zero_iff_zero.1 h0)
        obtain⟨hb2,hb3,hb4⟩:=hb5 hde
        refine Yq (Gx 97 (q:=box b7 31 (wc (dq ys (Qq xs ys j) (xs.length-ys.length-j)))) (by rw [Nc hb2]) J J)<|Zl<|Za<|Ze<|Zg<|mv J<|mv J<|dt (Ya (i:=97) J J J Qr Yo J J)<|dt (Xc (ii:=5) (i:=(xs.length-ys.length-j)) J J J J (Yt pV) Qx Yo)<|tt (Ij (i:=5) (enc:=wv) _ J J J J J J pV J hw) fun _ _=>Zf<|Za<|Ze<|Zg<|mv J<|dt (Yh J J (i:=2) J Zi Qx)<|mv J<|Zf<|Za<|Zo<|Nw [(1,_),(8,_),(9,_),(10,_),(11,_),(12,_),(78,_),(79,_)] [(0,_),(97,_),(98,_),(5,_),(1,_),(2,_),(3,_)] (fun(i:Nat)=>[(80,.int .i64 (i:Int))]) (fun(i:Nat)=>[(4,osl 2 31 wv v (Zvq ys (Qq xs ys j) (dq ys (Qq xs ys j) (xs.length-ys.length-j)) (xs.length-ys.length-j) i))]) (fun(i:Nat)=>i≤ys.length) (fun(i:Nat)=>ys.length-i) 0 (by first | omega | (dsimp only<;>omega)) K9 ⟨by rw [←Zub];rfl,rfl,rfl,rfl,rfl,rfl,rfl,rfl,trivial⟩ ?_
        rintro i hi
        simp only [CA,NA]
        have hg2:i<ys.length→(Zvq ys (Qq xs ys j) (dq ys (Qq xs ys j) (xs.length-ys.length-j)) (xs.length-ys.length-j) i).getD ((xs.length-ys.length-j)+i) 0=cf (Qq xs ys j) ((xs.length-ys.length-j)+i):=fun h=>Zx9 (by omega)
        have hl2:=Zmj ys (Qq xs ys j) (dq ys (Qq xs ys j) (xs.length-ys.length-j)) (xs.length-ys.length-j) i
        refine Ze<|Zg<|dt (Xv J J J)<|Zf<|Za<|Ze<|Zs J (fun h356=>?_) (fun h356=>?_)
        ·refine Zl<|Za<|Ze<|Zo<|Ze<|Zg<|mv J<|dt (Xc (ii:=2) J J J J Zi Qx Yo J (by first | omega | (simp only [List.length_set];omega)))<|dt (Xs (ii:=2) 0 J J J Zi pV (by first | omega | (simp only [List.length_set];omega)))<|tt (Zr (i:=6) J J zeroValue31 J J hw) fun b_12 _=>as_ J<|tt (Zm (i:=6) J J J J J (by decide) J Yo J J ⟨Zb J,Zb J,trivial⟩ J hw trivial) fun _ _=>Zf<|Za<|Qo (fun x=>x=b) [(0,0),(1,0),(2,0),(3,0),(4,0),(5,0),(6,0),(7,0),(8,0),(9,0),(10,0),(11,0),(12,1),(13,1),(14,0),(15,3)] ?_ ?_
         ·kernel_rfl
         refine r0' J J (st1 3 J (Yr J J))<|r0' J J (st1 3 J (Yr J J))<|r0' J J (st1 3 J (Yr J J))<|r0' J J (st1 3 J (Yy J J J ⟨by omega,by omega⟩))<|r0' J J (st1 3 J (Yr J J))<|r0' J J (st1 3 J (Yr J J))<|r0' J J (st1 3 J (Yr J J))<|r0' J J (st1 3 J (Yy J J J ⟨by omega,by omega⟩))<|r0' J J (st1 3 J (Xc (ii:=4) (i:=((xs.length-ys.length-j)+i)) J J J J (Yt pV) Qx Yo))<|r0' J J (st1 3 J (Xs (ii:=4) 0 J J J (Yt pV) pV))<|r0' J J (st1 3 J (Ya (i:=97) J J J Qr Yo J J))<|r0' J J (st1 3 J (Ya (i:=6) J J J Qr Yo J J))<|r1' J (Oo (n:=6) (i:=3) (Db _ _ _ hb2 (hu.sz _) (hb3 _)) J J J K3 call153 J (by decide) Zd J hw J) fun _ _=>r1' J (Oo (n:=6) (i:=3) (Zuh _ _ _ (by rw [hg2 (by omega)];exact hb1 _) (hb3 _) (by rw [hg2 (by omega)];exact hb4 _ _)) J J J K3 call137 J (by decide) Zd J hw J) fun _ _=>r0' J J (st1 3 J (Xc (ii:=4) (i:=((xs.length-ys.length-j)+i)) J J J J (Yt pV) Qx Yo))<|r3' J (Ij (i:=4) (enc:=wv) _ J J J J J J pV J hw) fun _ _=>Oh<|Oe<|Za<|Zg<|dt (Yy J J J ⟨by omega,by omega⟩)<|mv J<|Zf ?_
         exact Xp (i+1) (by first | omega | (dsimp only<;>omega)) (by first | omega | (dsimp only<;>omega)) K9 ⟨by rw [←Zx8 (by omega),←hg2 (by omega)];rfl,rfl,rfl,rfl,rfl,rfl,rfl,rfl,trivial⟩
        ·refine Yw<|Zx<|Zx<|Na<|Oe<|Za<|Zg<|mv J<|dt (Qf J J J ⟨by omega,by omega⟩)<|as_ J<|Zf ?_
         obtain rfl:i=ys.length:=by omega
         exact Xp (j+1) ⟨by first | omega | (dsimp only<;>omega),fun k h1 h2=>by rcases Nat.lt_or_ge (xs.length-ys.length) (k+j)with h3 | h3;(exact hx k h3 h2);(rw [show k=xs.length-ys.length-j by omega];exact hde)⟩ (by first | omega | (dsimp only<;>omega)) ⟨by rw [show(xs.length:Int)-(ys.length:Int)-((j+1:Nat):Int)=(xs.length:Int)-(ys.length:Int)-(j:Int)-1 by omega];rfl,rfl,rfl,rfl,rfl,trivial⟩ ⟨by rfl,by rw [←Zo3 (by omega)];rfl,rfl,rfl,rfl,rfl,trivial⟩
    ·refine Yw<|Zx<|Zx<|Na<|Za<|Ze<|Ze ?_
     obtain rfl:j=xs.length-ys.length+1:=by omega
     have hall:∀k,k≤xs.length-ys.length→Lb xs ys k:=fun k hk=>hx k (by omega) hk
     refine Yq (Pe 4 J J pV)<|Zg<|dt (Xu J J Zhh J Zg7 J J)<|dt (Xu J J Zlf J Gy J J)<|dt (Ok (i:=3) J J J Zae J)<|dt (Pv J J J)<|mv J<|Pa (d:=105) J (fun s360=>?_) (fun s360=>?_)
     ·refine gdt (Yr J J) J J<|gtt (Zh (n:=7) (Za0 _ _ (Zv4 hF hall)) J J J K1 call152 (Zc 4 J J J Zd) J hw) J J J fun _ _=>gdt (Yh J J (i:=7) J Zi Qx) J J<|gdt (Of J J J) J J<|dt (Yu J J J)<|Zf<|Za<|Zs J (fun h360=>?_) (fun h360=>?_)
      ·refine Ze<|Zg<|as_ J<|as_ J<|Zf<|Za<|Zw<|Xa ?_
       have hp:¬pdv xs ys:=fun h=>by rcases h with h | h;(exact hnx h);(rw [h.2.2]at h360;simp at h360)
       exact Zy (.inl J) hsc _ _ (fun a w hs=>Nr hs results111 J J) (by rw [if_neg hp]) trivial J (Ln (if_neg hp) Zj)
      ·refine Zl<|Za<|Ze<|Yq (Pe 5 J J pV)<|Zg<|mv J<|tt (Oo (n:=8) (i:=3) (Zbn _ _ _ (Zra hF hall _)) J J J K2 call154 J (by decide) (Zc 5 J J J Zd) J hw trivial) fun _ _=>dt (Yl J J J)<|dt (Yl J J J)<|as_ J<|as_ J<|Zf<|Za<|Zw ?_
       have hp:pdv xs ys:= .inr ⟨hge,hall,List.eq_nil_of_length_eq_zero (by omega)⟩
       exact Zy (.inl J) hsc _ _ (fun a w hs=>Nr hs results111 J J) (by rw [if_pos hp]<;>rfl) trivial J (Yp 8 J J J (by rw [if_pos hp,Zib hnx,←Zbi]<;>rfl) Zj)
     ·exfalso;exact s360 rfl
theorem Zj4(v:Value)(xs:List Int)(x y z:Int)(hv:Vp xs)(hx:bl x.natAbs≤65536)(hy:bl y.natAbs≤65536)(hz:bl z.natAbs≤65536)(hz0:0<z)(hE:¬Zpb xs x y z):Cal prog 141 #[v,wv x,wv y,wv z] [slp 2 wv v xs] true (G:=Value) (fun r=>True) (fun r=> .tuple #[r,.int .i64 0]) (fun r=>[slp 2 wv r (Ze3 xs x y z)]):=by
 refine Yd func141 J ntmps141 J K1 ?_
 intro w0 sc hw hsc
 simp only [Zq,Zp]
 have hlen:=hv.len
 refine Ze<|Zg<|tt (Yz (i:=2) J J J J J hw) fun b _=>tt (Yz (i:=3) J J J J J hw) fun b_2 _=>tt (Yz (i:=4) J J J J J hw) fun b_3 _=>as_ J<|as_ J<|Zf<|Za<|Ze<|Ze<|Zg<|mv J<|tt (Zh (n:=4) (Xz _ _ ‹_›) J J J K1 Zfo (Zc 1 J J J Zd) J hw) fun _ _=>dt (Xh J J)<|mv J<|gdt (Ya (i:=2) J J J Qr Yo J J) J J<|gtt (Zh (n:=4) (Kf _ ‹_›) J J J K1 Zf7 Zd J hw) J J J fun _ _=>gdt (Xh J J) J J<|dt (Yg J J J)<|mv J<|gdt (Ya (i:=3) J J J Qr Yo J J) J J<|gtt (Zh (n:=4) (Kf _ ‹_›) J J J K1 Zf7 Zd J hw) J J J fun _ _=>gdt (Xh J J) J J<|dt (Yg J J J)<|mv J<|gdt (Ya (i:=4) J J J Qr Yo J J) J J<|gtt (Zh (n:=4) (Kf _ ‹_›) J J J K1 Zf7 Zd J hw) J J J fun _ _=>gdt (Xh J J) J J<|dt (Yg J J J)<|Zf<|Za<|Yi J<|Zl<|Za<|Ze<|Ze<|Zg<|dt (Ya (i:=4) J J J Qr Yo J J)<|tt (Zh (n:=4) (Ms _ hz) J J J K1 call104 Zd J hw) fun _ _=>dt (Ab J J J)<|Zf<|Za<|Zs J (fun h232=>?_) (fun h232=>?_)
 ·exfalso;have h2:=decide_eq_decide.1 (Fd z);omega
 ·refine Zl<|Za<|Ze<|Ze<|Zg<|mv J<|dt (Yh J J (i:=1) J Zi Qx)<|dt (Pv J J J)<|Zf<|Za<|Zs J (fun h235=>?_) (fun h235=>?_)
  ·exact Ze<|Zg<|as_ J<|as_ J<|Zf<|Za<|Zw<|Xa<|Zy (.inl J) hsc _ _ (fun a w hs=>Nr hs results141 J J) J trivial J (Ln (by unfold Ze3;rw [if_pos (by omega)]) Zj)
  ·have hne:xs≠[]:=fun e=>by rw [e]at h235;simp at h235
   have hm1:=Pz hv.sz
   have hsxy:Sz 65536 [x,y,z]:=Sz.of_mem (by intro q hq;simp at hq;rcases hq with rfl | rfl | rfl<;>assumption)
   have hm2:=Pz hsxy
   have hm3:(xs.length-1)*(msz [x,y,z]+1)≤24*65537:=Nat.mul_le_mul (by omega) (by omega)
   have hm4:((xs.length:Int)-1)*((msz [x,y,z]:Int)+1)=(((xs.length-1)*(msz [x,y,z]+1):Nat):Int):=by rw [Int.natCast_mul];congr 1;omega
   refine Zl<|Za<|Ze<|Da [(0,_),(5,_),(6,_),(7,_)] [(0,_),(1,_),(2,_),(3,_),(4,_)] (fun(_:Unit)=>[(55,.bool (decide ((65536:Int)<(msz xs:Int)+((xs.length:Int)-1)*((msz [x,y,z]:Int)+1)+8)))]) (fun(_:Unit)=>[]) (fun(_:Unit)=>True) K4 K5 ?_ ?_
   ·refine Gb (fun _=>False) []<|Zu (n:=8) [(0,0),(2,0),(3,0),(4,0),(5,0),(6,0),(7,0)]<|r0' J J (st0 (Yr J J))<|r0' J J (st0 (Yr J J))<|r0' J J (st0 (Yh J J (i:=1) J Zi Qx))<|r0' J J (st0 (Qf J J J ⟨by omega,by omega⟩))<|r0' J J (st0 (Ya (i:=2) J J J Qr Yo J J))<|r0' J J (st0 (Ya (i:=3) J J J Qr Yo J J))<|r0' J J (st0 (Ya (i:=4) J J J Qr Yo J J))<|Yk<|Qp (n:=7) 1 8 ?_ ?_
    ·exact Yf J (Zh (n:=4) (Nz _ _ (by first | exact hv.sz | exact hsxy)) J J J K1 Zac (Zc 1 J J J Zd) J hw) fun _ _=>Zu (n:=0) [(8,1),(9,1),(10,0),(11,0),(12,0),(13,0),(14,0)]<|r1' J (Pm (i:=90) (ivs:=[(0,_),(1,_),(2,_)]) (enc:=wv) [x,y,z] J J K6 uT22 ti31 J J (fill3 _ _ _ _ _ _ _ _) J J pV.cells J J hw) fun v _=>r1' J (Zh (n:=4) (Nz _ _ (by first | exact hv.sz | exact hsxy)) J J J K1 Zac (Xr 90 J J pV Zd) J hw) fun _ _=>r0' J J (st0 (Yy J J J ⟨by omega,by omega⟩))<|r0' J J (st0 (Cb J J J (by rw [hm4];exact⟨by omega,by omega⟩)))<|r0' J J (st0 (Yy J J J (by rw [hm4];exact⟨by omega,by omega⟩)))<|r0' J J (st0 (Yy J J J (by rw [hm4];exact⟨by omega,by omega⟩)))<|r0' J J (st0 (Of J J J))<|Yk<|Yb<|Ql () trivial K5 K5
    ·exact Yf J (Pm (i:=90) (ivs:=[(0,_),(1,_),(2,_)]) (enc:=wv) [x,y,z] J J K6 uT22 ti31 J J (fill3 _ _ _ _ _ _ _ _) J J pV.cells J J hw) fun v_2 _=>Zu (n:=0) [(1,1),(9,1),(10,0),(11,0),(12,0),(13,0),(14,0)]<|r1' J (Zh (n:=4) (Nz _ _ (by first | exact hv.sz | exact hsxy)) J J J K1 Zac (Zc 1 J J J Zd) J hw) fun _ _=>r1' J (Zh (n:=4) (Nz _ _ (by first | exact hv.sz | exact hsxy)) J J J K1 Zac (Xr 90 J J pV Zd) J hw) fun _ _=>r0' J J (st0 (Yy J J J ⟨by omega,by omega⟩))<|r0' J J (st0 (Cb J J J (by rw [hm4];exact⟨by omega,by omega⟩)))<|r0' J J (st0 (Yy J J J (by rw [hm4];exact⟨by omega,by omega⟩)))<|r0' J J (st0 (Yy J J J (by rw [hm4];exact⟨by omega,by omega⟩)))<|r0' J J (st0 (Of J J J))<|Yk<|Yb<|Ql () trivial K5 K5
   ·rintro _ -
    simp only [CA,NA]
    refine Zs J (fun h238=>?_) (fun h238=>?_)
    ·exfalso;exact hE ⟨hne,by rw [hm4]at h238;omega⟩
    ·have hF:msz xs+(xs.length-1)*(msz [x,y,z]+1)+8≤65536:=by rw [hm4]at h238;omega
     refine Zl<|Za<|Ze<|Zg<|tt (Zr (i:=5) J J zeroValue167 J J hw) fun b_4 _=>Zf<|Za<|Da [(0,_),(5,_),(6,_),(7,_),(10,_)] [(0,_),(1,_),(2,_),(3,_),(4,_),(5,_)] (fun(q:Value×Nat)=>[(11,q.1),(12,.pointer (some ⟨q.2,0,none⟩))]) (fun(q:Value×Nat)=>[(70,osl 2 31 wv q.1 (Fn xs x y z 0)),(98,box q.2 31 (wc 1))]) (fun(q:Value×Nat)=>True) K5 K6 ?_ ?_
     ·refine Gb (fun _=>False) [9,10]<|Zu (n:=5) [(0,0),(1,0),(2,0),(3,0),(4,0),(5,0)]<|r0' J J (st0 (Yr J J))<|r0' J J (st0 (Yr J J))<|r0' J J (st0 (Yh J J (i:=1) J Zi Qx))<|r0' J J (st0 (Qf J J J ⟨by omega,by omega⟩))<|r0' J J (st0 (Xc (ii:=1) (i:=(xs.length-1)) J J J J Zi Qx Yo))<|r0' J J (st0 (Xs (ii:=1) 0 J J J Zi pV))<|Yk<|Dg (n:=4) 6 7 8 ?_ ?_ ?_
      ·refine Yf J (Pm (i:=70) (ivs:=[(0,_)]) (enc:=wv) [cf xs (xs.length-1)] J J K2 Qx ti31 J J J J J pV.cells J J hw) fun v_3 _=>Qp (n:=3) 7 8 ?_ ?_
       ·exact Yf J (Zh (n:=5) (Xj _ (by first | assumption | exact⟨by omega,by omega⟩)) J J J K1 Bs Zd J hw) fun _ _=>Zu (n:=0) [(8,1),(9,3),(10,3)]<|r1' J (Zr (i:=98) J J zeroValue31 J J hw) fun b_5 _=>r3' J (Pt (Oy J J) J) fun _ _=>r3' J (Zm (i:=98) J J J J J (by decide) J Yo J J ⟨Zb J,Zb J,trivial⟩ J hw trivial) fun _ _=>Yk<|Yb<|Ql (_,_) trivial K7 ⟨by rw [Dd];rfl,rfl,rfl,rfl,rfl,rfl,rfl,rfl,trivial⟩
       ·exact Yf J (Zr (i:=98) J J zeroValue31 J J hw) fun b_6 _=>Zu (n:=0) [(7,1),(9,3),(10,3)]<|r1' J (Zh (n:=5) (Xj _ (by first | assumption | exact⟨by omega,by omega⟩)) J J J K1 Bs Zd J hw) fun _ _=>r3' J (Pt (Oy J J) J) fun _ _=>r3' J (Zm (i:=98) J J J J J (by decide) J Yo J J ⟨Zb J,Zb J,trivial⟩ J hw trivial) fun _ _=>Yk<|Yb<|Ql (_,_) trivial K7 ⟨by rw [Dd];rfl,rfl,rfl,rfl,rfl,rfl,rfl,rfl,trivial⟩
      ·refine Yf J (Zh (n:=5) (Xj _ (by first | assumption | exact⟨by omega,by omega⟩)) J J J K1 Bs Zd J hw) fun _ _=>Qp (n:=3) 6 8 ?_ ?_
       ·exact Yf J (Pm (i:=70) (ivs:=[(0,_)]) (enc:=wv) [cf xs (xs.length-1)] J J K2 Qx ti31 J J J J J pV.cells J J hw) fun v_4 _=>Zu (n:=0) [(8,1),(9,3),(10,3)]<|r1' J (Zr (i:=98) J J zeroValue31 J J hw) fun b_7 _=>r3' J (Pt (Oy J J) J) fun _ _=>r3' J (Zm (i:=98) J J J J J (by decide) J Yo J J ⟨Zb J,Zb J,trivial⟩ J hw trivial) fun _ _=>Yk<|Yb<|Ql (_,_) trivial K7 ⟨by rw [Dd];rfl,rfl,rfl,rfl,rfl,rfl,rfl,rfl,trivial⟩
       ·exact Yf J (Zr (i:=98) J J zeroValue31 J J hw) fun b_8 _=>Zu (n:=0) [(6,1),(9,3),(10,3)]<|r1' J (Pm (i:=70) (ivs:=[(0,_)]) (enc:=wv) [cf xs (xs.length-1)] J J K2 Qx ti31 J J J J J pV.cells J J hw) fun v_5 _=>r3' J (Pt (Oy J J) J) fun _ _=>r3' J (Zm (i:=98) J J J J J (by decide) J Yo J J ⟨Zb J,Zb J,trivial⟩ J hw trivial) fun _ _=>Yk<|Yb<|Ql (_,_) trivial K7 ⟨by rw [Dd];rfl,rfl,rfl,rfl,rfl,rfl,rfl,rfl,trivial⟩
      ·refine Yf J (Zr (i:=98) J J zeroValue31 J J hw) fun b_9 _=>Qp (n:=3) 6 7 ?_ ?_
       ·exact Yf J (Pm (i:=70) (ivs:=[(0,_)]) (enc:=wv) [cf xs (xs.length-1)] J J K2 Qx ti31 J J J J J pV.cells J J hw) fun v_6 _=>Zu (n:=0) [(7,1),(9,3),(10,3)]<|r1' J (Zh (n:=5) (Xj _ (by first | assumption | exact⟨by omega,by omega⟩)) J J J K1 Bs Zd J hw) fun _ _=>r3' J (Pt (Oy J J) J) fun _ _=>r3' J (Zm (i:=98) J J J J J (by decide) J Yo J J ⟨Zb J,Zb J,trivial⟩ J hw trivial) fun _ _=>Yk<|Yb<|Ql (_,_) trivial K7 ⟨by rw [Dd];rfl,rfl,rfl,rfl,rfl,rfl,rfl,rfl,trivial⟩
       ·exact Yf J (Zh (n:=5) (Xj _ (by first | assumption | exact⟨by omega,by omega⟩)) J J J K1 Bs Zd J hw) fun _ _=>Zu (n:=0) [(6,1),(9,3),(10,3)]<|r1' J (Pm (i:=70) (ivs:=[(0,_)]) (enc:=wv) [cf xs (xs.length-1)] J J K2 Qx ti31 J J J J J pV.cells J J hw) fun v_7 _=>r3' J (Pt (Oy J J) J) fun _ _=>r3' J (Zm (i:=98) J J J J J (by decide) J Yo J J ⟨Zb J,Zb J,trivial⟩ J hw trivial) fun _ _=>Yk<|Yb<|Ql (_,_) trivial K7 ⟨by rw [Dd];rfl,rfl,rfl,rfl,rfl,rfl,rfl,rfl,trivial⟩
     ·rintro⟨vo,b8⟩ -
      simp only [CA,NA]
      refine Ze<|Ze<|Zg<|mv J<|dt (Yh J J (i:=1) J Zi Qx)<|dt (Qf J J J ⟨by omega,by omega⟩)<|as_ J<|Zf<|Za<|Zo<|Nw [(0,_),(5,_),(6,_),(7,_),(10,_),(12,_)] [(0,_),(1,_),(2,_),(3,_),(4,_),(5,_)] (fun(q:Nat×Value)=>[(13,.int .i64 ((xs.length:Int)-2-(q.1:Int))),(11,q.2)]) (fun(q:Nat×Value)=>[(70,osl 2 31 wv q.2 (Fn xs x y z q.1)),(98,box b8 31 (wc (z^q.1)))]) (fun(q:Nat×Value)=>q.1≤xs.length-1) (fun(q:Nat×Value)=>xs.length-1-q.1) (0,vo) (by first | omega | (dsimp only<;>omega)) ⟨by rw [show(xs.length:Int)-2-((0:Nat):Int)=(xs.length:Int)-2 by omega];rfl,rfl,rfl,rfl,rfl,rfl,rfl,rfl,trivial⟩ ⟨J,by rw [Int.pow_zero];rfl,rfl,rfl,rfl,rfl,rfl,rfl,trivial⟩ ?_
      rintro⟨j,vo⟩ hj
      dsimp only at hj
      simp only [CA,NA]
      refine Ze<|Ze<|Zg<|mv J<|dt (Ke J J J)<|Zf<|Za<|Zs J (fun h243=>?_) (fun h243=>?_)
      ·obtain⟨c1,c2,c3,c4,c5,c6,c7,c8,c9⟩:=cp_all hF (j:=j) (by omega)
       have hcl:=Ax xs x y z j
       refine Zl<|Za<|Ze<|Zo<|Ze<|Zg<|dt (Ya (i:=98) J J J Qr Yo J J)<|dt (Ya (i:=4) J J J Qr Yo J J)<|tt (Oo (n:=5) (i:=5) (Db _ _ _ c1 hz (by rw [←Int.pow_succ];exact c2)) J J J K3 call153 J (by decide) Zd J hw trivial) fun _ _=>tt (Zm (i:=98) J J J J J (by decide) J Yo J J ⟨Zb J,Zb J,trivial⟩ J hw trivial) fun _ _=>Zf<|Za<|Ze<|Zg<|mv J<|dt (Yh J J (i:=70) J (Yt pV) Qx)<|dt (Yy J J J ⟨by omega,by omega⟩)<|tt (Gd (i:=71) (n:=((Fn xs x y z j).length+1)) (by_:=24) (enc:=wv) 0 J J J J Qx ti31 J pV.cells pV.pos J J J hw) fun v_8 _=>as_ J<|Zf<|Za<|Ze<|Ze<|Zg<|mv J<|dt (Yh J J (i:=70) J (Yt pV) Qx)<|mv J<|Zf<|Za<|Zo<|Nw [(0,_),(5,_),(6,_),(7,_),(10,_),(12,_),(13,_),(14,_),(78,_),(79,_)] [(0,_),(70,_),(98,_),(1,_),(2,_),(3,_),(4,_),(5,_)] (fun(i:Nat)=>[(80,.int .i64 (i:Int))]) (fun(i:Nat)=>[(71,osl 2 31 wv v_8 (cnx (Fn xs x y z j) x y i))]) (fun(i:Nat)=>i≤(Fn xs x y z j).length) (fun(i:Nat)=>(Fn xs x y z j).length-i) 0 (by first | omega | (dsimp only<;>omega)) K11 ⟨by rw [Zyj];rfl,rfl,rfl,rfl,rfl,rfl,rfl,rfl,rfl,trivial⟩ ?_
       rintro i hi
       simp only [CA,NA]
       have hg1:i<(Fn xs x y z j).length→(cnx (Fn xs x y z j) x y i).getD i 0=if i=0 then 0 else cf (Fn xs x y z j) (i-1)*y:=fun h=>Zus h
       have hl1:=Ie (Fn xs x y z j) x y i
       refine Ze<|Zg<|dt (Xv J J J)<|Zf<|Za<|Ze<|Zs J (fun h247=>?_) (fun h247=>?_)
       ·refine Zl<|Za<|Ze<|Zo<|Ze<|Zg<|mv J<|dt (Xc (ii:=70) J J J J (Yt pV) Qx Yo J (by first | omega | (simp only [List.length_set];omega)))<|dt (Xs (ii:=70) 0 J J J (Yt pV) pV (by first | omega | (simp only [List.length_set];omega)))<|tt (Zr (i:=6) J J zeroValue31 J J hw) fun b_10 _=>as_ J<|tt (Zm (i:=6) J J J J J (by decide) J Yo J J ⟨Zb J,Zb J,trivial⟩ J hw trivial) fun _ _=>Zf<|Za<|Ze<|Qo (fun x=>x=b_4) [(0,0),(1,0),(2,0),(3,0),(4,0),(5,0),(6,0),(7,0),(8,1),(9,1),(10,0),(11,3)] ?_ ?_
        ·kernel_rfl
        refine r0' J J (st1 5 J (Yr J J))<|r0' J J (st1 5 J (Yr J J))<|r0' J J (st1 5 J (Yr J J))<|r0' J J (st1 5 J (Yr J J))<|r0' J J (st1 5 J (Xc (ii:=71) (i:=i) J J J J (Yt pV) Qx Yo J))<|r0' J J (st1 5 J (Xs (ii:=71) 0 J J J (Yt pV) pV))<|r0' J J (st1 5 J (Ya (i:=6) J J J Qr Yo J J))<|r0' J J (st1 5 J (Ya (i:=2) J J J Qr Yo J J))<|r1' J (Oo (n:=6) (i:=5) (Db _ _ _ (c3 _) hx (c4 _)) J J J K3 call153 J (by decide) Zd J hw J) fun _ _=>r1' J (Oo (n:=6) (i:=5) (Zo4 _ _ _ (by rw [hg1 (by omega)];exact c6 i) (c4 _) (by rw [hg1 (by omega)];exact c7 i)) J J J K3 call159 J (by decide) Zd J hw J) fun _ _=>r0' J J (st1 5 J (Xc (ii:=71) (i:=i) J J J J (Yt pV) Qx Yo J))<|r3' J (Ij (i:=71) (enc:=wv) _ J J J J J J pV J hw) fun _ _=>Oh<|Za<|Zg<|mv J<|mv J<|dt (Yy J J J ⟨by omega,by omega⟩)<|dt (Ya (i:=6) J J J Qr Yo J J)<|dt (Ya (i:=3) J J J Qr Yo J J)<|tt (Oo (n:=6) (i:=5) (Db _ _ _ (c3 _) hy (c5 _)) J J J K3 call153 J (by decide) Zd J hw trivial) fun _ _=>dt (Xc (ii:=71) (i:=(i+1)) J J J J (Yt pV) Qx Yo (by omega) (by rw [List.length_set];omega)) ?_
        exact tt (Ij (i:=71) (enc:=wv) _ J J J J J J pV J hw (by decide) (by rw [List.length_set];omega)) fun _ _=>Zf<|Oe<|Za<|Zg<|dt (Yy J J J ⟨by omega,by omega⟩)<|mv J<|Zf<|Xp (i+1) (by first | omega | (dsimp only<;>omega)) (by first | omega | (dsimp only<;>omega)) K11 ⟨by rw [←cnx_set (by omega)];rfl,rfl,rfl,rfl,rfl,rfl,rfl,rfl,rfl,trivial⟩
       ·refine Yw<|Zx<|Zx<|Na<|Za<|Ze ?_
        obtain rfl:i=(Fn xs x y z j).length:=by omega
        have hg0:(cnx (Fn xs x y z j) x y (Fn xs x y z j).length).getD 0 0=cf (Fn xs x y z j) 0*x:=Zpc (by omega)
        refine Qo (fun x=>x=b_4) [(0,0),(1,0),(2,0),(3,0),(4,0),(5,0),(6,0),(7,0),(8,0),(9,1),(10,1),(11,0),(12,3)] ?_ ?_
        ·kernel_rfl
        refine r0' J J (st1 5 J (Yr J J))<|r0' J J (st1 5 J (Yr J J))<|r0' J J (st1 5 J (Xc (ii:=71) (i:=0) J J J J (Yt pV) Qx Yo J))<|r0' J J (st1 5 J (Xs (ii:=71) 0 J J J (Yt pV) pV))<|r0' J J (st1 5 J (Yr J J))<|r0' J J (st1 5 J (Yr J J))<|r0' J J (st1 5 J (Xc (ii:=1) (i:=(xs.length-2-j)) J J J J Zi Qx Yo))<|r0' J J (st1 5 J (Xs (ii:=1) 0 J J J Zi pV))<|r0' J J (st1 5 J (Ya (i:=98) J J J Qr Yo J J))<|r1' J (Oo (n:=6) (i:=5) (Db _ _ _ (hv.sz _) (by rw [←Int.pow_succ];exact c2) (by rw [←Int.pow_succ];exact c8)) J J J K3 call153 J (by decide) Zd J hw J) fun _ _=>r1' J (Oo (n:=6) (i:=5) (Zo4 _ _ _ (by rw [hg0];exact c4 0) (by rw [←Int.pow_succ];exact c8) (by rw [hg0,←Int.pow_succ];exact c9)) J J J K3 call159 J (by decide) Zd J hw J) fun _ _=>r0' J J (st1 5 J (Xc (ii:=71) (i:=0) J J J J (Yt pV) Qx Yo J))<|r3' J (Ij (i:=71) (enc:=wv) _ J J J J J J pV J hw) fun _ _=>Oh<|Za<|Zg<|mv J<|as_ J<|Zf<|Oe<|Za<|Zg<|mv J<|dt (Qf J J J ⟨by omega,by omega⟩)<|as_ J<|Zf<|Qy (s_move 71 70 J J J J) ?_
        exact Xp (j+1,_) (by first | omega | (dsimp only<;>omega)) (by first | omega | (dsimp only<;>omega)) ⟨by rw [show(xs.length:Int)-2-((j+1:Nat):Int)=(xs.length:Int)-2-(j:Int)-1 by omega];rfl,rfl,rfl,rfl,rfl,rfl,rfl,rfl,trivial⟩ ⟨by rw [cnx_fin (by omega)];simp only [←Int.pow_succ];rfl,by rw [Int.pow_succ];rfl,rfl,rfl,rfl,rfl,rfl,rfl,trivial⟩
      ·refine Yw<|Zx<|Zx<|Na<|Za<|Ze ?_
       obtain rfl:j=xs.length-1:=by omega
       exact Yq (Pe 70 J J pV)<|Zg<|mv J<|tt (Oo (n:=7) (i:=5) (Zbn _ _ _ (cp_last hF)) J J J K2 call154 J (by decide) (Zc 70 J J J Zd) J hw trivial) fun _ _=>dt (Yl J J J)<|dt (Yl J J J)<|as_ J<|as_ J<|Zf<|Za<|Zw<|Zy (.inl J) hsc _ _ (fun a w hs=>Nr hs results141 J J) J trivial J (Yp 7 J J J (by unfold Ze3;rw [if_neg (by omega)]<;>rfl) Zj)
theorem Zn9(v u:Value)(xs ys:List Int)(hv:Vp xs)(hu:Vp ys)(F:Nat)(hg:¬Zqf xs ys)(hok:eok F (gA xs ys) (gB xs ys)):Cal prog 110 #[v,u] [slp 2 wv v xs,slp 2 wv u ys] true (G:=Value) (fun r=>True) (fun r=> .tuple #[r,.int .i64 0]) (fun r=>[slp 2 wv r (Ic F xs ys)]):=by
 refine Yd func110 J ntmps110 J K2 ?_
 intro w0 sc hw hsc
 simp only [Zq,Zp]
 have hlen:=hv.len
 have hlen2:=hu.len
 have hm1:=Pz hv.sz
 have hm2:=Pz hu.sz
 have hpx:=Yn xs
 have hpy:=Yn ys
 have hN2:(max xs.length ys.length+2)*(max xs.length ys.length+2)≤27*27:=Nat.mul_le_mul (by omega) (by omega)
 have hN3:(max xs.length ys.length+2)*(max xs.length ys.length+2)*(max (msz xs) (msz ys)+8)≤27*27*65544:=Nat.mul_le_mul hN2 (by omega)
 have hN4:(max (xs.length:Int) (ys.length:Int)+2)*(max (xs.length:Int) (ys.length:Int)+2)=(((max xs.length ys.length+2)*(max xs.length ys.length+2):Nat):Int):=by rw [Int.natCast_mul,show(((max xs.length ys.length+2):Nat):Int)=(max (xs.length:Int) (ys.length:Int)+2) by omega]
 have hN5:(max (xs.length:Int) (ys.length:Int)+2)*(max (xs.length:Int) (ys.length:Int)+2)*(max (msz xs:Int) (msz ys:Int)+8)=(((max xs.length ys.length+2)*(max xs.length ys.length+2)*(max (msz xs) (msz ys)+8):Nat):Int):=by rw [hN4,Int.natCast_mul ((max xs.length ys.length+2)*(max xs.length ys.length+2)),show((max (msz xs) (msz ys)+8:Nat):Int)=max (msz xs:Int) (msz ys:Int)+8 by omega]
 refine Ze<|Zg<|as_ J<|as_ J<|Zf<|Za<|Ze<|Ze<|Zg<|mv J<|tt (Zh (n:=2) (Xz _ _ ‹_›) J J J K1 Zfo (Zc 1 J J J Zd) J hw) fun _ _=>dt (Xh J J)<|mv J<|gdt (Yr J J) J J<|gtt (Zh (n:=2) (Xz _ _ ‹_›) J J J K1 Zfo (Zc 2 J J J Zd) J hw) J J J fun _ _=>gdt (Xh J J) J J<|dt (Yg J J J)<|Zf<|Za<|Yi J<|Zl<|Za<|Ze<|Ze<|Zg<|mv J<|dt (Yh J J (i:=1) J Zi Qx)<|mv J<|dt (Yh J J (i:=2) J Zi Qx)<|dt (Zum J J J)<|dt (Yy J J J ⟨by omega,by omega⟩)<|as_ J<|Zf<|Za<|Da [(0,_),(1,_)] [(0,_),(1,_),(2,_)] (fun(_:Unit)=>[(46,.bool (decide (Zqf xs ys)))]) (fun(_:Unit)=>[]) (fun(_:Unit)=>True) K2 K3 ?_ ?_
 ·refine Zg<|mv J<|dt (Yh J J (i:=1) J Zi Qx)<|dt (Of J J J)<|mv J<|Pa (d:=29) J (fun s371=>?_) (fun s371=>?_)
  ·refine gdt (Yr J J) J J<|gdt (Yh J J (i:=2) J Zi Qx) J J<|gdt (Of J J J) J J<|dt (Yu J J J)<|mv J<|Pa (d:=34) J (fun s371_2=>?_) (fun s371_2=>?_)
   ·exact gdt (Yr J J) J J<|gdt (Yr J J) J J<|gdt (Cb J J J (by rw [hN4];exact⟨by omega,by omega⟩)) J J<|gdt (Yr J J) J J<|gtt (Zh (n:=2) (Nz _ _ (by first | exact hv.sz | exact hu.sz)) J J J K1 Zac (Zc 1 J J J Zd) J hw) J J J fun _ _=>gdt (Yr J J) J J<|gtt (Zh (n:=2) (Nz _ _ (by first | exact hv.sz | exact hu.sz)) J J J K1 Zac (Zc 2 J J J Zd) J hw) J J J fun _ _=>gdt (Zum J J J) J J<|gdt (Yy J J J ⟨by omega,by omega⟩) J J<|gdt (Cb J J J (by rw [hN5];exact⟨by omega,by omega⟩)) J J<|gdt (Of J J J) J J<|dt (Yu J J J)<|Zf<|Ql () trivial ⟨by first | (rw [hN5];exact congrArg some (congrArg Value.bool (decide_eq_decide.2 ⟨fun h=>⟨by omega,by omega,by omega⟩,fun h=>by have:=h.2.2;omega⟩))) | exact congrArg some (congrArg Value.bool (decide_eq_false (fun h=>by have h1:=h.1;have h2:=h.2.1;omega)).symm),rfl,rfl,trivial⟩ K3
   ·exact gsk J J J<|gsk J J J<|gsk J J J<|gsk J J J<|gsk J J J<|gsk J J J<|gsk J J J<|gsk J J J<|gsk J J J<|gsk J J J<|gsk J J J<|dt (Yg J J J)<|Zf<|Ql () trivial ⟨by first | (rw [hN5];exact congrArg some (congrArg Value.bool (decide_eq_decide.2 ⟨fun h=>⟨by omega,by omega,by omega⟩,fun h=>by have:=h.2.2;omega⟩))) | exact congrArg some (congrArg Value.bool (decide_eq_false (fun h=>by have h1:=h.1;have h2:=h.2.1;omega)).symm),rfl,rfl,trivial⟩ K3
  ·exact gsk J J J<|gsk J J J<|gsk J J J<|dt (Yg J J J)<|mv J<|gsk J J J<|gsk J J J<|gsk J J J<|gsk J J J<|gsk J J J<|gsk J J J<|gsk J J J<|gsk J J J<|gsk J J J<|gsk J J J<|gsk J J J<|dt (Yg J J J)<|Zf<|Ql () trivial ⟨by first | (rw [hN5];exact congrArg some (congrArg Value.bool (decide_eq_decide.2 ⟨fun h=>⟨by omega,by omega,by omega⟩,fun h=>by have:=h.2.2;omega⟩))) | exact congrArg some (congrArg Value.bool (decide_eq_false (fun h=>by have h1:=h.1;have h2:=h.2.1;omega)).symm),rfl,rfl,trivial⟩ K3
 ·rintro _ -
  simp only [CA,NA]
  refine Zs J (fun h371=>?_) (fun h371=>?_)
  ·exfalso;exact hg h371
  ·refine Zl<|Za<|Ze<|Zg<|mv J<|tt (Zh (n:=3) (Ml _ _ hv) J J J K1 call150 (Zc 1 J J J Zd) J hw) fun _ _=>mv J<|dt (Yl J J J)<|dt (Yl J J J)<|as_ J<|as_ J<|Zf<|Za<|Ze<|Ze<|Zg<|mv J<|dt (Qc J J J)<|Zf<|Za<|Zs J (fun h375=>?_) (fun h375=>?_)
   ·exfalso;exact h375 rfl
   ·refine Zl<|Za<|Ze<|Zg<|mv J<|tt (Zh (n:=4) (Ml _ _ hu) J J J K1 call150 (Zc 2 J J J Zd) J hw) fun _ _=>mv J<|dt (Yl J J J)<|dt (Yl J J J)<|as_ J<|as_ J<|Zf<|Za<|Ze<|Ze<|Zg<|mv J<|dt (Qc J J J)<|Zf<|Za<|Zs J (fun h379=>?_) (fun h379=>?_)
    ·exfalso;exact h379 rfl
    ·refine Zl<|Za<|Da [] [(0,_),(1,_),(2,_),(3,_),(4,_)] (fun(q:Value×Value)=>[(7,q.1),(9,q.2)]) (fun(q:Value×Value)=>[(80,slp 2 wv q.1 (gA xs ys)),(81,slp 2 wv q.2 (gB xs ys))]) (fun(q:Value×Value)=>True) trivial K5 ?_ ?_
     ·refine Ze<|Zg<|mv J<|dt (Yh J J (i:=3) J Zi Qx)<|mv J<|dt (Yh J J (i:=4) J Zi Qx)<|dt (Xv J J J)<|Zf<|Za<|Zs J (fun h382=>?_) (fun h382=>?_)
      ·exact Zg<|mv J<|mv J<|as_ J<|as_ J<|Zf<|Qy (Od 4 80 J J J)<|Qy (Od 3 81 J J J)<|Ql (_,_) trivial K2 ⟨by unfold gA;first | rw [if_pos (by omega)];rfl | rw [if_neg (by omega)];rfl,by unfold gB;first | rw [if_pos (by omega)];rfl | rw [if_neg (by omega)];rfl,rfl,rfl,rfl,rfl,rfl,trivial⟩
      ·exact Zl<|Qy (Od 3 80 J J J)<|Qy (Od 4 81 J J J)<|Ql (_,_) trivial K2 ⟨by unfold gA;first | rw [if_pos (by omega)];rfl | rw [if_neg (by omega)];rfl,by unfold gB;first | rw [if_pos (by omega)];rfl | rw [if_neg (by omega)];rfl,rfl,rfl,rfl,rfl,rfl,trivial⟩
     ·rintro⟨va,vb⟩ -
      simp only [CA,NA]
      refine Ze<|Zo<|Nw [] [(0,_),(1,_),(2,_),(3,_),(4,_)] (fun(q:Value×Value×List Int×List Int×Nat)=>[(7,q.1),(9,q.2.1)]) (fun(q:Value×Value×List Int×List Int×Nat)=>[(80,slp 2 wv q.1 q.2.2.1),(81,slp 2 wv q.2.1 q.2.2.2.1)]) (fun(q:Value×Value×List Int×List Int×Nat)=>(Vp q.2.2.1)∧(Vp q.2.2.2.1)∧(eok q.2.2.2.2 q.2.2.1 q.2.2.2.1)∧(eu q.2.2.2.2 q.2.2.1 q.2.2.2.1=eu F (gA xs ys) (gB xs ys))) (fun(q:Value×Value×List Int×List Int×Nat)=>q.2.2.2.2) (va,vb,gA xs ys,gB xs ys,F) ⟨vp_gA hv hu,vp_gB hv hu,hok,J⟩ K2 K7 ?_
      rintro⟨va,vb,a,b,f⟩ ⟨hva,hvb,hok0,heu⟩
      dsimp only at hva hvb hok0 heu
      simp only [CA,NA]
      refine Ze<|Ze<|Zg<|mv J<|dt (Yh J J (i:=81) J Zi Qx)<|dt (Of J J J)<|Zf<|Za<|Zs J (fun h385=>?_) (fun h385=>?_)
      ·have hbn:b≠[]:=fun e=>by rw [e]at h385;simp at h385
       obtain⟨f1,rfl,hde,hok1,heu1⟩:=Zoz hok0 hbn
       refine Zl<|Za<|Zo<|Ze<|Zg<|mv J<|mv J<|tt (Zh (n:=5) (Zj2 _ _ _ _ hva hvb hde) J J J K2 call155 (Zc 80 J J J (Zc 81 J J J Zd)) J hw) fun _ _=>mv J<|dt (Yl J J J)<|dt (Yl J J J)<|as_ J<|as_ J<|Zf<|Za<|Ze<|Ze<|Zg<|mv J<|dt (Qc J J J)<|Zf<|Za<|Zs J (fun h387=>?_) (fun h387=>?_)
       ·exfalso;exact h387 rfl
       ·refine Zl<|Za<|Ze<|Ze<|Zg<|mv J<|tt (Zh (n:=6) (Ml _ _ (Bc hva hde)) J J J K1 call150 (Zc 5 J J J Zd) J hw) fun _ _=>mv J<|dt (Yl J J J)<|dt (Yl J J J)<|as_ J<|as_ J<|Zf<|Za<|Ze<|Zg<|mv J<|dt (Qc J J J)<|Zf<|Za<|Zs J (fun h390=>?_) (fun h390=>?_)
        ·exfalso;exact h390 rfl
        ·exact Zl<|Za<|Zg<|mv J<|mv J<|as_ J<|as_ J<|Zf<|Oe<|Qy (Od 81 80 J J J)<|Qy (Od 6 81 J J J)<|Xp (_,_,b,Xe (Pp a b),f1) ⟨hvb,Lv (Bc hva hde),hok1,by rw [←heu1];exact heu⟩ (Nat.lt_succ_self f1) K2 K7
      ·obtain rfl:b=[]:=List.eq_nil_of_length_eq_zero (by omega)
       rw [Ez]at heu
       have hal:=hva.len
       refine Yw<|Zx<|Zx<|Na<|Za<|Ze<|Ze<|Zg<|mv J<|dt (Yh J J (i:=80) J Zi Qx)<|dt (Of J J J)<|mv J<|Pa (d:=95) J (fun s395=>?_) (fun s395=>?_)
       ·refine gdt (Yr J J) J J<|gdt (Yr J J) J J<|gdt (Yh J J (i:=80) J Zi Qx) J J<|gdt (Qf J J J ⟨by omega,by omega⟩) J J<|gdt (Xc (ii:=80) (i:=(a.length-1)) J J J J Zi Qx Yo) J J<|gdt (Xs (ii:=80) 0 J J J Zi pV) J J<|gtt (Zh (n:=6) (Ms _ (hva.sz _)) J J J K1 call104 Zd J hw) J J J fun _ _=>gdt (Xv J J J) J J<|dt (Yu J J J)<|Zf<|Za<|Zs J (fun h395=>?_) (fun h395=>?_)
        ·have hneg:a.length≠0∧cf a (a.length-1)<0:=⟨by omega,(Qg _).1 h395⟩
         exact Ze<|Zg<|mv J<|tt (Zh (n:=6) (Xj (-1) (by first | assumption | exact⟨by omega,by omega⟩)) J J J K1 Bs Zd J hw) fun _ _=>tt (Zh (n:=7) (Ep _ _ (-1) hva (by decide) (Zad hva.sz)) J J J K2 call151 (Zc 80 J J J Zd) J hw) fun _ _=>dt (Yl J J J)<|dt (Yl J J J)<|as_ J<|as_ J<|Zf<|Za<|Zw<|Xa<|Zy (.inl J) hsc _ _ (fun a w hs=>Nr hs results110 J J) J trivial J (Yp 7 J J J (by unfold Ic Kp;rw [←heu,if_pos hneg]<;>rfl) Zj)
        ·refine Zl<|Za<|Ze<|Zg<|mv J<|as_ J<|as_ J<|Zf<|Za<|Zw ?_
         have hneg:¬(a.length≠0∧cf a (a.length-1)<0):=fun h=>by first | omega | exact absurd ((Qg (cf a (a.length-1))).2 h.2) ‹_›
         exact Zy (.inl J) hsc _ _ (fun a w hs=>Nr hs results110 J J) J trivial J (Yp 80 J J J (by unfold Ic Kp;rw [←heu,if_neg hneg]<;>rfl) Zj)
       ·refine gsk J J J<|gsk J J J<|gsk J J J<|gsk J J J<|gsk J J J<|gsk J J J<|gsk J J J<|gsk J J J<|dt (Yg J J J)<|Zf<|Za<|Yi J<|Zl<|Za<|Ze<|Zg<|mv J<|as_ J<|as_ J<|Zf<|Za<|Zw ?_
        have hneg:¬(a.length≠0∧cf a (a.length-1)<0):=fun h=>by first | omega | exact absurd ((Qg (cf a (a.length-1))).2 h.2) ‹_›
        exact Zy (.inl J) hsc _ _ (fun a w hs=>Nr hs results110 J J) J trivial J (Yp 80 J J J (by unfold Ic Kp;rw [←heu,if_neg hneg]<;>rfl) Zj)
theorem poly_of(v:Value)(l:List Int)(hl:∀x∈l,inI x)(hlen:l.length≤1000):Cal prog 108 #[v] [slp 1 Zaf v l] true (G:=Value) (fun r=>True) (fun r=> .tuple #[r,.int .i64 (if 25<(tzl l).length then 7 else 0)]) (fun r=>[slp 2 wv r (if 25<(tzl l).length then []else tzl l)]):=by
 refine Yd func108 J ntmps108 J K1 ?_
 intro w0 sc hw hsc
 simp only [Zq,Zp]
 have hsz:=Zef hl
 refine Ze<|Zg<|as_ J<|as_ J<|Zf<|Za<|Ze<|Zg<|as_ J<|Zf<|Za<|Ze<|Ze<|Zg<|mv J<|dt (Yh J J (i:=1) J Zi Me)<|mv J<|Zf<|Za<|Zo<|Yq (Nh 70 2 31 wv)<|Nw [(7,_),(8,_)] [(0,_),(1,_)] (fun(q:Nat×Value)=>[(9,.int .i64 (q.1:Int)),(4,q.2)]) (fun(q:Nat×Value)=>[(70,osl 2 31 wv q.2 (l.take q.1))]) (fun(q:Nat×Value)=>q.1≤l.length) (fun(q:Nat×Value)=>l.length-q.1) (0,.slice none 0 0) (by first | omega | (dsimp only<;>omega)) K4 K3 ?_
 rintro⟨k,vo⟩ hk
 dsimp only at hk
 simp only [CA,NA]
 have hlk:(l.take k).length=k:=by rw [List.length_take];omega
 refine Ze<|Zg<|dt (Xv J J J)<|Zf<|Za<|Ze<|Zs J (fun h62=>?_) (fun h62=>?_)
 ·exact Zl<|Za<|Ze<|Zo<|Ze<|Zg<|dt (Xc (ii:=1) J J J J Zi Me zT3 J (by first | omega | (simp only [List.length_set];omega)))<|dt (Xs (ii:=1) 0 J J J Zi pZ (by first | omega | (simp only [List.length_set];omega)))<|as_ J<|Zf<|Za<|Zg<|mv J<|mv J<|tt (Zh (n:=1) (Xj _ (hl _ (Yx))) J J J K1 Bs Zd J hw) fun _ _=>tt (Pm (i:=2) (ivs:=[(0,_)]) (enc:=wv) [l.getD k 0] J J K2 Qx ti31 J J J J J pV.cells J J hw) fun v _=>tt (Iv (i:=70) (j:=2) (by_:=24) J J J J J J (by decide) J (Yt pV) Qx ti31 J pV J J J (by simp;omega) (by decide) J hw) fun v_2 _=>as_ J<|Zf<|Oe<|Za<|Zg<|dt (Yy J J J ⟨by omega,by omega⟩)<|mv J<|Zf<|Xp (k+1,_) (by first | omega | (dsimp only<;>omega)) (by first | omega | (dsimp only<;>omega)) K4 ⟨by rw [Oq 0 _ _ (by omega)];rfl,rfl,rfl,trivial⟩
 ·refine Yw<|Zx<|Zx<|Na<|Za<|Ze ?_
  obtain rfl:k=l.length:=by omega
  rw [List.take_length]
  refine Yq (Pe 70 J J pV)<|Zg<|mv J<|tt (Zh (n:=3) (Za0 _ _ hsz) J J J K1 call152 (Zc 70 J J J Zd) J hw) fun _ _=>as_ J<|Zf<|Za<|Ze<|Ze<|Zg<|mv J<|dt (Yh J J (i:=3) J Zi Qx)<|dt (Of J J J)<|Zf<|Za<|Zs J (fun h66=>?_) (fun h66=>?_)
  ·refine Ze<|Zg<|as_ J<|as_ J<|Zf<|Za<|Zw<|Xa ?_
   have h25:25<(tzl l).length:=by omega
   exact Zy (.inl J) hsc _ _ (fun a w hs=>Nr hs results108 J J) (by rw [if_pos h25]) trivial J (Ln (if_pos h25) Zj)
  ·refine Zl<|Za<|Ze<|Zg<|mv J<|as_ J<|as_ J<|Zf<|Za<|Zw ?_
   have h25:¬25<(tzl l).length:=by omega
   exact Zy (.inl J) hsc _ _ (fun a w hs=>Nr hs results108 J J) (by rw [if_neg h25]<;>rfl) trivial J (Yp 3 J J J (by rw [if_neg h25]<;>rfl) Zj)
end Go.Sky

