/- rules, arithmetic and contracts: part 8
   Proved without conditions of its own: each theorem bears its own. -/
import Derived.Test.YtcmiiammekgooaaGreatSo03
import Derived.Test.YtcmiiammekgooaaGreatSo02
import Derived.Test.YtcmiiammekgooaaGreatSo01
import Derived.Test.YtcmiiammekgooaaGreatSo06
set_option linter.all false
namespace Go.Sky
open Go.Proofs
set_option maxRecDepth 20000
set_option maxHeartbeats 4000000
set_option linter.unusedVariables false
set_option linter.unusedSimpArgs false
theorem Zam(v u:Value)(xs ys:List Int)(hv:Vp xs)(hu:Vp ys):Cal Tryz.prog 156#[v,u] [slp 2 wv v xs,slp 2 wv u ys]false(G:=Unit)(fun _=>True)(fun _=> .tuple#[.bool(dlow xs ys),.int .i64(Zdl xs ys)])(fun _=>[]):=by
 refine Yc Tryz.func156 J Tryz.ntmps156 J K2 ?_
 intro w0 sc hw hsc
 simp only [Zo,Zn]
 have hlen:=hv.len
 have hlen2:=hu.len
 have hm1:=Pp hv.sz
 have hm2:=Pp hu.sz
 refine Zb<|Zg<|as_ J J<|as_ J J<|Zf<|Za<|Zb<|Zl<|Zb<|Zg<|mv J J<|tt(Zh(n:=2)(Xp _ _(by assumption))J J J K1 Zcy(Zd 1 J J J Ze)J hw)J fun _ _=>dt(Xr J J)J<|mv J J<|gdt(Ym J J)J J J J<|gtt(Zh(n:=2)(Xp _ _(by assumption))J J J K1 Zcy(Zd 2 J J J Ze)J hw)J J J J fun _ _=>gdt(Xr J J)J J J J<|dt(Yh J J J)J<|as_ J J<|Zf<|Za<|Yf J<|Zb<|Zg<|mv J J<|dt(Ya J J(i:=2)J Zi Qp)J<|dt(Pm J J J)J<|as_ J J<|Zf<|Za<|Zp J(fun h297=>?_)(fun h297=>?_)
 ·exact Zb<|Zg<|as_ J J<|as_ J J<|Zf<|Za<|Zw<|Hb<|Xe<|Zy(.inl J)hsc()_(fun a w hs=>No hs Tryz.results156 J J)(by unfold Zdl dlow;rw [if_pos(by omega),List.eq_nil_of_length_eq_zero(l:=ys)(by omega)];rfl)trivial J Zj
 ·refine Zb<|Zg<|mv J J<|dt(Ya J J(i:=1)J Zi Qp)J<|mv J J<|dt(Ya J J(i:=2)J Zi Qp)J<|dt(Xw J J J)J<|as_ J J<|Zf<|Za<|Zp J(fun h299=>?_)(fun h299=>?_)
  ·exact Zb<|Zg<|as_ J J<|as_ J J<|Zf<|Za<|Zw<|Hb<|Xe<|Zy(.inl J)hsc()_(fun a w hs=>No hs Tryz.results156 J J)(by rw [Zez(by omega),decide_eq_true(by omega)];unfold Zdl;rw [if_neg(by omega),if_pos(by omega)])trivial J Zj
  ·have hp3:(xs.length-ys.length+1)*(msz ys+1)≤26*65537:=Nat.mul_le_mul(by omega)(by omega)
   have hp4:((xs.length:Int)-(ys.length:Int)+1)*((msz ys:Int)+1)=(((xs.length-ys.length+1)*(msz ys+1):Nat):Int):=by rw [Int.natCast_mul];congr 1;omega
   refine Zb<|Zg<|mv J J<|tt(Zh(n:=2)(Nv _ _(by first | exact hv.sz | exact hu.sz))J J J K1 Aj(Zd 1 J J J Ze)J hw)J fun _ _=>mv J J<|dt(Ya J J(i:=1)J Zi Qp)J<|mv J J<|dt(Ya J J(i:=2)J Zi Qp)J<|dt(Qb J J J⟨by omega,by omega⟩)J<|dt(Ys J J J⟨by omega,by omega⟩)J<|mv J J<|tt(Zh(n:=2)(Nv _ _(by first | exact hv.sz | exact hu.sz))J J J K1 Aj(Zd 2 J J J Ze)J hw)J fun _ _=>dt(Ys J J J⟨by omega,by omega⟩)J<|dt(Gi J J J(by rw [hp4];exact⟨by omega,by omega⟩))J<|dt(Ys J J J(by rw [hp4];exact⟨by omega,by omega⟩))J<|dt(Ot J J J)J<|as_ J J<|Zf<|Za<|Zp J(fun h301=>?_)(fun h301=>?_)
   ·exact Zb<|Zg<|as_ J J<|as_ J J<|Zf<|Za<|Zw<|Hb<|Xe<|Zy(.inl J)hsc()_(fun a w hs=>No hs Tryz.results156 J J)(by rw [hp4]at h301;rw [Zez(by omega),decide_eq_false(by omega)];unfold Zdl;rw [if_neg(by omega),if_neg(by omega),if_pos(by omega)])trivial J Zj
   ·exact Zk<|Px<|Za<|Zb<|Zg<|as_ J J<|as_ J J<|Zf<|Za<|Zw<|Zy(.inl J)hsc()_(fun a w hs=>No hs Tryz.results156 J J)(by rw [hp4]at h301;rw [Zez(by omega),decide_eq_false(by omega)];unfold Zdl;rw [if_neg(by omega),if_neg(by omega),if_neg(by omega)])trivial J Zj
theorem Zjm(v u:Value)(xs ys:List Int)(hv:Vp xs)(hu:Vp ys)(hd:Zdl xs ys=0):Cal Tryz.prog 155#[v,u] [slp 2 wv v xs,slp 2 wv u ys]true(G:=Value)(fun r=>True)(fun r=> .tuple#[r,.int .i64 0])(fun r=>[slp 2 wv r(Pk xs ys)]):=by
 refine Yc Tryz.func155 J Tryz.ntmps155 J K2 ?_
 intro w0 sc hw hsc
 simp only [Zo,Zn]
 have hlen:=hv.len
 have hlen2:=hu.len
 have hm1:=Pp hv.sz
 have hm2:=Pp hu.sz
 obtain⟨hm0,hF0⟩:=Ah hd
 have hdl:=Zez(p:=xs)hm0
 refine Zb<|Zg<|as_ J J<|as_ J J<|Zf<|Za<|Zb<|Zg<|mv J J<|mv J J<|tt(Zh(n:=2)(Zam _ _ _ _ hv hu)J J J K2 cF156(Zd 1 J J J(Zd 2 J J J Ze))J hw)J fun _ _=>mv J J<|dt(Yg J J J)J<|dt(Yg J J J)J<|as_ J J<|as_ J J<|Zf<|Za<|Zb<|Zb<|Zg<|mv J J<|dt(Qe J J J)J<|Zf<|Za<|Zp J(fun h310=>?_)(fun h310=>?_)
 ·exfalso;exact h310 hd
 ·refine Zk<|Za<|Zb<|Zg<|mv J J<|tt(Zkw(n:=3)(Zt8 _ _(by omega))J J J K1 cF157(Zd 1 J J J Ze)J hw)J fun v _=>as_ J J<|Zf<|Za<|Zb<|Zb<|Zg<|mv J J<|Zf<|Za<|Mt J(fun h314=>?_)(fun h314=>?_)
  ·have hlt:xs.length<ys.length:=by rw [hdl]at h314;simpa using h314
   exact Zb<|Zg<|mv J J<|as_ J J<|as_ J J<|Zf<|Za<|Zw<|Xe<|Zy(.inl J)hsc _ _(fun a w hs=>No hs Tryz.results155 J J)J trivial J(Pv 3 J J pV(by unfold Pk;rw [if_pos hlt])Zj)
  ·have hge:ys.length≤xs.length:=by rw [hdl]at h314;simpa using h314
   have hF:=hF0 hge
   refine Zk<|Za<|Zb<|Zg<|tt(Zq(i:=4)J J J Tryz.zeroValue167 J J hw)J fun b _=>Zf<|Za<|Zb<|Zg<|mv J J<|mv J J<|dt(Ya J J(i:=2)J Zi Qp)J<|dt(Qb J J J⟨by omega,by omega⟩)J<|dt(Yw(ii:=2)(i:=(ys.length-1))J J J J Zi Qp Yl(by omega)(by omega))J<|dt(Xn(ii:=2)0 J J J Zi pV(by omega))J<|tt(Zq(i:=5)J J J Tryz.zeroValue31 J J hw)J fun b_2 _=>tt(Zm(i:=5)J J J J J(by decide)J Yl J J⟨Zc J,Zc J,trivial⟩J hw trivial)J fun _ _=>Zf<|Za<|Zb<|Zb<|Zg<|mv J J<|dt(Ya J J(i:=1)J Zi Qp)J<|dt(Qb J J J⟨by omega,by omega⟩)J<|as_ J J<|Zf<|Za<|Zl<|Nt [(1,_),(8,_),(9,_),(10,_)] [(0,_),(1,_),(2,_),(4,_),(5,_)](fun(j:Nat)=>[(11,.int .i64((xs.length:Int)-1-(j:Int)))])(fun(j:Nat)=>[(3,osl 2 31 wv v(Pf xs ys j))])(fun(j:Nat)=>j≤xs.length-ys.length+1)(fun(j:Nat)=>xs.length-ys.length+1-j)0(by first | omega | (dsimp only<;>omega))⟨by rw [show(xs.length:Int)-1-((0:Nat):Int)=(xs.length:Int)-1 by omega];rfl,rfl,rfl,rfl,rfl,trivial⟩K6 ?_
   rintro j hj
   simp only [List.cons_append,List.nil_append]
   refine Zb<|Zb<|Zg<|mv J J<|mv J J<|dt(Ya J J(i:=2)J Zi Qp)J<|dt(Qb J J J⟨by omega,by omega⟩)J<|dt(Lq J J J)J<|Zf<|Za<|Zp J(fun h319=>?_)(fun h319=>?_)
   ·obtain⟨hb1,hb2,hb3⟩:=rest_b hF(j:=j)(by omega)
    have hRl:=Qz xs ys j
    refine Zk<|Za<|Zb<|Zl<|Zb<|Zg<|mv J J<|mv J J<|dt(Yw(ii:=3)(i:=(xs.length-1-j))J J J J(Yo pV)Qp Yl(by omega)(by omega))J<|dt(Xn(ii:=3)0 J J J(Yo pV)pV(by omega))J<|tt(Zq(i:=6)J J J Tryz.zeroValue31 J J hw)J fun b_3 _=>tt(Zm(i:=6)J J J J J(by decide)J Yl J J⟨Zc J,Zc J,trivial⟩J hw trivial)J fun _ _=>Zf<|Za<|Zb<|Zb<|Zg<|mv J J<|dt(Ya J J(i:=3)J(Yo pV)Qp)J<|mv J J<|Zf<|Za<|Zl<|Nt [(1,_),(8,_),(9,_),(10,_),(11,_),(12,_),(51,_)] [(0,_),(1,_),(2,_),(4,_),(5,_),(6,_)](fun(i:Nat)=>[(52,.int .i64(i:Int))])(fun(i:Nat)=>[(3,osl 2 31 wv v(Zp2(Pf xs ys j)(cf ys(ys.length-1))i))])(fun(i:Nat)=>i≤xs.length)(fun(i:Nat)=>xs.length-i)0(by first | omega | (dsimp only<;>omega))K8⟨by rw [Zsj];rfl,rfl,rfl,rfl,rfl,rfl,rfl,trivial⟩ ?_
    rintro i hi
    simp only [List.cons_append,List.nil_append]
    have hg1:i<xs.length→(Zp2(Pf xs ys j)(cf ys(ys.length-1))i).getD i 0=cf(Pf xs ys j)i:=fun h=>Zw4(by omega)
    have hl1:=Zlw(Pf xs ys j)(cf ys(ys.length-1))i
    refine Zb<|Zg<|dt(Xw J J J)J<|Zf<|Za<|Zb<|Zp J(fun h322=>?_)(fun h322=>?_)
    ·refine Zk<|Za<|Zb<|Zl<|Zb<|Zg<|mv J J<|as_ J J<|Zf<|Za<|Qr(fun x=>x=b) [(0,0),(1,0),(2,0),(3,0),(4,0),(5,0),(6,0),(7,1),(8,0),(9,3)](by kernel_rfl) ?_ ?_
     ·kernel_rfl
     exact r0' J J J J(st1 4 J(Ym J J))<|r0' J J J J(st1 4 J(Ym J J))<|r0' J J J J(st1 4 J(Ym J J))<|r0' J J J J(st1 4 J(Ym J J))<|r0' J J J J(st1 4 J(Yw(ii:=3)(i:=i)J J J J(Yo pV)Qp Yl J(by omega)))<|r0' J J J J(st1 4 J(Xn(ii:=3)0 J J J(Yo pV)pV(by omega)))<|r0' J J J J(st1 4 J(Yb(i:=5)J J J Qq Yl J J))<|r1' J J(Oi(n:=6)(i:=4)(Ec _ _ _(by rw [hg1(by omega)];exact hb1 _)(hu.sz _)(by rw [hg1(by omega)];exact hb2 _ _))J J J K3 Zca J(by decide)Ze J hw J)fun _ _=>r0' J J J J(st1 4 J(Yw(ii:=3)(i:=i)J J J J(Yo pV)Qp Yl J(by omega)))<|r3' J J(Ky(i:=3)(enc:=wv)_ J J J J J J(by decide)pV(by omega)J hw)fun _ _=>Oj<|Px<|Za<|Zg<|dt(Ys J J J⟨by omega,by omega⟩)J<|mv J J<|Zf<|Xl(i+1)(by first | omega | (dsimp only<;>omega))(by first | omega | (dsimp only<;>omega))K8⟨by rw [←Zw3(by omega),←hg1(by omega)];rfl,rfl,rfl,rfl,rfl,rfl,rfl,trivial⟩
    ·refine Yu<|Zt<|Zt<|Ov<|Za<|Zb ?_
     obtain rfl:i=xs.length:=by omega
     refine Zg<|mv J J<|dt(Ya J J(i:=2)J Zi Qp)J<|mv J J<|Zf<|Za<|Zl<|Nt [(1,_),(8,_),(9,_),(10,_),(11,_),(12,_),(65,_),(66,_)] [(0,_),(1,_),(2,_),(4,_),(5,_),(6,_)](fun(i:Nat)=>[(67,.int .i64(i:Int))])(fun(i:Nat)=>[(3,osl 2 31 wv v(Zu1 ys(Pf xs ys j)(cf ys(ys.length-1))(cf(Pf xs ys j)(xs.length-1-j))(xs.length-1-j-(ys.length-1))i))])(fun(i:Nat)=>i≤ys.length)(fun(i:Nat)=>ys.length-i)0(by first | omega | (dsimp only<;>omega))K9⟨by rw [←Zqq,hRl];rfl,rfl,rfl,rfl,rfl,rfl,rfl,trivial⟩ ?_
     rintro i hi
     simp only [List.cons_append,List.nil_append]
     have hg2:i<ys.length→(Zu1 ys(Pf xs ys j)(cf ys(ys.length-1))(cf(Pf xs ys j)(xs.length-1-j))(xs.length-1-j-(ys.length-1))i).getD((xs.length-1-j-(ys.length-1))+i)0=cf(Pf xs ys j)((xs.length-1-j-(ys.length-1))+i)*(cf ys(ys.length-1)):=fun h=>Zvm(by omega)
     have hl2:=Zlv ys(Pf xs ys j)(cf ys(ys.length-1))(cf(Pf xs ys j)(xs.length-1-j))(xs.length-1-j-(ys.length-1))i
     refine Zb<|Zg<|dt(Xw J J J)J<|Zf<|Za<|Zb<|Zp J(fun h325=>?_)(fun h325=>?_)
     ·refine Zk<|Za<|Zb<|Zl<|Zb<|Zg<|mv J J<|dt(Yw(ii:=2)J J J J Zi Qp Yl J(by first | omega | (simp only [List.length_set];omega)))J<|dt(Xn(ii:=2)0 J J J Zi pV(by first | omega | (simp only [List.length_set];omega)))J<|tt(Zq(i:=7)J J J Tryz.zeroValue31 J J hw)J fun b_4 _=>as_ J J<|tt(Zm(i:=7)J J J J J(by decide)J Yl J J⟨Zc J,Zc J,trivial⟩J hw trivial)J fun _ _=>Zf<|Za<|Zb<|Zg<|mv J J<|mv J J<|dt(Ya J J(i:=2)J Zi Qp)J<|dt(Qb J J J⟨by omega,by omega⟩)J<|dt(Qb J J J⟨by omega,by omega⟩)J<|mv J J<|dt(Ys J J J⟨by omega,by omega⟩)J<|as_ J J<|Zf<|Za<|Qr(fun x=>x=b) [(0,0),(1,0),(2,0),(3,0),(4,0),(5,0),(6,0),(7,0),(8,1),(9,1),(10,0),(11,3)](by kernel_rfl) ?_ ?_
      ·kernel_rfl
      refine r0' J J J J(st1 4 J(Ym J J))<|r0' J J J J(st1 4 J(Ym J J))<|r0' J J J J(st1 4 J(Ym J J))<|r0' J J J J(st1 4 J(Ym J J))<|r0' J J J J(st1 4 J(Yw(ii:=3)(i:=((xs.length-1-j-(ys.length-1))+i))J J J J(Yo pV)Qp Yl(by omega)(by omega)))<|r0' J J J J(st1 4 J(Xn(ii:=3)0 J J J(Yo pV)pV(by omega)))<|r0' J J J J(st1 4 J(Yb(i:=6)J J J Qq Yl J J))<|r0' J J J J(st1 4 J(Yb(i:=7)J J J Qq Yl J J))<|r1' J J(Oi(n:=7)(i:=4)(Ec _ _ _(hb1 _)(hu.sz _)(hb2 _ _))J J J K3 Zca J(by decide)Ze J hw J)fun _ _=>r1' J J(Oi(n:=7)(i:=4)(Zts _ _ _(by rw [hg2(by omega)];exact hb2 _ _)(hb2 _ _)(by rw [hg2(by omega)];exact hb3 _ _ _ _))J J J K3 cF137 J(by decide)Ze J hw J)fun _ _=>r0' J J J J(st1 4 J(Yw(ii:=3)(i:=((xs.length-1-j-(ys.length-1))+i))J J J J(Yo pV)Qp Yl(by omega)(by omega)))<|r3' J J(Ky(i:=3)(enc:=wv)_ J J J J J J(by decide)pV(by omega)J hw)fun _ _=>Oj<|Px<|Za<|Zg<|dt(Ys J J J⟨by omega,by omega⟩)J<|mv J J<|Zf ?_
      exact Xl(i+1)(by first | omega | (dsimp only<;>omega))(by first | omega | (dsimp only<;>omega))K9⟨by rw [←Zvl(by omega),←hg2(by omega)];rfl,rfl,rfl,rfl,rfl,rfl,rfl,trivial⟩
     ·refine Yu<|Zt<|Zt<|Ov<|Px<|Za<|Zg<|mv J J<|dt(Qb J J J⟨by omega,by omega⟩)J<|as_ J J<|Zf ?_
      obtain rfl:i=ys.length:=by omega
      exact Xl(j+1)(by first | omega | (dsimp only<;>omega))(by first | omega | (dsimp only<;>omega))⟨by rw [show(xs.length:Int)-1-((j+1:Nat):Int)=(xs.length:Int)-1-(j:Int)-1 by omega];rfl,rfl,rfl,rfl,rfl,trivial⟩⟨by rfl,rfl,rfl,rfl,rfl,rfl,trivial⟩
   ·refine Yu<|Zt<|Zt<|Ov<|Za<|Zb ?_
    obtain rfl:j=xs.length-ys.length+1:=by omega
    exact Yn(Pe 3 J J pV)<|Zg<|mv J J<|tt(Oi(n:=8)(i:=4)(Za6 _ _ _(Zm1 hF))J J J K2 Zmi J(by decide)(Zd 3 J J J Ze)J hw trivial)J fun _ _=>dt(Yg J J J)J<|dt(Yg J J J)J<|as_ J J<|as_ J J<|Zf<|Za<|Zw<|Zy(.inl J)hsc _ _(fun a w hs=>No hs Tryz.results155 J J)J trivial J(Yk 8 J J J(by unfold Pk;rw [if_neg(by omega)]<;>rfl)Zj)
theorem Ab(v u:Value)(xs ys:List Int)(hv:Vp xs)(hu:Vp ys)(hd:Zdl xs ys=0):Cal Tryz.prog 111#[v,u] [slp 2 wv v xs,slp 2 wv u ys]true(G:=Value)(fun r=>True)(fun r=> .tuple#[r,.int .i64(if pdv xs ys then 0 else 10)])(fun r=>[slp 2 wv r(if pdv xs ys then Kl xs ys else [])]):=by
 refine Yc Tryz.func111 J Tryz.ntmps111 J K2 ?_
 intro w0 sc hw hsc
 simp only [Zo,Zn]
 have hlen:=hv.len
 have hlen2:=hu.len
 have hm1:=Pp hv.sz
 have hm2:=Pp hu.sz
 obtain⟨hm0,hF0⟩:=Ah hd
 have hdl:=Zez(p:=xs)hm0
 have hyz:cf ys(ys.length-1)≠0:=hu.tr.mem(fun e=>hm0(by rw [e];rfl))
 refine Zb<|Zg<|as_ J J<|as_ J J<|Zf<|Za<|Zb<|Zg<|mv J J<|mv J J<|tt(Zh(n:=2)(Zam _ _ _ _ hv hu)J J J K2 cF156(Zd 1 J J J(Zd 2 J J J Ze))J hw)J fun _ _=>mv J J<|dt(Yg J J J)J<|dt(Yg J J J)J<|as_ J J<|as_ J J<|Zf<|Za<|Zb<|Zl<|Zb<|Zg<|mv J J<|dt(Qe J J J)J<|as_ J J<|Zf<|Za<|Zp J(fun h337=>?_)(fun h337=>?_)
 ·exfalso;exact h337 hd
 ·refine Zb<|Zg<|mv J J<|dt(Ya J J(i:=1)J Zi Qp)J<|dt(Pm J J J)J<|as_ J J<|Zf<|Za<|Zp J(fun h339=>?_)(fun h339=>?_)
  ·refine Zb<|Zg<|as_ J J<|as_ J J<|Zf<|Za<|Zw<|Hb<|Xe ?_
   have hx0:xs=[]:=List.eq_nil_of_length_eq_zero(by omega)
   have hp:pdv xs ys:= .inl hx0
   exact Zy(.inl J)hsc _ _(fun a w hs=>No hs Tryz.results111 J J)(by rw [if_pos hp])trivial J(Lg(by rw [if_pos hp,hx0];rfl)Zj)
  ·have hnx:xs≠[]:=fun e=>by rw [e]at h339;simp at h339
   refine Zb<|Zg<|mv J J<|as_ J J<|Zf<|Za<|Mt J(fun h341=>?_)(fun h341=>?_)
   ·have hlt:xs.length<ys.length:=by rw [hdl]at h341;simpa using h341
    refine Zb<|Zg<|as_ J J<|as_ J J<|Zf<|Za<|Zw<|Hb<|Xe ?_
    have hp:¬pdv xs ys:=fun h=>by rcases h with h | h;(exact hnx h);(have:=h.1;omega)
    exact Zy(.inl J)hsc _ _(fun a w hs=>No hs Tryz.results111 J J)(by rw [if_neg hp])trivial J(Lg(if_neg hp)Zj)
   ·have hge:ys.length≤xs.length:=by rw [hdl]at h341;simpa using h341
    have hF:=hF0 hge
    refine Zk<|Px<|Za<|Zb<|Zg<|tt(Zq(i:=3)J J J Tryz.zeroValue167 J J hw)J fun b _=>Zf<|Za<|Zb<|Zg<|mv J J<|tt(Zkw(n:=4)(Zt8 _ _(by omega))J J J K1 cF157(Zd 1 J J J Ze)J hw)J fun v _=>as_ J J<|Zf<|Za<|Zb<|Zg<|mv J J<|dt(Ya J J(i:=1)J Zi Qp)J<|mv J J<|dt(Ya J J(i:=2)J Zi Qp)J<|dt(Qb J J J⟨by omega,by omega⟩)J<|dt(Ys J J J⟨by omega,by omega⟩)J<|tt(Hk(i:=5)(n:=(xs.length-ys.length+1))(by_:=24)(enc:=wv)0 J J J J J(by omega)Qp Tryz.ti31 J pV.cells pV.pos J J(by omega)(by decide)J hw)J fun v_2 _=>as_ J J<|Zf<|Za<|Zb<|Zb<|Zg<|mv J J<|dt(Ya J J(i:=5)J(Yo pV)Qp)J<|dt(Qb J J J⟨by simp only [List.length_replicate];omega,by simp only [List.length_replicate];omega⟩)J<|as_ J J<|Zf<|Za<|Zl ?_
    refine Nt [(1,_),(8,_),(9,_),(10,_)] [(0,_),(1,_),(2,_),(3,_)](fun(j:Nat)=>[(11,.int .i64((xs.length:Int)-(ys.length:Int)-(j:Int)))])(fun(j:Nat)=>[(4,osl 2 31 wv v(Qj xs ys j)),(5,osl 2 31 wv v_2(Zj7 xs ys j))])(fun(j:Nat)=>(j≤xs.length-ys.length+1)∧(∀k,xs.length-ys.length<k+j→k≤xs.length-ys.length→Mu xs ys k))(fun(j:Nat)=>xs.length-ys.length+1-j)0⟨by first | omega | (dsimp only<;>omega),fun k h1 h2=>by omega⟩⟨by simp only [List.length_replicate];exact congrArg some(Dj(by omega)),rfl,rfl,rfl,rfl,trivial⟩⟨J,by rw [Zj6];rfl,rfl,rfl,rfl,rfl,trivial⟩ ?_
    rintro j⟨hj,hx⟩
    simp only [List.cons_append,List.nil_append]
    have hol:=Ev xs ys j
    refine Zb<|Zb<|Zg<|mv J J<|dt(Lq J J J)J<|Zf<|Za<|Zp J(fun h347=>?_)(fun h347=>?_)
    ·obtain⟨hb1,hb5⟩:=div_b hF(j:=j)(by omega)hx
     have hRl:=Ic xs ys j
     have hi1:xs.length-ys.length-j+ys.length-1<xs.length:=by omega
     refine Zk<|Za<|Zb<|Zl<|Dc [(1,_),(8,_),(9,_),(10,_),(11,_)] [(0,_),(4,_),(5,_),(1,_),(2,_),(3,_)](fun(q:Nat×Nat)=>[(12,.pointer(some⟨q.1,0,none⟩)),(13,.pointer(some⟨q.2,0,none⟩)),(14,.int .i64 0)])(fun(q:Nat×Nat)=>[(97,box q.1 31(wc(Zgj(dq ys(Qj xs ys j)(xs.length-ys.length-j))))),(98,box q.2 31(wc(Zgj(cf(Qj xs ys j)((xs.length-ys.length-j)+ys.length-1)%cf ys(ys.length-1)))))])(fun(q:Nat×Nat)=>True)K5 K6 ?_ ?_
     ·refine On [2,4] [23](by kernel_rfl)<|Zz(n:=10) [(0,0),(1,0),(2,0),(3,0),(4,0),(5,0),(6,0),(7,0),(8,0),(9,0),(10,0),(11,0),(12,0),(13,0)](by kernel_rfl)<|r0' J J J J(stf(Ym J J)K2)<|r0' J J J J(stf(Ym J J)K2)<|r0' J J J J(stf(Ym J J)K2)<|r0' J J J J(stf(Ya J J(i:=2)J Zi Qp)K2)<|r0' J J J J(stf(Ys J J J⟨by omega,by omega⟩)K2)<|r0' J J J J(stf(Qb J J J⟨by omega,by omega⟩)K2)<|r0' J J J J(stf(Yw(ii:=4)(i:=((xs.length-ys.length-j)+ys.length-1))J J J J(Yo pV)Qp Yl(by omega)(by omega))K2)<|r0' J J J J(stf(Xn(ii:=4)0 J J J(Yo pV)pV(by omega))K2)<|r0' J J J J(stf(Ym J J)K2)<|r0' J J J J(stf(Ym J J)K2)<|r0' J J J J(stf(Ya J J(i:=2)J Zi Qp)K2)<|r0' J J J J(stf(Qb J J J⟨by omega,by omega⟩)K2)<|r0' J J J J(stf(Yw(ii:=2)(i:=(ys.length-1))J J J J Zi Qp Yl(by omega)(by omega))K2)<|r0' J J J J(stf(Xn(ii:=2)0 J J J Zi pV(by omega))K2)<|Yp<|Zbh(n:=9)14 19 20(by kernel_rfl) ?_ ?_ ?_
      ·refine Yq J J(Zh(n:=5)(Cl _ _(hb1 _)(hu.sz _)hyz)J J J K2 Zpx Ze J hw)fun _ _=>Zz(n:=5) [(15,0),(16,0),(17,0),(18,0)](by kernel_rfl)<|r0' J J J J(stf(Ym J J)K2)<|r0' J J J J(stf(Yg J J J)K2)<|r0' J J J J(stf(Yg J J J)K2)<|r0' J J J J(stf(Yg J J J)K2)<|Yp<|Pw(n:=4)19 20(by kernel_rfl) ?_ ?_
       ·exact Yq J J(Zv(i:=97)J J J Tryz.zeroValue31 J J hw K2)fun b_2 hoff=>Zz(n:=0) [(20,1),(21,1),(22,1),(23,3)](by kernel_rfl)<|r1' J J(Zv(i:=98)J J J Tryz.zeroValue31 J J hw K2)fun b_3 hoff_2=>r1' J J(Zm(i:=97)J J J J J(by decide)J Yl J J⟨Zc J,Zc J,trivial⟩J hw hoff)fun _ _=>r1' J J(Zm(i:=98)J J J J J(by decide)J Yl J J⟨Zc J,Zc J,trivial⟩J hw hoff_2)fun _ _=>r3' J J(Pz(Kc J J)J J)fun _ _=>Yp<|Yj(by kernel_rfl)<|Qy(_,_)trivial K8 K8
       ·exact Yq J J(Zv(i:=98)J J J Tryz.zeroValue31 J J hw K2)fun b_4 hoff_3=>Zz(n:=0) [(19,1),(21,1),(22,1),(23,3)](by kernel_rfl)<|r1' J J(Zv(i:=97)J J J Tryz.zeroValue31 J J hw K2)fun b_5 hoff_4=>r1' J J(Zm(i:=97)J J J J J(by decide)J Yl J J⟨Zc J,Zc J,trivial⟩J hw hoff_4)fun _ _=>r1' J J(Zm(i:=98)J J J J J(by decide)J Yl J J⟨Zc J,Zc J,trivial⟩J hw hoff_3)fun _ _=>r3' J J(Pz(Kc J J)J J)fun _ _=>Yp<|Yj(by kernel_rfl)<|Qy(_,_)trivial K8 K8
      ·refine Yq J J(Zv(i:=97)J J J Tryz.zeroValue31 J J hw K2)fun b_6 hoff_5=>Pw(n:=8)14 20(by kernel_rfl) ?_ ?_
       ·exact Yq J J(Zh(n:=5)(Cl _ _(hb1 _)(hu.sz _)hyz)J J J K2 Zpx Ze J hw)fun _ _=>Zz(n:=0) [(15,0),(16,0),(17,0),(18,0),(20,1),(21,1),(22,1),(23,3)](by kernel_rfl)<|r0' J J J J(stf(Ym J J)K2)<|r0' J J J J(stf(Yg J J J)K2)<|r0' J J J J(stf(Yg J J J)K2)<|r0' J J J J(stf(Yg J J J)K2)<|r1' J J(Zv(i:=98)J J J Tryz.zeroValue31 J J hw K2)fun b_7 hoff_6=>r1' J J(Zm(i:=97)J J J J J(by decide)J Yl J J⟨Zc J,Zc J,trivial⟩J hw hoff_5)fun _ _=>r1' J J(Zm(i:=98)J J J J J(by decide)J Yl J J⟨Zc J,Zc J,trivial⟩J hw hoff_6)fun _ _=>r3' J J(Pz(Kc J J)J J)fun _ _=>Yp<|Yj(by kernel_rfl)<|Qy(_,_)trivial K8 K8
       ·exact Yq J J(Zv(i:=98)J J J Tryz.zeroValue31 J J hw K2)fun b_8 hoff_7=>Zz(n:=0) [(14,1),(15,0),(16,0),(17,0),(18,0),(21,1),(22,1),(23,3)](by kernel_rfl)<|r1' J J(Zh(n:=5)(Cl _ _(hb1 _)(hu.sz _)hyz)J J J K2 Zpx Ze J hw)fun _ _=>r0' J J J J(stf(Ym J J)K2)<|r0' J J J J(stf(Yg J J J)K2)<|r0' J J J J(stf(Yg J J J)K2)<|r0' J J J J(stf(Yg J J J)K2)<|r1' J J(Zm(i:=97)J J J J J(by decide)J Yl J J⟨Zc J,Zc J,trivial⟩J hw hoff_5)fun _ _=>r1' J J(Zm(i:=98)J J J J J(by decide)J Yl J J⟨Zc J,Zc J,trivial⟩J hw hoff_7)fun _ _=>r3' J J(Pz(Kc J J)J J)fun _ _=>Yp<|Yj(by kernel_rfl)<|Qy(_,_)trivial K8 K8
      ·refine Yq J J(Zv(i:=98)J J J Tryz.zeroValue31 J J hw K2)fun b_9 hoff_8=>Pw(n:=8)14 19(by kernel_rfl) ?_ ?_
       ·exact Yq J J(Zh(n:=5)(Cl _ _(hb1 _)(hu.sz _)hyz)J J J K2 Zpx Ze J hw)fun _ _=>Zz(n:=0) [(15,0),(16,0),(17,0),(18,0),(19,1),(21,1),(22,1),(23,3)](by kernel_rfl)<|r0' J J J J(stf(Ym J J)K2)<|r0' J J J J(stf(Yg J J J)K2)<|r0' J J J J(stf(Yg J J J)K2)<|r0' J J J J(stf(Yg J J J)K2)<|r1' J J(Zv(i:=97)J J J Tryz.zeroValue31 J J hw K2)fun b_10 hoff_9=>r1' J J(Zm(i:=97)J J J J J(by decide)J Yl J J⟨Zc J,Zc J,trivial⟩J hw hoff_9)fun _ _=>r1' J J(Zm(i:=98)J J J J J(by decide)J Yl J J⟨Zc J,Zc J,trivial⟩J hw hoff_8)fun _ _=>r3' J J(Pz(Kc J J)J J)fun _ _=>Yp<|Yj(by kernel_rfl)<|Qy(_,_)trivial K8 K8
       ·exact Yq J J(Zv(i:=97)J J J Tryz.zeroValue31 J J hw K2)fun b_11 hoff_10=>Zz(n:=0) [(14,1),(15,0),(16,0),(17,0),(18,0),(21,1),(22,1),(23,3)](by kernel_rfl)<|r1' J J(Zh(n:=5)(Cl _ _(hb1 _)(hu.sz _)hyz)J J J K2 Zpx Ze J hw)fun _ _=>r0' J J J J(stf(Ym J J)K2)<|r0' J J J J(stf(Yg J J J)K2)<|r0' J J J J(stf(Yg J J J)K2)<|r0' J J J J(stf(Yg J J J)K2)<|r1' J J(Zm(i:=97)J J J J J(by decide)J Yl J J⟨Zc J,Zc J,trivial⟩J hw hoff_10)fun _ _=>r1' J J(Zm(i:=98)J J J J J(by decide)J Yl J J⟨Zc J,Zc J,trivial⟩J hw hoff_8)fun _ _=>r3' J J(Pz(Kc J J)J J)fun _ _=>Yp<|Yj(by kernel_rfl)<|Qy(_,_)trivial K8 K8
     ·rintro⟨b7,b8⟩ -
      simp only [List.cons_append,List.nil_append]
      refine Zb<|Zb<|Zg<|mv J J<|dt(Qe J J J)J<|Zf<|Za<|Zp J(fun h349=>?_)(fun h349=>?_)
      ·exfalso;exact h349 rfl
      ·refine Zk<|Za<|Zb<|Zb<|Zg<|dt(Yb(i:=98)J J J Qq Yl J J)J<|tt(Zh(n:=5)(Ml _(clip_bl _))J J J K1 Zcc Ze J hw)J fun _ _=>dt(Qe J J J)J<|Zf<|Za<|Zp J(fun h352=>?_)(fun h352=>?_)
       ·have hne:¬Mu xs ys(xs.length-ys.length-j):=fun he=>h352(by rw [Zor hyz(hu.sz _),(Zdj(by omega)).1 he];rfl)
        refine Zb<|Zg<|as_ J J<|as_ J J<|Zf<|Za<|Zw<|Xe<|Hb<|Xe<|Xe<|Hb<|Xe ?_
        have hp:¬pdv xs ys:=fun h=>by rcases h with h | h;(exact hnx h);(exact hne(h.2.1 _(by omega)))
        exact Zy(.inl J)hsc _ _(fun a w hs=>No hs Tryz.results111 J J)(by rw [if_neg hp])trivial J(Lg(if_neg hp)Zj)
       ·have hde:Mu xs ys(xs.length-ys.length-j):=(Zdj(by omega)).2(by have h0:=Decidable.byContradiction h352;rw [Zor hyz(hu.sz _)]at h0;exact Int.sign_eq_zero_iff_zero.1 h0)
        obtain⟨hb2,hb3,hb4⟩:=hb5 hde
        refine Yn(Gh 97(q:=box b7 31(wc(dq ys(Qj xs ys j)(xs.length-ys.length-j))))(by rw [Oy hb2])J J)<|Zk<|Za<|Zb<|Zg<|mv J J<|mv J J<|dt(Yb(i:=97)J J J Qq Yl J J)J<|dt(Yw(ii:=5)(i:=(xs.length-ys.length-j))J J J J(Yo pV)Qp Yl(by omega)(by omega))J<|tt(Ky(i:=5)(enc:=wv)_ J J J J J J(by decide)pV(by omega)J hw)J fun _ _=>Zf<|Za<|Zb<|Zg<|mv J J<|dt(Ya J J(i:=2)J Zi Qp)J<|mv J J<|Zf<|Za<|Zl<|Nt [(1,_),(8,_),(9,_),(10,_),(11,_),(12,_),(78,_),(79,_)] [(0,_),(97,_),(98,_),(5,_),(1,_),(2,_),(3,_)](fun(i:Nat)=>[(80,.int .i64(i:Int))])(fun(i:Nat)=>[(4,osl 2 31 wv v(Zu2 ys(Qj xs ys j)(dq ys(Qj xs ys j)(xs.length-ys.length-j))(xs.length-ys.length-j)i))])(fun(i:Nat)=>i≤ys.length)(fun(i:Nat)=>ys.length-i)0(by first | omega | (dsimp only<;>omega))K9⟨by rw [←Ztm];rfl,rfl,rfl,rfl,rfl,rfl,rfl,rfl,trivial⟩ ?_
        rintro i hi
        simp only [List.cons_append,List.nil_append]
        have hg2:i<ys.length→(Zu2 ys(Qj xs ys j)(dq ys(Qj xs ys j)(xs.length-ys.length-j))(xs.length-ys.length-j)i).getD((xs.length-ys.length-j)+i)0=cf(Qj xs ys j)((xs.length-ys.length-j)+i):=fun h=>Zxl(by omega)
        have hl2:=Zlx ys(Qj xs ys j)(dq ys(Qj xs ys j)(xs.length-ys.length-j))(xs.length-ys.length-j)i
        refine Zb<|Zg<|dt(Xw J J J)J<|Zf<|Za<|Zb<|Zp J(fun h356=>?_)(fun h356=>?_)
        ·refine Zk<|Za<|Zb<|Zl<|Zb<|Zg<|mv J J<|dt(Yw(ii:=2)J J J J Zi Qp Yl J(by first | omega | (simp only [List.length_set];omega)))J<|dt(Xn(ii:=2)0 J J J Zi pV(by first | omega | (simp only [List.length_set];omega)))J<|tt(Zq(i:=6)J J J Tryz.zeroValue31 J J hw)J fun b_12 _=>as_ J J<|tt(Zm(i:=6)J J J J J(by decide)J Yl J J⟨Zc J,Zc J,trivial⟩J hw trivial)J fun _ _=>Zf<|Za<|Qr(fun x=>x=b) [(0,0),(1,0),(2,0),(3,0),(4,0),(5,0),(6,0),(7,0),(8,0),(9,0),(10,0),(11,0),(12,1),(13,1),(14,0),(15,3)](by kernel_rfl) ?_ ?_
         ·kernel_rfl
         refine r0' J J J J(st1 3 J(Ym J J))<|r0' J J J J(st1 3 J(Ym J J))<|r0' J J J J(st1 3 J(Ym J J))<|r0' J J J J(st1 3 J(Ys J J J⟨by omega,by omega⟩))<|r0' J J J J(st1 3 J(Ym J J))<|r0' J J J J(st1 3 J(Ym J J))<|r0' J J J J(st1 3 J(Ym J J))<|r0' J J J J(st1 3 J(Ys J J J⟨by omega,by omega⟩))<|r0' J J J J(st1 3 J(Yw(ii:=4)(i:=((xs.length-ys.length-j)+i))J J J J(Yo pV)Qp Yl(by omega)(by omega)))<|r0' J J J J(st1 3 J(Xn(ii:=4)0 J J J(Yo pV)pV(by omega)))<|r0' J J J J(st1 3 J(Yb(i:=97)J J J Qq Yl J J))<|r0' J J J J(st1 3 J(Yb(i:=6)J J J Qq Yl J J))<|r1' J J(Oi(n:=6)(i:=3)(Ec _ _ _ hb2(hu.sz _)(hb3 _))J J J K3 Zca J(by decide)Ze J hw J)fun _ _=>r1' J J(Oi(n:=6)(i:=3)(Zts _ _ _(by rw [hg2(by omega)];exact hb1 _)(hb3 _)(by rw [hg2(by omega)];exact hb4 _ _))J J J K3 cF137 J(by decide)Ze J hw J)fun _ _=>r0' J J J J(st1 3 J(Yw(ii:=4)(i:=((xs.length-ys.length-j)+i))J J J J(Yo pV)Qp Yl(by omega)(by omega)))<|r3' J J(Ky(i:=4)(enc:=wv)_ J J J J J J(by decide)pV(by omega)J hw)fun _ _=>Oj<|Px<|Za<|Zg<|dt(Ys J J J⟨by omega,by omega⟩)J<|mv J J<|Zf ?_
         exact Xl(i+1)(by first | omega | (dsimp only<;>omega))(by first | omega | (dsimp only<;>omega))K9⟨by rw [←Zxk(by omega),←hg2(by omega)];rfl,rfl,rfl,rfl,rfl,rfl,rfl,rfl,trivial⟩
        ·refine Yu<|Zt<|Zt<|Ov<|Px<|Za<|Zg<|mv J J<|dt(Qb J J J⟨by omega,by omega⟩)J<|as_ J J<|Zf ?_
         obtain rfl:i=ys.length:=by omega
         exact Xl(j+1)⟨by first | omega | (dsimp only<;>omega),fun k h1 h2=>by rcases Nat.lt_or_ge(xs.length-ys.length)(k+j)with h3 | h3;(exact hx k h3 h2);(rw [show k=xs.length-ys.length-j by omega];exact hde)⟩(by first | omega | (dsimp only<;>omega))⟨by rw [show(xs.length:Int)-(ys.length:Int)-((j+1:Nat):Int)=(xs.length:Int)-(ys.length:Int)-(j:Int)-1 by omega];rfl,rfl,rfl,rfl,rfl,trivial⟩⟨by rfl,by rw [←Zog(by omega)];rfl,rfl,rfl,rfl,rfl,trivial⟩
    ·refine Yu<|Zt<|Zt<|Ov<|Za<|Zb<|Zb ?_
     obtain rfl:j=xs.length-ys.length+1:=by omega
     have hall:∀k,k≤xs.length-ys.length→Mu xs ys k:=fun k hk=>hx k(by omega)hk
     refine Yn(Pe 4 J J pV)<|Zg<|dt(Qa J J Zgy J Zgo J J)J<|dt(Qa J J Zkr J Gj J J)J<|dt(Oh(i:=3)J J J Al J)J<|dt(Pm J J J)J<|mv J J<|Pa(d:=105)J(fun s360=>?_)(fun s360=>?_)
     ·refine gdt(Ym J J)J J J J<|gtt(Zh(n:=7)(Zal _ _(Zvj hF hall))J J J K1 Zx5(Zd 4 J J J Ze)J hw)J J J J fun _ _=>gdt(Ya J J(i:=7)J Zi Qp)J J J J<|gdt(Ot J J J)J J J J<|dt(Xi J J J)J<|Zf<|Za<|Zp J(fun h360=>?_)(fun h360=>?_)
      ·refine Zb<|Zg<|as_ J J<|as_ J J<|Zf<|Za<|Zw<|Xe ?_
       have hp:¬pdv xs ys:=fun h=>by rcases h with h | h;(exact hnx h);(rw [h.2.2]at h360;simp at h360)
       exact Zy(.inl J)hsc _ _(fun a w hs=>No hs Tryz.results111 J J)(by rw [if_neg hp])trivial J(Lg(if_neg hp)Zj)
      ·refine Zk<|Za<|Zb<|Yn(Pe 5 J J pV)<|Zg<|mv J J<|tt(Oi(n:=8)(i:=3)(Za6 _ _ _(Zqn hF hall _))J J J K2 Zmi J(by decide)(Zd 5 J J J Ze)J hw trivial)J fun _ _=>dt(Yg J J J)J<|dt(Yg J J J)J<|as_ J J<|as_ J J<|Zf<|Za<|Zw ?_
       have hp:pdv xs ys:= .inr⟨hge,hall,List.eq_nil_of_length_eq_zero(by omega)⟩
       exact Zy(.inl J)hsc _ _(fun a w hs=>No hs Tryz.results111 J J)(by rw [if_pos hp]<;>rfl)trivial J(Yk 8 J J J(by rw [if_pos hp,Zht hnx,←Za3]<;>rfl)Zj)
     ·exfalso;exact s360 rfl
theorem Zjo(v:Value)(xs:List Int)(x y z:Int)(hv:Vp xs)(hx:bl x.natAbs≤65536)(hy:bl y.natAbs≤65536)(hz:bl z.natAbs≤65536)(hz0:0<z)(hE:¬Zon xs x y z):Cal Tryz.prog 141#[v,wv x,wv y,wv z] [slp 2 wv v xs]true(G:=Value)(fun r=>True)(fun r=> .tuple#[r,.int .i64 0])(fun r=>[slp 2 wv r(Zep xs x y z)]):=by
 refine Yc Tryz.func141 J Tryz.ntmps141 J K1 ?_
 intro w0 sc hw hsc
 simp only [Zo,Zn]
 have hlen:=hv.len
 refine Zb<|Zg<|tt(Xh(i:=2)J J J J J J hw)J fun b _=>tt(Xh(i:=3)J J J J J J hw)J fun b_2 _=>tt(Xh(i:=4)J J J J J J hw)J fun b_3 _=>as_ J J<|as_ J J<|Zf<|Za<|Zb<|Zb<|Zg<|mv J J<|tt(Zh(n:=4)(Xp _ _(by assumption))J J J K1 Zcy(Zd 1 J J J Ze)J hw)J fun _ _=>dt(Xr J J)J<|mv J J<|gdt(Yb(i:=2)J J J Qq Yl J J)J J J J<|gtt(Zh(n:=4)(Lu _(by assumption))J J J K1 Zfq Ze J hw)J J J J fun _ _=>gdt(Xr J J)J J J J<|dt(Yh J J J)J<|mv J J<|gdt(Yb(i:=3)J J J Qq Yl J J)J J J J<|gtt(Zh(n:=4)(Lu _(by assumption))J J J K1 Zfq Ze J hw)J J J J fun _ _=>gdt(Xr J J)J J J J<|dt(Yh J J J)J<|mv J J<|gdt(Yb(i:=4)J J J Qq Yl J J)J J J J<|gtt(Zh(n:=4)(Lu _(by assumption))J J J K1 Zfq Ze J hw)J J J J fun _ _=>gdt(Xr J J)J J J J<|dt(Yh J J J)J<|Zf<|Za<|Yf J<|Zk<|Za<|Zb<|Zb<|Zg<|dt(Yb(i:=4)J J J Qq Yl J J)J<|tt(Zh(n:=4)(Ml _ hz)J J J K1 Zcc Ze J hw)J fun _ _=>dt(Dl J J J)J<|Zf<|Za<|Zp J(fun h232=>?_)(fun h232=>?_)
 ·exfalso;have h2:=decide_eq_decide.1(Gq z);omega
 ·refine Zk<|Za<|Zb<|Zb<|Zg<|mv J J<|dt(Ya J J(i:=1)J Zi Qp)J<|dt(Pm J J J)J<|Zf<|Za<|Zp J(fun h235=>?_)(fun h235=>?_)
  ·exact Zb<|Zg<|as_ J J<|as_ J J<|Zf<|Za<|Zw<|Xe<|Zy(.inl J)hsc _ _(fun a w hs=>No hs Tryz.results141 J J)J trivial J(Lg(by unfold Zep;rw [if_pos(by omega)])Zj)
  ·have hne:xs≠[]:=fun e=>by rw [e]at h235;simp at h235
   have hm1:=Pp hv.sz
   have hsxy:Sz 65536 [x,y,z]:=Sz.of_mem(by intro q hq;simp at hq;rcases hq with rfl | rfl | rfl<;>assumption)
   have hm2:=Pp hsxy
   have hm3:(xs.length-1)*(msz [x,y,z]+1)≤24*65537:=Nat.mul_le_mul(by omega)(by omega)
   have hm4:((xs.length:Int)-1)*((msz [x,y,z]:Int)+1)=(((xs.length-1)*(msz [x,y,z]+1):Nat):Int):=by rw [Int.natCast_mul];congr 1;omega
   refine Zk<|Za<|Zb<|Dc [(0,_),(5,_),(6,_),(7,_)] [(0,_),(1,_),(2,_),(3,_),(4,_)](fun(_:Unit)=>[(55,.bool(decide((65536:Int)<(msz xs:Int)+((xs.length:Int)-1)*((msz [x,y,z]:Int)+1)+8)))])(fun(_:Unit)=>[])(fun(_:Unit)=>True)K4 K5 ?_ ?_
   ·refine Gc(fun _=>False) [](by kernel_rfl)<|Zz(n:=8) [(0,0),(2,0),(3,0),(4,0),(5,0),(6,0),(7,0)](by kernel_rfl)<|r0' J J J J(st0(Ym J J))<|r0' J J J J(st0(Ym J J))<|r0' J J J J(st0(Ya J J(i:=1)J Zi Qp))<|r0' J J J J(st0(Qb J J J⟨by omega,by omega⟩))<|r0' J J J J(st0(Yb(i:=2)J J J Qq Yl J J))<|r0' J J J J(st0(Yb(i:=3)J J J Qq Yl J J))<|r0' J J J J(st0(Yb(i:=4)J J J Qq Yl J J))<|Yp<|Pw(n:=7)1 8(by kernel_rfl) ?_ ?_
    ·exact Yq J J(Zh(n:=4)(Nv _ _(by first | exact hv.sz | exact hsxy))J J J K1 Aj(Zd 1 J J J Ze)J hw)fun _ _=>Zz(n:=0) [(8,1),(9,1),(10,0),(11,0),(12,0),(13,0),(14,0)](by kernel_rfl)<|r1' J J(Pr(i:=90)(ivs:=[(0,_),(1,_),(2,_)])(enc:=wv) [x,y,z]J J J K6 uT22 Tryz.ti31 J J J(fill3 _ _ _ _ _ _ _ _)J J pV.cells J J hw)fun v _=>r1' J J(Zh(n:=4)(Nv _ _(by first | exact hv.sz | exact hsxy))J J J K1 Aj(Xv 90 J J pV Ze)J hw)fun _ _=>r0' J J J J(st0(Ys J J J⟨by omega,by omega⟩))<|r0' J J J J(st0(Gi J J J(by rw [hm4];exact⟨by omega,by omega⟩)))<|r0' J J J J(st0(Ys J J J(by rw [hm4];exact⟨by omega,by omega⟩)))<|r0' J J J J(st0(Ys J J J(by rw [hm4];exact⟨by omega,by omega⟩)))<|r0' J J J J(st0(Ot J J J))<|Yp<|Yj(by kernel_rfl)<|Qy()trivial K5 K5
    ·exact Yq J J(Pr(i:=90)(ivs:=[(0,_),(1,_),(2,_)])(enc:=wv) [x,y,z]J J J K6 uT22 Tryz.ti31 J J J(fill3 _ _ _ _ _ _ _ _)J J pV.cells J J hw)fun v_2 _=>Zz(n:=0) [(1,1),(9,1),(10,0),(11,0),(12,0),(13,0),(14,0)](by kernel_rfl)<|r1' J J(Zh(n:=4)(Nv _ _(by first | exact hv.sz | exact hsxy))J J J K1 Aj(Zd 1 J J J Ze)J hw)fun _ _=>r1' J J(Zh(n:=4)(Nv _ _(by first | exact hv.sz | exact hsxy))J J J K1 Aj(Xv 90 J J pV Ze)J hw)fun _ _=>r0' J J J J(st0(Ys J J J⟨by omega,by omega⟩))<|r0' J J J J(st0(Gi J J J(by rw [hm4];exact⟨by omega,by omega⟩)))<|r0' J J J J(st0(Ys J J J(by rw [hm4];exact⟨by omega,by omega⟩)))<|r0' J J J J(st0(Ys J J J(by rw [hm4];exact⟨by omega,by omega⟩)))<|r0' J J J J(st0(Ot J J J))<|Yp<|Yj(by kernel_rfl)<|Qy()trivial K5 K5
   ·rintro _ -
    simp only [List.cons_append,List.nil_append]
    refine Zp J(fun h238=>?_)(fun h238=>?_)
    ·exfalso;exact hE⟨hne,by rw [hm4]at h238;omega⟩
    ·have hF:msz xs+(xs.length-1)*(msz [x,y,z]+1)+8≤65536:=by rw [hm4]at h238;omega
     refine Zk<|Za<|Zb<|Zg<|tt(Zq(i:=5)J J J Tryz.zeroValue167 J J hw)J fun b_4 _=>Zf<|Za<|Dc [(0,_),(5,_),(6,_),(7,_),(10,_)] [(0,_),(1,_),(2,_),(3,_),(4,_),(5,_)](fun(q:Value×Nat)=>[(11,q.1),(12,.pointer(some⟨q.2,0,none⟩))])(fun(q:Value×Nat)=>[(70,osl 2 31 wv q.1(Gw xs x y z 0)),(98,box q.2 31(wc 1))])(fun(q:Value×Nat)=>True)K5 K6 ?_ ?_
     ·refine Gc(fun _=>False) [9,10](by kernel_rfl)<|Zz(n:=5) [(0,0),(1,0),(2,0),(3,0),(4,0),(5,0)](by kernel_rfl)<|r0' J J J J(st0(Ym J J))<|r0' J J J J(st0(Ym J J))<|r0' J J J J(st0(Ya J J(i:=1)J Zi Qp))<|r0' J J J J(st0(Qb J J J⟨by omega,by omega⟩))<|r0' J J J J(st0(Yw(ii:=1)(i:=(xs.length-1))J J J J Zi Qp Yl(by omega)(by omega)))<|r0' J J J J(st0(Xn(ii:=1)0 J J J Zi pV(by omega)))<|Yp<|Zbh(n:=4)6 7 8(by kernel_rfl) ?_ ?_ ?_
      ·refine Yq J J(Pr(i:=70)(ivs:=[(0,_)])(enc:=wv) [cf xs(xs.length-1)]J J J K2 Qp Tryz.ti31 J J J J J J pV.cells J J hw)fun v_3 _=>Pw(n:=3)7 8(by kernel_rfl) ?_ ?_
       ·exact Yq J J(Zh(n:=5)(Xb _(by first | assumption | exact⟨by omega,by omega⟩))J J J K1 Bc Ze J hw)fun _ _=>Zz(n:=0) [(8,1),(9,3),(10,3)](by kernel_rfl)<|r1' J J(Zq(i:=98)J J J Tryz.zeroValue31 J J hw)fun b_5 _=>r3' J J(Pz(Kc J J)J J)fun _ _=>r3' J J(Zm(i:=98)J J J J J(by decide)J Yl J J⟨Zc J,Zc J,trivial⟩J hw trivial)fun _ _=>Yp<|Yj(by kernel_rfl)<|Qy(_,_)trivial K7⟨by rw [Eg];rfl,rfl,rfl,rfl,rfl,rfl,rfl,rfl,trivial⟩
       ·exact Yq J J(Zq(i:=98)J J J Tryz.zeroValue31 J J hw)fun b_6 _=>Zz(n:=0) [(7,1),(9,3),(10,3)](by kernel_rfl)<|r1' J J(Zh(n:=5)(Xb _(by first | assumption | exact⟨by omega,by omega⟩))J J J K1 Bc Ze J hw)fun _ _=>r3' J J(Pz(Kc J J)J J)fun _ _=>r3' J J(Zm(i:=98)J J J J J(by decide)J Yl J J⟨Zc J,Zc J,trivial⟩J hw trivial)fun _ _=>Yp<|Yj(by kernel_rfl)<|Qy(_,_)trivial K7⟨by rw [Eg];rfl,rfl,rfl,rfl,rfl,rfl,rfl,rfl,trivial⟩
      ·refine Yq J J(Zh(n:=5)(Xb _(by first | assumption | exact⟨by omega,by omega⟩))J J J K1 Bc Ze J hw)fun _ _=>Pw(n:=3)6 8(by kernel_rfl) ?_ ?_
       ·exact Yq J J(Pr(i:=70)(ivs:=[(0,_)])(enc:=wv) [cf xs(xs.length-1)]J J J K2 Qp Tryz.ti31 J J J J J J pV.cells J J hw)fun v_4 _=>Zz(n:=0) [(8,1),(9,3),(10,3)](by kernel_rfl)<|r1' J J(Zq(i:=98)J J J Tryz.zeroValue31 J J hw)fun b_7 _=>r3' J J(Pz(Kc J J)J J)fun _ _=>r3' J J(Zm(i:=98)J J J J J(by decide)J Yl J J⟨Zc J,Zc J,trivial⟩J hw trivial)fun _ _=>Yp<|Yj(by kernel_rfl)<|Qy(_,_)trivial K7⟨by rw [Eg];rfl,rfl,rfl,rfl,rfl,rfl,rfl,rfl,trivial⟩
       ·exact Yq J J(Zq(i:=98)J J J Tryz.zeroValue31 J J hw)fun b_8 _=>Zz(n:=0) [(6,1),(9,3),(10,3)](by kernel_rfl)<|r1' J J(Pr(i:=70)(ivs:=[(0,_)])(enc:=wv) [cf xs(xs.length-1)]J J J K2 Qp Tryz.ti31 J J J J J J pV.cells J J hw)fun v_5 _=>r3' J J(Pz(Kc J J)J J)fun _ _=>r3' J J(Zm(i:=98)J J J J J(by decide)J Yl J J⟨Zc J,Zc J,trivial⟩J hw trivial)fun _ _=>Yp<|Yj(by kernel_rfl)<|Qy(_,_)trivial K7⟨by rw [Eg];rfl,rfl,rfl,rfl,rfl,rfl,rfl,rfl,trivial⟩
      ·refine Yq J J(Zq(i:=98)J J J Tryz.zeroValue31 J J hw)fun b_9 _=>Pw(n:=3)6 7(by kernel_rfl) ?_ ?_
       ·exact Yq J J(Pr(i:=70)(ivs:=[(0,_)])(enc:=wv) [cf xs(xs.length-1)]J J J K2 Qp Tryz.ti31 J J J J J J pV.cells J J hw)fun v_6 _=>Zz(n:=0) [(7,1),(9,3),(10,3)](by kernel_rfl)<|r1' J J(Zh(n:=5)(Xb _(by first | assumption | exact⟨by omega,by omega⟩))J J J K1 Bc Ze J hw)fun _ _=>r3' J J(Pz(Kc J J)J J)fun _ _=>r3' J J(Zm(i:=98)J J J J J(by decide)J Yl J J⟨Zc J,Zc J,trivial⟩J hw trivial)fun _ _=>Yp<|Yj(by kernel_rfl)<|Qy(_,_)trivial K7⟨by rw [Eg];rfl,rfl,rfl,rfl,rfl,rfl,rfl,rfl,trivial⟩
       ·exact Yq J J(Zh(n:=5)(Xb _(by first | assumption | exact⟨by omega,by omega⟩))J J J K1 Bc Ze J hw)fun _ _=>Zz(n:=0) [(6,1),(9,3),(10,3)](by kernel_rfl)<|r1' J J(Pr(i:=70)(ivs:=[(0,_)])(enc:=wv) [cf xs(xs.length-1)]J J J K2 Qp Tryz.ti31 J J J J J J pV.cells J J hw)fun v_7 _=>r3' J J(Pz(Kc J J)J J)fun _ _=>r3' J J(Zm(i:=98)J J J J J(by decide)J Yl J J⟨Zc J,Zc J,trivial⟩J hw trivial)fun _ _=>Yp<|Yj(by kernel_rfl)<|Qy(_,_)trivial K7⟨by rw [Eg];rfl,rfl,rfl,rfl,rfl,rfl,rfl,rfl,trivial⟩
     ·rintro⟨vo,b8⟩ -
      simp only [List.cons_append,List.nil_append]
      refine Zb<|Zb<|Zg<|mv J J<|dt(Ya J J(i:=1)J Zi Qp)J<|dt(Qb J J J⟨by omega,by omega⟩)J<|as_ J J<|Zf<|Za<|Zl<|Nt [(0,_),(5,_),(6,_),(7,_),(10,_),(12,_)] [(0,_),(1,_),(2,_),(3,_),(4,_),(5,_)](fun(q:Nat×Value)=>[(13,.int .i64((xs.length:Int)-2-(q.1:Int))),(11,q.2)])(fun(q:Nat×Value)=>[(70,osl 2 31 wv q.2(Gw xs x y z q.1)),(98,box b8 31(wc(z^q.1)))])(fun(q:Nat×Value)=>q.1≤xs.length-1)(fun(q:Nat×Value)=>xs.length-1-q.1)(0,vo)(by first | omega | (dsimp only<;>omega))⟨by rw [show(xs.length:Int)-2-((0:Nat):Int)=(xs.length:Int)-2 by omega];rfl,rfl,rfl,rfl,rfl,rfl,rfl,rfl,trivial⟩⟨J,by rw [Int.pow_zero];rfl,rfl,rfl,rfl,rfl,rfl,rfl,trivial⟩ ?_
      rintro⟨j,vo⟩hj
      dsimp only at hj
      simp only [List.cons_append,List.nil_append]
      refine Zb<|Zb<|Zg<|mv J J<|dt(Lq J J J)J<|Zf<|Za<|Zp J(fun h243=>?_)(fun h243=>?_)
      ·obtain⟨c1,c2,c3,c4,c5,c6,c7,c8,c9⟩:=cp_all hF(j:=j)(by omega)
       have hcl:=Ae xs x y z j
       refine Zk<|Za<|Zb<|Zl<|Zb<|Zg<|dt(Yb(i:=98)J J J Qq Yl J J)J<|dt(Yb(i:=4)J J J Qq Yl J J)J<|tt(Oi(n:=5)(i:=5)(Ec _ _ _ c1 hz(by rw [←Int.pow_succ];exact c2))J J J K3 Zca J(by decide)Ze J hw trivial)J fun _ _=>tt(Zm(i:=98)J J J J J(by decide)J Yl J J⟨Zc J,Zc J,trivial⟩J hw trivial)J fun _ _=>Zf<|Za<|Zb<|Zg<|mv J J<|dt(Ya J J(i:=70)J(Yo pV)Qp)J<|dt(Ys J J J⟨by omega,by omega⟩)J<|tt(Hk(i:=71)(n:=((Gw xs x y z j).length+1))(by_:=24)(enc:=wv)0 J J J J J(by omega)Qp Tryz.ti31 J pV.cells pV.pos J J(by omega)(by decide)J hw)J fun v_8 _=>as_ J J<|Zf<|Za<|Zb<|Zb<|Zg<|mv J J<|dt(Ya J J(i:=70)J(Yo pV)Qp)J<|mv J J<|Zf<|Za<|Zl ?_
       refine Nt [(0,_),(5,_),(6,_),(7,_),(10,_),(12,_),(13,_),(14,_),(78,_),(79,_)] [(0,_),(70,_),(98,_),(1,_),(2,_),(3,_),(4,_),(5,_)](fun(i:Nat)=>[(80,.int .i64(i:Int))])(fun(i:Nat)=>[(71,osl 2 31 wv v_8(cnx(Gw xs x y z j)x y i))])(fun(i:Nat)=>i≤(Gw xs x y z j).length)(fun(i:Nat)=>(Gw xs x y z j).length-i)0(by first | omega | (dsimp only<;>omega))K11⟨by rw [Zxv];rfl,rfl,rfl,rfl,rfl,rfl,rfl,rfl,rfl,trivial⟩ ?_
       rintro i hi
       simp only [List.cons_append,List.nil_append]
       have hg1:i<(Gw xs x y z j).length→(cnx(Gw xs x y z j)x y i).getD i 0=if i=0 then 0 else cf(Gw xs x y z j)(i-1)*y:=fun h=>Zt4 h
       have hl1:=Kv(Gw xs x y z j)x y i
       refine Zb<|Zg<|dt(Xw J J J)J<|Zf<|Za<|Zb<|Zp J(fun h247=>?_)(fun h247=>?_)
       ·refine Zk<|Za<|Zb<|Zl<|Zb<|Zg<|mv J J<|dt(Yw(ii:=70)J J J J(Yo pV)Qp Yl J(by first | omega | (simp only [List.length_set];omega)))J<|dt(Xn(ii:=70)0 J J J(Yo pV)pV(by first | omega | (simp only [List.length_set];omega)))J<|tt(Zq(i:=6)J J J Tryz.zeroValue31 J J hw)J fun b_10 _=>as_ J J<|tt(Zm(i:=6)J J J J J(by decide)J Yl J J⟨Zc J,Zc J,trivial⟩J hw trivial)J fun _ _=>Zf<|Za<|Zb<|Qr(fun x=>x=b_4) [(0,0),(1,0),(2,0),(3,0),(4,0),(5,0),(6,0),(7,0),(8,1),(9,1),(10,0),(11,3)](by kernel_rfl) ?_ ?_
        ·kernel_rfl
        refine r0' J J J J(st1 5 J(Ym J J))<|r0' J J J J(st1 5 J(Ym J J))<|r0' J J J J(st1 5 J(Ym J J))<|r0' J J J J(st1 5 J(Ym J J))<|r0' J J J J(st1 5 J(Yw(ii:=71)(i:=i)J J J J(Yo pV)Qp Yl J(by omega)))<|r0' J J J J(st1 5 J(Xn(ii:=71)0 J J J(Yo pV)pV(by omega)))<|r0' J J J J(st1 5 J(Yb(i:=6)J J J Qq Yl J J))<|r0' J J J J(st1 5 J(Yb(i:=2)J J J Qq Yl J J))<|r1' J J(Oi(n:=6)(i:=5)(Ec _ _ _(c3 _)hx(c4 _))J J J K3 Zca J(by decide)Ze J hw J)fun _ _=>r1' J J(Oi(n:=6)(i:=5)(Zoh _ _ _(by rw [hg1(by omega)];exact c6 i)(c4 _)(by rw [hg1(by omega)];exact c7 i))J J J K3 Zx4 J(by decide)Ze J hw J)fun _ _=>r0' J J J J(st1 5 J(Yw(ii:=71)(i:=i)J J J J(Yo pV)Qp Yl J(by omega)))<|r3' J J(Ky(i:=71)(enc:=wv)_ J J J J J J(by decide)pV(by omega)J hw)fun _ _=>Oj<|Za<|Zg<|mv J J<|mv J J<|dt(Ys J J J⟨by omega,by omega⟩)J<|dt(Yb(i:=6)J J J Qq Yl J J)J<|dt(Yb(i:=3)J J J Qq Yl J J)J<|tt(Oi(n:=6)(i:=5)(Ec _ _ _(c3 _)hy(c5 _))J J J K3 Zca J(by decide)Ze J hw trivial)J(fun _ _=>?_)
        exact dt(Yw(ii:=71)(i:=(i+1))J J J J(Yo pV)Qp Yl(by omega)(by rw [List.length_set];omega))J<|tt(Ky(i:=71)(enc:=wv)_ J J J J J J(by decide)pV(by rw [List.length_set];omega)J hw)J fun _ _=>Zf<|Px<|Za<|Zg<|dt(Ys J J J⟨by omega,by omega⟩)J<|mv J J<|Zf<|Xl(i+1)(by first | omega | (dsimp only<;>omega))(by first | omega | (dsimp only<;>omega))K11⟨by rw [←cnx_set(by omega)];rfl,rfl,rfl,rfl,rfl,rfl,rfl,rfl,rfl,trivial⟩
       ·refine Yu<|Zt<|Zt<|Ov<|Za<|Zb ?_
        obtain rfl:i=(Gw xs x y z j).length:=by omega
        have hg0:(cnx(Gw xs x y z j)x y(Gw xs x y z j).length).getD 0 0=cf(Gw xs x y z j)0*x:=Zoo(by omega)
        refine Qr(fun x=>x=b_4) [(0,0),(1,0),(2,0),(3,0),(4,0),(5,0),(6,0),(7,0),(8,0),(9,1),(10,1),(11,0),(12,3)](by kernel_rfl) ?_ ?_
        ·kernel_rfl
        refine r0' J J J J(st1 5 J(Ym J J))<|r0' J J J J(st1 5 J(Ym J J))<|r0' J J J J(st1 5 J(Yw(ii:=71)(i:=0)J J J J(Yo pV)Qp Yl J(by omega)))<|r0' J J J J(st1 5 J(Xn(ii:=71)0 J J J(Yo pV)pV(by omega)))<|r0' J J J J(st1 5 J(Ym J J))<|r0' J J J J(st1 5 J(Ym J J))<|r0' J J J J(st1 5 J(Yw(ii:=1)(i:=(xs.length-2-j))J J J J Zi Qp Yl(by omega)(by omega)))<|r0' J J J J(st1 5 J(Xn(ii:=1)0 J J J Zi pV(by omega)))<|r0' J J J J(st1 5 J(Yb(i:=98)J J J Qq Yl J J))<|r1' J J(Oi(n:=6)(i:=5)(Ec _ _ _(hv.sz _)(by rw [←Int.pow_succ];exact c2)(by rw [←Int.pow_succ];exact c8))J J J K3 Zca J(by decide)Ze J hw J)fun _ _=>r1' J J(Oi(n:=6)(i:=5)(Zoh _ _ _(by rw [hg0];exact c4 0)(by rw [←Int.pow_succ];exact c8)(by rw [hg0,←Int.pow_succ];exact c9))J J J K3 Zx4 J(by decide)Ze J hw J)fun _ _=>r0' J J J J(st1 5 J(Yw(ii:=71)(i:=0)J J J J(Yo pV)Qp Yl J(by omega)))<|r3' J J(Ky(i:=71)(enc:=wv)_ J J J J J J(by decide)pV(by omega)J hw)fun _ _=>Oj<|Za<|Zg<|mv J J<|as_ J J<|Zf<|Px<|Za<|Zg<|mv J J<|dt(Qb J J J⟨by omega,by omega⟩)J<|as_ J J<|Zf<|Qv(s_move 71 70 J J J J) ?_
        exact Xl(j+1,_)(by first | omega | (dsimp only<;>omega))(by first | omega | (dsimp only<;>omega))⟨by rw [show(xs.length:Int)-2-((j+1:Nat):Int)=(xs.length:Int)-2-(j:Int)-1 by omega];rfl,rfl,rfl,rfl,rfl,rfl,rfl,rfl,trivial⟩⟨by rw [cnx_fin(by omega)];simp only [←Int.pow_succ];rfl,by rw [Int.pow_succ];rfl,rfl,rfl,rfl,rfl,rfl,rfl,trivial⟩
      ·refine Yu<|Zt<|Zt<|Ov<|Za<|Zb ?_
       obtain rfl:j=xs.length-1:=by omega
       exact Yn(Pe 70 J J pV)<|Zg<|mv J J<|tt(Oi(n:=7)(i:=5)(Za6 _ _ _(cp_last hF))J J J K2 Zmi J(by decide)(Zd 70 J J J Ze)J hw trivial)J fun _ _=>dt(Yg J J J)J<|dt(Yg J J J)J<|as_ J J<|as_ J J<|Zf<|Za<|Zw<|Zy(.inl J)hsc _ _(fun a w hs=>No hs Tryz.results141 J J)J trivial J(Yk 7 J J J(by unfold Zep;rw [if_neg(by omega)]<;>rfl)Zj)
theorem Znn(v u:Value)(xs ys:List Int)(hv:Vp xs)(hu:Vp ys)(F:Nat)(hg:¬Zpr xs ys)(hok:eok F(gA xs ys)(gB xs ys)):Cal Tryz.prog 110#[v,u] [slp 2 wv v xs,slp 2 wv u ys]true(G:=Value)(fun r=>True)(fun r=> .tuple#[r,.int .i64 0])(fun r=>[slp 2 wv r(Ku F xs ys)]):=by
 refine Yc Tryz.func110 J Tryz.ntmps110 J K2 ?_
 intro w0 sc hw hsc
 simp only [Zo,Zn]
 have hlen:=hv.len
 have hlen2:=hu.len
 have hm1:=Pp hv.sz
 have hm2:=Pp hu.sz
 have hpx:=Yi xs
 have hpy:=Yi ys
 have hN2:(max xs.length ys.length+2)*(max xs.length ys.length+2)≤27*27:=Nat.mul_le_mul(by omega)(by omega)
 have hN3:(max xs.length ys.length+2)*(max xs.length ys.length+2)*(max(msz xs)(msz ys)+8)≤27*27*65544:=Nat.mul_le_mul hN2(by omega)
 have hN4:(max(xs.length:Int)(ys.length:Int)+2)*(max(xs.length:Int)(ys.length:Int)+2)=(((max xs.length ys.length+2)*(max xs.length ys.length+2):Nat):Int):=by rw [Int.natCast_mul,show(((max xs.length ys.length+2):Nat):Int)=(max(xs.length:Int)(ys.length:Int)+2)by omega]
 have hN5:(max(xs.length:Int)(ys.length:Int)+2)*(max(xs.length:Int)(ys.length:Int)+2)*(max(msz xs:Int)(msz ys:Int)+8)=(((max xs.length ys.length+2)*(max xs.length ys.length+2)*(max(msz xs)(msz ys)+8):Nat):Int):=by rw [hN4,Int.natCast_mul((max xs.length ys.length+2)*(max xs.length ys.length+2)),show((max(msz xs)(msz ys)+8:Nat):Int)=max(msz xs:Int)(msz ys:Int)+8 by omega]
 refine Zb<|Zg<|as_ J J<|as_ J J<|Zf<|Za<|Zb<|Zb<|Zg<|mv J J<|tt(Zh(n:=2)(Xp _ _(by assumption))J J J K1 Zcy(Zd 1 J J J Ze)J hw)J fun _ _=>dt(Xr J J)J<|mv J J<|gdt(Ym J J)J J J J<|gtt(Zh(n:=2)(Xp _ _(by assumption))J J J K1 Zcy(Zd 2 J J J Ze)J hw)J J J J fun _ _=>gdt(Xr J J)J J J J<|dt(Yh J J J)J<|Zf<|Za<|Yf J<|Zk<|Za<|Zb<|Zb<|Zg<|mv J J<|dt(Ya J J(i:=1)J Zi Qp)J<|mv J J<|dt(Ya J J(i:=2)J Zi Qp)J<|dt(Zty J J J)J<|dt(Ys J J J⟨by omega,by omega⟩)J<|as_ J J<|Zf<|Za<|Dc [(0,_),(1,_)] [(0,_),(1,_),(2,_)](fun(_:Unit)=>[(46,.bool(decide(Zpr xs ys)))])(fun(_:Unit)=>[])(fun(_:Unit)=>True)K2 K3 ?_ ?_
 ·refine Zg<|mv J J<|dt(Ya J J(i:=1)J Zi Qp)J<|dt(Ot J J J)J<|mv J J<|Pa(d:=29)J(fun s371=>?_)(fun s371=>?_)
  ·refine gdt(Ym J J)J J J J<|gdt(Ya J J(i:=2)J Zi Qp)J J J J<|gdt(Ot J J J)J J J J<|dt(Xi J J J)J<|mv J J<|Pa(d:=34)J(fun s371_2=>?_)(fun s371_2=>?_)
   ·exact gdt(Ym J J)J J J J<|gdt(Ym J J)J J J J<|gdt(Gi J J J(by rw [hN4];exact⟨by omega,by omega⟩))J J J J<|gdt(Ym J J)J J J J<|gtt(Zh(n:=2)(Nv _ _(by first | exact hv.sz | exact hu.sz))J J J K1 Aj(Zd 1 J J J Ze)J hw)J J J J fun _ _=>gdt(Ym J J)J J J J<|gtt(Zh(n:=2)(Nv _ _(by first | exact hv.sz | exact hu.sz))J J J K1 Aj(Zd 2 J J J Ze)J hw)J J J J fun _ _=>gdt(Zty J J J)J J J J<|gdt(Ys J J J⟨by omega,by omega⟩)J J J J<|gdt(Gi J J J(by rw [hN5];exact⟨by omega,by omega⟩))J J J J<|gdt(Ot J J J)J J J J<|dt(Xi J J J)J<|Zf<|Qy()trivial⟨by first | (rw [hN5];exact congrArg some(congrArg Value.bool(decide_eq_decide.2⟨fun h=>⟨by omega,by omega,by omega⟩,fun h=>by have:=h.2.2;omega⟩))) | exact congrArg some(congrArg Value.bool(decide_eq_false(fun h=>by have h1:=h.1;have h2:=h.2.1;omega)).symm),rfl,rfl,trivial⟩K3
   ·exact gsk J J J J J<|gsk J J J J J<|gsk J J J J J<|gsk J J J J J<|gsk J J J J J<|gsk J J J J J<|gsk J J J J J<|gsk J J J J J<|gsk J J J J J<|gsk J J J J J<|gsk J J J J J<|dt(Yh J J J)J<|Zf<|Qy()trivial⟨by first | (rw [hN5];exact congrArg some(congrArg Value.bool(decide_eq_decide.2⟨fun h=>⟨by omega,by omega,by omega⟩,fun h=>by have:=h.2.2;omega⟩))) | exact congrArg some(congrArg Value.bool(decide_eq_false(fun h=>by have h1:=h.1;have h2:=h.2.1;omega)).symm),rfl,rfl,trivial⟩K3
  ·exact gsk J J J J J<|gsk J J J J J<|gsk J J J J J<|dt(Yh J J J)J<|mv J J<|gsk J J J J J<|gsk J J J J J<|gsk J J J J J<|gsk J J J J J<|gsk J J J J J<|gsk J J J J J<|gsk J J J J J<|gsk J J J J J<|gsk J J J J J<|gsk J J J J J<|gsk J J J J J<|dt(Yh J J J)J<|Zf<|Qy()trivial⟨by first | (rw [hN5];exact congrArg some(congrArg Value.bool(decide_eq_decide.2⟨fun h=>⟨by omega,by omega,by omega⟩,fun h=>by have:=h.2.2;omega⟩))) | exact congrArg some(congrArg Value.bool(decide_eq_false(fun h=>by have h1:=h.1;have h2:=h.2.1;omega)).symm),rfl,rfl,trivial⟩K3
 ·rintro _ -
  simp only [List.cons_append,List.nil_append]
  refine Zp J(fun h371=>?_)(fun h371=>?_)
  ·exfalso;exact hg h371
  ·refine Zk<|Za<|Zb<|Zg<|mv J J<|tt(Zh(n:=3)(Mf _ _ hv)J J J K1 Zmj(Zd 1 J J J Ze)J hw)J fun _ _=>mv J J<|dt(Yg J J J)J<|dt(Yg J J J)J<|as_ J J<|as_ J J<|Zf<|Za<|Zb<|Zb<|Zg<|mv J J<|dt(Qe J J J)J<|Zf<|Za<|Zp J(fun h375=>?_)(fun h375=>?_)
   ·exfalso;exact h375 rfl
   ·refine Zk<|Za<|Zb<|Zg<|mv J J<|tt(Zh(n:=4)(Mf _ _ hu)J J J K1 Zmj(Zd 2 J J J Ze)J hw)J fun _ _=>mv J J<|dt(Yg J J J)J<|dt(Yg J J J)J<|as_ J J<|as_ J J<|Zf<|Za<|Zb<|Zb<|Zg<|mv J J<|dt(Qe J J J)J<|Zf<|Za<|Zp J(fun h379=>?_)(fun h379=>?_)
    ·exfalso;exact h379 rfl
    ·refine Zk<|Za<|Dc [] [(0,_),(1,_),(2,_),(3,_),(4,_)](fun(q:Value×Value)=>[(7,q.1),(9,q.2)])(fun(q:Value×Value)=>[(80,slp 2 wv q.1(gA xs ys)),(81,slp 2 wv q.2(gB xs ys))])(fun(q:Value×Value)=>True)trivial K5 ?_ ?_
     ·refine Zb<|Zg<|mv J J<|dt(Ya J J(i:=3)J Zi Qp)J<|mv J J<|dt(Ya J J(i:=4)J Zi Qp)J<|dt(Xw J J J)J<|Zf<|Za<|Zp J(fun h382=>?_)(fun h382=>?_)
      ·exact Zg<|mv J J<|mv J J<|as_ J J<|as_ J J<|Zf<|Qv(Oa 4 80 J J J)<|Qv(Oa 3 81 J J J)<|Qy(_,_)trivial K2⟨by unfold gA;first | rw [if_pos(by omega)];rfl | rw [if_neg(by omega)];rfl,by unfold gB;first | rw [if_pos(by omega)];rfl | rw [if_neg(by omega)];rfl,rfl,rfl,rfl,rfl,rfl,trivial⟩
      ·exact Zk<|Qv(Oa 3 80 J J J)<|Qv(Oa 4 81 J J J)<|Qy(_,_)trivial K2⟨by unfold gA;first | rw [if_pos(by omega)];rfl | rw [if_neg(by omega)];rfl,by unfold gB;first | rw [if_pos(by omega)];rfl | rw [if_neg(by omega)];rfl,rfl,rfl,rfl,rfl,rfl,trivial⟩
     ·rintro⟨va,vb⟩ -
      simp only [List.cons_append,List.nil_append]
      refine Zb<|Zl<|Nt [] [(0,_),(1,_),(2,_),(3,_),(4,_)](fun(q:Value×Value×List Int×List Int×Nat)=>[(7,q.1),(9,q.2.1)])(fun(q:Value×Value×List Int×List Int×Nat)=>[(80,slp 2 wv q.1 q.2.2.1),(81,slp 2 wv q.2.1 q.2.2.2.1)])(fun(q:Value×Value×List Int×List Int×Nat)=>(Vp q.2.2.1)∧(Vp q.2.2.2.1)∧(eok q.2.2.2.2 q.2.2.1 q.2.2.2.1)∧(eu q.2.2.2.2 q.2.2.1 q.2.2.2.1=eu F(gA xs ys)(gB xs ys)))(fun(q:Value×Value×List Int×List Int×Nat)=>q.2.2.2.2)(va,vb,gA xs ys,gB xs ys,F)⟨vp_gA hv hu,vp_gB hv hu,hok,J⟩K2 K7 ?_
      rintro⟨va,vb,a,b,f⟩⟨hva,hvb,hok0,heu⟩
      dsimp only at hva hvb hok0 heu
      simp only [List.cons_append,List.nil_append]
      refine Zb<|Zb<|Zg<|mv J J<|dt(Ya J J(i:=81)J Zi Qp)J<|dt(Ot J J J)J<|Zf<|Za<|Zp J(fun h385=>?_)(fun h385=>?_)
      ·have hbn:b≠[]:=fun e=>by rw [e]at h385;simp at h385
       obtain⟨f1,rfl,hde,hok1,heu1⟩:=Zod hok0 hbn
       refine Zk<|Za<|Zl<|Zb<|Zg<|mv J J<|mv J J<|tt(Zh(n:=5)(Zjm _ _ _ _ hva hvb hde)J J J K2 cF155(Zd 80 J J J(Zd 81 J J J Ze))J hw)J fun _ _=>mv J J<|dt(Yg J J J)J<|dt(Yg J J J)J<|as_ J J<|as_ J J<|Zf<|Za<|Zb<|Zb<|Zg<|mv J J<|dt(Qe J J J)J<|Zf<|Za<|Zp J(fun h387=>?_)(fun h387=>?_)
       ·exfalso;exact h387 rfl
       ·refine Zk<|Za<|Zb<|Zb<|Zg<|mv J J<|tt(Zh(n:=6)(Mf _ _(Cm hva hde))J J J K1 Zmj(Zd 5 J J J Ze)J hw)J fun _ _=>mv J J<|dt(Yg J J J)J<|dt(Yg J J J)J<|as_ J J<|as_ J J<|Zf<|Za<|Zb<|Zg<|mv J J<|dt(Qe J J J)J<|Zf<|Za<|Zp J(fun h390=>?_)(fun h390=>?_)
        ·exfalso;exact h390 rfl
        ·exact Zk<|Za<|Zg<|mv J J<|mv J J<|as_ J J<|as_ J J<|Zf<|Px<|Qv(Oa 81 80 J J J)<|Qv(Oa 6 81 J J J)<|Xl(_,_,b,Yx(Pk a b),f1)⟨hvb,Lm(Cm hva hde),hok1,by rw [←heu1];exact heu⟩(Nat.lt_succ_self f1)K2 K7
      ·obtain rfl:b=[]:=List.eq_nil_of_length_eq_zero(by omega)
       rw [Eb]at heu
       have hal:=hva.len
       refine Yu<|Zt<|Zt<|Ov<|Za<|Zb<|Zb<|Zg<|mv J J<|dt(Ya J J(i:=80)J Zi Qp)J<|dt(Ot J J J)J<|mv J J<|Pa(d:=95)J(fun s395=>?_)(fun s395=>?_)
       ·refine gdt(Ym J J)J J J J<|gdt(Ym J J)J J J J<|gdt(Ya J J(i:=80)J Zi Qp)J J J J<|gdt(Qb J J J⟨by omega,by omega⟩)J J J J<|gdt(Yw(ii:=80)(i:=(a.length-1))J J J J Zi Qp Yl(by omega)(by omega))J J J J<|gdt(Xn(ii:=80)0 J J J Zi pV(by omega))J J J J<|gtt(Zh(n:=6)(Ml _(hva.sz _))J J J K1 Zcc Ze J hw)J J J J fun _ _=>gdt(Xw J J J)J J J J<|dt(Xi J J J)J<|Zf<|Za<|Zp J(fun h395=>?_)(fun h395=>?_)
        ·have hneg:a.length≠0∧cf a(a.length-1)<0:=⟨by omega,(Qk _).1 h395⟩
         exact Zb<|Zg<|mv J J<|tt(Zh(n:=6)(Xb(-1)(by first | assumption | exact⟨by omega,by omega⟩))J J J K1 Bc Ze J hw)J fun _ _=>tt(Zh(n:=7)(Fu _ _(-1)hva(by decide)(Ak hva.sz))J J J K2 Zuk(Zd 80 J J J Ze)J hw)J fun _ _=>dt(Yg J J J)J<|dt(Yg J J J)J<|as_ J J<|as_ J J<|Zf<|Za<|Zw<|Xe<|Zy(.inl J)hsc _ _(fun a w hs=>No hs Tryz.results110 J J)J trivial J(Yk 7 J J J(by unfold Ku Kg;rw [←heu,if_pos hneg]<;>rfl)Zj)
        ·refine Zk<|Za<|Zb<|Zg<|mv J J<|as_ J J<|as_ J J<|Zf<|Za<|Zw ?_
         have hneg:¬(a.length≠0∧cf a(a.length-1)<0):=fun h=>by first | omega | exact absurd((Qk(cf a(a.length-1))).2 h.2)(by assumption)
         exact Zy(.inl J)hsc _ _(fun a w hs=>No hs Tryz.results110 J J)J trivial J(Yk 80 J J J(by unfold Ku Kg;rw [←heu,if_neg hneg]<;>rfl)Zj)
       ·refine gsk J J J J J<|gsk J J J J J<|gsk J J J J J<|gsk J J J J J<|gsk J J J J J<|gsk J J J J J<|gsk J J J J J<|gsk J J J J J<|dt(Yh J J J)J<|Zf<|Za<|Yf J<|Zk<|Za<|Zb<|Zg<|mv J J<|as_ J J<|as_ J J<|Zf<|Za<|Zw ?_
        have hneg:¬(a.length≠0∧cf a(a.length-1)<0):=fun h=>by first | omega | exact absurd((Qk(cf a(a.length-1))).2 h.2)(by assumption)
        exact Zy(.inl J)hsc _ _(fun a w hs=>No hs Tryz.results110 J J)J trivial J(Yk 80 J J J(by unfold Ku Kg;rw [←heu,if_neg hneg]<;>rfl)Zj)
theorem poly_of(v:Value)(l:List Int)(hl:∀x∈l,inI x)(hlen:l.length≤1000):Cal Tryz.prog 108#[v] [slp 1 Am v l]true(G:=Value)(fun r=>True)(fun r=> .tuple#[r,.int .i64(if 25<(tzl l).length then 7 else 0)])(fun r=>[slp 2 wv r(if 25<(tzl l).length then []else tzl l)]):=by
 refine Yc Tryz.func108 J Tryz.ntmps108 J K1 ?_
 intro w0 sc hw hsc
 simp only [Zo,Zn]
 have hsz:=Zd4 hl
 refine Zb<|Zg<|as_ J J<|as_ J J<|Zf<|Za<|Zb<|Zg<|as_ J J<|Zf<|Za<|Zb<|Zb<|Zg<|mv J J<|dt(Ya J J(i:=1)J Zi Nx)J<|mv J J<|Zf<|Za<|Zl<|Yn(Nl 70 2 31 wv)<|Nt [(7,_),(8,_)] [(0,_),(1,_)](fun(q:Nat×Value)=>[(9,.int .i64(q.1:Int)),(4,q.2)])(fun(q:Nat×Value)=>[(70,osl 2 31 wv q.2(l.take q.1))])(fun(q:Nat×Value)=>q.1≤l.length)(fun(q:Nat×Value)=>l.length-q.1)(0,.slice none 0 0)(by first | omega | (dsimp only<;>omega))K4 K3 ?_
 rintro⟨k,vo⟩hk
 dsimp only at hk
 simp only [List.cons_append,List.nil_append]
 have hlk:(l.take k).length=k:=by rw [List.length_take];omega
 refine Zb<|Zg<|dt(Xw J J J)J<|Zf<|Za<|Zb<|Zp J(fun h62=>?_)(fun h62=>?_)
 ·exact Zk<|Za<|Zb<|Zl<|Zb<|Zg<|dt(Yw(ii:=1)J J J J Zi Nx zT3 J(by first | omega | (simp only [List.length_set];omega)))J<|dt(Xn(ii:=1)0 J J J Zi pZ(by first | omega | (simp only [List.length_set];omega)))J<|as_ J J<|Zf<|Za<|Zg<|mv J J<|mv J J<|tt(Zh(n:=1)(Xb _(hl _(Yv(by omega))))J J J K1 Bc Ze J hw)J fun _ _=>tt(Pr(i:=2)(ivs:=[(0,_)])(enc:=wv) [l.getD k 0]J J J K2 Qp Tryz.ti31 J J J J J J pV.cells J J hw)J fun v _=>tt(Kq(i:=70)(j:=2)(by_:=24)J J J J J J(by decide)J(Yo pV)Qp Tryz.ti31 J pV J J J(by simp;omega)(by decide)J hw)J fun v_2 _=>as_ J J<|Zf<|Px<|Za<|Zg<|dt(Ys J J J⟨by omega,by omega⟩)J<|mv J J<|Zf<|Xl(k+1,_)(by first | omega | (dsimp only<;>omega))(by first | omega | (dsimp only<;>omega))K4⟨by rw [Oe 0 _ _(by omega)];rfl,rfl,rfl,trivial⟩
 ·refine Yu<|Zt<|Zt<|Ov<|Za<|Zb ?_
  obtain rfl:k=l.length:=by omega
  rw [List.take_length]
  refine Yn(Pe 70 J J pV)<|Zg<|mv J J<|tt(Zh(n:=3)(Zal _ _ hsz)J J J K1 Zx5(Zd 70 J J J Ze)J hw)J fun _ _=>as_ J J<|Zf<|Za<|Zb<|Zb<|Zg<|mv J J<|dt(Ya J J(i:=3)J Zi Qp)J<|dt(Ot J J J)J<|Zf<|Za<|Zp J(fun h66=>?_)(fun h66=>?_)
  ·refine Zb<|Zg<|as_ J J<|as_ J J<|Zf<|Za<|Zw<|Xe ?_
   have h25:25<(tzl l).length:=by omega
   exact Zy(.inl J)hsc _ _(fun a w hs=>No hs Tryz.results108 J J)(by rw [if_pos h25])trivial J(Lg(if_pos h25)Zj)
  ·refine Zk<|Za<|Zb<|Zg<|mv J J<|as_ J J<|as_ J J<|Zf<|Za<|Zw ?_
   have h25:¬25<(tzl l).length:=by omega
   exact Zy(.inl J)hsc _ _(fun a w hs=>No hs Tryz.results108 J J)(by rw [if_neg h25]<;>rfl)trivial J(Yk 3 J J J(by rw [if_neg h25]<;>rfl)Zj)
end Go.Sky

