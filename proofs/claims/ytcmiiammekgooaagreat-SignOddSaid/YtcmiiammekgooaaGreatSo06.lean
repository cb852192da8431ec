/- rules, arithmetic and contracts: part 7
   Proved without conditions of its own: each theorem bears its own. -/
import Derived.Test.YtcmiiammekgooaaGreatSo03
import Derived.Test.YtcmiiammekgooaaGreatSo02
import Derived.Test.YtcmiiammekgooaaGreatSo01
import Derived.Test.YtcmiiammekgooaaGreatSo05
set_option linter.all false
namespace Go.Sky
open Go.Proofs
set_option maxRecDepth 20000
set_option maxHeartbeats 4000000
set_option linter.unusedVariables false
set_option linter.unusedSimpArgs false
theorem Fu(v:Value)(xs:List Int)(c:Int)(hv:Vp xs)(hc:bl c.natAbs≤65536)(hz:∀i,bl(cf xs i*c).natAbs≤65536):Cal Tryz.prog 151#[v,wv c] [slp 2 wv v xs]true(G:=Value)(fun r=>True)(fun r=> .tuple#[r,.int .i64 0])(fun r=>[slp 2 wv r(Xk xs c)]):=by
 refine Yc Tryz.func151 J Tryz.ntmps151 J K1 ?_
 intro w0 sc hw hsc
 simp only [Zo,Zn]
 have hlen:=hv.len
 refine Zb<|Zg<|tt(Xh(i:=2)J J J J J J hw)J fun b _=>as_ J J<|as_ J J<|Zf<|Za<|Zb<|Zb<|Zg<|mv J J<|tt(Zh(n:=2)(Xp _ _(by assumption))J J J K1 Zcy(Zd 1 J J J Ze)J hw)J fun _ _=>dt(Xr J J)J<|mv J J<|gdt(Yb(i:=2)J J J Qq Yl J J)J J J J<|gtt(Zh(n:=2)(Lu _(by assumption))J J J K1 Zfq Ze J hw)J J J J fun _ _=>gdt(Xr J J)J J J J<|dt(Yh J J J)J<|Zf<|Za<|Yf J<|Zk<|Za<|Zb<|Zg<|tt(Zq(i:=3)J J J Tryz.zeroValue167 J J hw)J fun b_2 _=>Zf<|Za<|Zb<|Zg<|mv J J<|dt(Ya J J(i:=1)J Zi Qp)J<|tt(Hk(i:=4)(n:=_)(by_:=24)(enc:=wv)0 J J J J J J Qp Tryz.ti31 J pV.cells pV.pos J J(by omega)(by decide)J hw)J fun v _=>as_ J J<|Zf<|Za<|Zb<|Zb<|Zg<|mv J J<|dt(Ya J J(i:=1)J Zi Qp)J<|mv J J<|Zf<|Za<|Zl ?_
 refine Nt [(3,_),(6,_),(7,_),(21,_),(22,_)] [(0,_),(1,_),(2,_),(3,_)](fun(k:Nat)=>[(23,.int .i64(k:Int))])(fun(k:Nat)=>[(4,osl 2 31 wv v(fill xs.length k(fun i=>cf xs i*c)))])(fun(k:Nat)=>k≤xs.length)(fun(k:Nat)=>xs.length-k)0(by first | omega | (dsimp only<;>omega))K6⟨by rw [Ce xs.length(fun i=>cf xs i*c)];rfl,rfl,rfl,rfl,rfl,trivial⟩ ?_
 rintro k hk
 simp only [List.cons_append,List.nil_append]
 refine Zb<|Zg<|dt(Xw J J J)J<|Zf<|Za<|Zb<|Zp J(fun h159=>?_)(fun h159=>?_)
 ·exact Zk<|Za<|Zb<|Zl<|Zb<|Zg<|mv J J<|dt(Yw(ii:=1)J J J J Zi Qp Yl J(by first | omega | (simp only [List.length_set];omega)))J<|dt(Xn(ii:=1)0 J J J Zi pV(by first | omega | (simp only [List.length_set];omega)))J<|tt(Zq(i:=5)J J J Tryz.zeroValue31 J J hw)J fun b_3 _=>as_ J J<|tt(Zm(i:=5)J J J J J(by decide)J Yl J J⟨Zc J,Zc J,trivial⟩J hw trivial)J fun _ _=>Zf<|Za<|Zg<|mv J J<|mv J J<|dt(Yb(i:=5)J J J Qq Yl J J)J<|dt(Yb(i:=2)J J J Qq Yl J J)J<|tt(Oi(n:=5)(i:=3)(Ec _ _ _(hv.sz.getD _)hc(hz _))J J J K3 Zca J(by decide)Ze J hw trivial)J fun _ _=>dt(Yw(ii:=4)(i:=k)J J J J(Yo pV)Qp Yl J(by rw [Ol];omega))J<|tt(Ky(i:=4)(enc:=wv)_ J J J J J J(by decide)pV(by rw [Ol];omega)J hw)J fun _ _=>Zf<|Px<|Za<|Zg<|dt(Ys J J J⟨by omega,by omega⟩)J<|mv J J<|Zf<|Xl(k+1)(by first | omega | (dsimp only<;>omega))(by first | omega | (dsimp only<;>omega))K6⟨by rw [←Zdh(by omega)];rfl,rfl,rfl,rfl,rfl,trivial⟩
 ·refine Yu<|Zt<|Zt<|Ov<|Za<|Zb ?_
  obtain rfl:k=xs.length:=by omega
  exact Yn(Pe 4 J J pV)<|Yn(s_rbox 3 J J)<|Zg<|mv J J<|tt(Zh(n:=6)(d_done _ _ _(by rw [Da];exact Zas fun i _=>hz i))J J J K2 Zmi(Zd 3 J J J(Zd 4 J J J Ze))J hw)J fun _ _=>dt(Yg J J J)J<|dt(Yg J J J)J<|as_ J J<|as_ J J<|Zf<|Za<|Zw<|Zy(.inl J)hsc _ _(fun a w hs=>No hs Tryz.results151 J J)J trivial J(Yk 6 J J J(by rw [Zrq]<;>rfl)Zj)
theorem Es(v:Value)(xs:List Int)(hv:Vp xs)(hz:∀i,bl(cf xs(i+1)*((i:Int)+1)).natAbs≤65536):Cal Tryz.prog 109#[v] [slp 2 wv v xs]true(G:=Value)(fun r=>True)(fun r=> .tuple#[r,.int .i64 0])(fun r=>[slp 2 wv r(Pi xs)]):=by
 refine Yc Tryz.func109 J Tryz.ntmps109 J K1 ?_
 intro w0 sc hw hsc
 simp only [Zo,Zn]
 have hlen:=hv.len
 refine Zb<|Zg<|as_ J J<|as_ J J<|Zf<|Za<|Zb<|Zb<|Zg<|mv J J<|tt(Zh(n:=1)(Xp _ _(by assumption))J J J K1 Zcy(Zd 1 J J J Ze)J hw)J fun _ _=>dt(Xr J J)J<|Zf<|Za<|Yf J<|Zk<|Za<|Zb<|Zb<|Zg<|mv J J<|dt(Ya J J(i:=1)J Zi Qp)J<|dt(Pm J J J)J<|Zf<|Za<|Zp J(fun h170=>?_)(fun h170=>?_)
 ·exact Zb<|Zg<|as_ J J<|as_ J J<|Zf<|Za<|Zw<|Xe<|Zy(.inl J)hsc _ _(fun a w hs=>No hs Tryz.results109 J J)J trivial J(Lg(Zws(by omega))Zj)
 ·refine Zk<|Za<|Zb<|Zg<|tt(Zq(i:=2)J J J Tryz.zeroValue167 J J hw)J fun b _=>Zf<|Za<|Zb<|Zg<|mv J J<|dt(Ya J J(i:=1)J Zi Qp)J<|dt(Qb J J J⟨by omega,by omega⟩)J<|tt(Hk(i:=3)(n:=(xs.length-1))(by_:=24)(enc:=wv)0 J J J J J(by omega)Qp Tryz.ti31 J pV.cells pV.pos J J(by omega)(by decide)J hw)J fun v _=>as_ J J<|Zf<|Za<|Zb<|Zb<|Zg<|mv J J<|dt(Ya J J(i:=3)J(Yo pV)Qp)J<|mv J J<|Zf<|Za<|Zl<|Nt [(0,_),(4,_),(5,_),(18,_)] [(0,_),(1,_),(2,_)](fun(k:Nat)=>[(19,.int .i64(k:Int))])(fun(k:Nat)=>[(3,osl 2 31 wv v(fill(xs.length-1)k(fun i=>cf xs(i+1)*((i:Int)+1))))])(fun(k:Nat)=>k≤xs.length-1)(fun(k:Nat)=>xs.length-1-k)0(by first | omega | (dsimp only<;>omega))K5⟨by rw [Ce(xs.length-1)(fun i=>cf xs(i+1)*((i:Int)+1))];rfl,rfl,rfl,rfl,trivial⟩ ?_
  rintro k hk
  simp only [List.cons_append,List.nil_append]
  have hlf:(fill(xs.length-1)k(fun i=>cf xs(i+1)*((i:Int)+1))).length=xs.length-1:=Ol _ _ _
  refine Zb<|Zg<|dt(Xw J J J)J<|Zf<|Za<|Zb<|Zp J(fun h175=>?_)(fun h175=>?_)
  ·try rw [List.length_replicate]at *
   refine Zk<|Za<|Zb<|Zl<|Zb<|Zg<|mv J J<|as_ J J<|Zf<|Za<|Qr(fun x=>x=b) [(0,0),(1,0),(2,0),(3,0),(4,0),(5,0),(6,0),(7,0),(8,0),(9,1),(10,1),(11,0),(12,3)](by kernel_rfl) ?_ ?_
   ·kernel_rfl
   exact r0' J J J J(st1 2 J(Ym J J))<|r0' J J J J(st1 2 J(Ym J J))<|r0' J J J J(st1 2 J(Ym J J))<|r0' J J J J(st1 2 J(Ym J J))<|r0' J J J J(st1 2 J(Ys J J J⟨by omega,by omega⟩))<|r0' J J J J(st1 2 J(Yw(ii:=1)(i:=k+1)J J J J Zi Qp Yl(by omega)(by omega)))<|r0' J J J J(st1 2 J(Xn(ii:=1)0 J J J Zi pV(by omega)))<|r0' J J J J(st1 2 J(Ym J J))<|r0' J J J J(st1 2 J(Ys J J J⟨by omega,by omega⟩))<|r1' J J(Zh(n:=3)(Xb _(by first | assumption | exact⟨by omega,by omega⟩))J J J K1 Bc Ze J hw)fun _ _=>r1' J J(Oi(n:=3)(i:=2)(Ec _(cf xs(k+1))((k:Int)+1)(hv.sz _)(Nat.le_trans(Ou(n:=32)(by omega))(by decide))(hz k))J J J K3 Zca J(by decide)Ze J hw J)fun _ _=>r0' J J J J(st1 2 J(Yw(ii:=3)(i:=k)J J J J(Yo pV)Qp Yl J(by rw [Ol];omega)))<|r3' J J(Ky(i:=3)(enc:=wv)_ J J J J J J(by decide)pV(by rw [Ol];omega)J hw)fun _ _=>Oj<|Px<|Za<|Zg<|dt(Ys J J J⟨by omega,by omega⟩)J<|mv J J<|Zf<|Xl(k+1)(by first | omega | (dsimp only<;>omega))(by first | omega | (dsimp only<;>omega))K5⟨by rw [←Zdh(by omega)];rfl,rfl,rfl,rfl,trivial⟩
  ·try rw [List.length_replicate]at *
   refine Yu<|Zt<|Zt<|Ov<|Za<|Zb ?_
   obtain rfl:k=xs.length-1:=by omega
   exact Yn(Pe 3 J J pV)<|Yn(s_rbox 2 J J)<|Zg<|mv J J<|tt(Zh(n:=4)(d_done _ _ _(by rw [Da];exact Zas fun i _=>hz i))J J J K2 Zmi(Zd 2 J J J(Zd 3 J J J Ze))J hw)J fun _ _=>dt(Yg J J J)J<|dt(Yg J J J)J<|as_ J J<|as_ J J<|Zf<|Za<|Zw<|Zy(.inl J)hsc _ _(fun a w hs=>No hs Tryz.results109 J J)J trivial J(Yk 4 J J J(by rw [pder_mk hv.tr]<;>rfl)Zj)
theorem Zjn(v:Value)(xs:List Int)(hv:Vp xs):Cal Tryz.prog 181#[v] [slp 2 wv v xs]false(G:=Unit)(fun _=>True)(fun _=> .tuple#[wv(Qc xs),.int .i64 0])(fun _=>[]):=by
 refine Yc Tryz.func181 J Tryz.ntmps181 J K1 ?_
 intro w0 sc hw hsc
 simp only [Zo,Zn]
 have hlen:=hv.len
 have hcb:∀k,bl(Qc(xs.take k)).natAbs≤65536:=fun k=>Zde _(hv.sz.take k)
 refine Zb<|Zg<|tt(Zq(i:=2)J J J Tryz.zeroValue31 J J hw)J fun b _=>as_ J J<|Zf<|Za<|Zb<|Zb<|Zg<|mv J J<|tt(Zh(n:=2)(Xp _ _(by assumption))J J J K1 Zcy(Zd 1 J J J Ze)J hw)J fun _ _=>dt(Xr J J)J<|Zf<|Za<|Yf J<|Zk<|Za<|Zb<|Zg<|tt(Zq(i:=3)J J J Tryz.zeroValue167 J J hw)J fun b_2 _=>Zf<|Za<|Zb<|Zg<|tt(Zq(i:=4)J J J Tryz.zeroValue31 J J hw)J fun b_3 _=>Zf<|Za<|Zb<|Zb<|Zg<|mv J J<|dt(Ya J J(i:=1)J Zi Qp)J<|mv J J<|Zf<|Za<|Zl<|Nt [(2,_),(4,_),(5,_),(12,_),(13,_)] [(0,_),(1,_),(2,_)](fun(k:Nat)=>[(14,.int .i64(k:Int))])(fun(k:Nat)=>[(4,box b_3 31#[.bool(decide(Qc(xs.take k)<0)),.string(Xd(Qc(xs.take k)).natAbs)]),(3,box b_2 167#[.int .i64 0])])(fun(k:Nat)=>k≤xs.length)(fun(k:Nat)=>xs.length-k)0(by first | omega | (dsimp only<;>omega))K6 K5 ?_
 rintro k hk
 simp only [List.cons_append,List.nil_append]
 have hgc:=fun h=>Mq(p:=xs)(k:=k)h
 refine Zb<|Zg<|dt(Xw J J J)J<|Zf<|Za<|Zb<|Zp J(fun h264=>?_)(fun h264=>?_)
 ·refine Zk<|Za<|Zb<|Zl<|Zb<|Zg<|dt(Yw(ii:=1)J J J J Zi Qp Yl J(by first | omega | (simp only [List.length_set];omega)))J<|dt(Xn(ii:=1)0 J J J Zi pV(by first | omega | (simp only [List.length_set];omega)))J<|tt(Zq(i:=5)J J J Tryz.zeroValue31 J J hw)J fun b_4 _=>tt(Zm(i:=5)J J J J J(by decide)J Yl J J⟨Zc J,Zc J,trivial⟩J hw trivial)J fun _ _=>Zf<|Za<|Zg<|dt(Qa J J Zgy J Zgo J J)J<|dt(Yb(i:=4)J J J Qq Yl J J)J<|dt(Yb(i:=5)J J J Qq Yl J J)J<|tt(Zh(n:=5)(Zu6(Qc(xs.take k))(xs.getD k 0)(hcb _)(hv.sz.getD _))J J J K2 cF196 Ze J hw)J fun _ _=>dt(Yg J J J)J<|dt(Yg J J J)J<|tt(Oi(n:=5)(i:=3)(Zn9 _ _ _ _ _ _)J J J K3 Zx2 J(by decide)Ze J hw trivial)J fun _ _=>tt(Zm(i:=4)J J J J J(by decide)J Yl J J⟨Zc J,Zc J,trivial⟩J hw trivial)J fun _ _=>Zf<|Px<|Za<|Zg<|dt(Ys J J J⟨by omega,by omega⟩)J<|mv J J<|Zf ?_
  have hc1:=hcb(k+1)
  rw [hgc(by omega)]at hc1
  exact Xl(k+1)(by first | omega | (dsimp only<;>omega))(by first | omega | (dsimp only<;>omega))K6⟨by rw [hgc(by omega)];simp only [Oy hc1];rfl,by simp only [Ez hc1];rfl,rfl,rfl,rfl,trivial⟩
 ·exact Yu<|Zt<|Zt<|Ov<|Za<|Zb<|On [3,4] [5](by kernel_rfl)<|Zz(n:=0) [(0,0),(1,0),(2,0),(3,0),(4,1),(5,3)](by kernel_rfl)<|r0' J J J J(stf(Yb(i:=4)J J J Qq Yl J J)K2)<|r0' J J J J(stf(Qa J J Zgy J Zgo J J)K2)<|r0' J J J J(stf(Qa J J Zkr J Gj J J)K2)<|r0' J J J J(stf(Oh(i:=3)J J J Al J)K2)<|r1' J J(Zd3 2 J J K2(fun hoffb=>(Zm(i:=2)J J J J J(by decide)J Yl J J⟨Zc J,Zc J,trivial⟩J hw hoffb)))fun _ _=>r3' J J(Pz(Kc J J)J J)fun _ _=>Yp<|Yj(by kernel_rfl)<|Za<|Zw<|Zy(.inl J)hsc()_(fun a w hs=>No hs Tryz.results181(Yr(i:=2)J J Qq Yl J)J)(by rw [show k=xs.length by omega,List.take_length]<;>rfl)trivial J Zj
theorem Zhu(v:Value)(xs:List Int)(c:Int)(hv:Sz 65536 xs)(hlen:xs.length≤1000)(hc:bl c.natAbs≤65536)(hd:∀i,c∣cf xs i)(hc0:xs≠[]→c≠0):Cal Tryz.prog 182#[v,wv c] [slp 2 wv v xs]true(G:=Value)(fun r=>True)(fun r=> .tuple#[r,.int .i64 0])(fun r=>[slp 2 wv r(xs.map(· / c))]):=by
 refine Yc Tryz.func182 J Tryz.ntmps182 J K1 ?_
 intro w0 sc hw hsc
 simp only [Zo,Zn]
 refine Zb<|Zg<|tt(Xh(i:=2)J J J J J J hw)J fun b _=>as_ J J<|as_ J J<|Zf<|Za<|Zb<|Zg<|mv J J<|dt(Ya J J(i:=1)J Zi Qp)J<|tt(Hk(i:=3)(n:=_)(by_:=24)(enc:=wv)0 J J J J J J Qp Tryz.ti31 J pV.cells pV.pos J J(by omega)(by decide)J hw)J fun v _=>as_ J J<|Zf<|Za<|Zb<|Zb<|Zg<|mv J J<|dt(Ya J J(i:=1)J Zi Qp)J<|mv J J<|Zf<|Za<|Zl<|Nt [(3,_),(6,_),(15,_),(16,_)] [(0,_),(1,_),(2,_)](fun(k:Nat)=>[(17,.int .i64(k:Int))])(fun(k:Nat)=>[(3,osl 2 31 wv v(fill xs.length k(fun i=>cf xs i/c)))])(fun(k:Nat)=>k≤xs.length)(fun(k:Nat)=>xs.length-k)0(by first | omega | (dsimp only<;>omega))K5⟨by rw [Ce xs.length(fun i=>cf xs i/c)];rfl,rfl,rfl,rfl,trivial⟩ ?_
 rintro k hk
 simp only [List.cons_append,List.nil_append]
 have hcl:Zgj(xs.getD k 0/c)=cf xs k/c:=Oy(Ix(hd k)(hv k))
 refine Zb<|Zg<|dt(Xw J J J)J<|Zf<|Za<|Zb<|Zp J(fun h273=>?_)(fun h273=>?_)
 ·refine Zk<|Za<|Zb<|Zl<|Zb<|Zg<|mv J J<|dt(Yw(ii:=1)J J J J Zi Qp Yl J(by first | omega | (simp only [List.length_set];omega)))J<|dt(Xn(ii:=1)0 J J J Zi pV(by first | omega | (simp only [List.length_set];omega)))J<|tt(Zq(i:=4)J J J Tryz.zeroValue31 J J hw)J fun b_2 _=>as_ J J<|tt(Zm(i:=4)J J J J J(by decide)J Yl J J⟨Zc J,Zc J,trivial⟩J hw trivial)J fun _ _=>Zf<|Za<|Zb<|Zg<|dt(Yb(i:=4)J J J Qq Yl J J)J<|dt(Yb(i:=2)J J J Qq Yl J J)J<|tt(Zh(n:=4)(Cl _ _(hv.getD _)hc(hc0(by intro e;rw [e]at h273;simp at h273;omega)))J J J K2 Zpx Ze J hw)J fun _ _=>mv J J<|dt(Yg J J J)J<|dt(Yg J J J)J<|dt(Yg J J J)J<|tt(Zq(i:=5)J J J Tryz.zeroValue31 J J hw)J fun b_3 _=>tt(Zq(i:=6)J J J Tryz.zeroValue31 J J hw)J fun b_4 _=>tt(Zm(i:=5)J J J J J(by decide)J Yl J J⟨Zc J,Zc J,trivial⟩J hw trivial)J fun _ _=>tt(Zm(i:=6)J J J J J(by decide)J Yl J J⟨Zc J,Zc J,trivial⟩J hw trivial)J fun _ _=>as_ J J<|Zf<|Za<|Zb<|Zb<|Zg<|mv J J<|dt(Qe J J J)J<|Zf<|Za<|Zp J(fun h275=>?_)(fun h275=>?_)
  ·exfalso;simp_all
  ·exact Zk<|Za<|Zg<|mv J J<|mv J J<|dt(Yb(i:=5)J J J Qq Yl J J)J<|dt(Yw(ii:=3)(i:=k)J J J J(Yo pV)Qp Yl J(by rw [Ol];omega))J<|tt(Ky(i:=3)(enc:=wv)_ J J J J J J(by decide)pV(by rw [Ol];omega)J hw)J fun _ _=>Zf<|Px<|Za<|Zg<|dt(Ys J J J⟨by omega,by omega⟩)J<|mv J J<|Zf<|Xl(k+1)(by first | omega | (dsimp only<;>omega))(by first | omega | (dsimp only<;>omega))K5⟨by rw [←Zdh(by omega)];simp only [hcl];rfl,rfl,rfl,rfl,trivial⟩
 ·refine Yu<|Zt<|Zt<|Ov<|Za<|Zb<|Zg<|mv J J<|as_ J J<|as_ J J<|Zf<|Za<|Zw ?_
  obtain rfl:k=xs.length:=by omega
  exact Zy(.inl J)hsc _ _(fun a w hs=>No hs Tryz.results182 J J)J trivial J(Pv 3 J J pV(by rw [Da,Znx xs(· / c)]<;>rfl)Zj)
theorem Mf(v:Value)(xs:List Int)(hv:Vp xs):Cal Tryz.prog 150#[v] [slp 2 wv v xs]true(G:=Value)(fun r=>True)(fun r=> .tuple#[r,.int .i64 0])(fun r=>[slp 2 wv r(Yx xs)]):=by
 refine Yc Tryz.func150 J Tryz.ntmps150 J K1 ?_
 intro w0 sc hw hsc
 simp only [Zo,Zn]
 have hlen:=hv.len
 refine Zb<|Zg<|as_ J J<|as_ J J<|Zf<|Za<|Zb<|Zg<|mv J J<|tt(Zh(n:=1)(Zjn _ _(by assumption))J J J K1 cF181(Zd 1 J J J Ze)J hw)J fun _ _=>mv J J<|dt(Yg J J J)J<|dt(Yg J J J)J<|tt(Zq(i:=2)J J J Tryz.zeroValue31 J J hw)J fun b _=>tt(Zm(i:=2)J J J J J(by decide)J Yl J J⟨Zc J,Zc J,trivial⟩J hw trivial)J fun _ _=>as_ J J<|Zf<|Za<|Zb<|Zb<|Zg<|mv J J<|dt(Qe J J J)J<|Zf<|Za<|Zp J(fun h286=>?_)(fun h286=>?_)
 ·exfalso;simp_all
 ·exact Zk<|Za<|Zb<|Zg<|mv J J<|dt(Yb(i:=2)J J J Qq Yl J J)J<|tt(Zh(n:=3)(Zhu _ _ _ hv.sz(by omega)(Zde _ hv.sz)(Mr _)hv.ne)J J J K2 cF182(Zd 1 J J J Ze)J hw)J fun _ _=>dt(Yg J J J)J<|dt(Yg J J J)J<|as_ J J<|as_ J J<|Zf<|Za<|Zw<|Zy(.inl J)hsc _ _(fun a w hs=>No hs Tryz.results150 J J)J trivial J(Yk 3 J J J J Zj)
theorem Zru(v:Value)(xs:List Int)(x y:Int)(hv:Vp xs)(hx:bl x.natAbs≤65536)(hy:bl y.natAbs≤65536)(hy0:0<y):Cal Tryz.prog 186#[v,.agg#[.bool(decide(x<0)),.string(Xd x.natAbs),.bool(decide(y<0)),.string(Xd y.natAbs)]] [slp 2 wv v xs]false(G:=Unit)(fun _=>True)(fun _=> .tuple#[wv(evv xs x y),.int .i64(eve xs x y)])(fun _=>[]):=by
 refine Yc Tryz.func186 J Tryz.ntmps186 J K1 ?_
 intro w0 sc hw hsc
 simp only [Zo,Zn]
 have hlen:=hv.len
 refine Zb<|Zg<|tt(Xh(i:=2)J J J J J J hw)J fun b _=>tt(Zq(i:=3)J J J Tryz.zeroValue31 J J hw)J fun b_2 _=>as_ J J<|Zf<|Za<|Zb<|Zb<|Zg<|mv J J<|tt(Zh(n:=3)(Xp _ _(by assumption))J J J K1 Zcy(Zd 1 J J J Ze)J hw)J fun _ _=>dt(Xr J J)J<|mv J J<|gdt(Xj(i:=2)J J J Pu Xz J J J J)J J J J<|gtt(Zh(n:=3)(Qs _ _(by assumption)(by assumption)(by assumption))J J J K1 Ze7 Ze J hw)J J J J fun _ _=>gdt(Xr J J)J J J J<|dt(Yh J J J)J<|Zf<|Za<|Yf J<|Zk<|Za<|Zb<|Zb<|Zg<|mv J J<|dt(Ya J J(i:=1)J Zi Qp)J<|dt(Pm J J J)J<|Zf<|Za<|Zp J(fun h186=>?_)(fun h186=>?_)
 ·exact Zb<|Zg<|dt(Oo(ivs:=[])J trivial(fun a w hs=>b31_))J<|tt(Zm(i:=3)J J J J J(by decide)J Yl J J⟨Zc J,Zc J,trivial⟩J hw trivial)J fun _ _=>as_ J J<|Zf<|Za<|Zw<|Xe<|Zy(.inl J)hsc()_(fun a w hs=>No hs Tryz.results186(Yr(i:=3)J J Qq Yl J)J)(by rw [List.eq_nil_of_length_eq_zero(l:=xs)(by omega)];rfl)trivial J Zj
 ·have hne:xs≠[]:=fun e=>by rw [e]at h186;simp at h186
  have hm1:=Pp hv.sz
  have hsxy:Sz 65536 [x,y]:=Sz.of_mem(by intro z hz;simp at hz;rcases hz with rfl | rfl<;>assumption)
  have hm2:=Pp hsxy
  have hm3:(xs.length-1)*msz [x,y]≤24*65536:=Nat.mul_le_mul(by omega)hm2
  have hm4:((xs.length:Int)-1)*(msz [x,y]:Int)=(((xs.length-1)*msz [x,y]:Nat):Int):=by rw [Int.natCast_mul];congr 1;omega
  refine Zk<|Za<|Zb<|Dc [(0,_),(3,_),(4,_)] [(0,_),(1,_),(2,_),(3,_)](fun(_:Unit)=>[(37,.bool(decide((65536:Int)<(msz xs:Int)+((xs.length:Int)-1)*(msz [x,y]:Int)+8)))])(fun(_:Unit)=>[])(fun(_:Unit)=>True)K3 K4 ?_ ?_
  ·refine Gc(fun _=>False) [](by kernel_rfl)<|Zz(n:=7) [(0,0),(2,0),(3,0),(4,0),(5,0),(6,0),(7,0),(8,0)](by kernel_rfl)<|r0' J J J J(st0(Ym J J))<|r0' J J J J(st0(Ym J J))<|r0' J J J J(st0(Ya J J(i:=1)J Zi Qp))<|r0' J J J J(st0(Qb J J J⟨by omega,by omega⟩))<|r0' J J J J(st0(Qa J J Ar J Yl J J))<|r0' J J J J(st0(Yb(i:=2)J J J Qq Yl J J))<|r0' J J J J(st0(Qa J J Ar J Yl J J))<|r0' J J J J(st0(Yb(i:=2)J J J Qq Yl J J))<|Yp<|Pw(n:=6)1 9(by kernel_rfl) ?_ ?_
   ·exact Yq J J(Zh(n:=3)(Nv _ _(by first | exact hv.sz | exact hsxy))J J J K1 Aj(Zd 1 J J J Ze)J hw)fun _ _=>Zz(n:=0) [(9,1),(10,1),(11,0),(12,0),(13,0),(14,0)](by kernel_rfl)<|r1' J J(Pr(i:=90)(ivs:=[(0,_),(1,_)])(enc:=wv) [x,y]J J J K4 uT22 Tryz.ti31 J J J J J J pV.cells J J hw)fun v _=>r1' J J(Zh(n:=3)(Nv _ _(by first | exact hv.sz | exact hsxy))J J J K1 Aj(Xv 90 J J pV Ze)J hw)fun _ _=>r0' J J J J(st0(Gi J J J(by rw [hm4];exact⟨by omega,by omega⟩)))<|r0' J J J J(st0(Ys J J J(by rw [hm4];exact⟨by omega,by omega⟩)))<|r0' J J J J(st0(Ys J J J(by rw [hm4];exact⟨by omega,by omega⟩)))<|r0' J J J J(st0(Ot J J J))<|Yp<|Yj(by kernel_rfl)<|Qy()trivial K4 K4
   ·exact Yq J J(Pr(i:=90)(ivs:=[(0,_),(1,_)])(enc:=wv) [x,y]J J J K4 uT22 Tryz.ti31 J J J J J J pV.cells J J hw)fun v_2 _=>Zz(n:=0) [(1,1),(10,1),(11,0),(12,0),(13,0),(14,0)](by kernel_rfl)<|r1' J J(Zh(n:=3)(Nv _ _(by first | exact hv.sz | exact hsxy))J J J K1 Aj(Zd 1 J J J Ze)J hw)fun _ _=>r1' J J(Zh(n:=3)(Nv _ _(by first | exact hv.sz | exact hsxy))J J J K1 Aj(Xv 90 J J pV Ze)J hw)fun _ _=>r0' J J J J(st0(Gi J J J(by rw [hm4];exact⟨by omega,by omega⟩)))<|r0' J J J J(st0(Ys J J J(by rw [hm4];exact⟨by omega,by omega⟩)))<|r0' J J J J(st0(Ys J J J(by rw [hm4];exact⟨by omega,by omega⟩)))<|r0' J J J J(st0(Ot J J J))<|Yp<|Yj(by kernel_rfl)<|Qy()trivial K4 K4
  ·rintro _ -
   simp only [List.cons_append,List.nil_append]
   refine Zp J(fun h189=>?_)(fun h189=>?_)
   ·have hE:Kh xs x y:=⟨hne,by rw [hm4]at h189;omega⟩
    exact Zb<|Zg<|dt(Oo(ivs:=[])J trivial(fun a w hs=>b31_))J<|tt(Zm(i:=3)J J J J J(by decide)J Yl J J⟨Zc J,Zc J,trivial⟩J hw trivial)J fun _ _=>as_ J J<|Zf<|Za<|Zw<|Xe<|Zy(.inl J)hsc()_(fun a w hs=>No hs Tryz.results186(Yr(i:=3)J J Qq Yl J)J)(by unfold evv eve;rw [if_pos hE,if_pos hE]<;>rfl)trivial J Zj
   ·have hF:msz xs+(xs.length-1)*msz [x,y]+8≤65536:=by rw [hm4]at h189;omega
    refine Zk<|Za<|Zb<|Zg<|tt(Zq(i:=4)J J J Tryz.zeroValue167 J J hw)J fun b_3 _=>Zf<|Za<|Dc [(0,_),(3,_),(4,_),(6,_)] [(0,_),(1,_),(2,_),(3,_),(4,_)](fun(q:Nat×Nat)=>[(7,.pointer(some⟨q.1,0,none⟩)),(8,.pointer(some⟨q.2,0,none⟩))])(fun(q:Nat×Nat)=>[(97,box q.1 31(wc(xs.getD(xs.length-1)0))),(98,box q.2 31(wc 1))])(fun(q:Nat×Nat)=>True)K4 K5 ?_ ?_
    ·refine Gc(fun _=>False) [9,10](by kernel_rfl)<|Zz(n:=5) [(0,0),(1,0),(2,0),(3,0),(4,0),(5,0)](by kernel_rfl)<|r0' J J J J(st0(Ym J J))<|r0' J J J J(st0(Ym J J))<|r0' J J J J(st0(Ya J J(i:=1)J Zi Qp))<|r0' J J J J(st0(Qb J J J⟨by omega,by omega⟩))<|r0' J J J J(st0(Yw(ii:=1)(i:=(xs.length-1))J J J J Zi Qp Yl(by omega)(by omega)))<|r0' J J J J(st0(Xn(ii:=1)0 J J J Zi pV(by omega)))<|Yp<|Zbh(n:=4)6 7 8(by kernel_rfl) ?_ ?_ ?_
     ·refine Yq J J(Zh(n:=4)(Xb _(by first | assumption | exact⟨by omega,by omega⟩))J J J K1 Bc Ze J hw)fun _ _=>Pw(n:=3)7 8(by kernel_rfl) ?_ ?_
      ·exact Yq J J(Zq(i:=97)J J J Tryz.zeroValue31 J J hw)fun b_4 _=>Zz(n:=0) [(8,1),(9,3),(10,3)](by kernel_rfl)<|r1' J J(Zq(i:=98)J J J Tryz.zeroValue31 J J hw)fun b_5 _=>r3' J J(Zm(i:=97)J J J J J(by decide)J Yl J J⟨Zc J,Zc J,trivial⟩J hw trivial)fun _ _=>r3' J J(Zm(i:=98)J J J J J(by decide)J Yl J J⟨Zc J,Zc J,trivial⟩J hw trivial)fun _ _=>Yp<|Yj(by kernel_rfl)<|Qy(_,_)trivial K6 K7
      ·exact Yq J J(Zq(i:=98)J J J Tryz.zeroValue31 J J hw)fun b_6 _=>Zz(n:=0) [(7,1),(9,3),(10,3)](by kernel_rfl)<|r1' J J(Zq(i:=97)J J J Tryz.zeroValue31 J J hw)fun b_7 _=>r3' J J(Zm(i:=97)J J J J J(by decide)J Yl J J⟨Zc J,Zc J,trivial⟩J hw trivial)fun _ _=>r3' J J(Zm(i:=98)J J J J J(by decide)J Yl J J⟨Zc J,Zc J,trivial⟩J hw trivial)fun _ _=>Yp<|Yj(by kernel_rfl)<|Qy(_,_)trivial K6 K7
     ·refine Yq J J(Zq(i:=97)J J J Tryz.zeroValue31 J J hw)fun b_8 _=>Pw(n:=3)6 8(by kernel_rfl) ?_ ?_
      ·exact Yq J J(Zh(n:=4)(Xb _(by first | assumption | exact⟨by omega,by omega⟩))J J J K1 Bc Ze J hw)fun _ _=>Zz(n:=0) [(8,1),(9,3),(10,3)](by kernel_rfl)<|r1' J J(Zq(i:=98)J J J Tryz.zeroValue31 J J hw)fun b_9 _=>r3' J J(Zm(i:=97)J J J J J(by decide)J Yl J J⟨Zc J,Zc J,trivial⟩J hw trivial)fun _ _=>r3' J J(Zm(i:=98)J J J J J(by decide)J Yl J J⟨Zc J,Zc J,trivial⟩J hw trivial)fun _ _=>Yp<|Yj(by kernel_rfl)<|Qy(_,_)trivial K6 K7
      ·exact Yq J J(Zq(i:=98)J J J Tryz.zeroValue31 J J hw)fun b_10 _=>Zz(n:=0) [(6,1),(9,3),(10,3)](by kernel_rfl)<|r1' J J(Zh(n:=4)(Xb _(by first | assumption | exact⟨by omega,by omega⟩))J J J K1 Bc Ze J hw)fun _ _=>r3' J J(Zm(i:=97)J J J J J(by decide)J Yl J J⟨Zc J,Zc J,trivial⟩J hw trivial)fun _ _=>r3' J J(Zm(i:=98)J J J J J(by decide)J Yl J J⟨Zc J,Zc J,trivial⟩J hw trivial)fun _ _=>Yp<|Yj(by kernel_rfl)<|Qy(_,_)trivial K6 K7
     ·refine Yq J J(Zq(i:=98)J J J Tryz.zeroValue31 J J hw)fun b_11 _=>Pw(n:=3)6 7(by kernel_rfl) ?_ ?_
      ·exact Yq J J(Zh(n:=4)(Xb _(by first | assumption | exact⟨by omega,by omega⟩))J J J K1 Bc Ze J hw)fun _ _=>Zz(n:=0) [(7,1),(9,3),(10,3)](by kernel_rfl)<|r1' J J(Zq(i:=97)J J J Tryz.zeroValue31 J J hw)fun b_12 _=>r3' J J(Zm(i:=97)J J J J J(by decide)J Yl J J⟨Zc J,Zc J,trivial⟩J hw trivial)fun _ _=>r3' J J(Zm(i:=98)J J J J J(by decide)J Yl J J⟨Zc J,Zc J,trivial⟩J hw trivial)fun _ _=>Yp<|Yj(by kernel_rfl)<|Qy(_,_)trivial K6 K7
      ·exact Yq J J(Zq(i:=97)J J J Tryz.zeroValue31 J J hw)fun b_13 _=>Zz(n:=0) [(6,1),(9,3),(10,3)](by kernel_rfl)<|r1' J J(Zh(n:=4)(Xb _(by first | assumption | exact⟨by omega,by omega⟩))J J J K1 Bc Ze J hw)fun _ _=>r3' J J(Zm(i:=97)J J J J J(by decide)J Yl J J⟨Zc J,Zc J,trivial⟩J hw trivial)fun _ _=>r3' J J(Zm(i:=98)J J J J J(by decide)J Yl J J⟨Zc J,Zc J,trivial⟩J hw trivial)fun _ _=>Yp<|Yj(by kernel_rfl)<|Qy(_,_)trivial K6 K7
    ·rintro⟨b7,b8⟩ -
     simp only [List.cons_append,List.nil_append]
     refine Zb<|Zb<|Zg<|mv J J<|dt(Ya J J(i:=1)J Zi Qp)J<|dt(Qb J J J⟨by omega,by omega⟩)J<|as_ J J<|Zf<|Za<|Zl<|Nt [(0,_),(3,_),(4,_),(6,_),(7,_),(8,_)] [(0,_),(1,_),(2,_),(3,_),(4,_)](fun(k:Nat)=>[(9,.int .i64((k:Int)-1))])(fun(k:Nat)=>[(97,box b7 31(wc(hor xs x y k))),(98,box b8 31(wc(y^(xs.length-1-k))))])(fun(k:Nat)=>k≤xs.length-1)(fun(k:Nat)=>k)(xs.length-1)(by first | omega | (dsimp only<;>omega))⟨by rw [show((xs.length-1:Nat):Int)-1=(xs.length:Int)-2 by omega];rfl,rfl,rfl,rfl,rfl,rfl,rfl,trivial⟩⟨by rw [hor_top x y(by omega)];rfl,by rw [Nat.sub_self,Int.pow_zero];rfl,rfl,rfl,rfl,rfl,rfl,trivial⟩ ?_
     rintro k hk
     simp only [List.cons_append,List.nil_append]
     refine Zb<|Zb<|Zg<|mv J J<|dt(Lq J J J)J<|Zf<|Za<|Zp J(fun h194=>?_)(fun h194=>?_)
     ·have hpw:y^(xs.length-1-k)*y=y^(xs.length-1-(k-1)):=Zwl y(by omega)hk
      have hst:hor xs x y k*x+xs.getD(k-1)0*y^(xs.length-1-(k-1))=hor xs x y(k-1):=Zs3 x y(by omega)hk
      refine Zk<|Za<|Zb<|Zl<|Zb<|Zg<|dt(Yb(i:=98)J J J Qq Yl J J)J<|dt(Qa J J Ar J Yl J J)J<|dt(Yb(i:=2)J J J Qq Yl J J)J<|tt(Oi(n:=4)(i:=4)(Ec _ _ _(Zoa hF)hy(by rw [hpw];exact Zoa hF))J J J K3 Zca J(by decide)Ze J hw trivial)J fun _ _=>tt(Zm(i:=98)J J J J J(by decide)J Yl J J⟨Zc J,Zc J,trivial⟩J hw trivial)J fun _ _=>Zf<|Za<|Qr(fun x=>x=b_3) [(0,0),(1,0),(2,0),(4,0),(5,0),(6,0),(7,0),(8,0),(3,1),(9,1),(10,1),(11,3)](by kernel_rfl) ?_ ?_
      ·kernel_rfl
      refine r0' J J J J(st1 4 J(Yb(i:=97)J J J Qq Yl J J))<|r0' J J J J(st1 4 J(Qa J J Ar J Yl J J))<|r0' J J J J(st1 4 J(Yb(i:=2)J J J Qq Yl J J))<|r0' J J J J(st1 4 J(Ym J J))<|r0' J J J J(st1 4 J(Ym J J))<|r0' J J J J(st1 4 J(Yw(ii:=1)(i:=(k-1))J J J J Zi Qp Yl(by omega)(by omega)))<|r0' J J J J(st1 4 J(Xn(ii:=1)0 J J J Zi pV(by omega)))<|r0' J J J J(st1 4 J(Yb(i:=98)J J J Qq Yl J J))<|r1' J J(Oi(n:=4)(i:=4)(Ec _ _ _(by first | exact Zob hF hlen _ | exact hv.sz.getD _)(by first | exact hx | (rw [hpw];exact Zoa hF))(by first | exact Zta hF hlen(by omega)hk | (rw [hpw];exact Zl3 hF)))J J J K3 Zca J(by decide)Ze J hw J)fun _ _=>r1' J J(Oi(n:=4)(i:=4)(Ec _ _ _(by first | exact Zob hF hlen _ | exact hv.sz.getD _)(by first | exact hx | (rw [hpw];exact Zoa hF))(by first | exact Zta hF hlen(by omega)hk | (rw [hpw];exact Zl3 hF)))J J J K3 Zca J(by decide)Ze J hw J)fun _ _=>r1' J J(Oi(n:=4)(i:=4)(Zoh _ _ _(Zta hF hlen(by omega)hk)(by rw [hpw];exact Zl3 hF)(by rw [hpw,hst];exact Zob hF hlen _))J J J K3 Zx4 J(by decide)Ze J hw J)(fun _ _=>?_)
      exact r3' J J(Zm(i:=97)J J J J J(by decide)J Yl J J⟨Zc J,Zc J,trivial⟩J hw trivial)fun _ _=>Oj<|Px<|Za<|Zg<|mv J J<|dt(Qb J J J⟨by omega,by omega⟩)J<|as_ J J<|Zf<|Xl(k-1)(by first | omega | (dsimp only<;>omega))(by first | omega | (dsimp only<;>omega))⟨by rw [show((k-1:Nat):Int)-1=(k:Int)-1-1 by omega];rfl,rfl,rfl,rfl,rfl,rfl,rfl,trivial⟩⟨by rw [hpw,hst];rfl,by rw [hpw];rfl,rfl,rfl,rfl,rfl,rfl,trivial⟩
     ·refine Yu<|Zt<|Zt<|Ov<|Za<|Zb<|Zb<|Zg<|dt(Qa J J Zgy J Zgo J J)J<|dt(Qa J J Zkr J Gj J J)J<|dt(Oh(i:=4)J J J Al J)J<|dt(Qe J J J)J<|Zf<|Za<|Zp J(fun h198=>?_)(fun h198=>?_)
      ·exfalso;simp_all
      ·refine Zk<|Za<|Zb<|Zg<|dt(Yb(i:=97)J J J Qq Yl J J)J<|tt(Zm(i:=3)J J J J J(by decide)J Yl J J⟨Zc J,Zc J,trivial⟩J hw trivial)J fun _ _=>as_ J J<|Zf<|Za<|Zw ?_
       obtain rfl:k=0:=by omega
       have hE:¬Kh xs x y:=fun h=>by have:=h.2;omega
       exact Zy(.inl J)hsc()_(fun a w hs=>No hs Tryz.results186(Yr(i:=3)J J Qq Yl J)J)(by unfold evv eve;rw [if_neg hE,if_neg hE,←Zn5]<;>rfl)trivial J Zj
theorem Zld(v:Value)(xs:List Int)(x y:Int)(hv:Vp xs)(hx:bl x.natAbs≤65536)(hy:bl y.natAbs≤65536)(hy0:0<y):Cal Tryz.prog 164#[v,.agg#[.bool(decide(x<0)),.string(Xd x.natAbs),.bool(decide(y<0)),.string(Xd y.natAbs)]] [slp 2 wv v xs]false(G:=Unit)(fun _=>True)(fun _=> .tuple#[.int .i64(evv xs x y).sign,.int .i64(eve xs x y)])(fun _=>[]):=by
 refine Yc Tryz.func164 J Tryz.ntmps164 J K1 ?_
 intro w0 sc hw hsc
 simp only [Zo,Zn]
 have hlen:=hv.len
 exact Zb<|Zg<|tt(Xh(i:=2)J J J J J J hw)J fun b _=>as_ J J<|as_ J J<|Zf<|Za<|Zb<|Zg<|mv J J<|dt(Xj(i:=2)J J J Pu Xz J J J J)J<|tt(Zh(n:=2)(Zru _ _ _ _ hv hx hy hy0)J J J K2 cF186(Zd 1 J J J Ze)J hw)J fun _ _=>mv J J<|dt(Yg J J J)J<|dt(Yg J J J)J<|tt(Zq(i:=3)J J J Tryz.zeroValue31 J J hw)J fun b_2 _=>tt(Zm(i:=3)J J J J J(by decide)J Yl J J⟨Zc J,Zc J,trivial⟩J hw trivial)J fun _ _=>as_ J J<|Zf<|Za<|Zb<|Zg<|dt(Yb(i:=3)J J J Qq Yl J J)J<|tt(Zh(n:=3)(Ml _(evv_bl hlen))J J J K1 Zcc Ze J hw)J fun _ _=>mv J J<|as_ J J<|as_ J J<|Zf<|Za<|Zw<|Zy(.inl J)hsc()_(fun a w hs=>No hs Tryz.results164 J J)J trivial J Zj
end Go.Sky
namespace Go.Sky
open Go.Proofs
set_option maxRecDepth 20000
set_option maxHeartbeats 4000000
set_option linter.unusedVariables false
set_option linter.unusedSimpArgs false
theorem Za6(bd:Nat)(v:Value)(xs:List Int)(hs:Sz 65536 xs):Zp5 Tryz.prog 154#[.pointer(some⟨bd,0,none⟩),v] [slp 2 wv v xs]true bd 167#[.int .i64 0](G:=Unit)(fun _=>True)(fun _=> .tuple#[Fj v(tzl xs).length,.int .i64 0])(fun _=>#[.int .i64 0])(fun _=>[slp 2 wv(Fj v(tzl xs).length)(tzl xs)]):=by
 refine Zb9 Tryz.func154 J Tryz.ntmps154 J K1 ?_
 intro w0 sc hw hsc
 simp only [Zo,Zn]
 refine Zb<|Zg<|as_ J J<|as_ J J<|Zf<|Za<|Zb<|Zb<|Zg<|mv J J<|dt(Zfm J J)J<|dt(Qa J J Zgy J Zgo J J)J<|dt(Qa J J Zkr J Gj J J)J<|dt(Oh(i:=1)J J J Al J)J<|dt(Qe J J J)J<|Zf<|Za<|Zp J(fun h43=>?_)(fun h43=>?_)
 ·exfalso;simp_all
 ·exact Zk<|Za<|Zb<|Zg<|mv J J<|tt(Zh(n:=3)(Zal _ _(by assumption))J J J K1 Zx5(Zd 2 J J J Ze)J hw)J fun _ _=>as_ J J<|as_ J J<|Zf<|Za<|Zw<|Zdt(.inl J)hsc()_(fun a w hs=>No hs Tryz.results154 J J)J trivial 1 J J J J(Xa 3 J J J Zj)
theorem Zt8(v:Value)(xs:List Int)(hx:xs.length*24≤140737488355328):CalO Tryz.prog 157#[v] [slp 2 wv v xs](G:=Value)(fun r=>True)(fun r=>r)(fun r=>osl 2 31 wv r xs):=by
 refine Zuh Tryz.func157 J Tryz.ntmps157 J K1 ?_
 intro w0 sc hw hsc
 simp only [Zo,Zn]
 refine Ma(f_nil(i:=1)J Zi)fun hnil=>Zb<|Zg<|as_ J J<|Zf<|Za<|Zb<|Zb<|Zg<|mv J J<|dt(Ztz J J J(i:=1)J Zi Qp)J<|Zf<|Za<|Mt J(fun h357=>?_)(fun h357=>?_)
 ·refine Zb<|Zg<|as_ J J<|Zf<|Za<|Zw<|Xe ?_
  obtain rfl:xs=[]:=hnil(by simpa using h357)
  exact Qv(Nl 9 2 31 wv)<|Zmr(.inl J)(.slice none 0 0)_(fun a w hs=>Qi hs Tryz.results157 J)J trivial J 9 J J J
 ·exact Zk<|Za<|Zb<|Zg<|tt(t_bs0(i:=2)(enc:=wv)J J J Qp pV J hw)J fun v _=>mv J J<|tt(Kq(i:=2)(j:=1)(by_:=24)J J J J J J(by decide)J Zi Qp Tryz.ti31 J pV J J J(by simp;omega)(by decide)J hw)J fun v_2 _=>as_ J J<|Zf<|Za<|Zw<|Zmr(.inl J)_ _(fun a w hs=>Qi hs Tryz.results157 J)J trivial J 2 J(by rfl)J
theorem Zem(v:Value)(xs:List Int)(hv:Vp xs):Cal Tryz.prog 105#[v] [slp 2 wv v xs]false(G:=Unit)(fun _=>True)(fun _=> .tuple#[.int .i64((xs.length:Int)-1),.int .i64 0])(fun _=>[]):=by
 refine Yc Tryz.func105 J Tryz.ntmps105 J K1 ?_
 intro w0 sc hw hsc
 simp only [Zo,Zn]
 have hlen:=hv.len
 exact Zb<|Zg<|as_ J J<|as_ J J<|Zf<|Za<|Zb<|Zb<|Zg<|mv J J<|tt(Zh(n:=1)(Xp _ _(by assumption))J J J K1 Zcy(Zd 1 J J J Ze)J hw)J fun _ _=>dt(Xr J J)J<|Zf<|Za<|Yf J<|Zk<|Za<|Zb<|Zg<|mv J J<|dt(Ya J J(i:=1)J Zi Qp)J<|dt(Qb J J J⟨by omega,by omega⟩)J<|as_ J J<|as_ J J<|Zf<|Za<|Zw<|Zy(.inl J)hsc()_(fun a w hs=>No hs Tryz.results105 J J)J trivial J Zj
theorem Zjp(v:Value)(xs:List Int)(hv:Vp xs):Cal Tryz.prog 106#[v] [slp 2 wv v xs]false(G:=Unit)(fun _=>True)(fun _=> .tuple#[.int .i64(msz xs:Int),.int .i64 0])(fun _=>[]):=by
 refine Yc Tryz.func106 J Tryz.ntmps106 J K1 ?_
 intro w0 sc hw hsc
 simp only [Zo,Zn]
 exact Zb<|Zg<|as_ J J<|as_ J J<|Zf<|Za<|Zb<|Zb<|Zg<|mv J J<|tt(Zh(n:=1)(Xp _ _(by assumption))J J J K1 Zcy(Zd 1 J J J Ze)J hw)J fun _ _=>dt(Xr J J)J<|Zf<|Za<|Yf J<|Zk<|Za<|Zb<|Zg<|mv J J<|tt(Zh(n:=1)(Nv _ _ hv.sz)J J J K1 Aj(Zd 1 J J J Ze)J hw)J fun _ _=>as_ J J<|as_ J J<|Zf<|Za<|Zw<|Zy(.inl J)hsc()_(fun a w hs=>No hs Tryz.results106 J J)J trivial J Zj
theorem Zmf(bd:Nat)(v u:Value)(xs ys:List Int)(hv:Vp xs)(hu:Vp ys)(hz:∀i,bl(cf xs i-cf ys i).natAbs≤65536):Zp5 Tryz.prog 136#[v,u,.pointer(some⟨bd,0,none⟩),.func(.func 137)#[.pointer(some⟨bd,0,none⟩)] #[]] [slp 2 wv v xs,slp 2 wv u ys]true bd 167#[.int .i64 0](G:=Value)(fun r=>True)(fun r=> .tuple#[r,.int .i64 0])(fun r=>#[.int .i64 0])(fun r=>[slp 2 wv r(Zfi xs ys)]):=by
 refine Zb9 Tryz.func136 J Tryz.ntmps136 J K2 ?_
 intro w0 sc hw hsc
 simp only [Zo,Zn]
 have hlen:=hv.len
 have hlen2:=hu.len
 refine Zb<|Zg<|as_ J J<|as_ J J<|Zf<|Za<|Zb<|Zb<|Zg<|mv J J<|tt(Zh(n:=3)(Xp _ _(by assumption))J J J K1 Zcy(Zd 2 J J J Ze)J hw)J fun _ _=>dt(Xr J J)J<|mv J J<|gdt(Ym J J)J J J J<|gtt(Zh(n:=3)(Xp _ _(by assumption))J J J K1 Zcy(Zd 3 J J J Ze)J hw)J J J J fun _ _=>gdt(Xr J J)J J J J<|dt(Yh J J J)J<|Zf<|Za<|Yf J<|Zk<|Za<|Zb<|Zg<|mv J J<|dt(Ya J J(i:=2)J Zi Qp)J<|mv J J<|dt(Ya J J(i:=3)J Zi Qp)J<|dt(Zty J J J)J<|tt(Hk(i:=4)(n:=(max xs.length ys.length))(by_:=24)(enc:=wv)0 J J J J J(by omega)Qp Tryz.ti31 J pV.cells pV.pos J J(by omega)(by decide)J hw)J fun v _=>as_ J J<|Zf<|Za<|Zb<|Zb<|Zg<|mv J J<|dt(Ya J J(i:=4)J(Yo pV)Qp)J<|mv J J<|Zf<|Za<|Zl ?_
 refine Nt [(0,_),(1,_),(2,_),(3,_),(10,_),(29,_)] [(0,_),(1,_),(2,_),(3,_)](fun(k:Nat)=>[(30,.int .i64(k:Int))])(fun(k:Nat)=>[(4,osl 2 31 wv v(fill(max xs.length ys.length)k(fun i=>cf xs i-cf ys i)))])(fun(k:Nat)=>k≤max xs.length ys.length)(fun(k:Nat)=>max xs.length ys.length-k)0(by first | omega | (dsimp only<;>omega))K7⟨by rw [Ce(max xs.length ys.length)(fun i=>cf xs i-cf ys i)];rfl,rfl,rfl,rfl,rfl,trivial⟩ ?_
 rintro k hk
 simp only [List.cons_append,List.nil_append]
 have hlf:(fill(max xs.length ys.length)k(fun i=>cf xs i-cf ys i)).length=max xs.length ys.length:=Ol _ _ _
 refine Zb<|Zg<|dt(Xw J J J)J<|Zf<|Za<|Zb<|Zp J(fun h106=>?_)(fun h106=>?_)
 ·try rw [List.length_replicate]at *
  refine Zk<|Za<|Zb<|Zl<|Zb<|Zg<|mv J J<|as_ J J<|Zf<|Za<|Zb<|Zg<|tt(Zq(i:=5)J J J Tryz.zeroValue31 J J hw)J fun b _=>tt(Zq(i:=6)J J J Tryz.zeroValue31 J J hw)J fun b_2 _=>Zf<|Za<|Dc [(0,_),(1,_),(2,_),(3,_),(10,_),(11,_),(12,_),(13,_),(29,_),(30,_)] [(0,_),(4,_),(1,_),(2,_),(3,_),(6,_)](fun(_:Unit)=>[])(fun(_:Unit)=>[(5,box b 31(wc(cf xs k)))])(fun(_:Unit)=>True)K10 K6 ?_ ?_
  ·refine Zb<|Zg<|mv J J<|mv J J<|dt(Ya J J(i:=2)J Zi Qp)J<|dt(Xw J J J)J<|Zf<|Za<|Zp J(fun h108=>?_)(fun h108=>?_)
   ·exact Zg<|mv J J<|mv J J<|dt(Yw(ii:=2)J J J J Zi Qp Yl J(by first | omega | (simp only [List.length_set];omega)))J<|dt(Xn(ii:=2)0 J J J Zi pV(by first | omega | (simp only [List.length_set];omega)))J<|tt(Zm(i:=5)J J J J J(by decide)J Yl J J⟨Zc J,Zc J,trivial⟩J hw trivial)J fun _ _=>Zf<|Qy()trivial K10⟨by first | rfl | (rw [Qf(p:=xs)(by omega)];rfl),rfl,rfl,rfl,rfl,rfl,rfl,trivial⟩
   ·exact Zk<|Qy()trivial K10⟨by first | rfl | (rw [Qf(p:=xs)(by omega)];rfl),rfl,rfl,rfl,rfl,rfl,rfl,trivial⟩
  ·rintro _ -
   simp only [List.cons_append,List.nil_append]
   refine Dc [(0,_),(1,_),(2,_),(3,_),(10,_),(11,_),(12,_),(13,_),(29,_),(30,_)] [(0,_),(5,_),(4,_),(1,_),(2,_),(3,_)](fun(_:Unit)=>[])(fun(_:Unit)=>[(6,box b_2 31(wc(cf ys k)))])(fun(_:Unit)=>True)K10 K6 ?_ ?_
   ·refine Zb<|Zg<|mv J J<|mv J J<|dt(Ya J J(i:=3)J Zi Qp)J<|dt(Xw J J J)J<|Zf<|Za<|Zp J(fun h111=>?_)(fun h111=>?_)
    ·exact Zg<|mv J J<|mv J J<|dt(Yw(ii:=3)J J J J Zi Qp Yl J(by first | omega | (simp only [List.length_set];omega)))J<|dt(Xn(ii:=3)0 J J J Zi pV(by first | omega | (simp only [List.length_set];omega)))J<|tt(Zm(i:=6)J J J J J(by decide)J Yl J J⟨Zc J,Zc J,trivial⟩J hw trivial)J fun _ _=>Zf<|Qy()trivial K10⟨by first | rfl | (rw [Qf(p:=ys)(by omega)];rfl),rfl,rfl,rfl,rfl,rfl,rfl,trivial⟩
    ·exact Zk<|Qy()trivial K10⟨by first | rfl | (rw [Qf(p:=ys)(by omega)];rfl),rfl,rfl,rfl,rfl,rfl,rfl,trivial⟩
   ·rintro _ -
    simp only [List.cons_append,List.nil_append]
    exact Zg<|mv J J<|mv J J<|mv J J<|dt(Yb(i:=5)J J J Qq Yl J J)J<|dt(Yb(i:=6)J J J Qq Yl J J)J<|tt(Zvf(n:=6)(i:=1)(fs:=[_])(vs:=[_,_])(Zts _ _ _(hv.sz _)(hu.sz _)(hz _))J J J J K2 cF137 J(by decide)Ze J hw trivial)J fun _ _=>dt(Yw(ii:=4)(i:=k)J J J J(Yo pV)Qp Yl J(by rw [Ol];omega))J<|tt(Ky(i:=4)(enc:=wv)_ J J J J J J(by decide)pV(by rw [Ol];omega)J hw)J fun _ _=>Zf<|Px<|Za<|Zg<|dt(Ys J J J⟨by omega,by omega⟩)J<|mv J J<|Zf<|Xl(k+1)(by first | omega | (dsimp only<;>omega))(by first | omega | (dsimp only<;>omega))K7⟨by rw [←Zdh(by omega)];rfl,rfl,rfl,rfl,rfl,trivial⟩
 ·try rw [List.length_replicate]at *
  refine Yu<|Zt<|Zt<|Ov<|Za<|Zb ?_
  obtain rfl:k=max xs.length ys.length:=by omega
  exact Yn(Pe 4 J J pV)<|Zg<|mv J J<|mv J J<|tt(Oi(n:=7)(i:=1)(Za6 _ _ _(by rw [Da];exact Zas fun i _=>hz i))J J J K2 Zmi J(by decide)(Zd 4 J J J Ze)J hw trivial)J fun _ _=>dt(Yg J J J)J<|dt(Yg J J J)J<|as_ J J<|as_ J J<|Zf<|Za<|Zw<|Zdt(.inl J)hsc _ _(fun a w hs=>No hs Tryz.results136 J J)J trivial 1 J J J J(Yk 7 J J J(by rw [Da]<;>rfl)Zj)
theorem Znm(v u:Value)(xs ys:List Int)(hv:Vp xs)(hu:Vp ys)(hz:∀i,bl(cf xs i-cf ys i).natAbs≤65536):Cal Tryz.prog 85#[v,u] [slp 2 wv v xs,slp 2 wv u ys]true(G:=Value)(fun r=>True)(fun r=> .tuple#[r,.int .i64 0])(fun r=>[slp 2 wv r(Zfi xs ys)]):=by
 refine Yc Tryz.func85 J Tryz.ntmps85 J K2 ?_
 intro w0 sc hw hsc
 simp only [Zo,Zn]
 exact Zb<|Zg<|as_ J J<|as_ J J<|Zf<|Za<|Zb<|Zg<|tt(Zq(i:=3)J J J Tryz.zeroValue167 J J hw)J fun b _=>Zf<|Za<|Zb<|Zg<|mv J J<|mv J J<|dt(d_mkf(vs:=[_])J K1)J<|tt(Oi(n:=4)(i:=3)(Zmf _ _ _ _ _(by assumption)(by assumption)(by assumption))J J J K4 cF136 J(by decide)(Zd 1 J J J(Zd 2 J J J Ze))J hw trivial)J fun _ _=>dt(Yg J J J)J<|dt(Yg J J J)J<|as_ J J<|as_ J J<|Zf<|Za<|Zw<|Zy(.inl J)hsc _ _(fun a w hs=>No hs Tryz.results85 J J)J trivial J(Xa 4 J J J Zj)
theorem Zwm(v u:Value)(xs ys:List Int)(hv:Vp xs)(hu:Vp ys)(hF:¬Zeu xs ys):Cal Tryz.prog 112#[v,u] [slp 2 wv v xs,slp 2 wv u ys]true(G:=Value)(fun r=>True)(fun r=> .tuple#[r,.int .i64 0])(fun r=>[slp 2 wv r(Nz xs ys)]):=by
 refine Yc Tryz.func112 J Tryz.ntmps112 J K2 ?_
 intro w0 sc hw hsc
 simp only [Zo,Zn]
 have hlen:=hv.len
 have hlen2:=hu.len
 have hm1:=Pp hv.sz
 have hm2:=Pp hu.sz
 refine Zb<|Zg<|as_ J J<|as_ J J<|Zf<|Za<|Zb<|Zb<|Zg<|mv J J<|tt(Zh(n:=2)(Xp _ _(by assumption))J J J K1 Zcy(Zd 1 J J J Ze)J hw)J fun _ _=>dt(Xr J J)J<|mv J J<|gdt(Ym J J)J J J J<|gtt(Zh(n:=2)(Xp _ _(by assumption))J J J K1 Zcy(Zd 2 J J J Ze)J hw)J J J J fun _ _=>gdt(Xr J J)J J J J<|dt(Yh J J J)J<|Zf<|Za<|Yf J<|Zk<|Za<|Zb<|Zb<|Zg<|mv J J<|dt(Ya J J(i:=1)J Zi Qp)J<|dt(Pm J J J)J<|mv J J<|Pa(d:=23)J(fun s136=>?_)(fun s136=>?_)
 ·exact gsk J J J J J<|gsk J J J J J<|gsk J J J J J<|dt(Xi J J J)J<|Zf<|Za<|Nm J<|Zb<|Zg<|as_ J J<|as_ J J<|Zf<|Za<|Zw<|Xe<|Zy(.inl J)hsc _ _(fun a w hs=>No hs Tryz.results112 J J)J trivial J(Lg(Ct(p:=xs)(q:=ys)(by first | (left;omega) | (right;omega)))Zj)
 ·refine gdt(Ym J J)J J J J<|gdt(Ya J J(i:=2)J Zi Qp)J J J J<|gdt(Pm J J J)J J J J<|dt(Yh J J J)J<|Zf<|Za<|Zp J(fun h136=>?_)(fun h136=>?_)
  ·exact Zb<|Zg<|as_ J J<|as_ J J<|Zf<|Za<|Zw<|Xe<|Zy(.inl J)hsc _ _(fun a w hs=>No hs Tryz.results112 J J)J trivial J(Lg(Ct(p:=xs)(q:=ys)(by first | (left;omega) | (right;omega)))Zj)
  ·have hnx:xs≠[]:=by intro e;subst e;simp_all
   have hny:ys≠[]:=by intro e;subst e;simp_all
   have hlx:0<xs.length:=List.length_pos_iff.2 hnx
   have hly:0<ys.length:=List.length_pos_iff.2 hny
   refine Zk<|Za<|Zb<|Zb<|Zg<|mv J J<|dt(Ya J J(i:=1)J Zi Qp)J<|mv J J<|dt(Ya J J(i:=2)J Zi Qp)J<|dt(Ys J J J⟨by omega,by omega⟩)J<|dt(Qb J J J⟨by omega,by omega⟩)J<|dt(Ot J J J)J<|mv J J<|Pa(d:=35)J(fun s139=>?_)(fun s139=>?_)
   ·exfalso;exact hF⟨hnx,hny,.inl(by omega)⟩
   ·refine gdt(Ym J J)J J J J<|gtt(Zh(n:=2)(Nv _ _(by first | exact hv.sz | exact hu.sz))J J J K1 Aj(Zd 1 J J J Ze)J hw)J J J J fun _ _=>gdt(Ym J J)J J J J<|gtt(Zh(n:=2)(Nv _ _(by first | exact hv.sz | exact hu.sz))J J J K1 Aj(Zd 2 J J J Ze)J hw)J J J J fun _ _=>gdt(Ys J J J⟨by omega,by omega⟩)J J J J<|gdt(Ys J J J⟨by omega,by omega⟩)J J J J<|gdt(Ot J J J)J J J J<|dt(Yh J J J)J<|Zf<|Za<|Zp J(fun h139=>?_)(fun h139=>?_)
    ·exfalso;exact hF⟨hnx,hny,by first | (left;omega) | (right;omega)⟩
    ·have hsz:msz xs+msz ys+5≤65536:=by omega
     have hpq:∀i j,bl(cf xs i*cf ys j).natAbs≤65536:=fun i j=>by have:=Xy(cf xs i)(cf ys j);have:=Oc xs i;have:=Oc ys j;omega
     have hac:∀i j t,i<25→bl(Zgn xs ys i j t).natAbs≤65536:=fun i j t hi=>by have:=bl_acc2(i:=i)(j:=j)(t:=t)(Oc xs)(Oc ys)(by omega);omega
     have hacc:∀t,bl(acc xs ys xs.length t).natAbs≤65536:=fun t=>by have:=bl_acc(i:=xs.length)(t:=t)(Oc xs)(Oc ys)(by omega);omega
     have hsum:∀i j,i<25→bl(Zgn xs ys i j(i+j)+cf xs i*cf ys j).natAbs≤65536:=fun i j hi=>by rw [←Zuz];exact hac i(j+1)_ hi
     refine Zk<|Za<|Zb<|Zg<|tt(Zq(i:=3)J J J Tryz.zeroValue167 J J hw)J fun b _=>Zf<|Za<|Zb<|Zg<|mv J J<|dt(Ya J J(i:=1)J Zi Qp)J<|mv J J<|dt(Ya J J(i:=2)J Zi Qp)J<|dt(Ys J J J⟨by omega,by omega⟩)J<|dt(Qb J J J⟨by omega,by omega⟩)J<|tt(Hk(i:=4)(n:=(xs.length+ys.length-1))(by_:=24)(enc:=wv)0 J J J J J(by omega)Qp Tryz.ti31 J pV.cells pV.pos J J(by omega)(by decide)J hw)J fun v _=>as_ J J<|Zf<|Za<|Zb<|Zb<|Zg<|mv J J<|dt(Ya J J(i:=1)J Zi Qp)J<|mv J J<|Zf<|Za<|Zl<|Nt [(1,_),(6,_),(7,_),(51,_),(52,_)] [(0,_),(1,_),(2,_),(3,_)](fun(i:Nat)=>[(53,.int .i64(i:Int))])(fun(i:Nat)=>[(4,osl 2 31 wv v(mk(xs.length+ys.length-1)(acc xs ys i)))])(fun(i:Nat)=>i≤xs.length)(fun(i:Nat)=>xs.length-i)0(by first | omega | (dsimp only<;>omega))K6⟨by rw [Znh];rfl,rfl,rfl,rfl,rfl,trivial⟩ ?_
     rintro i hi
     simp only [List.cons_append,List.nil_append]
     refine Zb<|Zg<|dt(Xw J J J)J<|Zf<|Za<|Zb<|Zp J(fun h144=>?_)(fun h144=>?_)
     ·refine Zk<|Za<|Zb<|Zl<|Zb<|Zg<|mv J J<|dt(Yw(ii:=1)J J J J Zi Qp Yl J(by first | omega | (simp only [List.length_set];omega)))J<|dt(Xn(ii:=1)0 J J J Zi pV(by first | omega | (simp only [List.length_set];omega)))J<|tt(Zq(i:=5)J J J Tryz.zeroValue31 J J hw)J fun b_2 _=>as_ J J<|tt(Zm(i:=5)J J J J J(by decide)J Yl J J⟨Zc J,Zc J,trivial⟩J hw trivial)J fun _ _=>Zf<|Za<|Zb<|Zg<|mv J J<|dt(Ya J J(i:=2)J Zi Qp)J<|mv J J<|Zf<|Za<|Zl<|Nt [(1,_),(6,_),(7,_),(8,_),(9,_),(51,_),(52,_),(53,_),(58,_),(59,_)] [(0,_),(1,_),(2,_),(3,_),(5,_)](fun(j:Nat)=>[(60,.int .i64(j:Int))])(fun(j:Nat)=>[(4,osl 2 31 wv v(mk(xs.length+ys.length-1)(Zgn xs ys i j)))])(fun(j:Nat)=>j≤ys.length)(fun(j:Nat)=>ys.length-j)0(by first | omega | (dsimp only<;>omega))K11⟨by rw [Zuy];rfl,rfl,rfl,rfl,rfl,rfl,trivial⟩ ?_
      rintro j hj
      simp only [List.cons_append,List.nil_append]
      have hgd:i+j<xs.length+ys.length-1→(mk(xs.length+ys.length-1)(Zgn xs ys i j)).getD(i+j)0=Zgn xs ys i j(i+j):=fun h=>Zb4 h
      refine Zb<|Zg<|dt(Xw J J J)J<|Zf<|Za<|Zb<|Zp J(fun h145=>?_)(fun h145=>?_)
      ·refine Zk<|Za<|Zb<|Zl<|Zb<|Zg<|mv J J<|dt(Yw(ii:=2)J J J J Zi Qp Yl J(by first | omega | (simp only [List.length_set];omega)))J<|dt(Xn(ii:=2)0 J J J Zi pV(by first | omega | (simp only [List.length_set];omega)))J<|tt(Zq(i:=6)J J J Tryz.zeroValue31 J J hw)J fun b_3 _=>as_ J J<|tt(Zm(i:=6)J J J J J(by decide)J Yl J J⟨Zc J,Zc J,trivial⟩J hw trivial)J fun _ _=>Zf<|Za<|Qr(fun x=>x=b) [(0,0),(1,0),(2,0),(3,0),(4,0),(5,0),(6,0),(7,0),(8,0),(9,0),(10,0),(11,0),(12,1),(13,1),(14,0),(15,3)](by kernel_rfl) ?_ ?_
       ·kernel_rfl
       refine r0' J J J J(st1 3 J(Ym J J))<|r0' J J J J(st1 3 J(Ym J J))<|r0' J J J J(st1 3 J(Ym J J))<|r0' J J J J(st1 3 J(Ys J J J⟨by omega,by omega⟩))<|r0' J J J J(st1 3 J(Ym J J))<|r0' J J J J(st1 3 J(Ym J J))<|r0' J J J J(st1 3 J(Ym J J))<|r0' J J J J(st1 3 J(Ys J J J⟨by omega,by omega⟩))<|r0' J J J J(st1 3 J(Yw(ii:=4)(i:=(i+j))J J J J(Yo pV)Qp Yl(by omega)(by rw [Xq];omega)))<|r0' J J J J(st1 3 J(Xn(ii:=4)0 J J J(Yo pV)pV(by rw [Xq];omega)))<|r0' J J J J(st1 3 J(Yb(i:=5)J J J Qq Yl J J))<|r0' J J J J(st1 3 J(Yb(i:=6)J J J Qq Yl J J))<|r1' J J(Oi(n:=6)(i:=3)(Ec _ _ _(hv.sz _)(hu.sz _)(hpq i j))J J J K3 Zca J(by decide)Ze J hw J)fun _ _=>r1' J J(Oi(n:=6)(i:=3)(Zoh _ _ _(by rw [hgd(by omega)];exact hac i j _(by omega))(hpq i j)(by rw [hgd(by omega)];exact hsum i j(by omega)))J J J K3 Zx4 J(by decide)Ze J hw J)fun _ _=>r0' J J J J(st1 3 J(Yw(ii:=4)(i:=(i+j))J J J J(Yo pV)Qp Yl(by omega)(by rw [Xq];omega)))<|r3' J J(Ky(i:=4)(enc:=wv)_ J J J J J J(by decide)pV(by rw [Xq];omega)J hw)fun _ _=>Oj<|Px<|Za<|Zg<|dt(Ys J J J⟨by omega,by omega⟩)J<|mv J J<|Zf ?_
       exact Xl(j+1)(by first | omega | (dsimp only<;>omega))(by first | omega | (dsimp only<;>omega))K11⟨by rw [←Zyd(by omega),←hgd(by omega)];rfl,rfl,rfl,rfl,rfl,rfl,trivial⟩
      ·refine Yu<|Zt<|Zt<|Ov<|Px<|Za<|Zg<|dt(Ys J J J⟨by omega,by omega⟩)J<|mv J J<|Zf ?_
       obtain rfl:j=ys.length:=by omega
       exact Xl(i+1)(by first | omega | (dsimp only<;>omega))(by first | omega | (dsimp only<;>omega))K6⟨by rw [←Zye];rfl,rfl,rfl,rfl,rfl,trivial⟩
     ·refine Yu<|Zt<|Zt<|Ov<|Za<|Zb ?_
      obtain rfl:i=xs.length:=by omega
      exact Yn(Pe 4 J J pV)<|Zg<|mv J J<|tt(Oi(n:=7)(i:=3)(Za6 _ _ _(Zas fun t _=>hacc t))J J J K2 Zmi J(by decide)(Zd 4 J J J Ze)J hw trivial)J fun _ _=>dt(Yg J J J)J<|dt(Yg J J J)J<|as_ J J<|as_ J J<|Zf<|Za<|Zw<|Zy(.inl J)hsc _ _(fun a w hs=>No hs Tryz.results112 J J)J trivial J(Yk 7 J J J(by rw [Zwp]<;>rfl)Zj)
end Go.Sky

