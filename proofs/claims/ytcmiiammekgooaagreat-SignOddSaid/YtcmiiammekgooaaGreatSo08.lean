/- rules, arithmetic and contracts: part 9
   Proved without conditions of its own: each theorem bears its own. -/
import Derived.Test.YtcmiiammekgooaaGreatSo03
import Derived.Test.YtcmiiammekgooaaGreatSo02
import Derived.Test.YtcmiiammekgooaaGreatSo01
import Derived.Test.YtcmiiammekgooaaGreatSo07
set_option linter.all false
namespace Go.Sky
open Go.Proofs
set_option maxRecDepth 20000
set_option maxHeartbeats 4000000
set_option linter.unusedVariables false
set_option linter.unusedSimpArgs false
theorem r_valid(b:Bool)(s:ByteArray):Cal Tryz.prog 35#[.agg#[.bool b,.string s]] []false(G:=Unit)(fun _=>True)(fun _=> .bool(okW b s))(fun _=>[]):=by
 refine Yc Tryz.func35 J Tryz.ntmps35 J trivial ?_
 intro w0 sc hw hsc
 simp only [Zo,Zn]
 refine Zb<|Zg<|tt(Xh(i:=1)J J J J J J hw)J fun b _=>as_ J J<|Zf<|Za<|Zb<|Zb<|Zg<|dt(Qa J J Zct J zT9 J J)J<|dt(Oh(i:=1)J J J iA9 J)J<|dt(Cg J J uT9)J<|dt(Pm J J J)J<|Zf<|Za<|Zp J(fun h25=>?_)(fun h25=>?_)
 ·exact Zb<|Zg<|dt(Qa J J Zct J zT4 J J)J<|dt(Oh(i:=1)J J J iA4 J)J<|dt(Xr J J)J<|as_ J J<|Zf<|Za<|Zw<|Xe<|Zy(.inl J)hsc()_(fun a w hs=>Qi hs Tryz.results35 J)(by unfold okW;rw [if_pos(by omega)])trivial J Zj
 ·refine Zk<|Za<|Zb<|Zg<|dt(Qa J J Zct J zT9 J J)J<|dt(Oh(i:=1)J J J iA9 J)J<|dt(Cg J J uT9)J<|dt(Dl J J J)J<|mv J J<|Pa(d:=14)J(fun s28=>?_)(fun s28=>?_)
  ·exact gdt(Qa J J Zct J zT9 J J)J J J J<|gdt(Oh(i:=1)J J J iA9 J)J J J J<|gdt(Zpt(i:=0)J J J uT9 J(by omega))J J J J<|gdt(Qe J J J)J J J J<|dt(Xi J J J)J<|as_ J J<|Zf<|Za<|Zw<|Zy(.inl J)hsc()_(fun a w hs=>Qi hs Tryz.results35 J)(by unfold okW;rw [if_neg(by omega)];simp_all<;>omega)trivial J Zj
  ·exact gsk J J J J J<|gsk J J J J J<|gsk J J J J J<|gsk J J J J J<|dt(Yh J J J)J<|as_ J J<|Zf<|Za<|Zw<|Zy(.inl J)hsc()_(fun a w hs=>Qi hs Tryz.results35 J)(by unfold okW;rw [if_neg(by omega)];simp_all<;>omega)trivial J Zj
theorem r_trim(v:Value)(xs:List Nat):Cal Tryz.prog 77#[v] [slp 1 Dk v xs]true(G:=Unit)(fun _=>True)(fun _=>Fj v(tz xs).length)(fun _=>[slp 1 Dk(Fj v(tz xs).length)(tz xs)]):=by
 refine Yc Tryz.func77 J Tryz.ntmps77 J K1 ?_
 intro w0 sc hw hsc
 simp only [Zo,Zn]
 refine Ma(Zs9(i:=1)J Zi)fun hself=>Ma(Gb(i:=1)J Zi)fun hlen=>Zb<|Zg<|as_ J J<|Zf<|Za<|Zb<|Zl<|Nt [] [(0,_)](fun(k:Nat)=>[(0,Fj v k)])(fun(k:Nat)=>[(1,slp 1 Dk(Fj v k)(xs.take k))])(fun(k:Nat)=>(k≤xs.length)∧(tz(xs.take k)=tz xs))(fun(k:Nat)=>k)xs.length⟨Nat.le_refl _,by rw [List.take_length]⟩⟨by rw [hself];rfl,trivial⟩⟨by rw [hself,List.take_length];rfl,rfl,trivial⟩ ?_
 rintro k⟨hk,ht⟩
 simp only [List.cons_append,List.nil_append]
 have hl:(xs.take k).length=k:=by rw [List.length_take];omega
 refine Zb<|Zb<|Zg<|mv J J<|dt(Ya J J(i:=1)J Zi Nx)J<|dt(Ot J J J)J<|mv J J<|Pa(d:=6)J(fun s33=>?_)(fun s33=>?_)
 ·refine gdt(Ym J J)J J J J<|gdt(Ym J J)J J J J<|gdt(Ya J J(i:=1)J Zi Nx)J J J J<|gdt(Qb J J J⟨by omega,by omega⟩)J J J J<|gdt(Yw(ii:=1)(i:=k-1)J J J J Zi Nx zT3(by omega)(by omega))J J J J<|gdt(Xn(ii:=1)0 J J J Zi pN(by omega))J J J J<|gdt(Pm J J J)J J J J<|dt(Xi J J J)J<|Zf<|Za<|Zp J(fun h33=>?_)(fun h33=>?_)
  ·have hstep:=Zqk hk(by omega)(by omega:(xs.take k).getD(k-1)0=0)
   exact Zk<|Za<|Zl<|Zg<|mv J J<|mv J J<|dt(Ya J J(i:=1)J Zi Nx)J<|dt(Qb J J J⟨by omega,by omega⟩)J<|dt(Zxs(ii:=1)(i:=k-1)J J J J Zi Nx zT3(by omega)(by omega))J<|as_ J J<|Zf<|Px<|Qv(s_pre 1 1(k-1)J J(by omega))<|Xl(k-1)⟨by first | omega | (dsimp only<;>omega),by rw [←ht,←hstep]⟩(by first | omega | (dsimp only<;>omega))⟨by rw [←He v k(k-1)];rfl,trivial⟩⟨by rw [He,List.take_take,Nat.min_eq_left(by omega)];rfl,rfl,trivial⟩
  ·refine Yu<|Zt<|Zt<|Ov<|Za<|Zb<|Zg<|mv J J<|as_ J J<|Zf<|Za<|Zw ?_
   have hx:tz xs=xs.take k:=by rw [←ht];exact Zdz hk(by omega)
   exact Zy(.inl J)hsc()_(fun a w hs=>Qi hs Tryz.results77 J)(by rw [hx,hl])trivial J(Yk 1 J J J(by rw [hx,hl])Zj)
 ·refine gsk J J J J J<|gsk J J J J J<|gsk J J J J J<|gsk J J J J J<|gsk J J J J J<|gsk J J J J J<|gsk J J J J J<|dt(Yh J J J)J<|Zf<|Za<|Yf J<|Yu<|Zt<|Zt<|Ov<|Za<|Zb<|Zg<|mv J J<|as_ J J<|Zf<|Za<|Zw ?_
  have hx:tz xs=xs.take k:=by rw [←ht];exact Zdz hk(by omega)
  exact Zy(.inl J)hsc()_(fun a w hs=>Qi hs Tryz.results77 J)(by rw [hx,hl])trivial J(Yk 1 J J J(by rw [hx,hl])Zj)
theorem Lv(v:Value)(xs:List Nat):Cal Tryz.prog 77#[v] [slp 1 Dk v xs]false(G:=Unit)(fun _=>True)(fun _=>Fj v(tz xs).length)(fun _=>[]):=(r_trim v xs).bare
theorem Zk9(v w:Value)(x y:Nat)(hx:bl x≤4294967296)(hy:bl y≤4294967296):Cal Tryz.prog 90#[v,w] [d9p v x,d9p w y]false(G:=Unit)(fun _=>True)(fun _=> .int .i64(Zp4 x y))(fun _=>[]):=by
 refine Yc Tryz.func90 J Tryz.ntmps90 J K2 ?_
 intro w0 sc hw hsc
 simp only [Zo,Zn]
 have hX:=Km x
 have hY:=Km y
 refine Zb<|Zg<|as_ J J<|Zf<|Za<|Zb<|Zb<|Zg<|mv J J<|dt(Ya J J(i:=1)J Zi Nx)J<|mv J J<|dt(Ya J J(i:=2)J Zi Nx)J<|dt(Qe J J J)J<|Zf<|Za<|Zp J(fun h41=>?_)(fun h41=>?_)
 ·refine Zb<|Zb<|Zg<|mv J J<|dt(Ya J J(i:=1)J Zi Nx)J<|mv J J<|dt(Ya J J(i:=2)J Zi Nx)J<|dt(Xw J J J)J<|Zf<|Za<|Zp J(fun h42=>?_)(fun h42=>?_)
  ·have hlt:x<y:=Cf Nb(by omega)
   exact Zb<|Zg<|as_ J J<|Zf<|Za<|Zw<|Xe<|Xe<|Zy(.inl J)hsc()_(fun a w hs=>Qi hs Tryz.results90 J)(by unfold Zp4;rw [if_pos hlt])trivial J Zj
  ·have hlt:y<x:=Cf Nb(by omega)
   exact Zk<|Za<|Zb<|Zg<|as_ J J<|Zf<|Za<|Zw<|Xe<|Zy(.inl J)hsc()_(fun a w hs=>Qi hs Tryz.results90 J)(by unfold Zp4;rw [if_neg(by omega),if_pos hlt])trivial J Zj
 ·have hlen:(dg 1000000000 x).length=(dg 1000000000 y).length:=by omega
  refine Zk<|Za<|Zb<|Zb<|Zg<|mv J J<|dt(Ya J J(i:=1)J Zi Nx)J<|dt(Qb J J J⟨by omega,by omega⟩)J<|as_ J J<|Zf<|Za<|Zl<|Nt [(0,_),(1,_)] [(0,_),(1,_),(2,_)](fun(k:Nat)=>[(5,.int .i64((k:Int)-1))])(fun(k:Nat)=>[])(fun(k:Nat)=>(k≤(dg 1000000000 x).length)∧((dg 1000000000 x).drop k=(dg 1000000000 y).drop k))(fun(k:Nat)=>k)(dg 1000000000 x).length⟨by first | omega | (dsimp only<;>omega),by rw [List.drop_length,hlen,List.drop_length]⟩K3 K3 ?_
  rintro k⟨hk,hd⟩
  simp only [List.cons_append,List.nil_append]
  refine Zb<|Zb<|Zg<|mv J J<|dt(Lq J J J)J<|Zf<|Za<|Zp J(fun h47=>?_)(fun h47=>?_)
  ·refine Zk<|Za<|Zb<|Zl<|Zb<|Zb<|Qr(fun _=>False) [(0,0),(1,0),(2,0),(3,0),(4,0),(5,0),(6,0),(7,0),(8,0)](by kernel_rfl) ?_ ?_
   ·kernel_rfl
   refine r0' J J J J(st0(Ym J J))<|r0' J J J J(st0(Ym J J))<|r0' J J J J(st0(Yw(ii:=1)(i:=k-1)J J J J Zi Nx zT3(by omega)(by omega)))<|r0' J J J J(st0(Xn(ii:=1)0 J J J Zi pN(by first | omega | (simp only [List.length_set];omega))))<|r0' J J J J(st0(Ym J J))<|r0' J J J J(st0(Ym J J))<|r0' J J J J(st0(Yw(ii:=2)(i:=k-1)J J J J Zi Nx zT3(by omega)(by omega)))<|r0' J J J J(st0(Xn(ii:=2)0 J J J Zi pN(by first | omega | (simp only [List.length_set];omega))))<|r0' J J J J(st0(Xw J J J))<|Oj<|Za<|Zp J(fun h48=>?_)(fun h48=>?_)
   ·have hlt:=Zop Hj(xs:=(dg 1000000000 x))(ys:=(dg 1000000000 y))(Lh Nb x)(k:=k-1)(by omega)(by omega)(by rw [show k-1+1=k by omega];exact hd)(by omega)
    rw [Mx Nb,Mx Nb]at hlt
    exact Zb<|Zg<|as_ J J<|Zf<|Za<|Zw<|Xe<|Hb<|Xe<|Xe<|Hb<|Xe<|Zy(.inl J)hsc()_(fun a w hs=>Qi hs Tryz.results90 J)(by unfold Zp4;rw [if_pos hlt])trivial J Zj
   ·refine Zk<|Za<|Zb<|Qr(fun _=>False) [(0,0),(1,0),(2,0),(3,0),(4,0),(5,0),(6,0),(7,0),(8,0)](by kernel_rfl) ?_ ?_
    ·kernel_rfl
    refine r0' J J J J(st0(Ym J J))<|r0' J J J J(st0(Ym J J))<|r0' J J J J(st0(Yw(ii:=1)(i:=k-1)J J J J Zi Nx zT3(by omega)(by omega)))<|r0' J J J J(st0(Xn(ii:=1)0 J J J Zi pN(by first | omega | (simp only [List.length_set];omega))))<|r0' J J J J(st0(Ym J J))<|r0' J J J J(st0(Ym J J))<|r0' J J J J(st0(Yw(ii:=2)(i:=k-1)J J J J Zi Nx zT3(by omega)(by omega)))<|r0' J J J J(st0(Xn(ii:=2)0 J J J Zi pN(by first | omega | (simp only [List.length_set];omega))))<|r0' J J J J(st0(Ot J J J))<|Oj<|Za<|Zp J(fun h51=>?_)(fun h51=>?_)
    ·have hlt:=Zop Hj(xs:=(dg 1000000000 y))(ys:=(dg 1000000000 x))(Lh Nb y)(k:=k-1)(by omega)(by omega)(by rw [show k-1+1=k by omega];exact hd.symm)(by omega)
     rw [Mx Nb,Mx Nb]at hlt
     exact Zb<|Zg<|as_ J J<|Zf<|Za<|Zw<|Hb<|Xe<|Xe<|Hb<|Xe<|Zy(.inl J)hsc()_(fun a w hs=>Qi hs Tryz.results90 J)(by unfold Zp4;rw [if_neg(by omega),if_pos hlt])trivial J Zj
    ·exact Zk<|Px<|Za<|Zg<|mv J J<|dt(Qb J J J⟨by omega,by omega⟩)J<|as_ J J<|Zf<|Xl(k-1)⟨by first | omega | (dsimp only<;>omega),by have:=Zcp(xs:=(dg 1000000000 x))(ys:=(dg 1000000000 y))(k:=k-1)(by omega)(by omega)(by rw [show k-1+1=k by omega];exact hd)(by omega);exact this⟩(by first | omega | (dsimp only<;>omega))⟨by rw [show(((k-1:Nat):Int)-1)=(k:Int)-1-1 by omega];rfl,rfl,rfl,trivial⟩K3
  ·refine Yu<|Zt<|Zt<|Ov<|Za<|Zb<|Zg<|as_ J J<|Zf<|Za<|Zw ?_
   obtain rfl:k=0:=by omega
   have heq:x=y:=(Ze0 Nb).1(by simpa using hd)
   exact Zy(.inl J)hsc()_(fun a w hs=>Qi hs Tryz.results90 J)(by unfold Zp4;rw [if_neg(by omega),if_neg(by omega)])trivial J Zj
theorem Zri(v w:Value)(x y:Nat)(hx:bl x≤4294967296)(hy:bl y≤4294967296):Cal Tryz.prog 75#[v,w] [d9p v x,d9p w y]false(G:=Value)(fun r=>True)(fun r=>r)(fun r=>[d9p r(x+y)]):=by
 refine Yc Tryz.func75 J Tryz.ntmps75 J K2 ?_
 intro w0 sc hw hsc
 simp only [Zo,Zn]
 have hX:=Km x
 have hY:=Km y
 refine Zb<|Zg<|as_ J J<|Zf<|Za<|Zb<|Zg<|as_ J J<|Zf<|Za<|Zb<|Zg<|as_ J J<|Zf<|Za<|Zb<|Zb<|Zg<|as_ J J<|Zf<|Za<|Zl<|Yn(Nl 70 1 3 Dk)<|Nt [(0,_),(1,_)] [(0,_),(1,_),(2,_)](fun(q:Nat×List Nat×Nat×Value)=>[(7,.int .i64(q.1:Int)),(6,.int .i64(q.2.2.1:Int)),(5,q.2.2.2)])(fun(q:Nat×List Nat×Nat×Value)=>[(70,osl 1 3 Dk q.2.2.2 q.2.1)])(fun(q:Nat×List Nat×Nat×Value)=>(q.1≤max(dg 1000000000 x).length(dg 1000000000 y).length+1∧(q.1=max(dg 1000000000 x).length(dg 1000000000 y).length+1→q.2.2.1=0))∧(q.2.1.length=q.1)∧(∀d∈q.2.1,d<1000000000)∧(q.2.2.1≤1)∧(val 1000000000 q.2.1+q.2.2.1*1000000000^q.1=val 1000000000((dg 1000000000 x).take q.1)+val 1000000000((dg 1000000000 y).take q.1))∧(q.1=0∨1000000000^(q.1-1)≤x+y))(fun(q:Nat×List Nat×Nat×Value)=>max(dg 1000000000 x).length(dg 1000000000 y).length+1-q.1)(0,[],0,.slice none 0 0)⟨⟨by omega,by omega⟩,J,by simp,by first | omega | (dsimp only<;>omega),by simp [val],.inl rfl⟩K5 K4 ?_
 rintro⟨i,o,c,vo⟩⟨hi,hol,hoa,hc,hv,hge⟩
 dsimp only at hi hol hoa hc hv hge
 simp only [List.cons_append,List.nil_append]
 refine Zb<|Dc [(0,_),(1,_),(5,_),(6,_),(7,_)] [(0,_),(70,_),(1,_),(2,_)](fun(_:Unit)=>[(21,.bool(decide(i<(dg 1000000000 x).length∨i<(dg 1000000000 y).length∨0<c)))])(fun(_:Unit)=>[])(fun(_:Unit)=>True)K5 K4 ?_ ?_
 ·refine Zg<|mv J J<|mv J J<|dt(Ya J J(i:=1)J Zi Nx)J<|dt(Xw J J J)J<|mv J J<|Pa(d:=12)J(fun s62=>?_)(fun s62=>?_)
  ·exact gsk J J J J J<|gsk J J J J J<|gsk J J J J J<|gsk J J J J J<|dt(Xi J J J)J<|mv J J<|gsk J J J J J<|gsk J J J J J<|dt(Xi J J J)J<|Zf<|Qy()trivial⟨by first | exact congrArg some(congrArg Value.bool(decide_eq_decide.2(by omega))) | exact congrArg some(congrArg Value.bool(decide_eq_true(by omega)).symm),rfl,rfl,rfl,rfl,rfl,trivial⟩K4
  ·refine gdt(Ym J J)J J J J<|gdt(Ym J J)J J J J<|gdt(Ya J J(i:=2)J Zi Nx)J J J J<|gdt(Xw J J J)J J J J<|dt(Yh J J J)J<|mv J J<|Pa(d:=18)J(fun s62_2=>?_)(fun s62_2=>?_)
   ·exact gsk J J J J J<|gsk J J J J J<|dt(Xi J J J)J<|Zf<|Qy()trivial⟨by first | exact congrArg some(congrArg Value.bool(decide_eq_decide.2(by omega))) | exact congrArg some(congrArg Value.bool(decide_eq_true(by omega)).symm),rfl,rfl,rfl,rfl,rfl,trivial⟩K4
   ·exact gdt(Ym J J)J J J J<|gdt(Ot J J J)J J J J<|dt(Yh J J J)J<|Zf<|Qy()trivial⟨by first | exact congrArg some(congrArg Value.bool(decide_eq_decide.2(by omega))) | exact congrArg some(congrArg Value.bool(decide_eq_true(by omega)).symm),rfl,rfl,rfl,rfl,rfl,trivial⟩K4
 ·rintro _ -
  simp only [List.cons_append,List.nil_append]
  refine Zp J(fun h62=>?_)(fun h62=>?_)
  ·have hgn:1000000000^i≤x+y:=by
    rcases h62 with h1 | h1 | h1
    ·have:=Dw Nb h1;omega
    ·have:=Dw Nb h1;omega
    ·by_cases h2:i<(dg 1000000000 x).length
     ·have:=Dw Nb h2;omega
     ·by_cases h3:i<(dg 1000000000 y).length
      ·have:=Dw Nb h3;omega
      ·rw [Ik Nb(by omega),Ik Nb(by omega)]at hv
       have:1000000000^i≤c*1000000000^i:=Nat.le_mul_of_pos_left _ h1
       omega
   refine Zk<|Za<|Zb<|Zl<|Dc [(0,_),(1,_),(5,_),(7,_)] [(0,_),(70,_),(1,_),(2,_)](fun(_:Unit)=>[(6,.int .i64((c+(dg 1000000000 x).getD i 0:Nat):Int))])(fun(_:Unit)=>[])(fun(_:Unit)=>True)K4 K4 ?_ ?_
   ·refine Zb<|Zg<|mv J J<|mv J J<|dt(Ya J J(i:=1)J Zi Nx)J<|dt(Xw J J J)J<|Zf<|Za<|Zp J(fun h63=>?_)(fun h63=>?_)
    ·refine Zg<|mv J J<|mv J J<|mv J J<|dt(Yw(ii:=1)J J J J Zi Nx zT3 J(by first | omega | (simp only [List.length_set];omega)))J<|dt(Xn(ii:=1)0 J J J Zi pN(by first | omega | (simp only [List.length_set];omega)))J<|dt(Zh3 J J J(by have h1:=(Qm Hj(Lh Nb x)i);omega))J<|as_ J J<|Zf ?_
     try(have hz:(dg 1000000000 x).getD i 0=0:=by simp [List.getD,List.getElem?_eq_none(by omega:(dg 1000000000 x).length≤i)])
     exact Qy()trivial⟨by first | rfl | (rw [hz];rfl),rfl,rfl,rfl,rfl,trivial⟩K4
    ·refine Zk ?_
     try(have hz:(dg 1000000000 x).getD i 0=0:=by simp [List.getD,List.getElem?_eq_none(by omega:(dg 1000000000 x).length≤i)])
     exact Qy()trivial⟨by first | rfl | (rw [hz];rfl),rfl,rfl,rfl,rfl,trivial⟩K4
   ·rintro _ -
    simp only [List.cons_append,List.nil_append]
    refine Dc [(0,_),(1,_),(5,_),(7,_)] [(0,_),(70,_),(1,_),(2,_)](fun(_:Unit)=>[(6,.int .i64((c+(dg 1000000000 x).getD i 0+(dg 1000000000 y).getD i 0:Nat):Int))])(fun(_:Unit)=>[])(fun(_:Unit)=>True)K4 K4 ?_ ?_
    ·refine Zb<|Zg<|mv J J<|mv J J<|dt(Ya J J(i:=2)J Zi Nx)J<|dt(Xw J J J)J<|Zf<|Za<|Zp J(fun h66=>?_)(fun h66=>?_)
     ·refine Zg<|mv J J<|mv J J<|mv J J<|dt(Yw(ii:=2)J J J J Zi Nx zT3 J(by first | omega | (simp only [List.length_set];omega)))J<|dt(Xn(ii:=2)0 J J J Zi pN(by first | omega | (simp only [List.length_set];omega)))J<|dt(Zh3 J J J(by have h1:=(Qm Hj(Lh Nb x)i);have h2:=(Qm Hj(Lh Nb y)i);omega))J<|as_ J J<|Zf ?_
      try(have hz:(dg 1000000000 y).getD i 0=0:=by simp [List.getD,List.getElem?_eq_none(by omega:(dg 1000000000 y).length≤i)])
      exact Qy()trivial⟨by first | rfl | (rw [hz];rfl),rfl,rfl,rfl,rfl,trivial⟩K4
     ·refine Zk ?_
      try(have hz:(dg 1000000000 y).getD i 0=0:=by simp [List.getD,List.getElem?_eq_none(by omega:(dg 1000000000 y).length≤i)])
      exact Qy()trivial⟨by first | rfl | (rw [hz];rfl),rfl,rfl,rfl,rfl,trivial⟩K4
    ·rintro _ -
     simp only [List.cons_append,List.nil_append]
     exact Zb<|Zg<|mv J J<|mv J J<|dt(Zsg(n:=1000000000)J J J(by omega))J<|tt(Pr(i:=3)(ivs:=[(0,_)])(enc:=Dk) [(c+(dg 1000000000 x).getD i 0+(dg 1000000000 y).getD i 0)%1000000000]J J J K2 Nx Tryz.ti3 J J J J J J pN.cells J J hw)J fun v _=>tt(Kq(i:=70)(j:=3)(by_:=8)J J J J J J(by decide)J(Yo pN)Nx Tryz.ti3 J pN J J J(by simp;omega)(by decide)J hw)J fun v_2 _=>as_ J J<|Zf<|Za<|Zg<|mv J J<|dt(Zlq(n:=1000000000)J J J(by have h1:=(Qm Hj(Lh Nb x)i);have h2:=(Qm Hj(Lh Nb y)i);omega)(by omega))J<|as_ J J<|Zf<|Px<|Za<|Zg<|mv J J<|dt(Ys J J J⟨by omega,by omega⟩)J<|as_ J J<|Zf<|Xl(i+1,o ++ [(c+(dg 1000000000 x).getD i 0+(dg 1000000000 y).getD i 0)%1000000000],(c+(dg 1000000000 x).getD i 0+(dg 1000000000 y).getD i 0)/1000000000,_)⟨⟨by dsimp only;omega,fun h=>by dsimp only at h ⊢;rw [Za5(by omega:(dg 1000000000 x).length≤i),Za5(by omega:(dg 1000000000 y).length≤i)];omega⟩,by simp [hol],Zir hoa(Nat.mod_lt _ Hj),by have h1:=(Qm Hj(Lh Nb x)i);have h2:=(Qm Hj(Lh Nb y)i);dsimp only;omega,Zrw hol hv,.inr hgn⟩(by first | omega | (dsimp only<;>omega))K5 K4
  ·refine Yu<|Zt<|Zt<|Ov<|Za<|Zb<|Zg<|mv J J<|as_ J J<|Zf<|Za<|Zw ?_
   have hc0:c=0:=by omega
   have hv2:val 1000000000 o=x+y:=by
    rw [Ik Nb(by omega),Ik Nb(by omega),hc0,Nat.zero_mul,Nat.add_zero]at hv
    exact hv
   have hx:o=dg 1000000000(x+y):=Zql Nb hoa hv2(by rw [hol];exact hge)
   exact Zy(.inl J)hsc _ _(fun a w hs=>Qi hs Tryz.results75 J)J trivial J(Pv 70 J J pN(by rw [←hx]<;>rfl)Zj)
theorem Zla(v w:Value)(x y:Nat)(hx:bl x≤4294967296)(hxy:y≤x):Cal Tryz.prog 91#[v,w] [d9p v x,d9p w y]false(G:=Value)(fun r=>True)(fun r=>r)(fun r=>[d9p r(x-y)]):=by
 refine Yc Tryz.func91 J Tryz.ntmps91 J K2 ?_
 intro w0 sc hw hsc
 simp only [Zo,Zn]
 have hX:=Km x
 have hm:=Ou hxy
 have hY:=Km y
 have hly:(dg 1000000000 y).length≤(dg 1000000000 x).length:=Zl9 Nb hxy
 refine Zb<|Zg<|as_ J J<|Zf<|Za<|Zb<|Zg<|as_ J J<|Zf<|Za<|Zb<|Zg<|as_ J J<|Zf<|Za<|Zb<|Zb<|Zg<|as_ J J<|Zf<|Za<|Zl<|Yn(Nl 70 1 3 Dk)<|Nt [(0,_),(1,_)] [(0,_),(1,_),(2,_)](fun(q:Nat×List Nat×Nat×Value)=>[(7,.int .i64(q.1:Int)),(6,.int .i64(q.2.2.1:Int)),(5,q.2.2.2)])(fun(q:Nat×List Nat×Nat×Value)=>[(70,osl 1 3 Dk q.2.2.2 q.2.1)])(fun(q:Nat×List Nat×Nat×Value)=>(q.1≤(dg 1000000000 x).length)∧(q.2.1.length=q.1)∧(∀d∈q.2.1,d<1000000000)∧(q.2.2.1≤1)∧(val 1000000000 q.2.1+val 1000000000((dg 1000000000 y).take q.1)=val 1000000000((dg 1000000000 x).take q.1)+q.2.2.1*1000000000^q.1))(fun(q:Nat×List Nat×Nat×Value)=>(dg 1000000000 x).length-q.1)(0,[],0,.slice none 0 0)⟨by first | omega | (dsimp only<;>omega),rfl,by simp,by first | omega | (dsimp only<;>omega),by simp [val]⟩K5 K4 ?_
 rintro⟨i,o,c,vo⟩⟨hi,hol,hoa,hc,hv⟩
 dsimp only at hi hol hoa hc hv
 simp only [List.cons_append,List.nil_append]
 have hda:=(Qm Hj(Lh Nb x)i)
 have hdb:=(Qm Hj(Lh Nb y)i)
 refine Zb<|Zb<|Zg<|mv J J<|mv J J<|dt(Ya J J(i:=1)J Zi Nx)J<|dt(Xw J J J)J<|Zf<|Za<|Zp J(fun h79=>?_)(fun h79=>?_)
 ·refine Zk<|Za<|Zb<|Zl<|Zb<|Zg<|mv J J<|mv J J<|dt(Yw(ii:=1)J J J J Zi Nx zT3 J(by first | omega | (simp only [List.length_set];omega)))J<|dt(Xn(ii:=1)0 J J J Zi pN(by first | omega | (simp only [List.length_set];omega)))J<|mv J J<|dt(Qb J J J⟨by omega,by omega⟩)J<|as_ J J<|Zf<|Za<|Dc [(0,_),(1,_),(5,_),(7,_)] [(0,_),(70,_),(1,_),(2,_)](fun(_:Unit)=>[(8,.int .i64(((dg 1000000000 x).getD i 0:Int)-(c:Int)-((dg 1000000000 y).getD i 0:Int)))])(fun(_:Unit)=>[])(fun(_:Unit)=>True)K4 K4 ?_ ?_
  ·refine Zb<|Zg<|mv J J<|mv J J<|dt(Ya J J(i:=2)J Zi Nx)J<|dt(Xw J J J)J<|Zf<|Za<|Zp J(fun h81=>?_)(fun h81=>?_)
   ·refine Zg<|mv J J<|mv J J<|mv J J<|dt(Yw(ii:=2)J J J J Zi Nx zT3 J(by first | omega | (simp only [List.length_set];omega)))J<|dt(Xn(ii:=2)0 J J J Zi pN(by first | omega | (simp only [List.length_set];omega)))J<|dt(Qb J J J⟨by omega,by omega⟩)J<|as_ J J<|Zf ?_
    try(have hz:(dg 1000000000 y).getD i 0=0:=by simp [List.getD,List.getElem?_eq_none(by omega:(dg 1000000000 y).length≤i)])
    exact Qy()trivial⟨by first | rfl | (rw [hz];exact congrArg some(Dj(by omega))),rfl,rfl,rfl,rfl,trivial⟩K4
   ·refine Zk ?_
    try(have hz:(dg 1000000000 y).getD i 0=0:=by simp [List.getD,List.getElem?_eq_none(by omega:(dg 1000000000 y).length≤i)])
    exact Qy()trivial⟨by first | rfl | (rw [hz];exact congrArg some(Dj(by omega))),rfl,rfl,rfl,rfl,trivial⟩K4
  ·rintro _ -
   simp only [List.cons_append,List.nil_append]
   refine Zb<|Zg<|as_ J J<|Zf<|Za<|Dc [(0,_),(1,_),(5,_),(7,_)] [(0,_),(70,_),(1,_),(2,_)](fun(_:Unit)=>[(8,.int .i64((d9s((dg 1000000000 x).getD i 0)((dg 1000000000 y).getD i 0)c:Nat):Int)),(6,.int .i64((brw((dg 1000000000 x).getD i 0)((dg 1000000000 y).getD i 0)c:Nat):Int))])(fun(_:Unit)=>[])(fun(_:Unit)=>True)K4 K4 ?_ ?_
   ·refine Zb<|Zg<|mv J J<|dt(Xw J J J)J<|Zf<|Za<|Zp J(fun h85=>?_)(fun h85=>?_)
    ·exact Zg<|mv J J<|dt(Ys J J J⟨by omega,by omega⟩)J<|as_ J J<|as_ J J<|Zf<|Qy()trivial⟨by exact congrArg some(Dj(by unfold d9s;split<;>omega)),by exact congrArg some(Dj(by unfold brw;split<;>omega)),rfl,rfl,rfl,rfl,trivial⟩K4
    ·exact Zk<|Qy()trivial⟨by exact congrArg some(Dj(by unfold d9s;split<;>omega)),by exact congrArg some(Dj(by unfold brw;split<;>omega)),rfl,rfl,rfl,rfl,trivial⟩K4
   ·rintro _ -
    simp only [List.cons_append,List.nil_append]
    exact Zg<|mv J J<|mv J J<|tt(Pr(i:=3)(ivs:=[(0,_)])(enc:=Dk) [d9s((dg 1000000000 x).getD i 0)((dg 1000000000 y).getD i 0)c]J J J K2 Nx Tryz.ti3 J J J J J J pN.cells J J hw)J fun v _=>tt(Kq(i:=70)(j:=3)(by_:=8)J J J J J J(by decide)J(Yo pN)Nx Tryz.ti3 J pN J J J(by simp;omega)(by decide)J hw)J fun v_2 _=>as_ J J<|Zf<|Px<|Za<|Zg<|mv J J<|dt(Ys J J J⟨by omega,by omega⟩)J<|as_ J J<|Zf<|Xl(i+1,o ++ [d9s((dg 1000000000 x).getD i 0)((dg 1000000000 y).getD i 0)c],brw((dg 1000000000 x).getD i 0)((dg 1000000000 y).getD i 0)c,_)⟨by first | omega | (dsimp only<;>omega),by simp [hol],Zir hoa(Zt0 hda hdb hc).1,brw_le _ _ _,Zpo hc hda hdb hol hv⟩(by first | omega | (dsimp only<;>omega))K5 K4
 ·refine Yu<|Zt<|Zt<|Ov<|Za<|Zb<|Zg<|mv J J<|tt(Zh(n:=3)(Lv _ _)J J J K1 Zx0(Xv 70 J J pN Ze)J hw)J fun _ _=>Pt(Zfy 70 J J pN)<|as_ J J<|Zf<|Za<|Zw ?_
  obtain rfl:i=(dg 1000000000 x).length:=by omega
  have hx:tz o=dg 1000000000(x-y):=by
   rw [←Ki Nb _ hoa]
   congr 1
   rw [Nr _(dg 1000000000 y)_ hly,Nr _(dg 1000000000 x)_(Nat.le_refl _),Mx Nb,Mx Nb]at hv
   have h1:=Zfs Hj o hoa
   rw [hol]at h1
   have h0:c=0∨c=1:=by omega
   rcases h0 with rfl | rfl<;>omega
  exact Zy(.inl J)hsc _ _(fun a w hs=>Qi hs Tryz.results91 J)J trivial J(Pv 70 J J pN(by rw [hx]<;>rfl)Zj)
set_option maxHeartbeats 4000000 in
theorem Zrh(v w:Value)(x y:Nat)(hx:bl x≤4294967296)(hy:bl y≤4294967296):Cal Tryz.prog 123#[v,w] [d9p v x,d9p w y]false(G:=Value)(fun r=>True)(fun r=>r)(fun r=>[d9p r(x*y)]):=by
 refine Yc Tryz.func123 J Tryz.ntmps123 J K2 ?_
 intro w0 sc hw hsc
 simp only [Zo,Zn]
 have hX:=Km x
 have hY:=Km y
 refine Zb<|Zg<|as_ J J<|Zf<|Za<|Zb<|Zg<|mv J J<|dt(Ya J J(i:=1)J Zi Nx)J<|mv J J<|dt(Ya J J(i:=2)J Zi Nx)J<|dt(Ys J J J⟨by omega,by omega⟩)J<|tt(Hk(i:=3)(n:=((dg 1000000000 x).length+(dg 1000000000 y).length))(by_:=8)(enc:=Dk)0 J J J J J(by omega)Nx Tryz.ti3 J pN.cells pN.pos J J(by omega)(by decide)J hw)J fun v _=>as_ J J<|Zf<|Za<|Zb<|Zb<|Zg<|as_ J J<|Zf<|Za<|Zl<|Nt [(0,_),(1,_),(5,_)] [(0,_),(1,_),(2,_)](fun(q:Nat×List Nat)=>[(6,.int .i64(q.1:Int))])(fun(q:Nat×List Nat)=>[(3,osl 1 3 Dk v q.2)])(fun(q:Nat×List Nat)=>(q.1≤(dg 1000000000 x).length)∧(q.2.length=((dg 1000000000 x).length+(dg 1000000000 y).length))∧(∀d∈q.2,d<1000000000)∧(∀j,q.1+(dg 1000000000 y).length≤j→q.2.getD j 0=0)∧(val 1000000000 q.2=val 1000000000((dg 1000000000 x).take q.1)*y))(fun(q:Nat×List Nat)=>(dg 1000000000 x).length-q.1)(0,List.replicate((dg 1000000000 x).length+(dg 1000000000 y).length)0)⟨by first | omega | (dsimp only<;>omega),by simp,Nc _ Hj,fun j _=>Lj _ j,by simp [val,Kz]⟩K4 K4 ?_
 rintro⟨i,o⟩⟨hi,hol,hoa,hz0,hv⟩
 dsimp only at hi hol hoa hz0 hv
 simp only [List.cons_append,List.nil_append]
 refine Zb<|Zb<|Zg<|mv J J<|mv J J<|dt(Ya J J(i:=1)J Zi Nx)J<|dt(Xw J J J)J<|Zf<|Za<|Zp J(fun h96=>?_)(fun h96=>?_)
 ·refine Zk<|Za<|Zb<|Zl<|Zb<|Zg<|as_ J J<|Zf<|Za<|Zb<|Zg<|as_ J J<|Zf<|Za<|Zl<|Nt [(0,_),(1,_),(5,_),(6,_)] [(0,_),(1,_),(2,_)](fun(q:Nat×List Nat×Nat)=>[(8,.int .i64(q.1:Int)),(7,.int .i64(q.2.2:Int))])(fun(q:Nat×List Nat×Nat)=>[(3,osl 1 3 Dk v q.2.1)])(fun(q:Nat×List Nat×Nat)=>(q.1≤(dg 1000000000 y).length+1∧(q.1=(dg 1000000000 y).length+1→q.2.2=0))∧(q.2.1.length=((dg 1000000000 x).length+(dg 1000000000 y).length))∧(∀d∈q.2.1,d<1000000000)∧(∀j,i+q.1≤j→i+(dg 1000000000 y).length≤j→q.2.1.getD j 0=0)∧(q.2.2<1000000000)∧(val 1000000000 q.2.1+q.2.2*1000000000^(i+q.1)=val 1000000000((dg 1000000000 x).take i)*y+(dg 1000000000 x).getD i 0*1000000000^i*val 1000000000((dg 1000000000 y).take q.1)))(fun(q:Nat×List Nat×Nat)=>(dg 1000000000 y).length+1-q.1)(0,o,0)⟨⟨by omega,by omega⟩,hol,hoa,fun j _ h=>hz0 j h,by first | omega | (dsimp only<;>omega),by rw [hv];simp [val]⟩K6 K4 ?_
  rintro⟨k,p,c⟩⟨hk,hpl,hpa,hpz,hcU,hpv⟩
  dsimp only at hk hpl hpa hpz hcU hpv
  simp only [List.cons_append,List.nil_append]
  have hdig:=Zku(Qm Hj(Lh Nb x)i)(Qm Hj(Lh Nb y)k)(Qm Hj hpa(i+k))hcU
  refine Zb<|Dc [(0,_),(1,_),(5,_),(6,_),(7,_),(8,_)] [(0,_),(3,_),(1,_),(2,_)](fun(_:Unit)=>[(29,.bool(decide(k<(dg 1000000000 y).length∨0<c)))])(fun(_:Unit)=>[])(fun(_:Unit)=>True)K6 K4 ?_ ?_
  ·refine Zg<|mv J J<|mv J J<|dt(Ya J J(i:=2)J Zi Nx)J<|dt(Xw J J J)J<|mv J J<|Pa(d:=26)J(fun s98=>?_)(fun s98=>?_)
   ·exact gsk J J J J J<|gsk J J J J J<|dt(Xi J J J)J<|Zf<|Qy()trivial⟨by first | exact congrArg some(congrArg Value.bool(decide_eq_decide.2(by omega))) | exact congrArg some(congrArg Value.bool(decide_eq_true(by omega)).symm),rfl,rfl,rfl,rfl,rfl,rfl,trivial⟩K4
   ·exact gdt(Ym J J)J J J J<|gdt(Ot J J J)J J J J<|dt(Yh J J J)J<|Zf<|Qy()trivial⟨by first | exact congrArg some(congrArg Value.bool(decide_eq_decide.2(by omega))) | exact congrArg some(congrArg Value.bool(decide_eq_true(by omega)).symm),rfl,rfl,rfl,rfl,rfl,rfl,trivial⟩K4
  ·rintro _ -
   simp only [List.cons_append,List.nil_append]
   refine Zp J(fun h98=>?_)(fun h98=>?_)
   ·refine Zk<|Za<|Zb<|Zl<|Zb<|Zg<|mv J J<|mv J J<|mv J J<|dt(Zh3 J J J(by omega))J<|dt(Yw(ii:=3)(i:=(i+k))J J J J(Yo pN)Nx zT3(by omega)(by omega))J<|dt(Xn(ii:=3)0 J J J(Yo pN)pN(by omega))J<|mv J J<|dt(Zh3 J J J(by have h1:=Qm Hj hpa(i+k);omega))J<|as_ J J<|Zf<|Za<|Dc [(0,_),(1,_),(5,_),(6,_),(8,_)] [(0,_),(3,_),(1,_),(2,_)](fun(_:Unit)=>[(9,.int .i64((p.getD(i+k)0+c+(dg 1000000000 x).getD i 0*(dg 1000000000 y).getD k 0:Nat):Int))])(fun(_:Unit)=>[])(fun(_:Unit)=>True)K5 K4 ?_ ?_
    ·refine Zb<|Zg<|mv J J<|mv J J<|dt(Ya J J(i:=2)J Zi Nx)J<|dt(Xw J J J)J<|Zf<|Za<|Zp J(fun h100=>?_)(fun h100=>?_)
     ·refine Qr(fun _=>False) [(0,0),(1,0),(2,0),(3,0),(4,0),(5,0),(6,0),(7,0),(8,0),(9,0),(10,0),(11,3)](by kernel_rfl) ?_ ?_
      ·kernel_rfl
      refine r0' J J J J(st0(Ym J J))<|r0' J J J J(st0(Ym J J))<|r0' J J J J(st0(Ym J J))<|r0' J J J J(st0(Yw(ii:=1)J J J J Zi Nx zT3 J(by first | omega | (simp only [List.length_set];omega))))<|r0' J J J J(st0(Xn(ii:=1)0 J J J Zi pN(by first | omega | (simp only [List.length_set];omega))))<|r0' J J J J(st0(Ym J J))<|r0' J J J J(st0(Ym J J))<|r0' J J J J(st0(Yw(ii:=2)J J J J Zi Nx zT3 J(by first | omega | (simp only [List.length_set];omega))))<|r0' J J J J(st0(Xn(ii:=2)0 J J J Zi pN(by first | omega | (simp only [List.length_set];omega))))<|r0' J J J J(st0(n_mul J J J(by have h1:=hdig.2;omega)))<|r0' J J J J(st0(Zh3 J J J hdig.2))<|r3' J J(Pz(Kc J J)J J)fun _ _=>Oj ?_
      try(have hz:(dg 1000000000 y).getD k 0=0:=Za5(by omega))
      exact Qy()trivial⟨by first | rfl | (rw [hz,Nat.mul_zero];rfl),rfl,rfl,rfl,rfl,rfl,trivial⟩K4
     ·refine Zk ?_
      try(have hz:(dg 1000000000 y).getD k 0=0:=Za5(by omega))
      exact Qy()trivial⟨by first | rfl | (rw [hz,Nat.mul_zero];rfl),rfl,rfl,rfl,rfl,rfl,trivial⟩K4
    ·rintro _ -
     simp only [List.cons_append,List.nil_append]
     exact Zb<|Zg<|mv J J<|mv J J<|mv J J<|dt(Zh3 J J J(by omega))J<|mv J J<|dt(Zsg(n:=1000000000)J J J(by omega))J<|dt(Yw(ii:=3)(i:=(i+k))J J J J(Yo pN)Nx zT3(by omega)(by omega))J<|tt(Ky(i:=3)(enc:=Dk)_ J J J J J J(by decide)pN(by omega)J hw)J fun _ _=>Zf<|Za<|Zg<|mv J J<|dt(Zlq(n:=1000000000)J J J hdig.2(by omega))J<|as_ J J<|Zf<|Px<|Za<|Zg<|mv J J<|dt(Ys J J J⟨by omega,by omega⟩)J<|as_ J J<|Zf<|Xl(k+1,_,_)⟨⟨by dsimp only;omega,fun h=>by dsimp only at h ⊢;rw [Za5(by omega:(dg 1000000000 y).length≤k),hpz(i+k)(by omega)(by omega),Nat.mul_zero];omega⟩,by simp;omega,Ll hpa _ _(Nat.mod_lt _ Hj),fun j hj hj2=>by dsimp only at hj ⊢;rw [Nk _ _ _ _ _(by omega),if_neg(by omega)];exact hpz j(by omega)hj2,hdig.1,Zo7 hpv(by omega)⟩(by first | omega | (dsimp only<;>omega))K6 K4
   ·refine Yu<|Zt<|Zt<|Ov<|Px<|Za<|Zg<|mv J J<|dt(Ys J J J⟨by omega,by omega⟩)J<|as_ J J<|Zf ?_
    have hc0:c=0:=by omega
    have hvf:=hpv
    rw [hc0,Nat.zero_mul,Nat.add_zero,Ik(x:=y)(k:=k)Nb(by omega)]at hvf
    exact Xl(i+1,_)⟨by first | omega | (dsimp only<;>omega),hpl,hpa,fun j hj=>hpz j(by dsimp only at hj;omega)(by dsimp only at hj;omega),by dsimp only;rw [hvf,Qt,Nat.add_mul]⟩(by first | omega | (dsimp only<;>omega))K4 K4
 ·refine Yu<|Zt<|Zt<|Ov<|Za<|Zb<|Zg<|mv J J<|tt(Zh(n:=3)(Lv _ _)J J J K1 Zx0(Xv 3 J J pN Ze)J hw)J fun _ _=>Pt(Zfy 3 J J pN)<|as_ J J<|Zf<|Za<|Zw ?_
  obtain rfl:i=(dg 1000000000 x).length:=by omega
  have hx:tz o=dg 1000000000(x*y):=by
   rw [←Ki Nb _ hoa,hv,Ik Nb(Nat.le_refl _)]
  exact Zy(.inl J)hsc _ _(fun a w hs=>Qi hs Tryz.results123 J)J trivial J(Pv 3 J J pN(by rw [hx]<;>rfl)Zj)
theorem Zhr(v:Value)(x n:Nat)(hx:bl x≤4294967296)(hn:n<1000000000):Cal Tryz.prog 76#[v,.int .i64(n:Int)] [d9p v x]true(G:=Value)(fun r=>True)(fun r=>r)(fun r=>[d9p r(x*n)]):=by
 refine Yc Tryz.func76 J Tryz.ntmps76 J K1 ?_
 intro w0 sc hw hsc
 simp only [Zo,Zn]
 refine Zb<|Zg<|as_ J J<|Zf<|Za<|Zb<|Zb<|Zg<|mv J J<|dt(Pm J J J)J<|Zf<|Za<|Zp J(fun h112=>?_)(fun h112=>?_)
 ·exact Zb<|Zg<|as_ J J<|Zf<|Za<|Zw<|Xe<|Qv(Nl 9 1 3 Dk)<|Zy(.inl J)hsc(.slice none 0 0)_(fun a w hs=>Qi hs Tryz.results76 J)J trivial J(Pv 9 J J pN(by rw [show n=0 by omega,Nat.mul_zero]<;>rfl)Zj)
 ·have hn0:n≠0:=by omega
  exact Zk<|Za<|Zb<|Zg<|mv J J<|mv J J<|tt(Pr(i:=70)(ivs:=[(0,_)])(enc:=Dk) [n]J J J K2 Nx Tryz.ti3 J J J J J J pN.cells J J hw)J fun v _=>Pt(Zef 70(Zxr Nb hn hn0).symm J J)<|tt(Zh(n:=2)(Zrh _ _ _ n hx(by have:=(Mi 30 n).2(by omega);omega))J J J K2 cF123(Zd 1 J J J(Xv 70 J J pN Ze))J hw)J fun v_2 _=>as_ J J<|Zf<|Za<|Zw<|Zy(.inl J)hsc _ _(fun a w hs=>Qi hs Tryz.results76 J)J trivial J(Xa 2 J J J Zj)
set_option maxHeartbeats 4000000 in
theorem r_over(v w:Value)(x y:Nat)(hx:bl x≤4000000000)(hy:bl y≤4000000000)(hy0:0<y):Cal Tryz.prog 124#[v,w] [d9p v x,d9p w y]true(G:=Value×Value)(fun r=>True)(fun r=> .tuple#[r.1,r.2])(fun r=>[d9p r.1(x/y),d9p r.2(x%y)]):=by
 refine Yc Tryz.func124 J Tryz.ntmps124 J K2 ?_
 intro w0 sc hw hsc
 simp only [Zo,Zn]
 have hX:=Km x
 have hY:=Km y
 refine Zb<|Zg<|as_ J J<|as_ J J<|Zf<|Za<|Zb<|Zg<|mv J J<|dt(Ya J J(i:=1)J Zi Nx)J<|tt(Hk(i:=3)(n:=(dg 1000000000 x).length)(by_:=8)(enc:=Dk)0 J J J J J(by omega)Nx Tryz.ti3 J pN.cells pN.pos J J(by omega)(by decide)J hw)J fun v _=>as_ J J<|Zf<|Za<|Zb<|Zg<|as_ J J<|Zf<|Za<|Zb<|Zb<|Zg<|mv J J<|dt(Ya J J(i:=1)J Zi Nx)J<|dt(Qb J J J⟨by omega,by omega⟩)J<|as_ J J<|Zf<|Za<|Zl<|Yn(Nl 71 1 3 Dk)<|Yn(Pe 71 J J pN) ?_
 refine Nt [(0,_),(1,_),(6,_)] [(0,_),(1,_),(2,_)](fun(q:Nat×List Nat×Nat×Value)=>[(8,.int .i64((q.1:Int)-1)),(7,q.2.2.2)])(fun(q:Nat×List Nat×Nat×Value)=>[(3,osl 1 3 Dk v q.2.1),(71,d9p q.2.2.2 q.2.2.1)])(fun(q:Nat×List Nat×Nat×Value)=>(q.1≤(dg 1000000000 x).length)∧(q.2.1.length=(dg 1000000000 x).length)∧(∀d∈q.2.1,d<1000000000)∧(∀j,j<q.1→q.2.1.getD j 0=0)∧(val 1000000000(q.2.1.drop q.1)*y+q.2.2.1=x/1000000000^q.1)∧(q.2.2.1<y))(fun(q:Nat×List Nat×Nat×Value)=>q.1)((dg 1000000000 x).length,List.replicate(dg 1000000000 x).length 0,0,.slice none 0 0)⟨Nat.le_refl _,by simp,Nc _ Hj,fun j _=>Lj _ j,by dsimp only;rw [Nat.div_eq_of_lt((Xt Nb _ x).1(Nat.le_refl _))];simp [val],hy0⟩K5 K5 ?_
 rintro⟨k,q,r,vr⟩⟨hk,hql,hqa,hqz,hv,hr⟩
 dsimp only at hk hql hqa hqz hv hr
 simp only [List.cons_append,List.nil_append]
 refine Zb<|Zb<|Zg<|mv J J<|dt(Lq J J J)J<|Zf<|Za<|Zp J(fun h122=>?_)(fun h122=>?_)
 ·have hk0:0<k:=by omega
  have ha9:=Qm Hj(Lh Nb x)(k-1)
  have hdig:x/1000000000^(k-1)=x/1000000000^k*1000000000+(dg 1000000000 x).getD(k-1)0:=by rw [Iy Nb];exact(Zpm hk0).symm
  rw [←hv,Nat.add_mul]at hdig
  have hrb:=bl_over hr ha9
  have hQ9:=over_Q hr ha9
  refine Zk<|Za<|Zb<|Zl<|Zb<|Zg<|mv J J<|mv J J<|dt(Yw(ii:=1)(i:=(k-1))J J J J Zi Nx zT3(by omega)(by omega))J<|dt(Xn(ii:=1)0 J J J Zi pN(by omega))J<|tt(Pr(i:=72)(ivs:=[(0,_)])(enc:=Dk) [(dg 1000000000 x).getD(k-1)0]J J J K2 Nx Tryz.ti3 J J J J J J pN.cells J J hw)J fun v_2 _=>mv J J<|tt(Kq(i:=72)(j:=71)(by_:=8)J J J J J J(by decide)J Zi Nx Tryz.ti3 J pN J J J(by have h8:=Km r;have h9:=Ou(Nat.le_of_lt hr);simp;omega)(by decide)J hw)J fun v_3 _=>tt(Zh(n:=3)(Lv _ _)J J J K1 Zx0(Xv 72 J J pN Ze)J hw)J fun _ _=>Pt(Zfy 72 J J pN)<|Pt(Zef 72(tz_cons Nb ha9)J J)<|Pt(Pe 72 J J pN)<|as_ J J<|Zf<|Za<|Zb<|Zb<|Zg<|mv J J<|mv J J<|tt(Zh(n:=3)(Zk9 _ _ _ _(by omega)(by omega))J J J K2 cF90(Zd 72 J J J(Zd 2 J J J Ze))J hw)J fun _ _=>dt(Xw J J J)J<|Zf<|Za<|Zp J(fun h124=>?_)(fun h124=>?_)
  ·have hlt:(r*1000000000+(dg 1000000000 x).getD(k-1)0)<y:=Zoq.1 h124
   refine Yu<|Zt<|Ov<|Za<|Zg<|mv J J<|dt(Qb J J J⟨by omega,by omega⟩)J<|as_ J J<|Zf<|Qv(Oa 72 71 J J J) ?_
   have h2:=Zto hk0(by omega:k≤q.length)(hqz(k-1)(by omega))
   exact Xl(k-1,q,r*1000000000+(dg 1000000000 x).getD(k-1)0,_)⟨by first | omega | (dsimp only<;>omega),by first | omega | (dsimp only<;>omega),by first | omega | (dsimp only<;>omega),fun j hj=>hqz j(by dsimp only at hj;omega),by have h9:1000000000*val 1000000000(q.drop k)*y=val 1000000000(q.drop k)*y*1000000000:=(by rw [Nat.mul_assoc,Nat.mul_comm]);dsimp only;rw [h2,hdig,h9];omega,hlt⟩(by first | omega | (dsimp only<;>omega))⟨by rw [show(((k-1:Nat):Int)-1)=(k:Int)-1-1 by omega];rfl,rfl,rfl,rfl,rfl,trivial⟩K5
  ·have hge:y≤(r*1000000000+(dg 1000000000 x).getD(k-1)0):=by have:=mt Zoq.2 h124;omega
   refine Zk<|Za<|Zb<|Zg<|as_ J J<|as_ J J<|Zf<|Za<|Zb<|Zl<|Nt [(0,_),(1,_),(6,_),(7,_),(8,_)] [(0,_),(3,_),(71,_),(1,_),(2,_),(72,_)](fun(q:Nat×Nat)=>[(9,.int .i64(q.1:Int)),(10,.int .i64(q.2:Int))])(fun(q:Nat×Nat)=>[])(fun(q:Nat×Nat)=>(q.1≤(r*1000000000+(dg 1000000000 x).getD(k-1)0)/y)∧((r*1000000000+(dg 1000000000 x).getD(k-1)0)/y≤q.2)∧(q.2<1000000000))(fun(q:Nat×Nat)=>q.2-q.1)(0,999999999)⟨Nat.zero_le _,by omega,by first | omega | (dsimp only<;>omega)⟩K7 K6 ?_
   rintro⟨lo,hi⟩⟨hlo,hhi,hh9⟩
   dsimp only at hlo hhi hh9
   simp only [List.cons_append,List.nil_append]
   have hmid:(lo+hi+1)/2<1000000000:=by omega
   refine Zb<|Zb<|Zg<|mv J J<|mv J J<|dt(Xw J J J)J<|Zf<|Za<|Zp J(fun h128=>?_)(fun h128=>?_)
   ·refine Zk<|Za<|Zl<|Zb<|Zg<|mv J J<|mv J J<|dt(Zh3 J J J(by omega))J<|dt(Zh3(n:=1)J J J(by omega))J<|dt(Zlq(n:=2)J J J(by omega)(by omega))J<|as_ J J<|Zf<|Za<|Zb<|Zg<|mv J J<|mv J J<|tt(Zh(n:=4)(Zhr _ _ _(by omega)(by omega))J J J K2 cF76(Zd 2 J J J Ze)J hw)J fun v_4 _=>mv J J<|tt(Zh(n:=4)(Zk9 _ _ _ _(by have:=Zio(y:=y)hmid;omega)(by omega))J J J K2 cF90(Zd 4 J J J(Zd 72 J J J Ze))J hw)J fun _ _=>dt(Dl J J J)J<|Zf<|Za<|Zp J(fun h130=>?_)(fun h130=>?_)
    ·have hcm:y*((lo+hi+1)/2)≤(r*1000000000+(dg 1000000000 x).getD(k-1)0):=Zt6.1 h130
     exact Zg<|mv J J<|as_ J J<|Zf<|Px<|Xl((lo+hi+1)/2,hi)⟨(Nat.le_div_iff_mul_le hy0).2(by rw [Nat.mul_comm];exact hcm),by first | omega | (dsimp only<;>omega),by first | omega | (dsimp only<;>omega)⟩(by first | omega | (dsimp only<;>omega))K7 K6
    ·have hcm:(r*1000000000+(dg 1000000000 x).getD(k-1)0)<y*((lo+hi+1)/2):=by have:=mt Zt6.2 h130;omega
     exact Zg<|mv J J<|dt(Qb J J J⟨by omega,by omega⟩)J<|as_ J J<|Zf<|Px<|Xl(lo,(lo+hi+1)/2-1)⟨by first | omega | (dsimp only<;>omega),by have h7:=(Nat.div_lt_iff_lt_mul hy0).2(show(r*1000000000+(dg 1000000000 x).getD(k-1)0)<(lo+hi+1)/2*y by have h6:=Nat.mul_comm((lo+hi+1)/2)y;omega);dsimp only;omega,by first | omega | (dsimp only<;>omega)⟩(by first | omega | (dsimp only<;>omega))⟨J,by rw [show(((lo+hi+1)/2-1:Nat):Int)=(((lo+hi+1)/2:Nat):Int)-1 by omega];rfl,rfl,rfl,rfl,rfl,rfl,trivial⟩K6
   ·have hloQ:lo=(r*1000000000+(dg 1000000000 x).getD(k-1)0)/y:=by omega
    refine Yu<|Zt<|Zt<|Ov<|Za<|Zb<|Zg<|mv J J<|mv J J<|mv J J<|dt(Yw(ii:=3)(i:=(k-1))J J J J(Yo pN)Nx zT3(by omega)(by omega))J<|tt(Ky(i:=3)(enc:=Dk)_ J J J J J J(by decide)pN(by omega)J hw)J fun _ _=>Zf<|Za<|Zg<|mv J J<|mv J J<|mv J J<|tt(Zh(n:=5)(Zhr _ _ _(by omega)(by omega))J J J K2 cF76(Zd 2 J J J Ze)J hw)J fun v_5 _=>tt(Zh(n:=6)(Zla _ _ _ _(by omega)(by rw [hloQ];exact Nat.mul_div_le _ _))J J J K2 cF91(Zd 72 J J J(Zd 5 J J J Ze))J hw)J fun v_6 _=>as_ J J<|Zf<|Px<|Za<|Zg<|mv J J<|dt(Qb J J J⟨by omega,by omega⟩)J<|as_ J J<|Zf<|Qv(Oa 6 71 J J J) ?_
    have h2:=Zco(d:=lo)hk0(by omega:k≤q.length)
    have h16:y*lo≤(r*1000000000+(dg 1000000000 x).getD(k-1)0):=by rw [hloQ];exact Nat.mul_div_le _ _
    exact Xl(k-1,_,(r*1000000000+(dg 1000000000 x).getD(k-1)0)-y*lo,_)⟨by first | omega | (dsimp only<;>omega),by simp [hql],Ll hqa _ _(by omega),fun j hj=>by dsimp only at hj ⊢;rw [Nk _ _ _ _ _(by omega),if_neg(by omega)];exact hqz j(by omega),by have h9:1000000000*val 1000000000(q.drop k)*y=val 1000000000(q.drop k)*y*1000000000:=(by rw [Nat.mul_assoc,Nat.mul_comm]);dsimp only;rw [h2,hdig,Nat.add_mul,h9];have h5:lo*y=y*lo:=Nat.mul_comm _ _;omega,by dsimp only;rw [hloQ];have h5:=Nat.div_add_mod(r*1000000000+(dg 1000000000 x).getD(k-1)0)y;have h6:=Nat.mod_lt(r*1000000000+(dg 1000000000 x).getD(k-1)0)hy0;omega⟩(by first | omega | (dsimp only<;>omega))⟨by rw [show(((k-1:Nat):Int)-1)=(k:Int)-1-1 by omega];rfl,rfl,rfl,rfl,rfl,trivial⟩K5
 ·refine Yu<|Zt<|Zt<|Ov<|Za<|Zb<|Zg<|mv J J<|tt(Zh(n:=6)(Lv _ _)J J J K1 Zx0(Xv 3 J J pN Ze)J hw)J fun _ _=>Pt(Zfy 3 J J pN)<|mv J J<|as_ J J<|as_ J J<|Zf<|Za<|Zw ?_
  obtain rfl:k=0:=by omega
  rw [List.drop_zero,Nat.pow_zero,Nat.div_one]at hv
  have hq:val 1000000000 q=x/y:=by rw [←hv,Nat.mul_comm,Nat.mul_add_div hy0,Nat.div_eq_of_lt hr,Nat.add_zero]
  have hr2:r=x%y:=by rw [←hv,Nat.mul_comm,Nat.mul_add_mod,Nat.mod_eq_of_lt hr]
  have hx:tz q=dg 1000000000(x/y):=by rw [←Ki Nb _ hqa,hq]
  exact Zy(.inl J)hsc(_,_)_(fun a w hs=>No hs Tryz.results124 J J)J trivial J(Pv 3 J J pN(by rw [hx]<;>rfl)(Yk 71 J J J(by rw [hr2]<;>rfl)Zj))
theorem Bn(s:Bool)(v:Value)(n:Nat)(z:Int)(hn:n=z.natAbs)(hs:sg s z)(hb:bl n≤4294967296):Cal Tryz.prog 78#[.bool s,v] [d9p v n]false(G:=Unit)(fun _=>True)(fun _=> .agg#[.bool(decide(z<0)),v])(fun _=>[]):=by
 refine Yc Tryz.func78 J Tryz.ntmps78 J K1 ?_
 intro w0 sc hw hsc
 simp only [Zo,Zn]
 have hl9:=Km n
 refine Zb<|Zg<|tt(Zq(i:=2)J J J Tryz.zeroValue48 J J hw)J fun b _=>Zf<|Za<|Zb<|Zg<|mv J J<|mv J J<|Ey(d:=6)J(fun s143=>?_)(fun s143=>?_)
 ·exact gdt(Ym J J)J J J J<|gdt(Ya J J(i:=1)J Zi Nx)J J J J<|gdt(Ot J J J)J J J J<|dt(Xi J J J)J<|mv J J<|dt(Oo(ivs:=[(0,_),(1,_)])J K4(fun a w hs=>b48_01((Zc J)a w hs)((Zr(i:=1)J Zi)a w hs)))J<|tt(Zm(i:=2)J J J J J(by decide)J Ql J J⟨Zc J,Zr(i:=1)J Zi,trivial⟩J hw trivial)J fun _ _=>Zf<|Za<|Zw<|Zy(.inl J)hsc()_(fun a w hs=>Qi hs Tryz.results78(Yr(i:=2)J J Ka Ql J))(by rw [←made_b hn hs,←Zn2];simp_all)trivial J Zj
 ·exact gsk J J J J J<|gsk J J J J J<|gsk J J J J J<|dt(Yh J J J)J<|mv J J<|dt(Oo(ivs:=[(0,_),(1,_)])J K4(fun a w hs=>b48_01((Zc J)a w hs)((Zr(i:=1)J Zi)a w hs)))J<|tt(Zm(i:=2)J J J J J(by decide)J Ql J J⟨Zc J,Zr(i:=1)J Zi,trivial⟩J hw trivial)J fun _ _=>Zf<|Za<|Zw<|Zy(.inl J)hsc()_(fun a w hs=>Qi hs Tryz.results78(Yr(i:=2)J J Ka Ql J))(by rw [←made_b hn hs,←Zn2];simp_all)trivial J Zj
theorem Zrj(v:Value)(x:Int)(hx:bl x.natAbs≤3000000000):Cal Tryz.prog 73#[.agg#[.bool(decide(x<0)),v]] [d9p v x.natAbs]true(G:=Value)(fun r=>True)(fun r=> .agg#[.bool(decide(-x<0)),r])(fun r=>[d9p r(-x).natAbs]):=by
 refine Yc Tryz.func73 J Tryz.ntmps73 J K1 ?_
 intro w0 sc hw hsc
 simp only [Zo,Zn]
 exact Zb<|Zg<|tt(Xh(i:=2)J J J J J J hw)J fun b _=>tt(Zq(i:=3)J J J Tryz.zeroValue48 J J hw)J fun b_2 _=>Zf<|Za<|Zb<|Zg<|dt(Qa J J Aq J zT4 J J)J<|dt(Oh(i:=2)J J J iA4 J)J<|dt(Xr J J)J<|dt(Qa J J Aq J Ziu J J)J<|dt(Oh(i:=2)J J J Zjy J)J<|tt(Zh(n:=3)(Bn _ _ _(-x)(Int.natAbs_neg x).symm(sg_neg(Xm x))(by omega))J J J K2 Zu4(Zd 1 J J J Ze)J hw)J fun _ _=>tt(Zm(i:=3)J J J J J(by decide)J Ql J J⟨Zc J,Zr(i:=1)J Zi,trivial⟩J hw trivial)J fun _ _=>Zf<|Za<|Zw<|Zy(.inl J)hsc _ _(fun a w hs=>Qi hs Tryz.results73(Yr(i:=3)J J Ka Ql J))J trivial J(Yk 1 J J J(by rw [Int.natAbs_neg]<;>rfl)Zj)
theorem Zrk(v w:Value)(x y:Int)(hx:bl x.natAbs≤3000000000)(hy:bl y.natAbs≤3000000000):Cal Tryz.prog 37#[.agg#[.bool(decide(x<0)),v],.agg#[.bool(decide(y<0)),w]] [d9p v x.natAbs,d9p w y.natAbs]true(G:=Value)(fun r=>True)(fun r=> .agg#[.bool(decide(x+y<0)),r])(fun r=>[d9p r(x+y).natAbs]):=by
 refine Yc Tryz.func37 J Tryz.ntmps37 J K2 ?_
 intro w0 sc hw hsc
 simp only [Zo,Zn]
 have hb:=Kp x y
 refine Zb<|Zg<|tt(Xh(i:=3)J J J J J J hw)J fun b _=>tt(Xh(i:=4)J J J J J J hw)J fun b_2 _=>tt(Zq(i:=5)J J J Tryz.zeroValue48 J J hw)J fun b_3 _=>Zf<|Za<|Zb<|Zb<|Zg<|dt(Qa J J Aq J zT4 J J)J<|dt(Oh(i:=3)J J J iA4 J)J<|dt(Qa J J Aq J zT4 J J)J<|dt(Oh(i:=4)J J J iA4 J)J<|dt(d_eqb J J J uT4)J<|Zf<|Za<|Mt J(fun h189=>?_)(fun h189=>?_)
 ·replace h189:=beq_dec h189
  refine Zb<|Qr(fun _=>False) [(0,0),(1,0),(2,0),(3,0),(4,0),(5,0),(6,1),(7,1),(8,3)](by kernel_rfl) ?_ ?_
  ·kernel_rfl
  exact r0' J J J J(st0(Qa J J Aq J zT4 J J))<|r0' J J J J(st0(Oh(i:=3)J J J iA4 J))<|r0' J J J J(st0(Qa J J Aq J Ziu J J))<|r0' J J J J(st0(Oh(i:=3)J J J Zjy J))<|r0' J J J J(st0(Qa J J Aq J Ziu J J))<|r0' J J J J(st0(Oh(i:=4)J J J Zjy J))<|r1' J J(Zh(n:=6)(Zri _ _ _ _(by omega)(by omega))J J J K2 cF75(Zd 1 J J J(Zd 2 J J J Ze))J hw)fun v _=>r1' J J(Zh(n:=6)(Bn _ _ _(x+y)(Zds(Xm x)(h189▸Xm y)).symm(Zq4(Xm x)(h189▸Xm y))(by rw [←Zds(Xm x)(h189▸Xm y)];omega))J J J K2 Zu4(Zd 6 J J J Ze)J hw)fun _ _=>r3' J J(Zm(i:=5)J J J J J(by decide)J Ql J J⟨Zc J,Zr(i:=6)J Zi,trivial⟩J hw trivial)fun _ _=>Oj<|Za<|Zw<|Xe<|Zy(.inl J)hsc _ _(fun a w hs=>Qi hs Tryz.results37(Yr(i:=5)J J Ka Ql J))J trivial J(Yk 6 J J J(by rw [Zds(Xm x)(h189▸Xm y)]<;>rfl)Zj)
 ·have hne:decide(x<0)≠decide(y<0):=by simpa using h189
  refine Zk<|Za<|Zb<|Zb<|Zg<|dt(Qa J J Aq J Ziu J J)J<|dt(Oh(i:=3)J J J Zjy J)J<|dt(Qa J J Aq J Ziu J J)J<|dt(Oh(i:=4)J J J Zjy J)J<|tt(Zh(n:=6)(Zk9 _ _ _ _(by omega)(by omega))J J J K2 cF90(Zd 1 J J J(Zd 2 J J J Ze))J hw)J fun _ _=>dt(Lq J J J)J<|Zf<|Za<|Zp J(fun h192=>?_)(fun h192=>?_)
  ·have hge:y.natAbs≤x.natAbs:=Zt7.1 h192
   refine Zb<|Qr(fun _=>False) [(0,0),(1,0),(2,0),(3,0),(4,0),(5,0),(6,1),(7,1),(8,3)](by kernel_rfl) ?_ ?_
   ·kernel_rfl
   exact r0' J J J J(st0(Qa J J Aq J zT4 J J))<|r0' J J J J(st0(Oh(i:=3)J J J iA4 J))<|r0' J J J J(st0(Qa J J Aq J Ziu J J))<|r0' J J J J(st0(Oh(i:=3)J J J Zjy J))<|r0' J J J J(st0(Qa J J Aq J Ziu J J))<|r0' J J J J(st0(Oh(i:=4)J J J Zjy J))<|r1' J J(Zh(n:=7)(Zla _ _ _ _(by omega)hge)J J J K2 cF91(Zd 1 J J J(Zd 2 J J J Ze))J hw)fun v_2 _=>r1' J J(Zh(n:=7)(Bn _ _ _(x+y)(Bd(Xm x)(Xm y)hne hge).symm(Zhg(Xm x)(Xm y)hne hge)(by have:=Ou(Nat.sub_le x.natAbs y.natAbs);omega))J J J K2 Zu4(Zd 7 J J J Ze)J hw)fun _ _=>r3' J J(Zm(i:=5)J J J J J(by decide)J Ql J J⟨Zc J,Zr(i:=7)J Zi,trivial⟩J hw trivial)fun _ _=>Oj<|Za<|Zw<|Xe<|Zy(.inl J)hsc _ _(fun a w hs=>Qi hs Tryz.results37(Yr(i:=5)J J Ka Ql J))J trivial J(Yk 7 J J J(by rw [Bd(Xm x)(Xm y)hne hge]<;>rfl)Zj)
  ·have hge:x.natAbs≤y.natAbs:=by have:=mt Zt7.2 h192;omega
   refine Zk<|Za<|Zb<|Qr(fun _=>False) [(0,0),(1,0),(2,0),(3,0),(4,0),(5,0),(6,1),(7,1),(8,3)](by kernel_rfl) ?_ ?_
   ·kernel_rfl
   exact r0' J J J J(st0(Qa J J Aq J zT4 J J))<|r0' J J J J(st0(Oh(i:=4)J J J iA4 J))<|r0' J J J J(st0(Qa J J Aq J Ziu J J))<|r0' J J J J(st0(Oh(i:=4)J J J Zjy J))<|r0' J J J J(st0(Qa J J Aq J Ziu J J))<|r0' J J J J(st0(Oh(i:=3)J J J Zjy J))<|r1' J J(Zh(n:=8)(Zla _ _ _ _(by omega)hge)J J J K2 cF91(Zd 2 J J J(Zd 1 J J J Ze))J hw)fun v_3 _=>r1' J J(Zh(n:=8)(Bn _ _ _(x+y)(by rw [Int.add_comm x];exact(Bd(Xm y)(Xm x)(Ne.symm hne)hge).symm)(by rw [Int.add_comm x];exact Zhg(Xm y)(Xm x)(Ne.symm hne)hge)(by have:=Ou(Nat.sub_le y.natAbs x.natAbs);omega))J J J K2 Zu4(Zd 8 J J J Ze)J hw)fun _ _=>r3' J J(Zm(i:=5)J J J J J(by decide)J Ql J J⟨Zc J,Zr(i:=8)J Zi,trivial⟩J hw trivial)fun _ _=>Oj<|Za<|Zw<|Zy(.inl J)hsc _ _(fun a w hs=>Qi hs Tryz.results37(Yr(i:=5)J J Ka Ql J))J trivial J(Yk 8 J J J(by rw [Int.add_comm x,Bd(Xm y)(Xm x)(Ne.symm hne)hge]<;>rfl)Zj)
theorem Zk8(v w:Value)(x y:Int)(hx:bl x.natAbs≤3000000000)(hy:bl y.natAbs≤3000000000):Cal Tryz.prog 87#[.agg#[.bool(decide(x<0)),v],.agg#[.bool(decide(y<0)),w]] [d9p v x.natAbs,d9p w y.natAbs]true(G:=Value)(fun r=>True)(fun r=> .agg#[.bool(decide(x-y<0)),r])(fun r=>[d9p r(x-y).natAbs]):=by
 refine Yc Tryz.func87 J Tryz.ntmps87 J K2 ?_
 intro w0 sc hw hsc
 simp only [Zo,Zn]
 have hb:=Dh x y
 have hn:=Zkj y
 refine Zb<|Zg<|tt(Xh(i:=3)J J J J J J hw)J fun b _=>tt(Xh(i:=4)J J J J J J hw)J fun b_2 _=>tt(Zq(i:=5)J J J Tryz.zeroValue48 J J hw)J fun b_3 _=>Zf<|Za<|Zb<|Qr(fun _=>False) [(0,0),(1,0),(2,1),(3,1),(4,3)](by kernel_rfl) ?_ ?_
 ·kernel_rfl
 exact r0' J J J J(st0(Yb(i:=3)J J J Ka Ql J J))<|r0' J J J J(st0(Yb(i:=4)J J J Ka Ql J J))<|r1' J J(Zh(n:=6)(Zrj _ _(by omega))J J J K1 cF73(Zd 2 J J J Ze)J hw)fun v _=>r1' J J(Zh(n:=7)(Zrk _ _ _ _(by omega)(by omega))J J J K2 cF37(Zd 1 J J J(Zd 6 J J J Ze))J hw)fun v_2 _=>r3' J J(Zm(i:=5)J J J J J(by decide)J Ql J J⟨Zc J,Zr(i:=7)J Zi,trivial⟩J hw trivial)fun _ _=>Oj<|Za<|Zw<|Zy(.inl J)hsc _ _(fun a w hs=>Qi hs Tryz.results87(Yr(i:=5)J J Ka Ql J))(by rw [Int.sub_eq_add_neg]<;>rfl)trivial J(Yk 7 J J J(by rw [Int.sub_eq_add_neg]<;>rfl)Zj)
theorem Zaj(v w:Value)(x y:Int)(hx:bl x.natAbs≤1000000000)(hy:bl y.natAbs≤1000000000):Cal Tryz.prog 69#[.agg#[.bool(decide(x<0)),v],.agg#[.bool(decide(y<0)),w]] [d9p v x.natAbs,d9p w y.natAbs]true(G:=Value)(fun r=>True)(fun r=> .agg#[.bool(decide(x*y<0)),r])(fun r=>[d9p r(x*y).natAbs]):=by
 refine Yc Tryz.func69 J Tryz.ntmps69 J K2 ?_
 intro w0 sc hw hsc
 simp only [Zo,Zn]
 have hb:=Xy x y
 refine Zb<|Zg<|tt(Xh(i:=3)J J J J J J hw)J fun b _=>tt(Xh(i:=4)J J J J J J hw)J fun b_2 _=>tt(Zq(i:=5)J J J Tryz.zeroValue48 J J hw)J fun b_3 _=>Zf<|Za<|Zb<|Qr(fun _=>False) [(0,0),(1,0),(2,0),(3,0),(4,0),(5,0),(6,0),(7,0),(8,0),(9,1),(10,1),(11,3)](by kernel_rfl) ?_ ?_
 ·kernel_rfl
 exact r0' J J J J(st0(Qa J J Aq J zT4 J J))<|r0' J J J J(st0(Oh(i:=3)J J J iA4 J))<|r0' J J J J(st0(Qa J J Aq J zT4 J J))<|r0' J J J J(st0(Oh(i:=4)J J J iA4 J))<|r0' J J J J(st0(Zmb J J J uT4))<|r0' J J J J(st0(Qa J J Aq J Ziu J J))<|r0' J J J J(st0(Oh(i:=3)J J J Zjy J))<|r0' J J J J(st0(Qa J J Aq J Ziu J J))<|r0' J J J J(st0(Oh(i:=4)J J J Zjy J))<|r1' J J(Zh(n:=6)(Zrh _ _ _ _(by omega)(by omega))J J J K2 cF123(Zd 1 J J J(Zd 2 J J J Ze))J hw)fun v _=>r1' J J(Zh(n:=6)(Bn _ _ _(x*y)(Int.natAbs_mul x y).symm(sg_mul(Xm x)(Xm y))(by rw [←Int.natAbs_mul];omega))J J J K2 Zu4(Zd 6 J J J Ze)J hw)fun _ _=>r3' J J(Zm(i:=5)J J J J J(by decide)J Ql J J⟨Zc J,Zr(i:=6)J Zi,trivial⟩J hw trivial)fun _ _=>Oj<|Za<|Zw<|Zy(.inl J)hsc _ _(fun a w hs=>Qi hs Tryz.results69(Yr(i:=5)J J Ka Ql J))J trivial J(Yk 6 J J J(by rw [Int.natAbs_mul]<;>rfl)Zj)
theorem Zah(v:Value)(x:Int)(hx:bl x.natAbs≤3000000000):Cal Tryz.prog 72#[.agg#[.bool(decide(x<0)),v]] [d9p v x.natAbs]false(G:=Unit)(fun _=>True)(fun _=> .int .i64 x.sign)(fun _=>[]):=by
 refine Yc Tryz.func72 J Tryz.ntmps72 J K1 ?_
 intro w0 sc hw hsc
 simp only [Zo,Zn]
 have hl9:=Km x.natAbs
 refine Zb<|Zg<|tt(Xh(i:=2)J J J J J J hw)J fun b _=>as_ J J<|Zf<|Za<|Zb<|Zb<|Zg<|dt(Qa J J Aq J Ziu J J)J<|dt(Oh(i:=2)J J J Zjy J)J<|dt(Ya J J(i:=1)J Zi Nx)J<|dt(Pm J J J)J<|Zf<|Za<|Zp J(fun h206=>?_)(fun h206=>?_)
 ·exact Zb<|Zg<|as_ J J<|Zf<|Za<|Zw<|Xe<|Zy(.inl J)hsc()_(fun a w hs=>Qi hs Tryz.results72 J)(sign9 h206)trivial J Zj
 ·refine Zk<|Za<|Zb<|Zb<|Zg<|dt(Qa J J Aq J zT4 J J)J<|dt(Oh(i:=2)J J J iA4 J)J<|Zf<|Za<|Mt J(fun h209=>?_)(fun h209=>?_)
  ·exact Zb<|Zg<|as_ J J<|Zf<|Za<|Zw<|Xe<|Zy(.inl J)hsc()_(fun a w hs=>Qi hs Tryz.results72 J)(by rw [Int.sign_eq_neg_one_of_neg(by simpa using h209)])trivial J Zj
  ·exact Zk<|Za<|Zb<|Zg<|as_ J J<|Zf<|Za<|Zw<|Zy(.inl J)hsc()_(fun a w hs=>Qi hs Tryz.results72 J)(by have h3:=Zh8 h206;have h4:¬x<0:=(by simpa using h209);rw [Int.sign_eq_one_of_pos(by omega)])trivial J Zj
theorem Zjj(x:Int)(hx:inI x):Cal Tryz.prog 34#[.int .i64 x] []true(G:=Value)(fun r=>True)(fun r=> .agg#[.bool(decide(x<0)),r])(fun r=>[d9p r(x).natAbs]):=by
 refine Yc Tryz.func34 J Tryz.ntmps34 J trivial ?_
 intro w0 sc hw hsc
 simp only [Zo,Zn]
 have hxa:=hx.1
 have hxb:=hx.2
 refine Yn(Nl 60 1 3 Dk)<|Yn(Pe 60 J J pN)<|Zb<|Zg<|tt(Zq(i:=1)J J J Tryz.zeroValue48 J J hw)J fun b _=>Zf<|Za<|Zb<|Zb<|Zg<|mv J J<|dt(Lq J J J)J<|Zf<|Za<|Zp J(fun h147=>?_)(fun h147=>?_)
 ·obtain⟨m,rfl⟩:∃m:Nat,x=(m:Int):=⟨x.natAbs,by omega⟩
  have hbm:bl m≤64:=(Mi 64 m).2(by omega)
  exact Zb<|Zg<|mv J J<|dt(Zsg(n:=1000000000)J J J(by omega))J<|mv J J<|dt(Zlq(n:=1000000000)J J J(by omega)(by omega))J<|dt(Zsg(n:=1000000000)J J J(by omega))J<|mv J J<|dt(Zlq(n:=1000000000)J J J(by omega)(by omega))J<|dt(Zlq(n:=1000000000)J J J(by omega)(by omega))J<|tt(Pr(i:=70)(ivs:=[(0,_),(1,_),(2,_)])(enc:=Dk) [m%1000000000,m/1000000000%1000000000,m/1000000000/1000000000]J J J K6 Nx Tryz.ti3 J J J J J J pN.cells J J hw)J fun v _=>tt(Zh(n:=1)(Lv _ _)J J J K1 Zx0(Xv 70 J J pN Ze)J hw)J fun _ _=>Pt(Zfy 70 J J pN)<|Pt(Zef 70(Zmz(by omega))J J)<|tt(Zh(n:=1)(Bn _ _ _((m:Int))(by omega)(by simp [sg])(by omega))J J J K2 Zu4(Xv 70 J J pN Ze)J hw)J fun _ _=>tt(Zm(i:=1)J J J J J(by decide)J Ql J J⟨Zc J,Zr(i:=70)J(Yo pN),trivial⟩J hw trivial)J fun _ _=>Zf<|Za<|Zw<|Xe<|Zy(.inl J)hsc _ _(fun a w hs=>Qi hs Tryz.results34(Yr(i:=1)J J Ka Ql J))J trivial J(Pv 70 J J pN(by rw [Int.natAbs_natCast]<;>rfl)Zj)
 ·obtain⟨m,rfl⟩:∃m:Nat,x=-(m:Int):=⟨x.natAbs,by omega⟩
  have hbm:bl m≤64:=(Mi 64 m).2(by omega)
  refine Zk<|Za<|Zb<|Zg<|mv J J<|dt(nn_rem(n:=1000000000)J J J(by omega))J<|dt(n_neg J J(by omega))J<|mv J J<|dt(Zsa(n:=1000000000)J J J(by omega)(by omega))J<|dt(nn_rem(n:=1000000000)J J J(by omega))J<|dt(n_neg J J(by omega))J<|mv J J<|dt(Zsa(n:=1000000000)J J J(by omega)(by omega))J<|dt(Zsa(n:=1000000000)J J J(by omega)(by omega))J<|dt(n_neg J J(by omega))J<|tt(Pr(i:=70)(ivs:=[(0,_),(1,_),(2,_)])(enc:=Dk) [m%1000000000,m/1000000000%1000000000,m/1000000000/1000000000]J J J K6 Nx Tryz.ti3 J J J J J J pN.cells J J hw)J fun v_2 _=>tt(Zh(n:=1)(Lv _ _)J J J K1 Zx0(Xv 70 J J pN Ze)J hw)J fun _ _=>Pt(Zfy 70 J J pN)<|Pt(Zef 70(Zmz(by omega))J J)<|Pt(Zef 70(ys:=dg 1000000000(-(m:Int)).natAbs)(by rw [Int.natAbs_neg,Int.natAbs_natCast])J J)<|Pt(Pe 70 J J pN)<|tt(Zh(n:=1)(Bn _ _ _((-(m:Int)))J(by simp [sg])(by rw [Int.natAbs_neg,Int.natAbs_natCast];omega))J J J K2 Zu4(Zd 70 J J J Ze)J hw)J fun _ _=>dt(Oo(ivs:=[])J trivial(fun a w hs=>b48_))J ?_
  exact tt(Zh(n:=2)(Zk8 _ _(-(m:Int))0(by rw [Int.natAbs_neg,Int.natAbs_natCast];omega)(by decide))J J J K2 cF87(Zd 70 J J J(Zd 60 J J J Ze))J hw)J fun v_3 _=>tt(Zm(i:=1)J J J J J(by decide)J Ql J J⟨Zc J,Zr(i:=2)J Zi,trivial⟩J hw trivial)J fun _ _=>Zf<|Za<|Zw<|Zy(.inl J)hsc _ _(fun a w hs=>Qi hs Tryz.results34(Yr(i:=1)J J Ka Ql J))(by rw [Int.sub_zero]<;>rfl)trivial J(Yk 2 J J J(by rw [Int.sub_zero]<;>rfl)Zj)
theorem r_from(x:Int)(hx:bl x.natAbs≤2000000000):Cal Tryz.prog 30#[wv x] []true(G:=Value)(fun r=>True)(fun r=> .agg#[.bool(decide(x<0)),r])(fun r=>[d9p r(x).natAbs]):=by
 refine Yc Tryz.func30 J Tryz.ntmps30 J trivial ?_
 intro w0 sc hw hsc
 simp only [Zo,Zn]
 obtain⟨n,hn⟩:∃n,n=x.natAbs:=⟨_,rfl⟩
 have hl8:=Zav n
 have hxn:bl n≤2000000000:=by rw [hn];exact hx
 have hsz:(Xd x.natAbs).size=(dg 256 n).length:=by rw [←hn];exact Mv n
 refine Zb<|Zg<|tt(Xh(i:=1)J J J J J J hw)J fun b _=>tt(Zq(i:=2)J J J Tryz.zeroValue48 J J hw)J fun b_2 _=>Zf<|Za<|Zb<|Zg<|as_ J J<|Zf<|Za<|Zb<|Zb<|Zg<|as_ J J<|Zf<|Za<|Zl<|Yn(Nl 70 1 3 Dk)<|Yn(Pe 70 J J pN)<|Nt [(1,_),(2,_)] [(0,_),(1,_),(2,_)](fun(q:Nat×Value)=>[(4,.int .i64(q.1:Int)),(3,q.2)])(fun(q:Nat×Value)=>[(70,d9p q.2(n/256^((dg 256 n).length-q.1)))])(fun(q:Nat×Value)=>q.1≤(dg 256 n).length)(fun(q:Nat×Value)=>(dg 256 n).length-q.1)(0,.slice none 0 0)(by first | omega | (dsimp only<;>omega))K4⟨by rw [Zs6];rfl,rfl,rfl,rfl,trivial⟩ ?_
 rintro⟨i,vd⟩hi
 dsimp only at hi
 simp only [List.cons_append,List.nil_append]
 have hnb:bl(n/256^((dg 256 n).length-i))≤bl n:=Ou(Nat.div_le_self _ _)
 refine Zb<|Zb<|Zg<|mv J J<|dt(Qa J J Zct J zT9 J J)J<|dt(Oh(i:=1)J J J iA9 J)J<|dt(Cg J J uT9)J<|dt(Xw J J J)J<|Zf<|Za<|Zp J(fun h157=>?_)(fun h157=>?_)
 ·have hby:((Xd x.natAbs).data.toList.getD i 0).toNat=n/256^((dg 256 n).length-1-i)%256:=by rw [←hn];exact Zdq n i(by omega)
  refine Zk<|Za<|Zb<|Zl<|Gc(fun _=>False) [10](by kernel_rfl)<|Zz(n:=5) [(0,0),(2,0),(3,0),(4,0),(5,0),(6,0)](by kernel_rfl)<|r0' J J J J(st0(Ym J J))<|r0' J J J J(st0(Qa J J Zct J zT9 J J))<|r0' J J J J(st0(Oh(i:=1)J J J iA9 J))<|r0' J J J J(st0(Ym J J))<|r0' J J J J(st0(Zpt(i:=i)J J J uT9 J(by omega)))<|r0' J J J J(st0(Bp J J uT5 uT3⟨by omega,by rw [hby];omega⟩))<|Yp<|Pw(n:=4)1 7(by kernel_rfl) ?_ ?_
  ·exact Yq J J(Zh(n:=73)(Zhr _ _ 256(by omega)(by omega))J J J K2 cF76(Zd 70 J J J Ze)J hw)fun v _=>Zz(n:=2) [(7,1),(8,1)](by kernel_rfl)<|r1' J J(Pr(i:=72)(ivs:=[(0,_)])(enc:=Dk) [((Xd x.natAbs).data.toList.getD i 0).toNat]J J J K2 Nx Tryz.ti3 J J J J J J pN.cells J J hw)fun v_2 _=>r1' J J(Zh(n:=2)(Lv _ _)J J J K1 Zx0(Xv 72 J J pN Ze)J hw)fun _ _=>Yp<|Zyf(Zfy 72 J J pN)<|Zyf(Zef 72(tz_one Nb(by rw [hby];omega))J J)<|Zz(n:=0) [(9,1),(10,3)](by kernel_rfl)<|r1' J J(Zh(n:=74)(Zri _ _ _ _(by have:=Zio(y:=(n/256^((dg 256 n).length-i)))(n:=256)(by omega);omega)(by rw [hby];exact Nat.le_trans(Zip _)(by omega)))J J J K2 cF75(Zd 73 J J J(Xv 72 J J pN Ze))J hw)fun v_3 _=>r3' J J(Pz(Kc J J)J J)fun _ _=>Yp<|Yj(by kernel_rfl)<|Px<|Za<|Zg<|mv J J<|dt(Ys J J J⟨by omega,by omega⟩)J<|as_ J J<|Zf<|Qv(Oa 74 70 J J J)<|Xl(i+1,_)(by first | omega | (dsimp only<;>omega))(by first | omega | (dsimp only<;>omega))K4⟨by rw [hby,Zj3(by omega)];rfl,rfl,rfl,rfl,trivial⟩
  ·exact Yq J J(Pr(i:=72)(ivs:=[(0,_)])(enc:=Dk) [((Xd x.natAbs).data.toList.getD i 0).toNat]J J J K2 Nx Tryz.ti3 J J J J J J pN.cells J J hw)fun v_4 _=>Zz(n:=2) [(1,1),(8,1)](by kernel_rfl)<|r1' J J(Zh(n:=73)(Zhr _ _ 256(by omega)(by omega))J J J K2 cF76(Zd 70 J J J Ze)J hw)fun v_5 _=>r1' J J(Zh(n:=2)(Lv _ _)J J J K1 Zx0(Xv 72 J J pN Ze)J hw)fun _ _=>Yp<|Zyf(Zfy 72 J J pN)<|Zyf(Zef 72(tz_one Nb(by rw [hby];omega))J J)<|Zz(n:=0) [(9,1),(10,3)](by kernel_rfl)<|r1' J J(Zh(n:=74)(Zri _ _ _ _(by have:=Zio(y:=(n/256^((dg 256 n).length-i)))(n:=256)(by omega);omega)(by rw [hby];exact Nat.le_trans(Zip _)(by omega)))J J J K2 cF75(Zd 73 J J J(Xv 72 J J pN Ze))J hw)fun v_6 _=>r3' J J(Pz(Kc J J)J J)fun _ _=>Yp<|Yj(by kernel_rfl)<|Px<|Za<|Zg<|mv J J<|dt(Ys J J J⟨by omega,by omega⟩)J<|as_ J J<|Zf<|Qv(Oa 74 70 J J J)<|Xl(i+1,_)(by first | omega | (dsimp only<;>omega))(by first | omega | (dsimp only<;>omega))K4⟨by rw [hby,Zj3(by omega)];rfl,rfl,rfl,rfl,trivial⟩
 ·refine Yu<|Zt<|Zt<|Ov<|Za<|Zb ?_
  obtain rfl:i=(dg 256 n).length:=by omega
  rw [Nat.sub_self,Nat.pow_zero,Nat.div_one]
  exact Zg<|dt(Qa J J Zct J zT4 J J)J<|dt(Oh(i:=1)J J J iA4 J)J<|mv J J<|tt(Zh(n:=2)(Bn _ _ _(x)hn(Xm x)(by rw [hn];omega))J J J K2 Zu4(Zd 70 J J J Ze)J hw)J fun _ _=>tt(Zm(i:=2)J J J J J(by decide)J Ql J J⟨Zc J,Zr(i:=70)J Zi,trivial⟩J hw trivial)J fun _ _=>Zf<|Za<|Zw<|Zy(.inl J)hsc _ _(fun a w hs=>Qi hs Tryz.results30(Yr(i:=2)J J Ka Ql J))J trivial J(Yk 70 J J J(by rw [hn]<;>rfl)Zj)
set_option maxHeartbeats 4000000 in
theorem r_to(v:Value)(x:Int)(hx:bl x.natAbs≤4000000000):Cal Tryz.prog 53#[.agg#[.bool(decide(x<0)),v]] [d9p v x.natAbs]false(G:=Unit)(fun _=>True)(fun _=>wv x)(fun _=>[]):=by
 refine Yc Tryz.func53 J Tryz.ntmps53 J K1 ?_
 intro w0 sc hw hsc
 simp only [Zo,Zn]
 obtain⟨n,hn⟩:∃n,n=x.natAbs:=⟨_,rfl⟩
 have hxn:bl n≤4000000000:=by rw [hn];exact hx
 have hlx:=Km x.natAbs
 refine Zb<|Zg<|tt(Xh(i:=2)J J J J J J hw)J fun b _=>tt(Zq(i:=3)J J J Tryz.zeroValue31 J J hw)J fun b_2 _=>Zf<|Za<|Zb<|Zg<|as_ J J<|Zf<|Za<|Zb<|Zg<|dt(Qa J J Aq J Ziu J J)J<|dt(Oh(i:=2)J J J Zjy J)J<|Pt(Nl 81 1 3 Dk)<|tt(Kq(i:=81)(j:=1)(by_:=8)J J J J J J(by decide)J Zi Nx Tryz.ti3 J pN J J J(by simp;omega)(by decide)J hw)J fun v _=>as_ J J<|Zf<|Za<|Zb<|Zl<|Yn(Nl 80 1 5 Zp3)<|Nt [(1,_),(2,_)] [(0,_),(1,_),(2,_),(3,_)](fun(q:Nat×List Nat×Value×Value)=>[(3,q.2.2.1),(4,q.2.2.2)])(fun(q:Nat×List Nat×Value×Value)=>[(80,osl 1 5 Zp3 q.2.2.1 q.2.1),(81,osl 1 3 Dk q.2.2.2(dg 1000000000 q.1))])(fun(q:Nat×List Nat×Value×Value)=>(val 256 q.2.1+256^q.2.1.length*q.1=n)∧(∀d∈q.2.1,d<256)∧(q.2.1.length=0∨256^(q.2.1.length-1)≤n)∧(bl q.1≤bl n))(fun(q:Nat×List Nat×Value×Value)=>q.1)(n,[],.slice none 0 0,_)⟨by simp [val],by simp,.inl rfl,Nat.le_refl _⟩K4⟨J,by rw [hn];rfl,rfl,rfl,rfl,rfl,trivial⟩ ?_
 rintro⟨m,bs,vb,vd⟩⟨hv,hba,hge,hmn⟩
 dsimp only at hv hba hge hmn
 simp only [List.cons_append,List.nil_append]
 have hlm:=Km m
 refine Zb<|Zb<|Zg<|mv J J<|dt(Ya J J(i:=81)J(Yo pN)Nx)J<|dt(Ot J J J)J<|Zf<|Za<|Zp J(fun h167=>?_)(fun h167=>?_)
 ·have hm0:0<m:=Zh8(by omega)
  have hgn:=to_ge hv hm0
  have hbl:=to_len hgn
  refine Zk<|Za<|Zl<|Zb<|Zg<|as_ J J<|Zf<|Za<|Zb<|Zb<|Zg<|mv J J<|dt(Ya J J(i:=81)J(Yo pN)Nx)J<|dt(Qb J J J⟨by omega,by omega⟩)J<|as_ J J<|Zf<|Za<|Zl<|Nt [(1,_),(2,_),(3,_),(4,_)] [(0,_),(80,_),(1,_),(2,_),(3,_)](fun(q:Nat×List Nat×Nat)=>[(6,.int .i64((q.1:Int)-1)),(5,.int .i64(q.2.2:Int))])(fun(q:Nat×List Nat×Nat)=>[(81,osl 1 3 Dk vd q.2.1)])(fun(q:Nat×List Nat×Nat)=>(q.1≤(dg 1000000000 m).length)∧(q.2.1.length=(dg 1000000000 m).length)∧(∀d∈q.2.1,d<1000000000)∧(∀j,j<q.1→q.2.1.getD j 0=(dg 1000000000 m).getD j 0)∧(q.2.2<256)∧(val 1000000000(q.2.1.drop q.1)*256+q.2.2=val 1000000000((dg 1000000000 m).drop q.1)))(fun(q:Nat×List Nat×Nat)=>q.1)((dg 1000000000 m).length,dg 1000000000 m,0)⟨Nat.le_refl _,J,Lh Nb m,fun j _=>J,by first | omega | (dsimp only<;>omega),by simp [List.drop_length,val]⟩K6 K6 ?_
  rintro⟨k,p,r⟩⟨hk,hpl,hpa,hpk,hr,hpv⟩
  dsimp only at hk hpl hpa hpk hr hpv
  simp only [List.cons_append,List.nil_append]
  have hda:=Qm Hj(Lh Nb m)(k-1)
  refine Zb<|Zb<|Zg<|mv J J<|dt(Lq J J J)J<|Zf<|Za<|Zp J(fun h169=>?_)(fun h169=>?_)
  ·refine Zk<|Za<|Zb<|Zl<|Zb<|Zg<|mv J J<|dt(n_mul(n:=1000000000)J J J(by omega))J<|mv J J<|mv J J<|dt(Yw(ii:=81)(i:=(k-1))J J J J(Yo pN)Nx zT3(by omega)(by omega))J<|dt(Xn(ii:=81)0 J J J(Yo pN)pN(by omega))J<|dt(Zh3 J J J(by have:=Qm Hj hpa(k-1);omega))J<|as_ J J<|Zf<|Za<|Zb<|Zg<|mv J J<|mv J J<|mv J J<|dt(Zlq(n:=256)J J J(by have:=Qm Hj hpa(k-1);omega)(by omega))J<|dt(Yw(ii:=81)(i:=(k-1))J J J J(Yo pN)Nx zT3(by omega)(by omega))J<|tt(Ky(i:=81)(enc:=Dk)_ J J J J J J(by decide)pN(by omega)J hw)J fun _ _=>Zf<|Za<|Zg<|mv J J<|dt(Zsg(n:=256)J J J(by omega))J<|as_ J J<|Zf<|Px<|Za<|Zg<|mv J J<|dt(Qb J J J⟨by omega,by omega⟩)J<|as_ J J<|Zf ?_
   exact Xl(k-1,_,_)⟨by first | omega | (dsimp only<;>omega),by simp [hpl],Ll hpa _ _(Zvd hr(Qm Hj hpa _)),fun j hj=>by dsimp only at hj ⊢;rw [Nk _ _ _ _ _(by omega),if_neg(by omega)];exact hpk j(by omega),Nat.mod_lt _(by omega),by dsimp only;rw [hpk(k-1)(by omega)];exact to_step(by omega)(by omega)(by omega)hpv⟩(by first | omega | (dsimp only<;>omega))⟨by rw [show(((k-1:Nat):Int)-1)=(k:Int)-1-1 by omega];rfl,rfl,rfl,rfl,rfl,rfl,trivial⟩K6
  ·refine Yu<|Zt<|Zt<|Ov<|Za<|Zb ?_
   obtain rfl:k=0:=by omega
   rw [List.drop_zero,List.drop_zero,Mx Nb]at hpv
   have hmr:m%256=r%256:=by omega
   have hdm:dg 1000000000(m/256)=tz p:=by rw [←Ki Nb p hpa];congr 1;omega
   exact Zg<|mv J J<|mv J J<|dt(Zfo J J uT3 uT5)J<|tt(Pr(i:=4)(ivs:=[(0,_)])(enc:=Zp3) [r%256]J J J K2 Zkq Tryz.ti5 J J J J J J pB.cells J J hw)J fun v_2 _=>tt(Kq(i:=80)(j:=4)(by_:=1)J J J J J J(by decide)J(Yo pB)Zkq Tryz.ti5 J pB J J J(by simp;omega)(by decide)J hw)J fun v_3 _=>as_ J J<|Zf<|Za<|Zg<|mv J J<|tt(Zh(n:=4)(Lv _ _)J J J K1 Zx0(Xv 81 J J pN Ze)J hw)J fun _ _=>Pt(Zfy 81 J J pN)<|as_ J J<|Zf<|Px<|Xl(m/256,bs ++ [m%256],_,_)⟨to_push hv,Zir hba(Nat.mod_lt _(by omega)),.inr(by simpa using hgn),Nat.le_trans(Ou(Nat.div_le_self _ _))hmn⟩(Nat.div_lt_self hm0(by omega))K4⟨by rw [hmr];rfl,by rw [hdm];rfl,rfl,rfl,rfl,rfl,trivial⟩
 ·have hm0:m=0:=(Ph Nb m).1(by omega)
  have hbs:bs=dg 256 n:=Zql(by omega)hba(by rw [hm0,Nat.mul_zero,Nat.add_zero]at hv;exact hv)hge
  have hlb:bs.length≤4000000000:=by rw [hbs,Zav];omega
  refine Yu<|Zt<|Zt<|Ov<|Za<|Zb<|Zg<|as_ J J<|Zf<|Za<|Zb<|Zb<|Zg<|mv J J<|dt(Ya J J(i:=80)J(Yo pB)Zkq)J<|dt(Qb J J J⟨by omega,by omega⟩)J<|as_ J J<|Zf<|Za<|Zl<|Yn(Nl 82 1 5 Zp3)<|Nt [(1,_),(2,_),(3,_)] [(0,_),(80,_),(81,_),(1,_),(2,_),(3,_)](fun(q:Nat×Value)=>[(8,.int .i64((q.1:Int)-1)),(7,q.2)])(fun(q:Nat×Value)=>[(82,osl 1 5 Zp3 q.2(bs.drop q.1).reverse)])(fun(q:Nat×Value)=>q.1≤bs.length)(fun(q:Nat×Value)=>q.1)(bs.length,.slice none 0 0)(Nat.le_refl _)K5⟨by rw [List.drop_length];rfl,rfl,rfl,rfl,rfl,rfl,rfl,trivial⟩ ?_
  rintro⟨k,vo⟩hk
  dsimp only at hk
  simp only [List.cons_append,List.nil_append]
  have hdl:(bs.drop k).length=bs.length-k:=List.length_drop
  refine Zb<|Zb<|Zg<|mv J J<|dt(Lq J J J)J<|Zf<|Za<|Zp J(fun h178=>?_)(fun h178=>?_)
  ·exact Zk<|Za<|Zb<|Zl<|Zg<|mv J J<|mv J J<|mv J J<|dt(Yw(ii:=80)(i:=(k-1))J J J J(Yo pB)Zkq zT5(by omega)(by omega))J<|dt(Xn(ii:=80)0 J J J(Yo pB)pB(by omega))J<|tt(Pr(i:=5)(ivs:=[(0,_)])(enc:=Zp3) [bs.getD(k-1)0]J J J K2 Zkq Tryz.ti5 J J J J J J pB.cells J J hw)J fun v_4 _=>tt(Kq(i:=82)(j:=5)(by_:=1)J J J J J J(by decide)J(Yo pB)Zkq Tryz.ti5 J pB J J J(by simp;omega)(by decide)J hw)J fun v_5 _=>as_ J J<|Zf<|Px<|Za<|Zg<|mv J J<|dt(Qb J J J⟨by omega,by omega⟩)J<|as_ J J<|Zf<|Xl(k-1,_)(by first | omega | (dsimp only<;>omega))(by first | omega | (dsimp only<;>omega))⟨by rw [show(((k-1:Nat):Int)-1)=(k:Int)-1-1 by omega];rfl,rfl,rfl,rfl,rfl,trivial⟩⟨by rw [←Zxn(by omega)hk];rfl,rfl,rfl,rfl,rfl,rfl,rfl,trivial⟩
  ·refine Yu<|Zt<|Zt<|Ov<|Za<|Zb<|Zg<|dt(Qa J J Aq J zT4 J J)J<|dt(Oh(i:=2)J J J iA4 J)J<|mv J J<|dt(d_b2s J J(i:=82)J(Yo pB)Zkq uT9 uT5)J<|dt(Oo(ivs:=[(0,_),(1,_)])J K4(fun a w hs=>Zuu((Zc J)a w hs)((Zc J)a w hs)))J<|tt(Zm(i:=3)J J J J J(by decide)J Yl J J⟨Zc J,Zc J,trivial⟩J hw trivial)J fun _ _=>Zf<|Za<|Zw ?_
   obtain rfl:k=0:=by omega
   exact Zy(.inl J)hsc()_(fun a w hs=>Qi hs Tryz.results53(Yr(i:=3)J J Qq Yl J))(by rw [bstr_bs hbs,hn]<;>rfl)trivial J Zj
theorem r_bits(v:Value)(x:Int)(hx:bl x.natAbs≤4000000000):Cal Tryz.prog 97#[.agg#[.bool(decide(x<0)),v]] [d9p v x.natAbs]false(G:=Unit)(fun _=>True)(fun _=> .int .i64(bl x.natAbs:Int))(fun _=>[]):=by
 refine Yc Tryz.func97 J Tryz.ntmps97 J K1 ?_
 intro w0 sc hw hsc
 simp only [Zo,Zn]
 have hl8:=Zav x.natAbs
 have hsz:=Mv x.natAbs
 refine Zb<|Zg<|tt(Xh(i:=2)J J J J J J hw)J fun b _=>as_ J J<|Zf<|Za<|Zb<|Zg<|dt(Yb(i:=2)J J J Ka Ql J J)J<|tt(Zh(n:=2)(r_to _ _ hx)J J J K1 cF53(Zd 1 J J J Ze)J hw)J fun _ _=>dt(d_fld J J Zct J iA9 J)J<|as_ J J<|Zf<|Za<|Zb<|Zb<|Zg<|mv J J<|dt(Cg J J uT9)J<|dt(Pm J J J)J<|Zf<|Za<|Zp J(fun h260=>?_)(fun h260=>?_)
 ·exact Zb<|Zg<|as_ J J<|Zf<|Za<|Zw<|Xe<|Zy(.inl J)hsc()_(fun a w hs=>Qi hs Tryz.results97 J)(by have h1:x.natAbs=0:=(Ph(by omega:2≤256)x.natAbs).1(by omega);rw [h1]<;>rfl)trivial J Zj
 ·have hn0:0<x.natAbs:=by rcases Nat.eq_zero_or_pos x.natAbs with h | h;(rw [h]at h260;simp [Mv,Ig]at h260);exact h
  obtain⟨htop,hlp⟩:=bl_top hn0
  have hby:((Xd x.natAbs).data.toList.getD 0 0).toNat=x.natAbs/256^((dg 256 x.natAbs).length-1)%256:=Zdq x.natAbs 0 hlp
  refine Zk<|Za<|Zb<|Zg<|mv J J<|dt(Cg J J uT9)J<|dt(Qb J J J⟨by omega,by omega⟩)J<|dt(Gi J J J⟨by omega,by omega⟩)J<|as_ J J<|Zf<|Za<|Zb<|Zb<|Zg<|mv J J<|dt(Zpt(i:=0)J J J uT9 J(by omega))J<|dt(Bp J J uT5 uT3⟨by omega,by rw [hby];omega⟩)J<|as_ J J<|Zf<|Za<|Zl<|Nt [] [(0,_),(1,_),(2,_)](fun(q:Nat×Nat)=>[(4,.int .i64(q.2:Int)),(5,.int .i64(q.1:Int))])(fun(q:Nat×Nat)=>[])(fun(q:Nat×Nat)=>(q.2+bl q.1=bl x.natAbs)∧(q.1<256))(fun(q:Nat×Nat)=>q.1)(x.natAbs/256^((dg 256 x.natAbs).length-1)%256,8*((dg 256 x.natAbs).length-1))⟨htop,Nat.mod_lt _(by omega)⟩⟨by rw [hsz,show(8:Int)*(((dg 256 x.natAbs).length:Int)-1)=((8*((dg 256 x.natAbs).length-1):Nat):Int)by omega];rfl,by rw [hby];rfl,trivial⟩K3 ?_
  rintro⟨k,c⟩⟨hkc,hk8⟩
  dsimp only at hkc hk8
  simp only [List.cons_append,List.nil_append]
  refine Zb<|Zb<|Zg<|mv J J<|dt(Ot J J J)J<|Zf<|Za<|Zp J(fun h264=>?_)(fun h264=>?_)
  ·have hbh:=bl_half(k:=k)(by omega)
   exact Zk<|Za<|Zb<|Zl<|Zg<|mv J J<|dt(Ys J J J⟨by omega,by omega⟩)J<|as_ J J<|Zf<|Px<|Za<|Zg<|mv J J<|dt(Zie J J J(by omega)(by omega)(by omega))J<|as_ J J<|Zf<|Xl(k/2,c+1)⟨by dsimp only;omega,by first | omega | (dsimp only<;>omega)⟩(by first | omega | (dsimp only<;>omega))⟨by rfl,by exact congrArg some(Dj(by omega)),trivial⟩K3
  ·exact Yu<|Zt<|Zt<|Ov<|Za<|Zb<|Zg<|mv J J<|as_ J J<|Zf<|Za<|Zw<|Zy(.inl J)hsc()_(fun a w hs=>Qi hs Tryz.results97 J)(by have h1:k=0:=(by omega);rw [←hkc,h1]<;>rfl)trivial J Zj
theorem r_gcd(v w:Value)(x y:Int)(hx:bl x.natAbs≤3000000000)(hy:bl y.natAbs≤3000000000):Cal Tryz.prog 71#[.agg#[.bool(decide(x<0)),v],.agg#[.bool(decide(y<0)),w]] [d9p v x.natAbs,d9p w y.natAbs]true(G:=Value)(fun r=>True)(fun r=> .agg#[.bool(decide((Int.gcd x y:Int)<0)),r])(fun r=>[d9p r((Int.gcd x y:Int)).natAbs]):=by
 refine Yc Tryz.func71 J Tryz.ntmps71 J K2 ?_
 intro w0 sc hw hsc
 simp only [Zo,Zn]
 refine Zb<|Zg<|tt(Xh(i:=3)J J J J J J hw)J fun b _=>tt(Xh(i:=4)J J J J J J hw)J fun b_2 _=>tt(Zq(i:=5)J J J Tryz.zeroValue48 J J hw)J fun b_3 _=>Zf<|Za<|Zb<|Qr(fun _=>False) [(0,0),(1,0),(2,0),(3,0),(4,0),(5,3)](by kernel_rfl) ?_ ?_
 ·kernel_rfl
 refine r0' J J J J(st0(Qa J J Aq J Ziu J J))<|r0' J J J J(st0(Oh(i:=3)J J J Zjy J))<|r0' J J J J(st0(Qa J J Aq J Ziu J J))<|r0' J J J J(st0(Oh(i:=4)J J J Zjy J))<|r0' J J J J(st0(Kc J J))<|r3' J J(Pz(Kc J J)J J)fun _ _=>Oj<|Za<|Zb<|Zl<|Yn(Oa 1 91 J J J)<|Yn(Oa 2 92 J J J)<|Nt [(4,_)] [(0,_),(1,_),(2,_),(3,_),(4,_),(5,_)](fun(q:Value×Value×Nat×Nat)=>[(5,q.1),(6,q.2.1)])(fun(q:Value×Value×Nat×Nat)=>[(91,d9p q.1 q.2.2.1),(92,d9p q.2.1 q.2.2.2)])(fun(q:Value×Value×Nat×Nat)=>(Nat.gcd q.2.2.1 q.2.2.2=Nat.gcd x.natAbs y.natAbs)∧(bl q.2.2.1≤3000000000)∧(bl q.2.2.2≤3000000000))(fun(q:Value×Value×Nat×Nat)=>q.2.2.2)(v,w,x.natAbs,y.natAbs)⟨J,hx,hy⟩K3 K8 ?_
 rintro⟨va,vb,a,b⟩⟨hg,ha,hb⟩
 dsimp only at hg ha hb
 simp only [List.cons_append,List.nil_append]
 refine Zb<|Zb<|Zg<|mv J J<|dt(Ya J J(i:=92)J Zi Nx)J<|dt(Ot J J J)J<|Zf<|Za<|Zp J(fun h238=>?_)(fun h238=>?_)
 ·have hb0:0<b:=Zh8(by omega)
  refine Zk<|Za<|Zl<|Zb<|Zg<|mv J J<|mv J J<|tt(Zh(n:=6)(r_over _ _ _ _(by omega)(by omega)hb0)J J J K2 cF124(Zd 91 J J J(Zd 92 J J J Ze))J hw)J fun g _=>mv J J<|dt(Yg J J J)J<|dt(Yg J J J)J<|as_ J J<|as_ J J<|Zf<|Za<|Zg<|mv J J<|mv J J<|as_ J J<|as_ J J<|Zf<|Px ?_
  have hlt:a%b<b:=Nat.mod_lt _ hb0
  exact Qv(Oa 92 91 J J J)<|Qv(Oa 7 92 J J J)<|Xl(_,_,b,a%b)⟨by dsimp only;rw [←hg,Nat.gcd_comm b,←Nat.gcd_rec,Nat.gcd_comm],hb,Nat.le_trans(Ou(Nat.le_of_lt hlt))hb⟩hlt K3 K8
 ·have hb0:b=0:=(Ph Nb b).1(by omega)
  have ha0:a=Nat.gcd x.natAbs y.natAbs:=by rw [←hg,hb0,Nat.gcd_zero_right]
  exact Yu<|Zt<|Zt<|Ov<|Za<|Zb<|Zg<|mv J J<|tt(Zh(n:=7)(Bn _ _ _((Int.gcd x y:Int))(by rw [ha0]<;>rfl)(by simp [sg])(by omega))J J J K2 Zu4(Zd 91 J J J Ze)J hw)J fun _ _=>tt(Zm(i:=5)J J J J J(by decide)J Ql J J⟨Zc J,Zr(i:=91)J Zi,trivial⟩J hw trivial)J fun _ _=>Zf<|Za<|Zw<|Zy(.inl J)hsc _ _(fun a w hs=>Qi hs Tryz.results71(Yr(i:=5)J J Ka Ql J))J trivial J(Yk 91 J J J(by rw [ha0]<;>rfl)Zj)
set_option maxHeartbeats 4000000 in
theorem Fc(v w:Value)(x y:Int)(hx:bl x.natAbs≤500000000)(hy:bl y.natAbs≤500000000)(hy0:y≠0):Cal Tryz.prog 74#[.agg#[.bool(decide(x<0)),v],.agg#[.bool(decide(y<0)),w]] [d9p v x.natAbs,d9p w y.natAbs]true(G:=Value×Value)(fun r=>True)(fun r=> .tuple#[.agg#[.bool(decide(x/y<0)),r.1],.agg#[.bool(decide(x%y<0)),r.2]])(fun r=>[d9p r.1(x/y).natAbs,d9p r.2(x%y).natAbs]):=by
 refine Yc Tryz.func74 J Tryz.ntmps74 J K2 ?_
 intro w0 sc hw hsc
 simp only [Zo,Zn]
 have hyp:0<y.natAbs:=by omega
 have hb1:=bl_tdiv x y
 have hb2:=Zpy x y
 have hb3:=Dh x(x.tdiv y*y)
 have hsf:=sub_fix(x:=x)hy0
 have hb4:=Dh(x.tdiv y)1
 have hb5:=Kp(x.tdiv y)1
 have hb6:bl(1:Int).natAbs≤1:=by decide
 have hb7:=Xy(x.tdiv y-1)y
 have hb8:=Xy(x.tdiv y+1)y
 refine Zb<|Zg<|tt(Xh(i:=3)J J J J J J hw)J fun b _=>tt(Xh(i:=4)J J J J J J hw)J fun b_2 _=>tt(Zq(i:=5)J J J Tryz.zeroValue48 J J hw)J fun b_3 _=>tt(Zq(i:=6)J J J Tryz.zeroValue48 J J hw)J fun b_4 _=>Zf<|Za<|Zb<|Zg<|dt(Qa J J Aq J Ziu J J)J<|dt(Oh(i:=3)J J J Zjy J)J<|dt(Qa J J Aq J Ziu J J)J<|dt(Oh(i:=4)J J J Zjy J)J<|tt(Zh(n:=70)(r_over _ _ _ _(by omega)(by omega)hyp)J J J K2 cF124(Zd 1 J J J(Zd 2 J J J Ze))J hw)J fun g _=>mv J J<|dt(Yg J J J)J<|dt(Yg J J J)J<|as_ J J<|as_ J J<|Zf<|Za<|Zb<|Zg<|dt(Qa J J Aq J zT4 J J)J<|dt(Oh(i:=3)J J J iA4 J)J<|dt(Qa J J Aq J zT4 J J)J<|dt(Oh(i:=4)J J J iA4 J)J<|dt(Zmb J J J uT4)J<|mv J J<|tt(Zh(n:=6)(Bn _ _ _(x.tdiv y)(Zg0 x y)(sg_tdiv x y)(by rw [Zg0];omega))J J J K2 Zu4(Zd 70 J J J Ze)J hw)J fun _ _=>Pt(Gh 70(congrArg(d9p _)(Zg0 x y))J J)<|tt(Zq(i:=97)J J J Tryz.zeroValue48 J J hw)J fun b_5 _=>tt(Zm(i:=97)J J J J J(by decide)J Ql J J⟨Zc J,Zr(i:=70)J Zi,trivial⟩J hw trivial)J fun _ _=>Zf<|Za ?_
 refine Dc [(2,_),(3,_),(4,_),(5,_),(7,_),(8,_)] [(0,_),(1,_),(2,_),(3,_),(4,_),(5,_),(6,_),(70,_),(71,_),(97,_)](fun(q:Value×Nat)=>[(9,.pointer(some⟨q.2,0,none⟩))])(fun(q:Value×Nat)=>[(72,d9p q.1(x-x.tdiv y*y).natAbs),(98,box q.2 48#[.bool(decide((x-x.tdiv y*y)<0)),q.1])])(fun(q:Value×Nat)=>True)K6 K10 ?_ ?_
 ·refine Gc(fun _=>False) [6](by kernel_rfl)<|Zz(n:=4) [(0,0),(1,0),(2,0)](by kernel_rfl)<|r0' J J J J(st0(Yb(i:=3)J J J Ka Ql J J))<|r0' J J J J(st0(Yb(i:=97)J J J Ka Ql J J))<|r0' J J J J(st0(Yb(i:=4)J J J Ka Ql J J))<|Yp<|Pw(n:=3)3 5(by kernel_rfl) ?_ ?_
  ·refine Yq J J(Zh(n:=73)(Zaj _ _ _ _(by omega)(by omega))J J J K2 Zov(Zd 70 J J J(Zd 2 J J J Ze))J hw)fun v _=>Pw(n:=2)4 5(by kernel_rfl) ?_ ?_
   ·exact Yq J J(Zh(n:=72)(Zk8 _ _ _ _(by omega)(by omega))J J J K2 cF87(Zd 1 J J J(Zd 73 J J J Ze))J hw)fun v_2 _=>Zz(n:=0) [(5,1),(6,3)](by kernel_rfl)<|r1' J J(Zq(i:=98)J J J Tryz.zeroValue48 J J hw)fun b_6 _=>r3' J J(Zm(i:=98)J J J J J(by decide)J Ql J J⟨Zc J,Zr(i:=72)J Zi,trivial⟩J hw trivial)fun _ _=>Yp<|Yj(by kernel_rfl)<|Qy(_,_)trivial K7 K12
   ·exact Yq J J(Zq(i:=98)J J J Tryz.zeroValue48 J J hw)fun b_7 _=>Zz(n:=0) [(4,1),(6,3)](by kernel_rfl)<|r1' J J(Zh(n:=72)(Zk8 _ _ _ _(by omega)(by omega))J J J K2 cF87(Zd 1 J J J(Zd 73 J J J Ze))J hw)fun v_3 _=>r3' J J(Zm(i:=98)J J J J J(by decide)J Ql J J⟨Zc J,Zr(i:=72)J Zi,trivial⟩J hw trivial)fun _ _=>Yp<|Yj(by kernel_rfl)<|Qy(_,_)trivial K7 K12
  ·exact Yq J J(Zq(i:=98)J J J Tryz.zeroValue48 J J hw)fun b_8 _=>Zz(n:=0) [(3,1),(4,1),(6,3)](by kernel_rfl)<|r1' J J(Zh(n:=73)(Zaj _ _ _ _(by omega)(by omega))J J J K2 Zov(Zd 70 J J J(Zd 2 J J J Ze))J hw)fun v_4 _=>r1' J J(Zh(n:=72)(Zk8 _ _ _ _(by omega)(by omega))J J J K2 cF87(Zd 1 J J J(Zd 73 J J J Ze))J hw)fun v_5 _=>r3' J J(Zm(i:=98)J J J J J(by decide)J Ql J J⟨Zc J,Zr(i:=72)J Zi,trivial⟩J hw trivial)fun _ _=>Yp<|Yj(by kernel_rfl)<|Qy(_,_)trivial K7 K12
 ·rintro⟨vr,b9⟩ -
  simp only [List.cons_append,List.nil_append]
  refine Dc [(4,_),(5,_),(7,_),(8,_),(9,_)] [(0,_),(72,_),(1,_),(2,_),(3,_),(4,_),(5,_),(6,_),(70,_),(71,_)](fun(q:Value×Value)=>[])(fun(q:Value×Value)=>[(75,d9p q.1(x/y).natAbs),(76,d9p q.2(x%y).natAbs),(97,box b_5 48#[.bool(decide(x/y<0)),q.1]),(98,box b9 48#[.bool(decide(x%y<0)),q.2])])(fun(q:Value×Value)=>True)K5 K10 ?_ ?_
  ·refine Zb<|Zg<|dt(Yb(i:=98)J J J Ka Ql J J)J<|tt(Zh(n:=6)(Zah _ _(by omega))J J J K1 Zx1(Zd 72 J J J Ze)J hw)J fun _ _=>dt(Xw J J J)J<|Zf<|Za<|Zp J(fun h223=>?_)(fun h223=>?_)
   ·have hrn:x.tmod y<0:=by rw [←hsf];exact(Qk _).1 h223
    refine Zb<|Zb<|Zg<|dt(Yb(i:=4)J J J Ka Ql J J)J<|tt(Zh(n:=6)(Zah _ _(by omega))J J J K1 Zx1(Zd 2 J J J Ze)J hw)J fun _ _=>dt(Ot J J J)J<|Zf<|Za<|Zp J(fun h224=>?_)(fun h224=>?_)
    ·have hyp0:0<y:=by have h2:=decide_eq_decide.1(Gq y);omega
     obtain⟨hq,hr⟩:=quo_pos hyp0 hrn
     refine Qr(fun _=>False) [(0,0),(1,1),(2,3),(3,3)](by kernel_rfl) ?_ ?_
     ·kernel_rfl
     refine r0' J J J J(st0(Yb(i:=97)J J J Ka Ql J J))<|r1' J J(Zh(n:=7)(Zjj 1⟨by omega,by omega⟩)J J J K1 cF34 Ze J hw)fun v_6 _=>r3' J J(Zh(n:=8)(Zk8 _ _ _ _(by omega)(by omega))J J J K2 cF87(Zd 70 J J J(Zd 7 J J J Ze))J hw)fun v_7 _=>r3' J J(Zm(i:=97)J J J J J(by decide)J Ql J J⟨Zc J,Zr(i:=8)J Zi,trivial⟩J hw trivial)fun _ _=>Oj<|Za<|Qr(fun _=>False) [(0,0),(1,0),(2,0),(3,1),(4,1),(5,3)](by kernel_rfl) ?_ ?_
     ·kernel_rfl
     exact r0' J J J J(st0(Yb(i:=3)J J J Ka Ql J J))<|r0' J J J J(st0(Yb(i:=97)J J J Ka Ql J J))<|r0' J J J J(st0(Yb(i:=4)J J J Ka Ql J J))<|r1' J J(Zh(n:=9)(Zaj _ _ _ _(by omega)(by omega))J J J K2 Zov(Zd 8 J J J(Zd 2 J J J Ze))J hw)fun v_8 _=>r1' J J(Zh(n:=10)(Zk8 _ _ _ _(by omega)(by omega))J J J K2 cF87(Zd 1 J J J(Zd 9 J J J Ze))J hw)fun v_9 _=>r3' J J(Zm(i:=98)J J J J J(by decide)J Ql J J⟨Zc J,Zr(i:=10)J Zi,trivial⟩J hw trivial)fun _ _=>Oj<|Qv(Oa 8 75 J J J)<|Qv(Oa 10 76 J J J)<|Qy(v_7,v_9)trivial K5⟨by rw [hq];rfl,by rw [hr];rfl,by rw [hq];rfl,by rw [hr];rfl,rfl,rfl,rfl,rfl,rfl,rfl,rfl,rfl,rfl,rfl,trivial⟩
    ·have hyn0:y<0:=by have h2:=decide_eq_decide.1(Gq y);omega
     obtain⟨hq,hr⟩:=quo_neg hyn0 hrn
     refine Qr(fun _=>False) [(0,0),(1,1),(2,3),(3,3)](by kernel_rfl) ?_ ?_
     ·kernel_rfl
     refine r0' J J J J(st0(Yb(i:=97)J J J Ka Ql J J))<|r1' J J(Zh(n:=11)(Zjj 1⟨by omega,by omega⟩)J J J K1 cF34 Ze J hw)fun v_10 _=>r3' J J(Zh(n:=12)(Zrk _ _ _ _(by omega)(by omega))J J J K2 cF37(Zd 70 J J J(Zd 11 J J J Ze))J hw)fun v_11 _=>r3' J J(Zm(i:=97)J J J J J(by decide)J Ql J J⟨Zc J,Zr(i:=12)J Zi,trivial⟩J hw trivial)fun _ _=>Oj<|Za<|Qr(fun _=>False) [(0,0),(1,0),(2,0),(3,1),(4,1),(5,3)](by kernel_rfl) ?_ ?_
     ·kernel_rfl
     exact r0' J J J J(st0(Yb(i:=3)J J J Ka Ql J J))<|r0' J J J J(st0(Yb(i:=97)J J J Ka Ql J J))<|r0' J J J J(st0(Yb(i:=4)J J J Ka Ql J J))<|r1' J J(Zh(n:=13)(Zaj _ _ _ _(by omega)(by omega))J J J K2 Zov(Zd 12 J J J(Zd 2 J J J Ze))J hw)fun v_12 _=>r1' J J(Zh(n:=14)(Zk8 _ _ _ _(by omega)(by omega))J J J K2 cF87(Zd 1 J J J(Zd 13 J J J Ze))J hw)fun v_13 _=>r3' J J(Zm(i:=98)J J J J J(by decide)J Ql J J⟨Zc J,Zr(i:=14)J Zi,trivial⟩J hw trivial)fun _ _=>Oj<|Qv(Oa 12 75 J J J)<|Qv(Oa 14 76 J J J)<|Qy(v_11,v_13)trivial K5⟨by rw [hq];rfl,by rw [hr];rfl,by rw [hq];rfl,by rw [hr];rfl,rfl,rfl,rfl,rfl,rfl,rfl,rfl,rfl,rfl,rfl,trivial⟩
   ·have hrn:¬x.tmod y<0:=by rw [←hsf];exact fun h=>h223((Qk _).2 h)
    obtain⟨hq,hr⟩:=Zwi hy0 hrn
    rw [←hsf]at hr
    exact Zk<|Qv(Oa 70 75 J J J)<|Qv(Oa 72 76 J J J)<|Qy(g.1,vr)trivial K5⟨by rw [hq];rfl,by rw [hr];rfl,by rw [hq];rfl,by rw [hr];rfl,rfl,rfl,rfl,rfl,rfl,rfl,rfl,rfl,rfl,rfl,trivial⟩
  ·rintro⟨v8,v9⟩ -
   simp only [List.cons_append,List.nil_append]
   exact Zb<|Zg<|mv J J<|Zf<|Za<|Zb<|On [97,98] [3](by kernel_rfl)<|Zz(n:=0) [(0,0),(1,0),(2,1),(3,3)](by kernel_rfl)<|r0' J J J J(stf(Yb(i:=97)J J J Ka Ql J J)K2)<|r0' J J J J(stf(Yb(i:=98)J J J Ka Ql J J)K2)<|r1' J J(Zd3 5 J J K2(fun hoffb=>(Zm(i:=5)J J J J J(by decide)J Ql J J⟨Zc J,Zr(i:=75)J Zi,trivial⟩J hw hoffb)))fun _ _=>r3' J J(Zm(i:=6)J J J J J(by decide)J Ql J J⟨Zc J,Zr(i:=76)J Zi,trivial⟩J hw trivial)fun _ _=>Yp<|Yj(by kernel_rfl)<|Za<|Zw<|Zy(.inl J)hsc(_,_)_(fun a w hs=>No hs Tryz.results74(Yr(i:=5)J J Ka Ql J)(Yr(i:=6)J J Ka Ql J))J trivial J(Xa 75 J J J(Xa 76 J J J Zj))
end Go.Sky

