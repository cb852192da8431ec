/- rules, arithmetic and contracts: part 6
   Proved without conditions of its own: each theorem bears its own. -/
import Derived.Test.YtcmiiammekgooaaGreatSo03
import Derived.Test.YtcmiiammekgooaaGreatSo02
import Derived.Test.YtcmiiammekgooaaGreatSo01
import Derived.Test.YtcmiiammekgooaaGreatSo04
set_option linter.all false
namespace Go.Sky
open Go.Proofs
set_option maxRecDepth 20000
set_option maxHeartbeats 4000000
set_option linter.unusedVariables false
set_option linter.unusedSimpArgs false
theorem Fl(b:Bool)(s:ByteArray):Cal Tryz.prog 103#[.agg#[.bool b,.string s]] []false(G:=Unit)(fun _=>True)(fun _=> .bool(okW b s))(fun _=>[]):=by
 refine Yc Tryz.func103 J Tryz.ntmps103 J trivial ?_
 intro w0 sc hw hsc
 simp only [Zo,Zn]
 refine Zb<|Zg<|tt(Xh(i:=1)J J J J J J hw)J fun b _=>as_ J J<|Zf<|Za<|Zb<|Zb<|Zg<|dt(Qa J J Zct J zT9 J J)J<|dt(Oh(i:=1)J J J iA9 J)J<|dt(Zkc J J J J)J<|Zf<|Za<|Zp J(fun h264=>?_)(fun h264=>?_)
 ·exact Zb<|Zg<|dt(Qa J J Zct J zT4 J J)J<|dt(Oh(i:=1)J J J iA4 J)J<|dt(Xr J J)J<|as_ J J<|Zf<|Za<|Zw<|Xe<|Zy(.inl J)hsc()_(fun a w hs=>Qi hs Tryz.results103 J)(by unfold okW;rw [if_pos h264])trivial J Zj
 ·refine Zk<|Za<|Zb<|Zg<|dt(Qa J J Zct J zT9 J J)J<|dt(Oh(i:=1)J J J iA9 J)J<|dt(Zpt(i:=0)J J J uT9 J(by omega))J<|dt(Qe J J J)J<|mv J J<|Pa(d:=13)J(fun s267=>?_)(fun s267=>?_)
  ·exact gdt(Qa J J Zct J zT9 J J)J J J J<|gdt(Oh(i:=1)J J J iA9 J)J J J J<|gdt(Cg J J uT9)J J J J<|gdt(Dl J J J)J J J J<|dt(Xi J J J)J<|as_ J J<|Zf<|Za<|Zw<|Zy(.inl J)hsc()_(fun a w hs=>Qi hs Tryz.results103 J)(by unfold okW;rw [if_neg h264];simp_all<;>omega)trivial J Zj
  ·exact gsk J J J J J<|gsk J J J J J<|gsk J J J J J<|gsk J J J J J<|dt(Yh J J J)J<|as_ J J<|Zf<|Za<|Zw<|Zy(.inl J)hsc()_(fun a w hs=>Qi hs Tryz.results103 J)(by unfold okW;rw [if_neg h264];simp_all<;>omega)trivial J Zj
theorem Lu(x:Int)(hx:bl x.natAbs≤65536):Cal Tryz.prog 103#[wv x] []false(G:=Unit)(fun _=>True)(fun _=> .bool true)(fun _=>[]):=Zao hx▸Fl _ _
theorem Ziv(b:Bool)(s:ByteArray)(c:Bool)(t:ByteArray):Cal Tryz.prog 129#[.agg#[.bool b,.string s],.agg#[.bool c,.string t]] []false(G:=Unit)(fun _=>True)(fun _=> .bool(okW b s && okW c t))(fun _=>[]):=by
 refine Yc Tryz.func129 J Tryz.ntmps129 J trivial ?_
 intro w0 sc hw hsc
 simp only [Zo,Zn]
 refine Zb<|Zg<|tt(Xh(i:=1)J J J J J J hw)J fun b _=>tt(Xh(i:=2)J J J J J J hw)J fun b_2 _=>as_ J J<|Zf<|Za<|Zb<|Zg<|dt(Yb(i:=1)J J J Qq Yl J J)J<|tt(Zh(n:=2)(Fl _ _)J J J K1 Zfq Ze J hw)J fun _ _=>mv J J<|Ey(d:=7)J(fun s271=>?_)(fun s271=>?_)
 ·exact gdt(Yb(i:=2)J J J Qq Yl J J)J J J J<|gtt(Zh(n:=2)(Fl _ _)J J J K1 Zfq Ze J hw)J J J J fun _ _=>dt(Xi J J J)J<|as_ J J<|Zf<|Za<|Zw<|Zy(.inl J)hsc()_(fun a w hs=>Qi hs Tryz.results129 J)(by simp_all)trivial J Zj
 ·exact gsk J J J J J<|gsk J J J J J<|dt(Yh J J J)J<|as_ J J<|Zf<|Za<|Zw<|Zy(.inl J)hsc()_(fun a w hs=>Qi hs Tryz.results129 J)(by simp_all)trivial J Zj
theorem Lr(x y:Int)(hx:bl x.natAbs≤65536)(hy:bl y.natAbs≤65536):Cal Tryz.prog 129#[wv x,wv y] []false(G:=Unit)(fun _=>True)(fun _=> .bool true)(fun _=>[]):=by
 have h:=Ziv(decide(x<0))(Xd x.natAbs)(decide(y<0))(Xd y.natAbs)
 rw [Zao hx,Zao hy]at h;exact h
theorem Ml(x:Int)(hx:bl x.natAbs≤65536):Cal Tryz.prog 104#[wv x] []false(G:=Unit)(fun _=>True)(fun _=> .int .i64 x.sign)(fun _=>[]):=by
 refine Yc Tryz.func104 J Tryz.ntmps104 J trivial ?_
 intro w0 sc hw hsc
 simp only [Zo,Zn]
 exact Zb<|Zg<|tt(Xh(i:=1)J J J J J J hw)J fun b _=>as_ J J<|Zf<|Za<|Zb<|Zb<|Zg<|dt(Yb(i:=1)J J J Qq Yl J J)J<|tt(Zh(n:=1)(Lu _(by assumption))J J J K1 Zfq Ze J hw)J fun _ _=>dt(Xr J J)J<|Zf<|Za<|Yf J<|Zk<|Za<|Zb<|Zg<|dt(Yb(i:=1)J J J Qq Yl J J)J<|tt(Zh(n:=2)(Pb _ _(Xm _)(by omega))J J J K1 Li Ze J hw)J fun g hg=>tt(Zh(n:=2)(Zhz _ _ _(by assumption)(by omega))J J J K1 cF135(Zd 2 J J J Ze)J hw)J fun _ _=>as_ J J<|Zf<|Za<|Zw<|Zy(.inl J)hsc()_(fun a w hs=>Qi hs Tryz.results104 J)J trivial J Zj
theorem Zgq(x:Int)(hx:bl x.natAbs≤65536):Cal Tryz.prog 145#[wv x] []false(G:=Unit)(fun _=>True)(fun _=> .int .i64(bl x.natAbs:Int))(fun _=>[]):=by
 refine Yc Tryz.func145 J Tryz.ntmps145 J trivial ?_
 intro w0 sc hw hsc
 simp only [Zo,Zn]
 exact Zb<|Zg<|tt(Xh(i:=1)J J J J J J hw)J fun b _=>as_ J J<|Zf<|Za<|Zb<|Zb<|Zg<|dt(Yb(i:=1)J J J Qq Yl J J)J<|tt(Zh(n:=1)(Lu _(by assumption))J J J K1 Zfq Ze J hw)J fun _ _=>dt(Xr J J)J<|Zf<|Za<|Yf J<|Zk<|Za<|Zb<|Zg<|dt(Qa J J Zct J zT9 J J)J<|dt(Oh(i:=1)J J J iA9 J)J<|tt(Zh(n:=2)(Ap _(by omega))J J J K1 Zx3 Ze J hw)J fun v _=>tt(Zh(n:=2)(Zh2 _ _(by omega))J J J K1 cF168(Zd 2 J J J Ze)J hw)J fun _ _=>as_ J J<|Zf<|Za<|Zw<|Zy(.inl J)hsc()_(fun a w hs=>Qi hs Tryz.results145 J)J trivial J Zj
theorem Gk(x y:Int)(hx:bl x.natAbs≤65536)(hy:bl y.natAbs≤65536):Cal Tryz.prog 82#[wv x,wv y] []false(G:=Unit)(fun _=>True)(fun _=>Zcs(x+y))(fun _=>[]):=by
 refine Yc Tryz.func82 J Tryz.ntmps82 J trivial ?_
 intro w0 sc hw hsc
 simp only [Zo,Zn]
 have hb:=Kp x y
 refine Zb<|Zg<|tt(Xh(i:=1)J J J J J J hw)J fun b _=>tt(Xh(i:=2)J J J J J J hw)J fun b_2 _=>tt(Zq(i:=3)J J J Tryz.zeroValue31 J J hw)J fun b_3 _=>as_ J J<|Zf<|Za<|Zb<|Zb<|Zg<|dt(Yb(i:=1)J J J Qq Yl J J)J<|dt(Yb(i:=2)J J J Qq Yl J J)J<|tt(Zh(n:=3)(Lr _ _(by assumption)(by assumption))J J J K2 Zkg Ze J hw)J fun _ _=>dt(Xr J J)J<|Zf<|Za<|Yf J<|Zk<|Za<|Zb<|Qr(fun _=>False) [(0,0),(2,0),(1,1),(3,1),(4,1),(5,1),(6,0),(7,0),(8,3),(9,3)](by kernel_rfl) ?_ ?_
 ·kernel_rfl
 exact r0' J J J J(st0(Yb(i:=1)J J J Qq Yl J J))<|r0' J J J J(st0(Yb(i:=2)J J J Qq Yl J J))<|r1' J J(Zh(n:=4)(Pb _ _(Xm _)(by omega))J J J K1 Li Ze J hw)fun g hg=>r1' J J(Zh(n:=5)(Pb _ _(Xm _)(by omega))J J J K1 Li Ze J hw)fun g_2 hg_2=>r1' J J(Zh(n:=6)(Zer _ _ _ _ _ _(by assumption)(by assumption)(by omega)(by omega))J J J K2 Zul(Zd 4 J J J(Zd 5 J J J Ze))J hw)fun g_3 hg_3=>r1' J J(Zh(n:=6)(Kj _ _ _(by assumption)(by omega))J J J K1 Zcz(Zd 6 J J J Ze)J hw)fun _ _=>r0' J J J J(st0(Yg J J J))<|r0' J J J J(st0(Yg J J J))<|r3' J J(Zm(i:=3)J J J J J(by decide)J Yl J J⟨Zc J,Zc J,trivial⟩J hw trivial)fun _ _=>r3' J J(Pz(Kc J J)J J)fun _ _=>Oj<|Za<|Zw<|Zy(.inl J)hsc()_(fun a w hs=>No hs Tryz.results82(Yr(i:=3)J J Qq Yl J)J)J trivial J Zj
theorem Zmt(x y:Int)(hx:bl x.natAbs≤65536)(hy:bl y.natAbs≤65536):Cal Tryz.prog 140#[wv x,wv y] []false(G:=Unit)(fun _=>True)(fun _=>Zcs(x-y))(fun _=>[]):=by
 refine Yc Tryz.func140 J Tryz.ntmps140 J trivial ?_
 intro w0 sc hw hsc
 simp only [Zo,Zn]
 have hb:=Dh x y
 have hny:=Zkj y
 refine Zb<|Zg<|tt(Xh(i:=1)J J J J J J hw)J fun b _=>tt(Xh(i:=2)J J J J J J hw)J fun b_2 _=>tt(Zq(i:=3)J J J Tryz.zeroValue31 J J hw)J fun b_3 _=>as_ J J<|Zf<|Za<|Zb<|Zb<|Zg<|dt(Yb(i:=1)J J J Qq Yl J J)J<|dt(Yb(i:=2)J J J Qq Yl J J)J<|tt(Zh(n:=3)(Lr _ _(by assumption)(by assumption))J J J K2 Zkg Ze J hw)J fun _ _=>dt(Xr J J)J<|Zf<|Za<|Yf J<|Zk<|Za<|Zb<|Qr(fun _=>False) [(0,0),(2,0),(1,1),(3,1),(4,1),(5,1),(6,1),(7,0),(8,0),(9,3),(10,3)](by kernel_rfl) ?_ ?_
 ·kernel_rfl
 exact r0' J J J J(st0(Yb(i:=1)J J J Qq Yl J J))<|r0' J J J J(st0(Yb(i:=2)J J J Qq Yl J J))<|r1' J J(Zh(n:=4)(Pb _ _(Xm _)(by omega))J J J K1 Li Ze J hw)fun g hg=>r1' J J(Zh(n:=5)(Pb _ _(Xm _)(by omega))J J J K1 Li Ze J hw)fun g_2 hg_2=>r1' J J(Zh(n:=6)(Zlm _ _ _(by assumption))J J J K1 cF134(Zd 5 J J J Ze)J hw)fun g_3 hg_3=>r1' J J(Zh(n:=7)(Zer _ _ _ _ _ _(by assumption)(by assumption)(by omega)(by omega))J J J K2 Zul(Zd 4 J J J(Zd 6 J J J Ze))J hw)fun g_4 hg_4=>r1' J J(Zh(n:=7)(Kj _ _ _(by assumption)(by rw [←Int.sub_eq_add_neg];omega))J J J K1 Zcz(Zd 7 J J J Ze)J hw)fun _ _=>r0' J J J J(st0(Yg J J J))<|r0' J J J J(st0(Yg J J J))<|r3' J J(Zm(i:=3)J J J J J(by decide)J Yl J J⟨Zc J,Zc J,trivial⟩J hw trivial)fun _ _=>r3' J J(Pz(Kc J J)J J)fun _ _=>Oj<|Za<|Zw<|Zy(.inl J)hsc()_(fun a w hs=>No hs Tryz.results140(Yr(i:=3)J J Qq Yl J)J)(by rw [Int.sub_eq_add_neg]<;>rfl)trivial J Zj
theorem Ej(x y:Int)(hx:bl x.natAbs≤65536)(hy:bl y.natAbs≤65536):Cal Tryz.prog 139#[wv x,wv y] []false(G:=Unit)(fun _=>True)(fun _=>Zcs(x*y))(fun _=>[]):=by
 refine Yc Tryz.func139 J Tryz.ntmps139 J trivial ?_
 intro w0 sc hw hsc
 simp only [Zo,Zn]
 have hb:=Xy x y
 refine Zb<|Zg<|tt(Xh(i:=1)J J J J J J hw)J fun b _=>tt(Xh(i:=2)J J J J J J hw)J fun b_2 _=>tt(Zq(i:=3)J J J Tryz.zeroValue31 J J hw)J fun b_3 _=>as_ J J<|Zf<|Za<|Zb<|Zb<|Zg<|dt(Yb(i:=1)J J J Qq Yl J J)J<|dt(Yb(i:=2)J J J Qq Yl J J)J<|tt(Zh(n:=3)(Lr _ _(by assumption)(by assumption))J J J K2 Zkg Ze J hw)J fun _ _=>dt(Xr J J)J<|Zf<|Za<|Yf J<|Zk<|Za<|Zb<|Qr(fun _=>False) [(0,0),(2,0),(1,1),(3,1),(4,1),(5,1),(6,0),(7,0),(8,3),(9,3)](by kernel_rfl) ?_ ?_
 ·kernel_rfl
 exact r0' J J J J(st0(Yb(i:=1)J J J Qq Yl J J))<|r0' J J J J(st0(Yb(i:=2)J J J Qq Yl J J))<|r1' J J(Zh(n:=4)(Pb _ _(Xm _)(by omega))J J J K1 Li Ze J hw)fun g hg=>r1' J J(Zh(n:=5)(Pb _ _(Xm _)(by omega))J J J K1 Li Ze J hw)fun g_2 hg_2=>r1' J J(Zh(n:=6)(Zb0 _ _ _ _ _ _(by assumption)(by assumption)(by omega)(by omega))J J J K2 Zpw(Zd 4 J J J(Zd 5 J J J Ze))J hw)fun g_3 hg_3=>r1' J J(Zh(n:=6)(Kj _ _ _(by assumption)(by omega))J J J K1 Zcz(Zd 6 J J J Ze)J hw)fun _ _=>r0' J J J J(st0(Yg J J J))<|r0' J J J J(st0(Yg J J J))<|r3' J J(Zm(i:=3)J J J J J(by decide)J Yl J J⟨Zc J,Zc J,trivial⟩J hw trivial)fun _ _=>r3' J J(Pz(Kc J J)J J)fun _ _=>Oj<|Za<|Zw<|Zy(.inl J)hsc()_(fun a w hs=>No hs Tryz.results139(Yr(i:=3)J J Qq Yl J)J)J trivial J Zj
theorem Zu6(x y:Int)(hx:bl x.natAbs≤65536)(hy:bl y.natAbs≤65536):Cal Tryz.prog 196#[wv x,wv y] []false(G:=Unit)(fun _=>True)(fun _=>Zcs(Int.gcd x y:Int))(fun _=>[]):=by
 refine Yc Tryz.func196 J Tryz.ntmps196 J trivial ?_
 intro w0 sc hw hsc
 simp only [Zo,Zn]
 have hb:=Zus x.natAbs y.natAbs
 refine Zb<|Zg<|tt(Xh(i:=1)J J J J J J hw)J fun b _=>tt(Xh(i:=2)J J J J J J hw)J fun b_2 _=>tt(Zq(i:=3)J J J Tryz.zeroValue31 J J hw)J fun b_3 _=>as_ J J<|Zf<|Za<|Zb<|Zb<|Zg<|dt(Yb(i:=1)J J J Qq Yl J J)J<|dt(Yb(i:=2)J J J Qq Yl J J)J<|tt(Zh(n:=3)(Lr _ _(by assumption)(by assumption))J J J K2 Zkg Ze J hw)J fun _ _=>dt(Xr J J)J<|Zf<|Za<|Yf J<|Zk<|Za<|Zb<|Qr(fun _=>False) [(0,0),(1,0),(3,0),(4,0),(2,1),(5,1),(6,1),(7,0),(8,1),(9,0),(10,0),(11,3),(12,3)](by kernel_rfl) ?_ ?_
 ·kernel_rfl
 exact r0' J J J J(st0(Qa J J Zct J zT9 J J))<|r0' J J J J(st0(Oh(i:=1)J J J iA9 J))<|r0' J J J J(st0(Qa J J Zct J zT9 J J))<|r0' J J J J(st0(Oh(i:=2)J J J iA9 J))<|r1' J J(Zh(n:=4)(Ap _(by omega))J J J K1 Zx3 Ze J hw)fun v _=>r1' J J(Zh(n:=5)(Ap _(by omega))J J J K1 Zx3 Ze J hw)fun v_2 _=>r1' J J(Zh(n:=6)(Zlp _ _ _ _(by omega)(by omega))J J J K2 cF185(Zd 4 J J J(Zd 5 J J J Ze))J hw)fun v_3 _=>r0' J J J J(st0(Oo(ivs:=[(0,_),(1,_)])J K4(fun a w hs=>Na((Zc J)a w hs)((Zr(i:=6)J Zi)a w hs))))<|r1' J J(Zh(n:=6)(Kj false _(Int.gcd x y:Int)(by simp [sg])(by show bl(Nat.gcd x.natAbs y.natAbs)≤_;omega))J J J K1 Zcz(Zd 6 J J J Ze)J hw)fun _ _=>r0' J J J J(st0(Yg J J J))<|r0' J J J J(st0(Yg J J J))<|r3' J J(Zm(i:=3)J J J J J(by decide)J Yl J J⟨Zc J,Zc J,trivial⟩J hw trivial)fun _ _=>r3' J J(Pz(Kc J J)J J)fun _ _=>Oj<|Za<|Zw<|Zy(.inl J)hsc()_(fun a w hs=>No hs Tryz.results196(Yr(i:=3)J J Qq Yl J)J)J trivial J Zj
theorem Cl(x y:Int)(hx:bl x.natAbs≤65536)(hy:bl y.natAbs≤65536)(hy0:y≠0):Cal Tryz.prog 158#[wv x,wv y] []false(G:=Unit)(fun _=>True)(fun _=> .tuple#[wv(Zgj(x/y)),wv(Zgj(x%y)),.int .i64 0])(fun _=>[]):=by
 refine Yc Tryz.func158 J Tryz.ntmps158 J trivial ?_
 intro w0 sc hw hsc
 simp only [Zo,Zn]
 have hb:=Ziq x y
 have hb2:=Zmn x y hy0
 refine Zb<|Zg<|tt(Xh(i:=1)J J J J J J hw)J fun b _=>tt(Xh(i:=2)J J J J J J hw)J fun b_2 _=>tt(Zq(i:=3)J J J Tryz.zeroValue31 J J hw)J fun b_3 _=>tt(Zq(i:=4)J J J Tryz.zeroValue31 J J hw)J fun b_4 _=>as_ J J<|Zf<|Za<|Zb<|Zb<|Zg<|dt(Yb(i:=1)J J J Qq Yl J J)J<|dt(Yb(i:=2)J J J Qq Yl J J)J<|tt(Zh(n:=4)(Lr _ _(by assumption)(by assumption))J J J K2 Zkg Ze J hw)J fun _ _=>dt(Xr J J)J<|Zf<|Za<|Yf J<|Zk<|Za<|Zb<|Zb<|Zg<|dt(Qa J J Zct J zT9 J J)J<|dt(Oh(i:=2)J J J iA9 J)J<|dt(Zkc J J J J)J<|Zf<|Za<|Zp J(fun h337=>?_)(fun h337=>?_)
 ·rw [Mv]at h337
  exfalso;exact hy0(by have:=(Ph(by omega:2≤256)y.natAbs).1 h337;omega)
 ·refine Zk<|Za<|Dc [(4,_),(5,_)] [(0,_),(1,_),(2,_),(3,_),(4,_)](fun(q:Bool×Value×Value×Nat×Nat)=>[(7,.pointer(some⟨q.2.2.2.1,0,none⟩)),(8,.pointer(some⟨q.2.2.2.2,0,none⟩))])(fun(q:Bool×Value×Value×Nat×Nat)=>[(84,dgp q.2.1(x/y).natAbs),(85,dgp q.2.2.1(x%y).natAbs),(86,box q.2.2.2.1 154#[.bool q.1,q.2.1]),(87,box q.2.2.2.2 154#[.bool false,q.2.2.1])])(fun(q:Bool×Value×Value×Nat×Nat)=>sg q.1(x/y))K2 K5 ?_ ?_
  ·refine On [1,2] [11](by kernel_rfl)<|Zz(n:=10) [(0,0),(2,0)](by kernel_rfl)<|r0' J J J J(stf(Yb(i:=1)J J J Qq Yl J J)K2)<|r0' J J J J(stf(Yb(i:=2)J J J Qq Yl J J)K2)<|Yp<|Zbh(n:=9)1 8 9(by kernel_rfl) ?_ ?_ ?_
   ·refine Yq J J(Zh(n:=81)(Pb _ _(Xm _)(by omega))J J J K1 Li Ze J hw)fun g hg=>Zbh(n:=8)3 8 9(by kernel_rfl) ?_ ?_ ?_
    ·refine Yq J J(Zh(n:=82)(Pb _ _(Xm _)(by omega))J J J K1 Li Ze J hw)fun g_2 hg_2=>Zbh(n:=7)4 8 9(by kernel_rfl) ?_ ?_ ?_
     ·refine Yq J J(Zh(n:=84)(Qu _ _ _ _ _ _(by assumption)(by assumption)(by omega)(by omega)hy0)J J J K2 Mh(Zd 81 J J J(Zd 82 J J J Ze))J hw)fun g_3 hg_3=>Zz(n:=4) [(5,0),(6,0),(7,0)](by kernel_rfl)<|r0' J J J J(stf(Ym J J)K2)<|r0' J J J J(stf(Yg J J J)K2)<|r0' J J J J(stf(Yg J J J)K2)<|Yp<|Pw(n:=3)8 9(by kernel_rfl) ?_ ?_
      ·exact Yq J J(Zv(i:=86)J J J Tryz.zeroValue154 J J hw K2)fun b_5 hoff=>Zz(n:=0) [(9,1),(10,1),(11,3)](by kernel_rfl)<|r1' J J(Zv(i:=87)J J J Tryz.zeroValue154 J J hw K2)fun b_6 hoff_2=>r1' J J(Zm(i:=86)J J J J J(by decide)J Yz J J⟨Zc J,Zr(i:=84)J Zi,trivial⟩J hw hoff)fun _ _=>r3' J J(Zm(i:=87)J J J J J(by decide)J Yz J J⟨Zc J,Zr(i:=85)J Zi,trivial⟩J hw trivial)fun _ _=>Yp<|Yj(by kernel_rfl)<|Qy(_,_,_,_,_)(by assumption)K4 K9
      ·exact Yq J J(Zv(i:=87)J J J Tryz.zeroValue154 J J hw K2)fun b_7 hoff_3=>Zz(n:=0) [(8,1),(10,1),(11,3)](by kernel_rfl)<|r1' J J(Zv(i:=86)J J J Tryz.zeroValue154 J J hw K2)fun b_8 hoff_4=>r1' J J(Zm(i:=86)J J J J J(by decide)J Yz J J⟨Zc J,Zr(i:=84)J Zi,trivial⟩J hw hoff_4)fun _ _=>r3' J J(Zm(i:=87)J J J J J(by decide)J Yz J J⟨Zc J,Zr(i:=85)J Zi,trivial⟩J hw trivial)fun _ _=>Yp<|Yj(by kernel_rfl)<|Qy(_,_,_,_,_)(by assumption)K4 K9
     ·refine Yq J J(Zv(i:=86)J J J Tryz.zeroValue154 J J hw K2)fun b_9 hoff_5=>Pw(n:=6)4 9(by kernel_rfl) ?_ ?_
      ·exact Yq J J(Zh(n:=84)(Qu _ _ _ _ _ _(by assumption)(by assumption)(by omega)(by omega)hy0)J J J K2 Mh(Zd 81 J J J(Zd 82 J J J Ze))J hw)fun g_4 hg_4=>Zz(n:=0) [(5,0),(6,0),(7,0),(9,1),(10,1),(11,3)](by kernel_rfl)<|r0' J J J J(stf(Ym J J)K2)<|r0' J J J J(stf(Yg J J J)K2)<|r0' J J J J(stf(Yg J J J)K2)<|r1' J J(Zv(i:=87)J J J Tryz.zeroValue154 J J hw K2)fun b_10 hoff_6=>r1' J J(Zm(i:=86)J J J J J(by decide)J Yz J J⟨Zc J,Zr(i:=84)J Zi,trivial⟩J hw hoff_5)fun _ _=>r3' J J(Zm(i:=87)J J J J J(by decide)J Yz J J⟨Zc J,Zr(i:=85)J Zi,trivial⟩J hw trivial)fun _ _=>Yp<|Yj(by kernel_rfl)<|Qy(_,_,_,_,_)(by assumption)K4 K9
      ·exact Yq J J(Zv(i:=87)J J J Tryz.zeroValue154 J J hw K2)fun b_11 hoff_7=>Zz(n:=0) [(4,1),(5,0),(6,0),(7,0),(10,1),(11,3)](by kernel_rfl)<|r1' J J(Zh(n:=84)(Qu _ _ _ _ _ _(by assumption)(by assumption)(by omega)(by omega)hy0)J J J K2 Mh(Zd 81 J J J(Zd 82 J J J Ze))J hw)fun g_5 hg_5=>r0' J J J J(stf(Ym J J)K2)<|r0' J J J J(stf(Yg J J J)K2)<|r0' J J J J(stf(Yg J J J)K2)<|r1' J J(Zm(i:=86)J J J J J(by decide)J Yz J J⟨Zc J,Zr(i:=84)J Zi,trivial⟩J hw hoff_5)fun _ _=>r3' J J(Zm(i:=87)J J J J J(by decide)J Yz J J⟨Zc J,Zr(i:=85)J Zi,trivial⟩J hw trivial)fun _ _=>Yp<|Yj(by kernel_rfl)<|Qy(_,_,_,_,_)(by assumption)K4 K9
     ·refine Yq J J(Zv(i:=87)J J J Tryz.zeroValue154 J J hw K2)fun b_12 hoff_8=>Pw(n:=6)4 8(by kernel_rfl) ?_ ?_
      ·exact Yq J J(Zh(n:=84)(Qu _ _ _ _ _ _(by assumption)(by assumption)(by omega)(by omega)hy0)J J J K2 Mh(Zd 81 J J J(Zd 82 J J J Ze))J hw)fun g_6 hg_6=>Zz(n:=0) [(5,0),(6,0),(7,0),(8,1),(10,1),(11,3)](by kernel_rfl)<|r0' J J J J(stf(Ym J J)K2)<|r0' J J J J(stf(Yg J J J)K2)<|r0' J J J J(stf(Yg J J J)K2)<|r1' J J(Zv(i:=86)J J J Tryz.zeroValue154 J J hw K2)fun b_13 hoff_9=>r1' J J(Zm(i:=86)J J J J J(by decide)J Yz J J⟨Zc J,Zr(i:=84)J Zi,trivial⟩J hw hoff_9)fun _ _=>r3' J J(Zm(i:=87)J J J J J(by decide)J Yz J J⟨Zc J,Zr(i:=85)J Zi,trivial⟩J hw trivial)fun _ _=>Yp<|Yj(by kernel_rfl)<|Qy(_,_,_,_,_)(by assumption)K4 K9
      ·exact Yq J J(Zv(i:=86)J J J Tryz.zeroValue154 J J hw K2)fun b_14 hoff_10=>Zz(n:=0) [(4,1),(5,0),(6,0),(7,0),(10,1),(11,3)](by kernel_rfl)<|r1' J J(Zh(n:=84)(Qu _ _ _ _ _ _(by assumption)(by assumption)(by omega)(by omega)hy0)J J J K2 Mh(Zd 81 J J J(Zd 82 J J J Ze))J hw)fun g_7 hg_7=>r0' J J J J(stf(Ym J J)K2)<|r0' J J J J(stf(Yg J J J)K2)<|r0' J J J J(stf(Yg J J J)K2)<|r1' J J(Zm(i:=86)J J J J J(by decide)J Yz J J⟨Zc J,Zr(i:=84)J Zi,trivial⟩J hw hoff_10)fun _ _=>r3' J J(Zm(i:=87)J J J J J(by decide)J Yz J J⟨Zc J,Zr(i:=85)J Zi,trivial⟩J hw trivial)fun _ _=>Yp<|Yj(by kernel_rfl)<|Qy(_,_,_,_,_)(by assumption)K4 K9
    ·refine Yq J J(Zv(i:=86)J J J Tryz.zeroValue154 J J hw K2)fun b_15 hoff_11=>Pw(n:=7)3 9(by kernel_rfl) ?_ ?_
     ·refine Yq J J(Zh(n:=82)(Pb _ _(Xm _)(by omega))J J J K1 Li Ze J hw)fun g_8 hg_8=>Pw(n:=6)4 9(by kernel_rfl) ?_ ?_
      ·exact Yq J J(Zh(n:=84)(Qu _ _ _ _ _ _(by assumption)(by assumption)(by omega)(by omega)hy0)J J J K2 Mh(Zd 81 J J J(Zd 82 J J J Ze))J hw)fun g_9 hg_9=>Zz(n:=0) [(5,0),(6,0),(7,0),(9,1),(10,1),(11,3)](by kernel_rfl)<|r0' J J J J(stf(Ym J J)K2)<|r0' J J J J(stf(Yg J J J)K2)<|r0' J J J J(stf(Yg J J J)K2)<|r1' J J(Zv(i:=87)J J J Tryz.zeroValue154 J J hw K2)fun b_16 hoff_12=>r1' J J(Zm(i:=86)J J J J J(by decide)J Yz J J⟨Zc J,Zr(i:=84)J Zi,trivial⟩J hw hoff_11)fun _ _=>r3' J J(Zm(i:=87)J J J J J(by decide)J Yz J J⟨Zc J,Zr(i:=85)J Zi,trivial⟩J hw trivial)fun _ _=>Yp<|Yj(by kernel_rfl)<|Qy(_,_,_,_,_)(by assumption)K4 K9
      ·exact Yq J J(Zv(i:=87)J J J Tryz.zeroValue154 J J hw K2)fun b_17 hoff_13=>Zz(n:=0) [(4,1),(5,0),(6,0),(7,0),(10,1),(11,3)](by kernel_rfl)<|r1' J J(Zh(n:=84)(Qu _ _ _ _ _ _(by assumption)(by assumption)(by omega)(by omega)hy0)J J J K2 Mh(Zd 81 J J J(Zd 82 J J J Ze))J hw)fun g_10 hg_10=>r0' J J J J(stf(Ym J J)K2)<|r0' J J J J(stf(Yg J J J)K2)<|r0' J J J J(stf(Yg J J J)K2)<|r1' J J(Zm(i:=86)J J J J J(by decide)J Yz J J⟨Zc J,Zr(i:=84)J Zi,trivial⟩J hw hoff_11)fun _ _=>r3' J J(Zm(i:=87)J J J J J(by decide)J Yz J J⟨Zc J,Zr(i:=85)J Zi,trivial⟩J hw trivial)fun _ _=>Yp<|Yj(by kernel_rfl)<|Qy(_,_,_,_,_)(by assumption)K4 K9
     ·exact Yq J J(Zv(i:=87)J J J Tryz.zeroValue154 J J hw K2)fun b_18 hoff_14=>Zz(n:=0) [(3,1),(4,1),(5,0),(6,0),(7,0),(10,1),(11,3)](by kernel_rfl)<|r1' J J(Zh(n:=82)(Pb _ _(Xm _)(by omega))J J J K1 Li Ze J hw)fun g_11 hg_11=>r1' J J(Zh(n:=84)(Qu _ _ _ _ _ _(by assumption)(by assumption)(by omega)(by omega)hy0)J J J K2 Mh(Zd 81 J J J(Zd 82 J J J Ze))J hw)fun g_12 hg_12=>r0' J J J J(stf(Ym J J)K2)<|r0' J J J J(stf(Yg J J J)K2)<|r0' J J J J(stf(Yg J J J)K2)<|r1' J J(Zm(i:=86)J J J J J(by decide)J Yz J J⟨Zc J,Zr(i:=84)J Zi,trivial⟩J hw hoff_11)fun _ _=>r3' J J(Zm(i:=87)J J J J J(by decide)J Yz J J⟨Zc J,Zr(i:=85)J Zi,trivial⟩J hw trivial)fun _ _=>Yp<|Yj(by kernel_rfl)<|Qy(_,_,_,_,_)(by assumption)K4 K9
    ·refine Yq J J(Zv(i:=87)J J J Tryz.zeroValue154 J J hw K2)fun b_19 hoff_15=>Pw(n:=7)3 8(by kernel_rfl) ?_ ?_
     ·refine Yq J J(Zh(n:=82)(Pb _ _(Xm _)(by omega))J J J K1 Li Ze J hw)fun g_13 hg_13=>Pw(n:=6)4 8(by kernel_rfl) ?_ ?_
      ·exact Yq J J(Zh(n:=84)(Qu _ _ _ _ _ _(by assumption)(by assumption)(by omega)(by omega)hy0)J J J K2 Mh(Zd 81 J J J(Zd 82 J J J Ze))J hw)fun g_14 hg_14=>Zz(n:=0) [(5,0),(6,0),(7,0),(8,1),(10,1),(11,3)](by kernel_rfl)<|r0' J J J J(stf(Ym J J)K2)<|r0' J J J J(stf(Yg J J J)K2)<|r0' J J J J(stf(Yg J J J)K2)<|r1' J J(Zv(i:=86)J J J Tryz.zeroValue154 J J hw K2)fun b_20 hoff_16=>r1' J J(Zm(i:=86)J J J J J(by decide)J Yz J J⟨Zc J,Zr(i:=84)J Zi,trivial⟩J hw hoff_16)fun _ _=>r3' J J(Zm(i:=87)J J J J J(by decide)J Yz J J⟨Zc J,Zr(i:=85)J Zi,trivial⟩J hw trivial)fun _ _=>Yp<|Yj(by kernel_rfl)<|Qy(_,_,_,_,_)(by assumption)K4 K9
      ·exact Yq J J(Zv(i:=86)J J J Tryz.zeroValue154 J J hw K2)fun b_21 hoff_17=>Zz(n:=0) [(4,1),(5,0),(6,0),(7,0),(10,1),(11,3)](by kernel_rfl)<|r1' J J(Zh(n:=84)(Qu _ _ _ _ _ _(by assumption)(by assumption)(by omega)(by omega)hy0)J J J K2 Mh(Zd 81 J J J(Zd 82 J J J Ze))J hw)fun g_15 hg_15=>r0' J J J J(stf(Ym J J)K2)<|r0' J J J J(stf(Yg J J J)K2)<|r0' J J J J(stf(Yg J J J)K2)<|r1' J J(Zm(i:=86)J J J J J(by decide)J Yz J J⟨Zc J,Zr(i:=84)J Zi,trivial⟩J hw hoff_17)fun _ _=>r3' J J(Zm(i:=87)J J J J J(by decide)J Yz J J⟨Zc J,Zr(i:=85)J Zi,trivial⟩J hw trivial)fun _ _=>Yp<|Yj(by kernel_rfl)<|Qy(_,_,_,_,_)(by assumption)K4 K9
     ·exact Yq J J(Zv(i:=86)J J J Tryz.zeroValue154 J J hw K2)fun b_22 hoff_18=>Zz(n:=0) [(3,1),(4,1),(5,0),(6,0),(7,0),(10,1),(11,3)](by kernel_rfl)<|r1' J J(Zh(n:=82)(Pb _ _(Xm _)(by omega))J J J K1 Li Ze J hw)fun g_16 hg_16=>r1' J J(Zh(n:=84)(Qu _ _ _ _ _ _(by assumption)(by assumption)(by omega)(by omega)hy0)J J J K2 Mh(Zd 81 J J J(Zd 82 J J J Ze))J hw)fun g_17 hg_17=>r0' J J J J(stf(Ym J J)K2)<|r0' J J J J(stf(Yg J J J)K2)<|r0' J J J J(stf(Yg J J J)K2)<|r1' J J(Zm(i:=86)J J J J J(by decide)J Yz J J⟨Zc J,Zr(i:=84)J Zi,trivial⟩J hw hoff_18)fun _ _=>r3' J J(Zm(i:=87)J J J J J(by decide)J Yz J J⟨Zc J,Zr(i:=85)J Zi,trivial⟩J hw trivial)fun _ _=>Yp<|Yj(by kernel_rfl)<|Qy(_,_,_,_,_)(by assumption)K4 K9
   ·refine Yq J J(Zv(i:=86)J J J Tryz.zeroValue154 J J hw K2)fun b_23 hoff_19=>Pw(n:=8)1 9(by kernel_rfl) ?_ ?_
    ·refine Yq J J(Zh(n:=81)(Pb _ _(Xm _)(by omega))J J J K1 Li Ze J hw)fun g_18 hg_18=>Pw(n:=7)3 9(by kernel_rfl) ?_ ?_
     ·refine Yq J J(Zh(n:=82)(Pb _ _(Xm _)(by omega))J J J K1 Li Ze J hw)fun g_19 hg_19=>Pw(n:=6)4 9(by kernel_rfl) ?_ ?_
      ·exact Yq J J(Zh(n:=84)(Qu _ _ _ _ _ _(by assumption)(by assumption)(by omega)(by omega)hy0)J J J K2 Mh(Zd 81 J J J(Zd 82 J J J Ze))J hw)fun g_20 hg_20=>Zz(n:=0) [(5,0),(6,0),(7,0),(9,1),(10,1),(11,3)](by kernel_rfl)<|r0' J J J J(stf(Ym J J)K2)<|r0' J J J J(stf(Yg J J J)K2)<|r0' J J J J(stf(Yg J J J)K2)<|r1' J J(Zv(i:=87)J J J Tryz.zeroValue154 J J hw K2)fun b_24 hoff_20=>r1' J J(Zm(i:=86)J J J J J(by decide)J Yz J J⟨Zc J,Zr(i:=84)J Zi,trivial⟩J hw hoff_19)fun _ _=>r3' J J(Zm(i:=87)J J J J J(by decide)J Yz J J⟨Zc J,Zr(i:=85)J Zi,trivial⟩J hw trivial)fun _ _=>Yp<|Yj(by kernel_rfl)<|Qy(_,_,_,_,_)(by assumption)K4 K9
      ·exact Yq J J(Zv(i:=87)J J J Tryz.zeroValue154 J J hw K2)fun b_25 hoff_21=>Zz(n:=0) [(4,1),(5,0),(6,0),(7,0),(10,1),(11,3)](by kernel_rfl)<|r1' J J(Zh(n:=84)(Qu _ _ _ _ _ _(by assumption)(by assumption)(by omega)(by omega)hy0)J J J K2 Mh(Zd 81 J J J(Zd 82 J J J Ze))J hw)fun g_21 hg_21=>r0' J J J J(stf(Ym J J)K2)<|r0' J J J J(stf(Yg J J J)K2)<|r0' J J J J(stf(Yg J J J)K2)<|r1' J J(Zm(i:=86)J J J J J(by decide)J Yz J J⟨Zc J,Zr(i:=84)J Zi,trivial⟩J hw hoff_19)fun _ _=>r3' J J(Zm(i:=87)J J J J J(by decide)J Yz J J⟨Zc J,Zr(i:=85)J Zi,trivial⟩J hw trivial)fun _ _=>Yp<|Yj(by kernel_rfl)<|Qy(_,_,_,_,_)(by assumption)K4 K9
     ·exact Yq J J(Zv(i:=87)J J J Tryz.zeroValue154 J J hw K2)fun b_26 hoff_22=>Zz(n:=0) [(3,1),(4,1),(5,0),(6,0),(7,0),(10,1),(11,3)](by kernel_rfl)<|r1' J J(Zh(n:=82)(Pb _ _(Xm _)(by omega))J J J K1 Li Ze J hw)fun g_22 hg_22=>r1' J J(Zh(n:=84)(Qu _ _ _ _ _ _(by assumption)(by assumption)(by omega)(by omega)hy0)J J J K2 Mh(Zd 81 J J J(Zd 82 J J J Ze))J hw)fun g_23 hg_23=>r0' J J J J(stf(Ym J J)K2)<|r0' J J J J(stf(Yg J J J)K2)<|r0' J J J J(stf(Yg J J J)K2)<|r1' J J(Zm(i:=86)J J J J J(by decide)J Yz J J⟨Zc J,Zr(i:=84)J Zi,trivial⟩J hw hoff_19)fun _ _=>r3' J J(Zm(i:=87)J J J J J(by decide)J Yz J J⟨Zc J,Zr(i:=85)J Zi,trivial⟩J hw trivial)fun _ _=>Yp<|Yj(by kernel_rfl)<|Qy(_,_,_,_,_)(by assumption)K4 K9
    ·exact Yq J J(Zv(i:=87)J J J Tryz.zeroValue154 J J hw K2)fun b_27 hoff_23=>Zz(n:=0) [(1,1),(3,1),(4,1),(5,0),(6,0),(7,0),(10,1),(11,3)](by kernel_rfl)<|r1' J J(Zh(n:=81)(Pb _ _(Xm _)(by omega))J J J K1 Li Ze J hw)fun g_24 hg_24=>r1' J J(Zh(n:=82)(Pb _ _(Xm _)(by omega))J J J K1 Li Ze J hw)fun g_25 hg_25=>r1' J J(Zh(n:=84)(Qu _ _ _ _ _ _(by assumption)(by assumption)(by omega)(by omega)hy0)J J J K2 Mh(Zd 81 J J J(Zd 82 J J J Ze))J hw)fun g_26 hg_26=>r0' J J J J(stf(Ym J J)K2)<|r0' J J J J(stf(Yg J J J)K2)<|r0' J J J J(stf(Yg J J J)K2)<|r1' J J(Zm(i:=86)J J J J J(by decide)J Yz J J⟨Zc J,Zr(i:=84)J Zi,trivial⟩J hw hoff_19)fun _ _=>r3' J J(Zm(i:=87)J J J J J(by decide)J Yz J J⟨Zc J,Zr(i:=85)J Zi,trivial⟩J hw trivial)fun _ _=>Yp<|Yj(by kernel_rfl)<|Qy(_,_,_,_,_)(by assumption)K4 K9
   ·refine Yq J J(Zv(i:=87)J J J Tryz.zeroValue154 J J hw K2)fun b_28 hoff_24=>Pw(n:=8)1 8(by kernel_rfl) ?_ ?_
    ·refine Yq J J(Zh(n:=81)(Pb _ _(Xm _)(by omega))J J J K1 Li Ze J hw)fun g_27 hg_27=>Pw(n:=7)3 8(by kernel_rfl) ?_ ?_
     ·refine Yq J J(Zh(n:=82)(Pb _ _(Xm _)(by omega))J J J K1 Li Ze J hw)fun g_28 hg_28=>Pw(n:=6)4 8(by kernel_rfl) ?_ ?_
      ·exact Yq J J(Zh(n:=84)(Qu _ _ _ _ _ _(by assumption)(by assumption)(by omega)(by omega)hy0)J J J K2 Mh(Zd 81 J J J(Zd 82 J J J Ze))J hw)fun g_29 hg_29=>Zz(n:=0) [(5,0),(6,0),(7,0),(8,1),(10,1),(11,3)](by kernel_rfl)<|r0' J J J J(stf(Ym J J)K2)<|r0' J J J J(stf(Yg J J J)K2)<|r0' J J J J(stf(Yg J J J)K2)<|r1' J J(Zv(i:=86)J J J Tryz.zeroValue154 J J hw K2)fun b_29 hoff_25=>r1' J J(Zm(i:=86)J J J J J(by decide)J Yz J J⟨Zc J,Zr(i:=84)J Zi,trivial⟩J hw hoff_25)fun _ _=>r3' J J(Zm(i:=87)J J J J J(by decide)J Yz J J⟨Zc J,Zr(i:=85)J Zi,trivial⟩J hw trivial)fun _ _=>Yp<|Yj(by kernel_rfl)<|Qy(_,_,_,_,_)(by assumption)K4 K9
      ·exact Yq J J(Zv(i:=86)J J J Tryz.zeroValue154 J J hw K2)fun b_30 hoff_26=>Zz(n:=0) [(4,1),(5,0),(6,0),(7,0),(10,1),(11,3)](by kernel_rfl)<|r1' J J(Zh(n:=84)(Qu _ _ _ _ _ _(by assumption)(by assumption)(by omega)(by omega)hy0)J J J K2 Mh(Zd 81 J J J(Zd 82 J J J Ze))J hw)fun g_30 hg_30=>r0' J J J J(stf(Ym J J)K2)<|r0' J J J J(stf(Yg J J J)K2)<|r0' J J J J(stf(Yg J J J)K2)<|r1' J J(Zm(i:=86)J J J J J(by decide)J Yz J J⟨Zc J,Zr(i:=84)J Zi,trivial⟩J hw hoff_26)fun _ _=>r3' J J(Zm(i:=87)J J J J J(by decide)J Yz J J⟨Zc J,Zr(i:=85)J Zi,trivial⟩J hw trivial)fun _ _=>Yp<|Yj(by kernel_rfl)<|Qy(_,_,_,_,_)(by assumption)K4 K9
     ·exact Yq J J(Zv(i:=86)J J J Tryz.zeroValue154 J J hw K2)fun b_31 hoff_27=>Zz(n:=0) [(3,1),(4,1),(5,0),(6,0),(7,0),(10,1),(11,3)](by kernel_rfl)<|r1' J J(Zh(n:=82)(Pb _ _(Xm _)(by omega))J J J K1 Li Ze J hw)fun g_31 hg_31=>r1' J J(Zh(n:=84)(Qu _ _ _ _ _ _(by assumption)(by assumption)(by omega)(by omega)hy0)J J J K2 Mh(Zd 81 J J J(Zd 82 J J J Ze))J hw)fun g_32 hg_32=>r0' J J J J(stf(Ym J J)K2)<|r0' J J J J(stf(Yg J J J)K2)<|r0' J J J J(stf(Yg J J J)K2)<|r1' J J(Zm(i:=86)J J J J J(by decide)J Yz J J⟨Zc J,Zr(i:=84)J Zi,trivial⟩J hw hoff_27)fun _ _=>r3' J J(Zm(i:=87)J J J J J(by decide)J Yz J J⟨Zc J,Zr(i:=85)J Zi,trivial⟩J hw trivial)fun _ _=>Yp<|Yj(by kernel_rfl)<|Qy(_,_,_,_,_)(by assumption)K4 K9
    ·exact Yq J J(Zv(i:=86)J J J Tryz.zeroValue154 J J hw K2)fun b_32 hoff_28=>Zz(n:=0) [(1,1),(3,1),(4,1),(5,0),(6,0),(7,0),(10,1),(11,3)](by kernel_rfl)<|r1' J J(Zh(n:=81)(Pb _ _(Xm _)(by omega))J J J K1 Li Ze J hw)fun g_33 hg_33=>r1' J J(Zh(n:=82)(Pb _ _(Xm _)(by omega))J J J K1 Li Ze J hw)fun g_34 hg_34=>r1' J J(Zh(n:=84)(Qu _ _ _ _ _ _(by assumption)(by assumption)(by omega)(by omega)hy0)J J J K2 Mh(Zd 81 J J J(Zd 82 J J J Ze))J hw)fun g_35 hg_35=>r0' J J J J(stf(Ym J J)K2)<|r0' J J J J(stf(Yg J J J)K2)<|r0' J J J J(stf(Yg J J J)K2)<|r1' J J(Zm(i:=86)J J J J J(by decide)J Yz J J⟨Zc J,Zr(i:=84)J Zi,trivial⟩J hw hoff_28)fun _ _=>r3' J J(Zm(i:=87)J J J J J(by decide)J Yz J J⟨Zc J,Zr(i:=85)J Zi,trivial⟩J hw trivial)fun _ _=>Yp<|Yj(by kernel_rfl)<|Qy(_,_,_,_,_)(by assumption)K4 K9
  ·rintro⟨qb,qv,rv,b7,b8⟩hq
   dsimp only at hq
   simp only [List.cons_append,List.nil_append]
   refine Zb<|Zg<|dt(Yb(i:=86)J J J Lp Yz J J)J<|tt(Zh(n:=4)(Kj _ _ _(by assumption)(by omega))J J J K1 Zcz(Zd 84 J J J Ze)J hw)J fun _ _=>mv J J<|dt(Yg J J J)J<|dt(Yg J J J)J<|tt(Zm(i:=3)J J J J J(by decide)J Yl J J⟨Zc J,Zc J,trivial⟩J hw trivial)J fun _ _=>Zf<|Za<|Zb<|Zg<|dt(Yb(i:=87)J J J Lp Yz J J)J<|tt(Zh(n:=4)(Kj _ _ _(sg_emod x hy0)(by omega))J J J K1 Zcz(Zd 85 J J J Ze)J hw)J fun _ _=>mv J J<|dt(Yg J J J)J<|dt(Yg J J J)J<|tt(Zm(i:=4)J J J J J(by decide)J Yl J J⟨Zc J,Zc J,trivial⟩J hw trivial)J fun _ _=>Zf<|Za<|Zb<|On [4] [3,4](by kernel_rfl)<|Zz(n:=0) [(1,0),(0,1),(2,1),(3,3),(4,3)](by kernel_rfl)<|r0' J J J J(stf(Yb(i:=4)J J J Qq Yl J J)K1)<|r1' J J(Pz(Yb(i:=3)J J J Qq Yl J J)J J)fun _ _=>r1' J J(Zd3 3 J J K1(fun hoffb=>(Zm(i:=3)J J J J J(by decide)J Yl J J⟨Zc J,Zc J,trivial⟩J hw hoffb)))fun _ _=>r3' J J(Zm(i:=4)J J J J J(by decide)J Yl J J⟨Zc J,Zc J,trivial⟩J hw trivial)fun _ _=>r3' J J(Pz(Kc J J)J J)fun _ _=>Yp<|Yj(by kernel_rfl)<|Za<|Zw ?_
   exact Zy(.inl J)hsc()_(fun a w hs=>res3 hs Tryz.results158(Yr(i:=3)J J Qq Yl J)(Yr(i:=4)J J Qq Yl J)J)J trivial J Zj
theorem Bq(s t:Bool)(v w:Value)(x y:Int)(hs:sg s x)(ht:sg t y)(hx:bl x.natAbs≤1000000000)(hy:bl y.natAbs≤1000000000)(hy0:y≠0):Cal Tryz.prog 163#[.agg#[.bool s,v],.agg#[.bool t,w]] [dgp v x.natAbs,dgp w y.natAbs]false(G:=Unit)(fun _=>True)(fun _=>Zck x y)(fun _=>[]):=by
 refine Yc Tryz.func163 J Tryz.ntmps163 J K2 ?_
 intro w0 sc hw hsc
 simp only [Zo,Zn]
 have hb:=Zus x.natAbs y.natAbs
 have hg0:Ga x y≠0:=lgcd_ne hy0
 have hgs:sg t(Ga x y):=sg_lgcd ht hy0
 have hga:=Zau x y
 have hq1:=Ziq x(Ga x y)
 have hq2:=Ziq y(Ga x y)
 refine Zb<|Zg<|tt(Xh(i:=3)J J J J J J hw)J fun b _=>tt(Xh(i:=4)J J J J J J hw)J fun b_2 _=>tt(Zq(i:=5)J J J Tryz.zeroValue41 J J hw)J fun b_3 _=>as_ J J<|Zf<|Za<|Zb<|Gc(fun _=>False) [9](by kernel_rfl)<|Zz(n:=4) [(0,0),(1,0),(2,0),(3,0),(4,0),(5,0)](by kernel_rfl)<|r0' J J J J(st0(Qa J J Mw J zT4 J J))<|r0' J J J J(st0(Oh(i:=4)J J J iA4 J))<|r0' J J J J(st0(Qa J J Mw J Gx J J))<|r0' J J J J(st0(Oh(i:=3)J J J Fe J))<|r0' J J J J(st0(Qa J J Mw J Gx J J))<|r0' J J J J(st0(Oh(i:=4)J J J Fe J))<|Yp<|Pw(n:=3)6 8(by kernel_rfl) ?_ ?_
 ·refine Yq J J(Zh(n:=81)(Zlp _ _ _ _(by omega)(by omega))J J J K2 cF185(Zd 1 J J J(Zd 2 J J J Ze))J hw)fun v _=>Zz(n:=0) [(7,0),(8,1),(9,3)](by kernel_rfl)<|r0' J J J J(st0(Oo(ivs:=[(0,_),(1,_)])J K4(fun a w hs=>Na((Zc J)a w hs)((Zr(i:=81)J Zi)a w hs))))<|r1' J J(Zq(i:=82)J J J Tryz.zeroValue154 J J hw)fun b_4 _=>r3' J J(Zm(i:=82)J J J J J(by decide)J Yz J J⟨Zc J,Zr(i:=81)J Zi,trivial⟩J hw trivial)fun _ _=>Yp<|Yj(by kernel_rfl)<|Za<|Zb<|Yn(Gh 81(Zsr _ x y)J J)<|Zg<|dt(Yb(i:=3)J J J Lp Yz J J)J<|dt(Yb(i:=82)J J J Lp Yz J J)J<|tt(Zh(n:=6)(Qu _ _ _ _ x(Ga x y)hs hgs(by omega)(by rw [hga];omega)hg0)J J J K2 Mh(Zd 1 J J J(Zd 81 J J J Ze))J hw)J fun g hg=>mv J J<|dt(Yg J J J)J<|dt(Yg J J J)J<|tt(Zm(i:=3)J J J J J(by decide)J Yz J J⟨Zc J,Zr(i:=6)J Zi,trivial⟩J hw trivial)J fun _ _=>Zf<|Za<|Zb<|Zg<|dt(Yb(i:=4)J J J Lp Yz J J)J<|dt(Yb(i:=82)J J J Lp Yz J J)J ?_
  refine tt(Zh(n:=8)(Qu _ _ _ _ y(Ga x y)ht hgs(by omega)(by rw [hga];omega)hg0)J J J K2 Mh(Zd 2 J J J(Zd 81 J J J Ze))J hw)J fun g_2 hg_2=>mv J J<|dt(Yg J J J)J<|dt(Yg J J J)J<|tt(Zm(i:=4)J J J J J(by decide)J Yz J J⟨Zc J,Zr(i:=8)J Zi,trivial⟩J hw trivial)J fun _ _=>Zf<|Za<|Zb<|Zg<|dt(Yb(i:=3)J J J Lp Yz J J)J<|tt(Zh(n:=9)(Kj _ _ _(by assumption)(by omega))J J J K1 Zcz(Zd 6 J J J Ze)J hw)J fun _ _=>mv J J<|dt(Yg J J J)J<|dt(Yg J J J)J<|tt(Zq(i:=10)J J J Tryz.zeroValue31 J J hw)J fun b_5 _=>tt(Zm(i:=10)J J J J J(by decide)J Yl J J⟨Zc J,Zc J,trivial⟩J hw trivial)J fun _ _=>as_ J J<|Zf<|Za<|Zb<|Zg<|dt(Yb(i:=4)J J J Lp Yz J J)J<|tt(Zh(n:=10)(Kj _ _ _(by assumption)(by omega))J J J K1 Zcz(Zd 8 J J J Ze)J hw)J fun _ _=>mv J J<|dt(Yg J J J)J<|dt(Yg J J J)J<|tt(Zq(i:=11)J J J Tryz.zeroValue31 J J hw)J fun b_6 _=>tt(Zm(i:=11)J J J J J(by decide)J Yl J J⟨Zc J,Zc J,trivial⟩J hw trivial)J fun _ _=>as_ J J<|Zf<|Za<|Zb<|Zb<|Zg<|mv J J<|dt(Qe J J J)J<|mv J J ?_
  refine Pa(d:=43)J(fun s460=>?_)(fun s460=>?_)
  ·exact gsk J J J J J<|gsk J J J J J<|dt(Xi J J J)J<|Zf<|Za<|Nm J<|Zb<|Zg<|dt(Oo(ivs:=[])J trivial(fun a w hs=>b41_))J<|tt(Zm(i:=5)J J J J J(by decide)J Xz J J⟨Zc J,Zc J,Zc J,Zc J,trivial⟩J hw trivial)J fun _ _=>as_ J J<|Zf<|Za<|Zw<|Xe<|Zy(.inl J)hsc()_(fun a w hs=>No hs Tryz.results163(Yr(i:=5)J J Pu Xz J)J)(Cr(by unfold Im;first | exact .inl(Cc(by assumption)) | exact .inr(Cc(by assumption))))trivial J Zj
  ·refine gdt(Ym J J)J J J J<|gdt(Qe J J J)J J J J<|dt(Yh J J J)J<|Zf<|Za<|Zp J(fun h460=>?_)(fun h460=>?_)
   ·exact Zb<|Zg<|dt(Oo(ivs:=[])J trivial(fun a w hs=>b41_))J<|tt(Zm(i:=5)J J J J J(by decide)J Xz J J⟨Zc J,Zc J,Zc J,Zc J,trivial⟩J hw trivial)J fun _ _=>as_ J J<|Zf<|Za<|Zw<|Xe<|Zy(.inl J)hsc()_(fun a w hs=>No hs Tryz.results163(Yr(i:=5)J J Pu Xz J)J)(Cr(by unfold Im;first | exact .inl(Cc(by assumption)) | exact .inr(Cc(by assumption))))trivial J Zj
   ·exact Zk<|Za<|Zb<|Zg<|dt(Yb(i:=10)J J J Qq Yl J J)J<|dt(Yb(i:=11)J J J Qq Yl J J)J<|dt(Oo(ivs:=[(0,_),(1,_)])J K4(fun a w hs=>Ze9))J<|tt(Zm(i:=5)J J J J J(by decide)J Xz J J⟨Zc J,Zc J,Zc J,Zc J,trivial⟩J hw trivial)J fun _ _=>as_ J J<|Zf<|Za<|Zw<|Zy(.inl J)hsc()_(fun a w hs=>No hs Tryz.results163(Yr(i:=5)J J Pu Xz J)J)(Zni(Decidable.byContradiction(by assumption))(Decidable.byContradiction(by assumption)))trivial J Zj
 ·refine Yq J J(Zq(i:=82)J J J Tryz.zeroValue154 J J hw)fun b_7 _=>Zz(n:=0) [(6,1),(7,0),(9,3)](by kernel_rfl)<|r1' J J(Zh(n:=81)(Zlp _ _ _ _(by omega)(by omega))J J J K2 cF185(Zd 1 J J J(Zd 2 J J J Ze))J hw)fun v_2 _=>r0' J J J J(st0(Oo(ivs:=[(0,_),(1,_)])J K4(fun a w hs=>Na((Zc J)a w hs)((Zr(i:=81)J Zi)a w hs))))<|r3' J J(Zm(i:=82)J J J J J(by decide)J Yz J J⟨Zc J,Zr(i:=81)J Zi,trivial⟩J hw trivial)fun _ _=>Yp<|Yj(by kernel_rfl)<|Za<|Zb<|Yn(Gh 81(Zsr _ x y)J J)<|Zg<|dt(Yb(i:=3)J J J Lp Yz J J)J<|dt(Yb(i:=82)J J J Lp Yz J J)J<|tt(Zh(n:=12)(Qu _ _ _ _ x(Ga x y)hs hgs(by omega)(by rw [hga];omega)hg0)J J J K2 Mh(Zd 1 J J J(Zd 81 J J J Ze))J hw)J fun g_3 hg_3=>mv J J<|dt(Yg J J J)J<|dt(Yg J J J)J<|tt(Zm(i:=3)J J J J J(by decide)J Yz J J⟨Zc J,Zr(i:=12)J Zi,trivial⟩J hw trivial)J fun _ _=>Zf<|Za<|Zb<|Zg<|dt(Yb(i:=4)J J J Lp Yz J J)J<|dt(Yb(i:=82)J J J Lp Yz J J)J ?_
  refine tt(Zh(n:=14)(Qu _ _ _ _ y(Ga x y)ht hgs(by omega)(by rw [hga];omega)hg0)J J J K2 Mh(Zd 2 J J J(Zd 81 J J J Ze))J hw)J fun g_4 hg_4=>mv J J<|dt(Yg J J J)J<|dt(Yg J J J)J<|tt(Zm(i:=4)J J J J J(by decide)J Yz J J⟨Zc J,Zr(i:=14)J Zi,trivial⟩J hw trivial)J fun _ _=>Zf<|Za<|Zb<|Zg<|dt(Yb(i:=3)J J J Lp Yz J J)J<|tt(Zh(n:=15)(Kj _ _ _(by assumption)(by omega))J J J K1 Zcz(Zd 12 J J J Ze)J hw)J fun _ _=>mv J J<|dt(Yg J J J)J<|dt(Yg J J J)J<|tt(Zq(i:=16)J J J Tryz.zeroValue31 J J hw)J fun b_8 _=>tt(Zm(i:=16)J J J J J(by decide)J Yl J J⟨Zc J,Zc J,trivial⟩J hw trivial)J fun _ _=>as_ J J<|Zf<|Za<|Zb<|Zg<|dt(Yb(i:=4)J J J Lp Yz J J)J<|tt(Zh(n:=16)(Kj _ _ _(by assumption)(by omega))J J J K1 Zcz(Zd 14 J J J Ze)J hw)J fun _ _=>mv J J<|dt(Yg J J J)J<|dt(Yg J J J)J<|tt(Zq(i:=17)J J J Tryz.zeroValue31 J J hw)J fun b_9 _=>tt(Zm(i:=17)J J J J J(by decide)J Yl J J⟨Zc J,Zc J,trivial⟩J hw trivial)J fun _ _=>as_ J J<|Zf<|Za<|Zb<|Zb<|Zg<|mv J J<|dt(Qe J J J)J<|mv J J ?_
  refine Pa(d:=43)J(fun s460_2=>?_)(fun s460_2=>?_)
  ·exact gsk J J J J J<|gsk J J J J J<|dt(Xi J J J)J<|Zf<|Za<|Nm J<|Zb<|Zg<|dt(Oo(ivs:=[])J trivial(fun a w hs=>b41_))J<|tt(Zm(i:=5)J J J J J(by decide)J Xz J J⟨Zc J,Zc J,Zc J,Zc J,trivial⟩J hw trivial)J fun _ _=>as_ J J<|Zf<|Za<|Zw<|Xe<|Zy(.inl J)hsc()_(fun a w hs=>No hs Tryz.results163(Yr(i:=5)J J Pu Xz J)J)(Cr(by unfold Im;first | exact .inl(Cc(by assumption)) | exact .inr(Cc(by assumption))))trivial J Zj
  ·refine gdt(Ym J J)J J J J<|gdt(Qe J J J)J J J J<|dt(Yh J J J)J<|Zf<|Za<|Zp J(fun h460_2=>?_)(fun h460_2=>?_)
   ·exact Zb<|Zg<|dt(Oo(ivs:=[])J trivial(fun a w hs=>b41_))J<|tt(Zm(i:=5)J J J J J(by decide)J Xz J J⟨Zc J,Zc J,Zc J,Zc J,trivial⟩J hw trivial)J fun _ _=>as_ J J<|Zf<|Za<|Zw<|Xe<|Zy(.inl J)hsc()_(fun a w hs=>No hs Tryz.results163(Yr(i:=5)J J Pu Xz J)J)(Cr(by unfold Im;first | exact .inl(Cc(by assumption)) | exact .inr(Cc(by assumption))))trivial J Zj
   ·exact Zk<|Za<|Zb<|Zg<|dt(Yb(i:=16)J J J Qq Yl J J)J<|dt(Yb(i:=17)J J J Qq Yl J J)J<|dt(Oo(ivs:=[(0,_),(1,_)])J K4(fun a w hs=>Ze9))J<|tt(Zm(i:=5)J J J J J(by decide)J Xz J J⟨Zc J,Zc J,Zc J,Zc J,trivial⟩J hw trivial)J fun _ _=>as_ J J<|Zf<|Za<|Zw<|Zy(.inl J)hsc()_(fun a w hs=>No hs Tryz.results163(Yr(i:=5)J J Pu Xz J)J)(Zni(Decidable.byContradiction(by assumption))(Decidable.byContradiction(by assumption)))trivial J Zj
theorem Zfr(x y:Int)(hx:bl x.natAbs≤65536)(hy:bl y.natAbs≤65536)(hy0:y≠0):Cal Tryz.prog 119#[wv x,wv y] []false(G:=Unit)(fun _=>True)(fun _=>Zck x y)(fun _=>[]):=by
 refine Yc Tryz.func119 J Tryz.ntmps119 J trivial ?_
 intro w0 sc hw hsc
 simp only [Zo,Zn]
 refine Zb<|Zg<|tt(Xh(i:=1)J J J J J J hw)J fun b _=>tt(Xh(i:=2)J J J J J J hw)J fun b_2 _=>tt(Zq(i:=3)J J J Tryz.zeroValue41 J J hw)J fun b_3 _=>as_ J J<|Zf<|Za<|Zb<|Zb<|Zg<|dt(Yb(i:=1)J J J Qq Yl J J)J<|dt(Yb(i:=2)J J J Qq Yl J J)J<|tt(Zh(n:=3)(Lr _ _(by assumption)(by assumption))J J J K2 Zkg Ze J hw)J fun _ _=>dt(Xr J J)J<|Zf<|Za<|Yf J<|Zk<|Za<|Zb<|Zb<|Zg<|dt(Qa J J Zct J zT9 J J)J<|dt(Oh(i:=2)J J J iA9 J)J<|dt(Zkc J J J J)J<|Zf<|Za<|Zp J(fun h471=>?_)(fun h471=>?_)
 ·rw [Mv]at h471
  exfalso;exact hy0(by have:=(Ph(by omega:2≤256)y.natAbs).1 h471;omega)
 ·refine Zk<|Za<|Zb<|Qr(fun _=>False) [(0,0),(2,0),(1,1),(3,1),(4,1),(5,0),(6,0),(7,3),(8,3)](by kernel_rfl) ?_ ?_
  ·kernel_rfl
  exact r0' J J J J(st0(Yb(i:=1)J J J Qq Yl J J))<|r0' J J J J(st0(Yb(i:=2)J J J Qq Yl J J))<|r1' J J(Zh(n:=4)(Pb _ _(Xm _)(by omega))J J J K1 Li Ze J hw)fun g hg=>r1' J J(Zh(n:=5)(Pb _ _(Xm _)(by omega))J J J K1 Li Ze J hw)fun g_2 hg_2=>r1' J J(Zh(n:=5)(Bq _ _ _ _ _ _(by assumption)(by assumption)(by omega)(by omega)hy0)J J J K2 cF163(Zd 4 J J J(Zd 5 J J J Ze))J hw)fun _ _=>r0' J J J J(st0(Yg J J J))<|r0' J J J J(st0(Yg J J J))<|r3' J J(Zm(i:=3)J J J J J(by decide)J Xz J J⟨Zc J,Zc J,Zc J,Zc J,trivial⟩J hw trivial)fun _ _=>r3' J J(Pz(Kc J J)J J)fun _ _=>Oj<|Za<|Zw<|Zy(.inl J)hsc()_(fun a w hs=>No hs Tryz.results119(Yr(i:=3)J J Pu Xz J)J)J trivial J Zj
theorem Zdu(b:Bool)(s:ByteArray)(c:Bool)(t:ByteArray):Cal Tryz.prog 117#[.agg#[.bool b,.string s,.bool c,.string t]] []false(G:=Unit)(fun _=>True)(fun _=> .bool(okR b s c t))(fun _=>[]):=by
 refine Yc Tryz.func117 J Tryz.ntmps117 J trivial ?_
 intro w0 sc hw hsc
 simp only [Zo,Zn]
 refine Zb<|Zg<|tt(Xh(i:=1)J J J J J J hw)J fun b _=>as_ J J<|Zf<|Za<|Zb<|Zg<|dt(Qa J J Ar J Yl J J)J<|dt(Yb(i:=1)J J J Qq Yl J J)J<|dt(Qa J J Ar J Yl J J)J<|dt(Yb(i:=1)J J J Qq Yl J J)J<|tt(Zh(n:=1)(Ziv _ _ _ _)J J J K2 Zkg Ze J hw)J fun _ _=>mv J J<|Ey(d:=8)J(fun s451=>?_)(fun s451=>?_)
 ·have hcc:okW c t=true:=by simp_all
  have hok:=Zns hcc
  obtain⟨hk1,hk2,hk3⟩:=Classical.choose_spec hok
  generalize Classical.choose hok=z at hk1 hk2 hk3 ⊢
  subst hk2;subst hk3
  try clear hok
  exact gdt(Qa J J Ar J Yl J J)J J J J<|gdt(Yb(i:=1)J J J Qq Yl J J)J J J J<|gtt(Zh(n:=1)(Ml z hk1)J J J K1 Zcc Ze J hw)J J J J fun _ _=>gdt(Ot J J J)J J J J<|dt(Xi J J J)J<|as_ J J<|Zf<|Za<|Zw<|Zy(.inl J)hsc()_(fun a w hs=>Qi hs Tryz.results117 J)(by first | rw [Znt(by simp_all)hk1] | (unfold okR;simp_all))trivial J Zj
 ·exact gsk J J J J J<|gsk J J J J J<|gsk J J J J J<|gsk J J J J J<|dt(Yh J J J)J<|as_ J J<|Zf<|Za<|Zw<|Zy(.inl J)hsc()_(fun a w hs=>Qi hs Tryz.results117 J)(by first | rw [Znt(by simp_all)hk1] | (unfold okR;simp_all))trivial J Zj
theorem Qs(x y:Int)(hx:bl x.natAbs≤65536)(hy:bl y.natAbs≤65536)(hy0:0<y):Cal Tryz.prog 117#[.agg#[.bool(decide(x<0)),.string(Xd x.natAbs),.bool(decide(y<0)),.string(Xd y.natAbs)]] []false(G:=Unit)(fun _=>True)(fun _=> .bool true)(fun _=>[]):=okR_wv hx hy hy0▸Zdu _ _ _ _
theorem Xb(x:Int)(hx:inI x):Cal Tryz.prog 81#[.int .i64 x] []false(G:=Unit)(fun _=>True)(fun _=>wv x)(fun _=>[]):=by
 refine Yc Tryz.func81 J Tryz.ntmps81 J trivial ?_
 intro w0 sc hw hsc
 simp only [Zo,Zn]
 have hxa:=hx.1
 have hxb:=hx.2
 have hxU:x.natAbs<U:=by simp only [U];omega
 have hxl:bl x.natAbs≤64:=(Mi 64 _).2(by rw [←U_eq];exact hxU)
 refine Zb<|Zg<|tt(Zq(i:=1)J J J Tryz.zeroValue31 J J hw)J fun b _=>Zf<|Za<|Zb<|Zg<|mv J J<|dt(cv_u64i(r:=x%18446744073709551616)J J uT3 Zdy J)J<|as_ J J<|Zf<|Za<|Dc [(0,_),(2,_)] [(0,_),(1,_)](fun(_:Unit)=>[(3,.int .u64((x.natAbs:Nat):Int))])(fun(_:Unit)=>[])(fun(_:Unit)=>True)K2 K2 ?_ ?_
 ·refine Zb<|Zg<|mv J J<|dt(Xw J J J)J<|Zf<|Za<|Zp J(fun h276=>?_)(fun h276=>?_)
  ·exact Zg<|mv J J<|dt(u_negm(r:=x.natAbs)J J(by omega))J<|as_ J J<|Zf<|Qy()trivial⟨by first | rfl | (rw [show x%18446744073709551616=((x.natAbs:Nat):Int)by omega];rfl),rfl,rfl,trivial⟩K2
  ·exact Zk<|Qy()trivial⟨by first | rfl | (rw [show x%18446744073709551616=((x.natAbs:Nat):Int)by omega];rfl),rfl,rfl,trivial⟩K2
 ·rintro _ -
  simp only [List.cons_append,List.nil_append]
  exact Zb<|Zg<|mv J J<|dt(Xw J J J)J<|mv J J<|tt(Pr(i:=2)(ivs:=[(0,_)])(enc:=Iw) [x.natAbs]J J J K2 Xu Tryz.ti149 J J J J J J pU.cells J J hw)J fun v _=>tt(Zh(n:=2)(Og _ _)J J J K1 Zcb(Xv 2 J J pU Ze)J hw)J fun _ _=>Pt(Zfy 2 J J pU)<|Pt(Zef 2(Zd0 hxU)J J)<|dt(Oo(ivs:=[(0,_),(1,_)])J K4(fun a w hs=>Na((Zc J)a w hs)((Zr(i:=2)J(Yo pU))a w hs)))J<|tt(Zh(n:=2)(Kj _ _ x(Xm _)(by omega))J J J K1 Zcz(Xv 2 J J pU Ze)J hw)J fun _ _=>mv J J<|dt(Yg J J J)J<|dt(Yg J J J)J<|tt(Zq(i:=3)J J J Tryz.zeroValue31 J J hw)J fun b_2 _=>tt(Zm(i:=3)J J J J J(by decide)J Yl J J⟨Zc J,Zc J,trivial⟩J hw trivial)J fun _ _=>as_ J J<|Zf<|Za<|Zb<|Zg<|dt(Yb(i:=3)J J J Qq Yl J J)J<|tt(Zm(i:=1)J J J J J(by decide)J Yl J J⟨Zc J,Zc J,trivial⟩J hw trivial)J fun _ _=>Zf<|Za<|Zw<|Zy(.inl J)hsc()_(fun a w hs=>Qi hs Tryz.results81(Yr(i:=1)J J Qq Yl J))(by rw [Oy(by omega)]<;>rfl)trivial J Zj
end Go.Sky
namespace Go.Sky
open Go.Proofs
set_option maxRecDepth 20000
set_option maxHeartbeats 4000000
set_option linter.unusedVariables false
set_option linter.unusedSimpArgs false
theorem Zal(v:Value)(xs:List Int)(hs:Sz 65536 xs):Cal Tryz.prog 152#[v] [slp 2 wv v xs]true(G:=Unit)(fun _=>True)(fun _=>Fj v(tzl xs).length)(fun _=>[slp 2 wv(Fj v(tzl xs).length)(tzl xs)]):=by
 refine Yc Tryz.func152 J Tryz.ntmps152 J K1 ?_
 intro w0 sc hw hsc
 simp only [Zo,Zn]
 refine Ma(Zs9(i:=1)J Zi)fun hself=>Ma(Gb(i:=1)J Zi)fun hlen=>Zb<|Zg<|as_ J J<|Zf<|Za<|Zb<|Zl<|Nt [] [(0,_)](fun(k:Nat)=>[(0,Fj v k)])(fun(k:Nat)=>[(1,slp 2 wv(Fj v k)(xs.take k))])(fun(k:Nat)=>(k≤xs.length)∧(tzl(xs.take k)=tzl xs))(fun(k:Nat)=>k)xs.length⟨Nat.le_refl _,by rw [List.take_length]⟩⟨by rw [hself];rfl,trivial⟩⟨by rw [hself,List.take_length];rfl,rfl,trivial⟩ ?_
 rintro k⟨hk,ht⟩
 simp only [List.cons_append,List.nil_append]
 have hl:(xs.take k).length=k:=by rw [List.length_take];omega
 refine Zb<|Zb<|Zg<|mv J J<|dt(Ya J J(i:=1)J Zi Qp)J<|dt(Ot J J J)J<|mv J J<|Pa(d:=6)J(fun s35=>?_)(fun s35=>?_)
 ·refine gdt(Ym J J)J J J J<|gdt(Ym J J)J J J J<|gdt(Ya J J(i:=1)J Zi Qp)J J J J<|gdt(Qb J J J⟨by omega,by omega⟩)J J J J<|gdt(Yw(ii:=1)(i:=k-1)J J J J Zi Qp Yl(by omega)(by omega))J J J J<|gdt(Xn(ii:=1)0 J J J Zi pV(by omega))J J J J<|gtt(Zh(n:=1)(Ml _((hs.take _).getD _))J J J K1 Zcc Ze J hw)J J J J fun _ _=>gdt(Pm J J J)J J J J<|dt(Xi J J J)J<|Zf<|Za<|Zp J(fun h35=>?_)(fun h35=>?_)
  ·have hstep:=Zmy hk(by omega)(Zft(k:=k)(by omega)(Int.sign_eq_zero_iff_zero.1 ‹_›):cf xs(k-1)=0)
   exact Zk<|Za<|Zl<|Zg<|mv J J<|mv J J<|dt(Ya J J(i:=1)J Zi Qp)J<|dt(Qb J J J⟨by omega,by omega⟩)J<|dt(Zxs(ii:=1)(i:=k-1)J J J J Zi Qp Yl(by omega)(by omega))J<|as_ J J<|Zf<|Px<|Qv(s_pre 1 1(k-1)J J(by omega))<|Xl(k-1)⟨by first | omega | (dsimp only<;>omega),by rw [←ht,←hstep]⟩(by first | omega | (dsimp only<;>omega))⟨by rw [←He v k(k-1)];rfl,trivial⟩⟨by rw [He,List.take_take,Nat.min_eq_left(by omega)];rfl,rfl,trivial⟩
  ·refine Yu<|Zt<|Zt<|Ov<|Za<|Zb<|Zg<|mv J J<|as_ J J<|Zf<|Za<|Zw ?_
   have hx:tzl xs=xs.take k:=by rw [←ht];exact Zc1 hk(by first | (left;omega) | (right;exact Zc2(k:=k)(by omega)(by assumption)))
   exact Zy(.inl J)hsc()_(fun a w hs=>Qi hs Tryz.results152 J)(by rw [hx,hl])trivial J(Yk 1 J J J(by rw [hx,hl])Zj)
 ·refine gsk J J J J J<|gsk J J J J J<|gsk J J J J J<|gsk J J J J J<|gsk J J J J J<|gsk J J J J J<|gsk J J J J J<|gsk J J J J J<|dt(Yh J J J)J<|Zf<|Za<|Yf J<|Yu<|Zt<|Zt<|Ov<|Za<|Zb<|Zg<|mv J J<|as_ J J<|Zf<|Za<|Zw ?_
  have hx:tzl xs=xs.take k:=by rw [←ht];exact Zc1 hk(by first | (left;omega) | (right;exact Zc2(k:=k)(by omega)(by assumption)))
  exact Zy(.inl J)hsc()_(fun a w hs=>Qi hs Tryz.results152 J)(by rw [hx,hl])trivial J(Yk 1 J J J(by rw [hx,hl])Zj)
theorem Zbw(v:Value)(r:List(Bool×ByteArray)):Cal Tryz.prog 49#[v] [slp 2 Zgh v r]false(G:=Unit)(fun _=>True)(fun _=> .bool(okP r))(fun _=>[]):=by
 refine Yc Tryz.func49 J Tryz.ntmps49 J K1 ?_
 intro w0 sc hw hsc
 simp only [Zo,Zn]
 refine Ma(Gb(i:=1)J Zi)fun hlen=>Zb<|Zg<|as_ J J<|Zf<|Za<|Zb<|Zb<|Zg<|mv J J<|dt(Ya J J(i:=1)J Zi Qp)J<|mv J J<|Zf<|Za<|Zl<|Nt [(0,_),(5,_),(6,_)] [(0,_),(1,_)](fun(k:Nat)=>[(7,.int .i64(k:Int))])(fun(k:Nat)=>[])(fun(k:Nat)=>(k≤r.length)∧((r.take k).all(fun w=>okW w.1 w.2)=true))(fun(k:Nat)=>r.length-k)0⟨by first | omega | (dsimp only<;>omega),by simp⟩K4 K2 ?_
 rintro k⟨hk,ha⟩
 simp only [List.cons_append,List.nil_append]
 refine Zb<|Zg<|dt(Xw J J J)J<|Zf<|Za<|Zb<|Zp J(fun h51=>?_)(fun h51=>?_)
 ·refine Zk<|Za<|Zb<|Zl<|Zb<|Zg<|dt(Yw(ii:=1)J J J J Zi Qp Yl J(by first | omega | (simp only [List.length_set];omega)))J<|dt(Xn(ii:=1)(false,⟨#[]⟩)J J J Zi pW(by first | omega | (simp only [List.length_set];omega)))J<|tt(Zq(i:=2)J J J Tryz.zeroValue31 J J hw)J fun b _=>tt(Zm(i:=2)J J J J J(by decide)J Yl J J⟨Zc J,Zc J,trivial⟩J hw trivial)J fun _ _=>Zf<|Za<|Zb<|Zg<|dt(Yb(i:=2)J J J Qq Yl J J)J<|tt(Zh(n:=2)(Fl _ _)J J J K1 Zfq Ze J hw)J fun _ _=>dt(Xr J J)J<|Zf<|Za<|Mt J(fun h52=>?_)(fun h52=>?_)
  ·exact Zb<|Zg<|as_ J J<|Zf<|Za<|Zw<|Hb<|Xe<|Xe<|Hb<|Xe<|Zy(.inl J)hsc()_(fun a w hs=>Qi hs Tryz.results49 J)(by rw [Zr2(Yv(i:=k)(d:=(false,⟨#[]⟩))(by omega))(by simp_all)])trivial J Zj
  ·exact Zk<|Px<|Za<|Zg<|dt(Ys J J J⟨by omega,by omega⟩)J<|mv J J<|Zf<|Xl(k+1)⟨by first | omega | (dsimp only<;>omega),by rw [Oe(false,⟨#[]⟩)_ _(by omega),List.all_append,ha];simpa using h52⟩(by first | omega | (dsimp only<;>omega))K4 K2
 ·refine Yu<|Zt<|Zt<|Ov<|Za<|Zb ?_
  obtain rfl:k=r.length:=by omega
  rw [List.take_length]at ha
  obtain⟨xs,hxs,rfl⟩:=Znr(List.all_eq_true.1 ha)
  have hsz:=Sz.of_mem hxs
  rw [List.length_map]at hlen
  refine Yn(Zna 1(q:=slp 2 wv v xs)J J(Zqv v xs)(fun _ h=>h)J)<|Zg<|mv J J<|dt(Ya J J(i:=1)J Zi Qp)J<|dt(Dl J J J)J<|mv J J<|Pa(d:=18)J(fun s56=>?_)(fun s56=>?_)
  ·refine gdt(Ym J J)J J J J<|gdt(Ya J J(i:=1)J Zi Qp)J J J J<|gdt(Pm J J J)J J J J<|gdt(Ym J J)J J J J<|Pa(d:=22)J(fun s56_2=>?_)(fun s56_2=>?_)
   ·exact gsk J J J J J<|gsk J J J J J<|gsk J J J J J<|gsk J J J J J<|gsk J J J J J<|gsk J J J J J<|gsk J J J J J<|gsk J J J J J<|gdt(Xi J J J)J J J J<|dt(Xi J J J)J<|as_ J J<|Zf<|Za<|Zw<|Zy(.inl J)hsc()_(fun a w hs=>Qi hs Tryz.results49 J)(by rw [Zlk hxs];first | (simp_all;done) | (simp_all;omega))trivial J Zj
   ·exact gdt(Ym J J)J J J J<|gdt(Ym J J)J J J J<|gdt(Ya J J(i:=1)J Zi Qp)J J J J<|gdt(Qb J J J⟨by omega,by omega⟩)J J J J<|gdt(Yw(ii:=1)(i:=xs.length-1)J J J J Zi Qp Yl(by omega)(by omega))J J J J<|gdt(Xn(ii:=1)0 J J J Zi pV(by omega))J J J J<|gtt(Zh(n:=2)(Ml _(hsz.getD _))J J J K1 Zcc Ze J hw)J J J J fun _ _=>gdt(Qe J J J)J J J J<|gdt(Yh J J J)J J J J<|dt(Xi J J J)J<|as_ J J<|Zf<|Za<|Zw<|Zy(.inl J)hsc()_(fun a w hs=>Qi hs Tryz.results49 J)(by rw [Zlk hxs];first | (simp_all;done) | (simp_all;omega))trivial J Zj
  ·exact gsk J J J J J<|gsk J J J J J<|gsk J J J J J<|gsk J J J J J<|Zjz J J J<|Zjz J J J<|Zjz J J J<|Zjz J J J<|Zjz J J J<|Zjz J J J<|Zjz J J J<|Zjz J J J<|gsk J J J J J<|dt(Yh J J J)J<|as_ J J<|Zf<|Za<|Zw<|Zy(.inl J)hsc()_(fun a w hs=>Qi hs Tryz.results49 J)(by rw [Zlk hxs];first | (simp_all;done) | (simp_all;omega))trivial J Zj
theorem Xp(v:Value)(xs:List Int)(h:Vp xs):Cal Tryz.prog 49#[v] [slp 2 wv v xs]false(G:=Unit)(fun _=>True)(fun _=> .bool true)(fun _=>[]):=okP_wr h▸(Zbw v(xs.map wr)).imp(Zqw v xs)(fun _ h=>h)
theorem Nv(v:Value)(xs:List Int)(hs:Sz 65536 xs):Cal Tryz.prog 149#[v] [slp 2 wv v xs]false(G:=Unit)(fun _=>True)(fun _=> .int .i64(msz xs:Int))(fun _=>[]):=by
 refine Yc Tryz.func149 J Tryz.ntmps149 J K1 ?_
 intro w0 sc hw hsc
 simp only [Zo,Zn]
 refine Ma(Gb(i:=1)J Zi)fun hlen=>Zb<|Zg<|as_ J J<|Zf<|Za<|Zb<|Zg<|as_ J J<|Zf<|Za<|Zb<|Zb<|Zg<|mv J J<|dt(Ya J J(i:=1)J Zi uT22)J<|mv J J<|Zf<|Za<|Zl<|Nt [(6,_),(7,_)] [(0,_),(1,_)](fun(k:Nat)=>[(8,.int .i64(k:Int)),(3,.int .i64(msz(xs.take k):Int))])(fun(k:Nat)=>[])(fun(k:Nat)=>k≤xs.length)(fun(k:Nat)=>xs.length-k)0(by first | omega | (dsimp only<;>omega))K4 K2 ?_
 rintro k hk
 simp only [List.cons_append,List.nil_append]
 refine Zb<|Zg<|dt(Xw J J J)J<|Zf<|Za<|Zb<|Zp J(fun h83=>?_)(fun h83=>?_)
 ·exact Zk<|Za<|Zb<|Zl<|Zb<|Zg<|dt(Yw(ii:=1)J J J J Zi uT22 Yl J(by first | omega | (simp only [List.length_set];omega)))J<|dt(Xn(ii:=1)0 J J J Zi pV(by first | omega | (simp only [List.length_set];omega)))J<|tt(Zq(i:=2)J J J Tryz.zeroValue31 J J hw)J fun b _=>tt(Zm(i:=2)J J J J J(by decide)J Yl J J⟨Zc J,Zc J,trivial⟩J hw trivial)J fun _ _=>Zf<|Za<|Zg<|mv J J<|dt(Yb(i:=2)J J J Qq Yl J J)J<|tt(Zh(n:=2)(Zgq _(hs.getD _))J J J K1 cF145 Ze J hw)J fun _ _=>dt(Zty J J J)J<|as_ J J<|Zf<|Px<|Za<|Zg<|dt(Ys J J J⟨by omega,by omega⟩)J<|mv J J<|Zf<|Xl(k+1)(by first | omega | (dsimp only<;>omega))(by first | omega | (dsimp only<;>omega))⟨J,by rw [Oe 0 _ _(by omega),Znv];exact congrArg some(Dj(by omega)),rfl,rfl,trivial⟩K2
 ·exact Yu<|Zt<|Zt<|Ov<|Za<|Zb<|Zg<|mv J J<|as_ J J<|Zf<|Za<|Zw<|Zy(.inl J)hsc()_(fun a w hs=>Qi hs Tryz.results149 J)(by rw [List.take_of_length_le(by omega)])trivial J Zj
theorem Zn9(bd:Nat)(t:TypeId)(e e2:Int)(n:Bool)(s:ByteArray):Zp5 Tryz.prog 175#[.pointer(some⟨bd,0,none⟩),.agg#[.bool n,.string s],.int .i64 e2] []false bd t#[.int .i64 e](G:=Unit)(fun _=>True)(fun _=> .agg#[.bool n,.string s])(fun _=>#[.int .i64(if e=0 then e2 else e)])(fun _=>[]):=by
 refine Zb9 Tryz.func175 J Tryz.ntmps175 J trivial ?_
 intro w0 sc hw hsc
 simp only [Zo,Zn]
 refine Zb<|Zg<|tt(Xh(i:=2)J J J J J J hw)J fun b _=>tt(Zq(i:=3)J J J Tryz.zeroValue31 J J hw)J fun b_2 _=>Zf<|Za<|Zb<|Zb<|Zg<|mv J J<|dt(Zfm J J)J<|dt(Qa J J Zkr J Gj J J)J<|dt(Oh(i:=1)J J J Al J)J<|dt(Pm J J J)J<|Zf<|Za<|Zp J(fun h19=>?_)(fun h19=>?_)
 ·exact Zg<|mv J J<|mv J J<|dt(Zfm J J)J<|dt(Qa J J Zkr J Gj J J)J<|tt(Zm(i:=1)J J J J J(by decide)J Gj J J⟨Zc J,trivial⟩J hw trivial)J fun _ _=>Zf<|Za<|Zb<|Zg<|dt(Yb(i:=2)J J J Qq Yl J J)J<|tt(Zm(i:=3)J J J J J(by decide)J Yl J J⟨Zc J,Zc J,trivial⟩J hw trivial)J fun _ _=>Zf<|Za<|Zw<|Zdt(.inl J)hsc()_(fun a w hs=>Qi hs Tryz.results175(Yr(i:=3)J J Qq Yl J))J trivial 1 J(by simp_all [Af])J J Zj
 ·exact Zk<|Za<|Zb<|Zg<|dt(Yb(i:=2)J J J Qq Yl J J)J<|tt(Zm(i:=3)J J J J J(by decide)J Yl J J⟨Zc J,Zc J,trivial⟩J hw trivial)J fun _ _=>Zf<|Za<|Zw<|Zdt(.inl J)hsc()_(fun a w hs=>Qi hs Tryz.results175(Yr(i:=3)J J Qq Yl J))J trivial 1 J(by simp_all [Af])J J Zj
theorem d_mul_(bd:Nat)(e x y:Int)(hx:bl x.natAbs≤65536)(hy:bl y.natAbs≤65536):Zp5 Tryz.prog 153#[.pointer(some⟨bd,0,none⟩),wv x,wv y] []false bd 167#[.int .i64 e](G:=Unit)(fun _=>True)(fun _=>wv(Zgj(x*y)))(fun _=>#[.int .i64(err e(x*y))])(fun _=>[]):=by
 refine Zb9 Tryz.func153 J Tryz.ntmps153 J trivial ?_
 intro w0 sc hw hsc
 simp only [Zo,Zn]
 refine Zb<|Zg<|tt(Xh(i:=2)J J J J J J hw)J fun b _=>tt(Xh(i:=3)J J J J J J hw)J fun b_2 _=>tt(Zq(i:=4)J J J Tryz.zeroValue31 J J hw)J fun b_3 _=>Zf<|Za<|Zb<|Qr(fun x=>x=bd) [(0,0),(1,0),(2,0),(3,0),(4,0),(5,1),(6,0),(7,0),(8,1),(9,3)](by kernel_rfl) ?_ ?_
 ·kernel_rfl
 exact r0' J J J J(st1 1 J(Ym J J))<|r0' J J J J(st1 1 J(Zfm J J))<|r0' J J J J(st1 1 J(Qa J J Zgy J Zgo J J))<|r0' J J J J(st1 1 J(Yb(i:=2)J J J Qq Yl J J))<|r0' J J J J(st1 1 J(Yb(i:=3)J J J Qq Yl J J))<|r1' J J(Zh(n:=4)(Ej _ _(by assumption)(by assumption))J J J K2 Zmk Ze J hw)fun _ _=>r0' J J J J(st1 1 J(Yg J J J))<|r0' J J J J(st1 1 J(Yg J J J))<|r1' J J(Oi(n:=4)(i:=1)(Zn9 _ _ _ _ _ _)J J J K3 Zx2 J(by decide)Ze J hw J)fun _ _=>r3' J J(Zm(i:=4)J J J J J(by decide)J Yl J J⟨Zc J,Zc J,trivial⟩J hw trivial)fun _ _=>Oj<|Za<|Zw<|Zdt(.inl J)hsc()_(fun a w hs=>Qi hs Tryz.results153(Yr(i:=4)J J Qq Yl J))J trivial 1 J J J J Zj
theorem Ec(bd:Nat)(x y:Int)(hx:bl x.natAbs≤65536)(hy:bl y.natAbs≤65536)(hz:bl(x*y).natAbs≤65536):Zp5 Tryz.prog 153#[.pointer(some⟨bd,0,none⟩),wv x,wv y] []false bd 167#[.int .i64 0](G:=Unit)(fun _=>True)(fun _=>wv(x*y))(fun _=>#[.int .i64 0])(fun _=>[]):=by
 have h:=d_mul_ bd 0 x y hx hy
 rw [Oy hz,Ztf hz]at h;exact h
theorem d_add_(bd:Nat)(e x y:Int)(hx:bl x.natAbs≤65536)(hy:bl y.natAbs≤65536):Zp5 Tryz.prog 159#[.pointer(some⟨bd,0,none⟩),wv x,wv y] []false bd 167#[.int .i64 e](G:=Unit)(fun _=>True)(fun _=>wv(Zgj(x+y)))(fun _=>#[.int .i64(err e(x+y))])(fun _=>[]):=by
 refine Zb9 Tryz.func159 J Tryz.ntmps159 J trivial ?_
 intro w0 sc hw hsc
 simp only [Zo,Zn]
 refine Zb<|Zg<|tt(Xh(i:=2)J J J J J J hw)J fun b _=>tt(Xh(i:=3)J J J J J J hw)J fun b_2 _=>tt(Zq(i:=4)J J J Tryz.zeroValue31 J J hw)J fun b_3 _=>Zf<|Za<|Zb<|Qr(fun x=>x=bd) [(0,0),(1,0),(2,0),(3,0),(4,0),(5,1),(6,0),(7,0),(8,1),(9,3)](by kernel_rfl) ?_ ?_
 ·kernel_rfl
 exact r0' J J J J(st1 1 J(Ym J J))<|r0' J J J J(st1 1 J(Zfm J J))<|r0' J J J J(st1 1 J(Qa J J Zgy J Zgo J J))<|r0' J J J J(st1 1 J(Yb(i:=2)J J J Qq Yl J J))<|r0' J J J J(st1 1 J(Yb(i:=3)J J J Qq Yl J J))<|r1' J J(Zh(n:=4)(Gk _ _(by assumption)(by assumption))J J J K2 cF82 Ze J hw)fun _ _=>r0' J J J J(st1 1 J(Yg J J J))<|r0' J J J J(st1 1 J(Yg J J J))<|r1' J J(Oi(n:=4)(i:=1)(Zn9 _ _ _ _ _ _)J J J K3 Zx2 J(by decide)Ze J hw J)fun _ _=>r3' J J(Zm(i:=4)J J J J J(by decide)J Yl J J⟨Zc J,Zc J,trivial⟩J hw trivial)fun _ _=>Oj<|Za<|Zw<|Zdt(.inl J)hsc()_(fun a w hs=>Qi hs Tryz.results159(Yr(i:=4)J J Qq Yl J))J trivial 1 J J J J Zj
theorem Zoh(bd:Nat)(x y:Int)(hx:bl x.natAbs≤65536)(hy:bl y.natAbs≤65536)(hz:bl(x+y).natAbs≤65536):Zp5 Tryz.prog 159#[.pointer(some⟨bd,0,none⟩),wv x,wv y] []false bd 167#[.int .i64 0](G:=Unit)(fun _=>True)(fun _=>wv(x+y))(fun _=>#[.int .i64 0])(fun _=>[]):=by
 have h:=d_add_ bd 0 x y hx hy
 rw [Oy hz,Ztf hz]at h;exact h
theorem d_sub_(bd:Nat)(e x y:Int)(hx:bl x.natAbs≤65536)(hy:bl y.natAbs≤65536):Zp5 Tryz.prog 137#[.pointer(some⟨bd,0,none⟩),wv x,wv y] []false bd 167#[.int .i64 e](G:=Unit)(fun _=>True)(fun _=>wv(Zgj(x-y)))(fun _=>#[.int .i64(err e(x-y))])(fun _=>[]):=by
 refine Zb9 Tryz.func137 J Tryz.ntmps137 J trivial ?_
 intro w0 sc hw hsc
 simp only [Zo,Zn]
 refine Zb<|Zg<|tt(Xh(i:=2)J J J J J J hw)J fun b _=>tt(Xh(i:=3)J J J J J J hw)J fun b_2 _=>tt(Zq(i:=4)J J J Tryz.zeroValue31 J J hw)J fun b_3 _=>Zf<|Za<|Zb<|Qr(fun x=>x=bd) [(0,0),(1,0),(2,0),(3,0),(4,0),(5,1),(6,0),(7,0),(8,1),(9,3)](by kernel_rfl) ?_ ?_
 ·kernel_rfl
 exact r0' J J J J(st1 1 J(Ym J J))<|r0' J J J J(st1 1 J(Zfm J J))<|r0' J J J J(st1 1 J(Qa J J Zgy J Zgo J J))<|r0' J J J J(st1 1 J(Yb(i:=2)J J J Qq Yl J J))<|r0' J J J J(st1 1 J(Yb(i:=3)J J J Qq Yl J J))<|r1' J J(Zh(n:=4)(Zmt _ _(by assumption)(by assumption))J J J K2 cF140 Ze J hw)fun _ _=>r0' J J J J(st1 1 J(Yg J J J))<|r0' J J J J(st1 1 J(Yg J J J))<|r1' J J(Oi(n:=4)(i:=1)(Zn9 _ _ _ _ _ _)J J J K3 Zx2 J(by decide)Ze J hw J)fun _ _=>r3' J J(Zm(i:=4)J J J J J(by decide)J Yl J J⟨Zc J,Zc J,trivial⟩J hw trivial)fun _ _=>Oj<|Za<|Zw<|Zdt(.inl J)hsc()_(fun a w hs=>Qi hs Tryz.results137(Yr(i:=4)J J Qq Yl J))J trivial 1 J J J J Zj
theorem Zts(bd:Nat)(x y:Int)(hx:bl x.natAbs≤65536)(hy:bl y.natAbs≤65536)(hz:bl(x-y).natAbs≤65536):Zp5 Tryz.prog 137#[.pointer(some⟨bd,0,none⟩),wv x,wv y] []false bd 167#[.int .i64 0](G:=Unit)(fun _=>True)(fun _=>wv(x-y))(fun _=>#[.int .i64 0])(fun _=>[]):=by
 have h:=d_sub_ bd 0 x y hx hy
 rw [Oy hz,Ztf hz]at h;exact h
theorem d_done(bd:Nat)(v:Value)(xs:List Int)(hs:Sz 65536 xs):Cal Tryz.prog 154#[.pointer(some⟨bd,0,none⟩),v] [Zf2 bd 167#[.int .i64 0],slp 2 wv v xs]true(G:=Unit)(fun _=>True)(fun _=> .tuple#[Fj v(tzl xs).length,.int .i64 0])(fun _=>[slp 2 wv(Fj v(tzl xs).length)(tzl xs)]):=by
 refine Yc Tryz.func154 J Tryz.ntmps154 J K2 ?_
 intro w0 sc hw hsc
 simp only [Zo,Zn]
 refine Zb<|Zg<|as_ J J<|as_ J J<|Zf<|Za<|Zb<|Zb<|Zg<|mv J J<|dt(Zfm J J)J<|dt(Qa J J Zgy J Zgo J J)J<|dt(Qa J J Zkr J Gj J J)J<|dt(Zxt(i:=1)J J J Al J)J<|dt(Qe J J J)J<|Zf<|Za<|Zp J(fun h43=>?_)(fun h43=>?_)
 ·exfalso;simp_all
 ·exact Zk<|Za<|Zb<|Zg<|mv J J<|tt(Zh(n:=3)(Zal _ _(by assumption))J J J K1 Zx5(Zd 2 J J J Ze)J hw)J fun _ _=>as_ J J<|as_ J J<|Zf<|Za<|Zw<|Zy(.inl J)hsc()_(fun a w hs=>No hs Tryz.results154 J J)J trivial J(Xa 3 J J J Zj)
end Go.Sky

