/- rules, arithmetic and contracts: part 11
   Proved without conditions of its own: each theorem bears its own. -/
import Derived.Test.YtcmiiammekgooaaGreatSo03
import Derived.Test.YtcmiiammekgooaaGreatSo02
import Derived.Test.YtcmiiammekgooaaGreatSo01
import Derived.Test.YtcmiiammekgooaaGreatSo08
import Derived.Test.YtcmiiammekgooaaGreatSo09
set_option linter.all false
namespace Go.Sky
open Go.Proofs
set_option maxRecDepth 20000
set_option maxHeartbeats 4000000
set_option linter.unusedVariables false
set_option linter.unusedSimpArgs false
theorem rp_from(v:Value)(xs:List Int)(hs:Sz 1000000 xs)(hl:xs.length≤1000):Cal Tryz.prog 16#[v] [slp 2 wv v xs]true(G:=Value×List(Int×SL))(fun r=>Zs r.2=xs)(fun r=>r.1)(fun r=>[pp r.1 r.2]):=by
 refine Yc Tryz.func16 J Tryz.ntmps16 J K1 ?_
 intro w0 sc hw hsc
 simp only [Zo,Zn]
 refine Zb<|Zg<|as_ J J<|Zf<|Za<|Zb<|Zg<|as_ J J<|Zf<|Za<|Zb<|Zb<|Zg<|as_ J J<|Zf<|Za<|Zl<|Yn(Nl 70 2 48 Db)<|Yn(Mn qI 71)<|Nt [(0,_)] [(0,_),(1,_)](fun(q:Nat×Value×List(Int×SL))=>[(4,.int .i64(q.1:Int)),(3,q.2.1)])(fun(q:Nat×Value×List(Int×SL))=>[(70,osl 2 48 Db q.2.1 q.2.2),(71,Zb2 qI q.2.2)])(fun(q:Nat×Value×List(Int×SL))=>(q.1≤xs.length)∧(Zs q.2.2=xs.take q.1)∧(q.2.2.length=q.1))(fun(q:Nat×Value×List(Int×SL))=>xs.length-q.1)(0,.slice none 0 0,[])⟨by first | omega | (dsimp only<;>omega),rfl,rfl⟩K3 K4 ?_
 rintro⟨i,vo,zs⟩⟨hi,hz,hzl⟩
 dsimp only at hi hz hzl
 simp only [List.cons_append,List.nil_append]
 refine Zb<|Zb<|Zg<|mv J J<|mv J J<|dt(Ya J J(i:=1)J Zi Qp)J<|dt(Xw J J J)J<|Zf<|Za<|Zp J(fun h41=>?_)(fun h41=>?_)
 ·refine Zk<|Za<|Zb<|Zl<|Zg<|mv J J<|mv J J<|mv J J<|dt(Yw(ii:=1)J J J J Zi Qp Yl J(by first | omega | (simp only [List.length_set];omega)))J<|dt(Xn(ii:=1)0 J J J Zi pV(by first | omega | (simp only [List.length_set];omega)))J<|tt(Zh(n:=2)(r_from _(by have:=hs.getD i;omega))J J J K1 cF30 Ze J hw)J fun v _=>l_ex(Om 2 J Zi)(fun sl hsl=>?_)
  subst hsl
  exact tt(Pr(i:=3)(ivs:=[(0,_)])(enc:=Db) [(xs.getD i 0,sl)]J J J K2 Nd Tryz.ti48 J J J J J J pI.cells J J hw)J fun v_2 _=>tt(Kq(i:=70)(j:=3)(by_:=32)J J J J J J(by decide)J(Yo pI)Nd Tryz.ti48 J pI J J J(by simp;omega)(by decide)J hw)J fun v_3 _=>as_ J J<|Zf<|Px<|Za<|Zg<|mv J J<|dt(Ys J J J⟨by omega,by omega⟩)J<|as_ J J<|Zf<|Qv(Ps(q:=qI)(z:=(xs.getD i 0,sl))71 2 71 J J J J J)<|Xl(i+1,_,zs ++ [(xs.getD i 0,sl)])⟨by first | omega | (dsimp only<;>omega),by rw [Oe 0 _ _(by omega),←hz];simp [Zs],by simp [hzl]⟩(by first | omega | (dsimp only<;>omega))K3 K4
 ·exact Yu<|Zt<|Zt<|Ov<|Za<|Zb<|Yn(Pe 70 J J pI)<|Yn(Mj 70 71 72 J J J J)<|Zg<|mv J J<|as_ J J<|Zf<|Za<|Zw<|Zy(.inl J)hsc(_,zs)_(fun a w hs=>Qi hs Tryz.results16 J)J(by rw [hz,List.take_of_length_le(by omega)])J(Xa 72 J J J Zj)
theorem rp_to(v:Value)(zs:List(Int×SL))(hs:Sz 1000000(Zs zs))(hl:zs.length≤1000):Cal Tryz.prog 18#[v] [pp v zs]false(G:=Value)(fun r=>True)(fun r=>r)(fun r=>[slp 2 wv r(Zs zs)]):=by
 refine Yc Tryz.func18 J Tryz.ntmps18 J K1 ?_
 intro w0 sc hw hsc
 simp only [Zo,Zn]
 have hli:=Zu zs
 refine Zb<|Zg<|as_ J J<|Zf<|Za<|Zb<|Zg<|as_ J J<|Zf<|Za<|Zb<|Zb<|Zg<|as_ J J<|Zf<|Za<|Zl<|Yn(Nl 70 2 31 wv)<|Nt [(0,_)] [(0,_),(1,_)](fun(q:Nat×Value)=>[(4,.int .i64(q.1:Int)),(3,q.2)])(fun(q:Nat×Value)=>[(70,osl 2 31 wv q.2((Zs zs).take q.1))])(fun(q:Nat×Value)=>q.1≤zs.length)(fun(q:Nat×Value)=>zs.length-q.1)(0,.slice none 0 0)(by first | omega | (dsimp only<;>omega))K3 K3 ?_
 rintro⟨i,vo⟩hi
 dsimp only at hi
 simp only [List.cons_append,List.nil_append]
 have htl:((Zs zs).take i).length=i:=by rw [List.length_take];omega
 have hci:=Oz zs i
 refine Zb<|Zb<|Zg<|mv J J<|mv J J<|dt(Ya J J(i:=1)J Zx Nd)J<|dt(Xw J J J)J<|Zf<|Za<|Zp J(fun h50=>?_)(fun h50=>?_)
 ·exact Zk<|Za<|Zb<|Zl<|Zg<|mv J J<|mv J J<|mv J J<|dt(Yw(ii:=1)J J J J Zx Nd Ql J(by first | omega | (simp only [List.length_set];omega)))J<|dt(Xn(ii:=1)I0 J J J Zx pI(by first | omega | (simp only [List.length_set];omega)))J<|tt(Zh(n:=1)(r_to _ _(by rw [hci];have:=hs i;omega))J J J K1 cF53(Of 1 J J(Yv(by omega))Ze)J hw)J fun _ _=>tt(Pr(i:=2)(ivs:=[(0,_)])(enc:=wv) [(zs.getD i I0).1]J J J K2 Qp Tryz.ti31 J J J J J J pV.cells J J hw)J fun v _=>tt(Kq(i:=70)(j:=2)(by_:=24)J J J J J J(by decide)J(Yo pV)Qp Tryz.ti31 J pV J J J(by simp;omega)(by decide)J hw)J fun v_2 _=>as_ J J<|Zf<|Px<|Za<|Zg<|mv J J<|dt(Ys J J J⟨by omega,by omega⟩)J<|as_ J J<|Zf<|Xl(i+1,_)(by first | omega | (dsimp only<;>omega))(by first | omega | (dsimp only<;>omega))K3⟨by rw [Oe 0 _ _(by omega),show(Zs zs).getD i 0=(zs.getD i I0).1 from hci.symm];rfl,rfl,rfl,trivial⟩
 ·exact Yu<|Zt<|Zt<|Ov<|Za<|Zb<|Zg<|mv J J<|as_ J J<|Zf<|Za<|Zw<|Zy(.inl J)hsc _ _(fun a w hs=>Qi hs Tryz.results18 J)J trivial J(Pv 70 J J pV(List.take_of_length_le(by omega))Zj)
theorem Zbt(v:Value)(zs:List(Int×SL))(hs:Sz 3000000000(Zs zs)):Cal Tryz.prog 89#[v] [pp v zs]true(G:=Value×List(Int×SL))(fun r=>Zs r.2=tzl(Zs zs))(fun r=>r.1)(fun r=>[pp r.1 r.2]):=by
 refine Yc Tryz.func89 J Tryz.ntmps89 J K1 ?_
 intro w0 sc hw hsc
 simp only [Zo,Zn]
 refine Ma(Zl2(i:=1)J)fun hself=>Ma(Gb(i:=1)J Zx)(fun hlen=>?_)
 have hli:=Zu zs
 refine Zb<|Zg<|as_ J J<|Zf<|Za<|Zb<|Zl<|Nt [] [(0,_)](fun(k:Nat)=>[(0,Fj v k)])(fun(k:Nat)=>[(1,pp(Fj v k)(zs.take k))])(fun(k:Nat)=>(k≤zs.length)∧(tzl((Zs zs).take k)=tzl(Zs zs)))(fun(k:Nat)=>k)zs.length⟨Nat.le_refl _,by rw [List.take_of_length_le(by omega)]⟩⟨by rw [hself];rfl,trivial⟩⟨by rw [hself,List.take_length];rfl,rfl,trivial⟩ ?_
 rintro k⟨hk,ht⟩
 simp only [List.cons_append,List.nil_append]
 have hl:(zs.take k).length=k:=by rw [List.length_take];omega
 have hce:((zs.take k).getD(k-1)I0).1=((Zs zs).take k).getD(k-1)0:=by rw [Oz,Zd1];rfl
 refine Zb<|Zb<|Zg<|mv J J<|dt(Ya J J(i:=1)J Zx Nd)J<|dt(Ot J J J)J<|mv J J<|Pa(d:=6)J(fun s22=>?_)(fun s22=>?_)
 ·refine gdt(Ym J J)J J J J<|gdt(Ym J J)J J J J<|gdt(Ya J J(i:=1)J Zx Nd)J J J J<|gdt(Qb J J J⟨by omega,by omega⟩)J J J J<|gdt(Yw(ii:=1)(i:=k-1)J J J J Zx Nd Ql(by omega)(by omega))J J J J<|gdt(Xn(ii:=1)I0 J J J Zx pI(by omega))J J J J<|gtt(Zh(n:=1)(Zah _ _(by rw [hce];exact(hs.take _).getD _))J J J K1 Zx1(Of 1 J J(Yv(by omega))Ze)J hw)J J J J fun _ _=>gdt(Pm J J J)J J J J<|dt(Xi J J J)J<|Zf<|Za<|Zp J(fun h22=>?_)(fun h22=>?_)
  ·rw [hce]at h22
   have hstep:=Zmy(xs:=Zs zs)(k:=k)(by omega)(by omega)(Zft(k:=k)(by omega)(Int.sign_eq_zero_iff_zero.1 h22))
   exact Zk<|Za<|Zl<|Zg<|mv J J<|mv J J<|dt(Ya J J(i:=1)J Zx Nd)J<|dt(Qb J J J⟨by omega,by omega⟩)J<|dt(Zxs(ii:=1)(i:=k-1)J J J J Zx Nd Ql(by omega)(by omega))J<|as_ J J<|Zf<|Px<|Qv(Zq6 1 1(k-1)J J(by omega))<|Xl(k-1)⟨by first | omega | (dsimp only<;>omega),by rw [←ht,←hstep]⟩(by first | omega | (dsimp only<;>omega))⟨by rw [←He v k(k-1)];rfl,trivial⟩⟨by rw [He,List.take_take,Nat.min_eq_left(by omega)];rfl,rfl,trivial⟩
  ·try rw [hce]at h22
   exact Yu<|Zt<|Zt<|Ov<|Za<|Zb<|Zg<|mv J J<|as_ J J<|Zf<|Za<|Zw<|Zy(.inl J)hsc(_,zs.take k)_(fun a w hs=>Qi hs Tryz.results89 J)J(by rw [Zd1,←ht];exact(Zc1(by omega)(by first | (left;omega) | (right;exact Zc2(k:=k)(by omega)(by assumption)))).symm)J(Xa 1 J J J Zj)
 ·exact gsk J J J J J<|gsk J J J J J<|gsk J J J J J<|gsk J J J J J<|gsk J J J J J<|gsk J J J J J<|gsk J J J J J<|gsk J J J J J<|dt(Yh J J J)J<|Zf<|Za<|Yf J<|Yu<|Zt<|Zt<|Ov<|Za<|Zb<|Zg<|mv J J<|as_ J J<|Zf<|Za<|Zw<|Zy(.inl J)hsc(_,zs.take k)_(fun a w hs=>Qi hs Tryz.results89 J)J(by rw [Zd1,←ht];exact(Zc1(by omega)(by first | (left;omega) | (right;exact Zc2(k:=k)(by omega)(by assumption)))).symm)J(Xa 1 J J J Zj)
theorem rp_nums(v:Value)(l:List Int)(hl:∀x∈l,inI x)(hlen:l.length≤1000):Cal Tryz.prog 102#[v] [slp 1 Am v l]true(G:=Value×List(Int×SL))(fun r=>Zs r.2=tzl l)(fun r=>r.1)(fun r=>[pp r.1 r.2]):=by
 refine Yc Tryz.func102 J Tryz.ntmps102 J K1 ?_
 intro w0 sc hw hsc
 simp only [Zo,Zn]
 have hsz:=Zd4 hl
 refine Zb<|Zg<|as_ J J<|Zf<|Za<|Zb<|Zg<|as_ J J<|Zf<|Za<|Zb<|Zb<|Zg<|as_ J J<|Zf<|Za<|Zl<|Yn(Nl 70 2 48 Db)<|Yn(Mn qI 71)<|Nt [(0,_)] [(0,_),(1,_)](fun(q:Nat×Value×List(Int×SL))=>[(4,.int .i64(q.1:Int)),(3,q.2.1)])(fun(q:Nat×Value×List(Int×SL))=>[(70,osl 2 48 Db q.2.1 q.2.2),(71,Zb2 qI q.2.2)])(fun(q:Nat×Value×List(Int×SL))=>(q.1≤l.length)∧(Zs q.2.2=mk q.1(cf l))∧(q.2.2.length=q.1))(fun(q:Nat×Value×List(Int×SL))=>l.length-q.1)(0,.slice none 0 0,[])⟨by first | omega | (dsimp only<;>omega),rfl,rfl⟩K3 K4 ?_
 rintro⟨i,vo,ws⟩⟨hi,hz,hzl⟩
 dsimp only at hi hz hzl
 simp only [List.cons_append,List.nil_append]
 refine Zb<|Zb<|Zg<|mv J J<|mv J J<|dt(Ya J J(i:=1)J Zi Nx)J<|dt(Xw J J J)J<|Zf<|Za<|Zp J(fun h59=>?_)(fun h59=>?_)
 ·refine Zk<|Za<|Zb<|Zl<|Zg<|mv J J<|mv J J<|mv J J<|dt(Yw(ii:=1)J J J J Zi Nx zT3 J(by first | omega | (simp only [List.length_set];omega)))J<|dt(Xn(ii:=1)0 J J J Zi pZ(by first | omega | (simp only [List.length_set];omega)))J<|tt(Zh(n:=2)(Zjj _(hl _(Yv(by omega))))J J J K1 cF34 Ze J hw)J fun v _=>l_ex(Om 2 J Zi)(fun sl hsl=>?_)
  subst hsl
  exact tt(Pr(i:=3)(ivs:=[(0,_)])(enc:=Db) [(l.getD i 0,sl)]J J J K2 Nd Tryz.ti48 J J J J J J pI.cells J J hw)J fun v_2 _=>tt(Kq(i:=70)(j:=3)(by_:=32)J J J J J J(by decide)J(Yo pI)Nd Tryz.ti48 J pI J J J(by simp;omega)(by decide)J hw)J fun v_3 _=>as_ J J<|Zf<|Px<|Za<|Zg<|mv J J<|dt(Ys J J J⟨by omega,by omega⟩)J<|as_ J J<|Zf<|Qv(Ps(q:=qI)(z:=(l.getD i 0,sl))71 2 71 J J J J J)<|Xl(i+1,_,ws ++ [(l.getD i 0,sl)])⟨by first | omega | (dsimp only<;>omega),by rw [Kf,Ad,hz];dsimp only;rfl,by simp [hzl]⟩(by first | omega | (dsimp only<;>omega))K3 K4
 ·exact Yu<|Zt<|Zt<|Ov<|Za<|Zb<|Yn(Pe 70 J J pI)<|Yn(Mj 70 71 72 J J J J)<|Zg<|mv J J<|tt(Zh(n:=4)(Zbt _ _(by rw [hz];exact Zas fun t ht=>by have:=hsz t;omega))J J J K1 cF89(Zd 72 J J J Ze)J hw)J fun g hg=>as_ J J<|Zf<|Za<|Zw<|Zy(.inl J)hsc _ _(fun a w hs=>Qi hs Tryz.results102 J)J(by rw [hg,hz,show i=l.length by omega,Zh5])J(Xa 4 J J J Zj)
theorem Zhl(v:Value)(zs:List(Int×SL))(j:Int)(i:Nat)(hj:j=(i:Int))(hi:i≤1000000):Cal Tryz.prog 101#[v,.int .i64 j] [pp v zs]true(G:=Value)(fun r=>True)(fun r=> .agg#[.bool(decide(cf(Zs zs)i<0)),r])(fun r=>[d9p r(cf(Zs zs)i).natAbs]):=by
 refine Yc Tryz.func101 J Tryz.ntmps101 J K1 ?_
 intro w0 sc hw hsc
 simp only [Zo,Zn]
 have hli:=Zu zs
 refine Ma(Gb(i:=1)J Zx)fun hlen=>Yn(Nl 60 1 3 Dk)<|Yn(Pe 60 J J pN)<|Zb<|Zg<|tt(Zq(i:=2)J J J Tryz.zeroValue48 J J hw)J fun b _=>Zf<|Za<|Zb<|Zb<|Zg<|mv J J<|dt(Xw J J J)J<|mv J J<|Pa(d:=7)J(fun s91=>?_)(fun s91=>?_)
 ·exfalso;omega
 ·refine gdt(Ym J J)J J J J<|gdt(Ym J J)J J J J<|gdt(Ya J J(i:=1)J Zx Nd)J J J J<|gdt(Lq J J J)J J J J<|dt(Yh J J J)J<|Zf<|Za<|Zp J(fun h91=>?_)(fun h91=>?_)
  ·refine Zb<|Zg<|dt(Oo(ivs:=[])J trivial(fun a w hs=>b48_))J<|tt(Zm(i:=2)J J J J J(by decide)J Ql J J⟨Zc J,Zc J,trivial⟩J hw trivial)J fun _ _=>Zf<|Za<|Zw<|Xe ?_
   have hz0:cf(Zs zs)i=0:=Qf(by omega)
   exact Zy(.inl J)hsc(.slice none 0 0)_(fun a w hs=>Qi hs Tryz.results101(Yr(i:=2)J J Ka Ql J))(by rw [hz0]<;>rfl)trivial J(Lg(by rw [hz0];rfl)Zj)
  ·exact Zk<|Za<|Zb<|Zg<|mv J J<|mv J J<|dt(Yw(ii:=1)(i:=i)J J J J Zx Nd Ql hj(by omega))J<|dt(Xn(ii:=1)I0 J J J Zx pI(by omega))J<|tt(Zm(i:=2)J J J J J(by decide)J Ql J J⟨Zc J,Zc J,trivial⟩J hw trivial)J fun _ _=>Zf<|Za<|Zw<|Zy(.inl J)hsc _ _(fun a w hs=>Qi hs Tryz.results101(Yr(i:=2)J J Ka Ql J))(by rw [←Oz]<;>rfl)trivial J(give_dI 1 J J(Yv(i:=i)(by omega))(by rw [←Oz]<;>rfl)Zj)
theorem rp_bits(v:Value)(zs:List(Int×SL))(hs:Sz 3000000000(Zs zs))(hl:zs.length≤1000):Cal Tryz.prog 52#[v] [pp v zs]false(G:=Unit)(fun _=>True)(fun _=> .int .i64(msz(Zs zs):Int))(fun _=>[]):=by
 refine Yc Tryz.func52 J Tryz.ntmps52 J K1 ?_
 intro w0 sc hw hsc
 simp only [Zo,Zn]
 have hli:=Zu zs
 refine Zb<|Zg<|as_ J J<|Zf<|Za<|Zb<|Zg<|as_ J J<|Zf<|Za<|Zb<|Zb<|Zg<|as_ J J<|Zf<|Za<|Zl<|Nt [(0,_)] [(0,_),(1,_)](fun(i:Nat)=>[(4,.int .i64(i:Int)),(3,.int .i64(msz((Zs zs).take i):Int))])(fun(i:Nat)=>[])(fun(i:Nat)=>i≤zs.length)(fun(i:Nat)=>zs.length-i)0(by first | omega | (dsimp only<;>omega))K3 K2 ?_
 rintro i hi
 simp only [List.cons_append,List.nil_append]
 have hci:=Oz zs i
 have hbi:bl(zs.getD i I0).1.natAbs≤3000000000:=by rw [hci];exact hs i
 have hms:=Zw5(Zs zs)i
 refine Zb<|Zb<|Zg<|mv J J<|mv J J<|dt(Ya J J(i:=1)J Zx Nd)J<|dt(Xw J J J)J<|Zf<|Za<|Zp J(fun h68=>?_)(fun h68=>?_)
 ·refine Zk<|Za<|Zb<|Zl<|Zb<|Zg<|mv J J<|mv J J<|dt(Yw(ii:=1)J J J J Zx Nd Ql J(by first | omega | (simp only [List.length_set];omega)))J<|dt(Xn(ii:=1)I0 J J J Zx pI(by first | omega | (simp only [List.length_set];omega)))J<|tt(Zh(n:=1)(r_bits _ _(by omega))J J J K1 cF97(Of 1 J J(Yv(by omega))Ze)J hw)J fun _ _=>mv J J<|dt(Ot J J J)J<|Zf<|Za<|Zp J(fun h69=>?_)(fun h69=>?_)
  ·exact Zg<|mv J J<|mv J J<|dt(Yw(ii:=1)J J J J Zx Nd Ql J(by first | omega | (simp only [List.length_set];omega)))J<|dt(Xn(ii:=1)I0 J J J Zx pI(by first | omega | (simp only [List.length_set];omega)))J<|tt(Zh(n:=1)(r_bits _ _(by omega))J J J K1 cF97(Of 1 J J(Yv(by omega))Ze)J hw)J fun _ _=>as_ J J<|Zf<|Px<|Za<|Zg<|mv J J<|dt(Ys J J J⟨by omega,by omega⟩)J<|as_ J J<|Zf<|Xl(i+1)(by first | omega | (dsimp only<;>omega))(by first | omega | (dsimp only<;>omega))⟨J,by rw [hms(by omega),←hci];exact congrArg some(Dj(by omega)),rfl,trivial⟩K2
  ·exact Zk<|Px<|Za<|Zg<|mv J J<|dt(Ys J J J⟨by omega,by omega⟩)J<|as_ J J<|Zf<|Xl(i+1)(by first | omega | (dsimp only<;>omega))(by first | omega | (dsimp only<;>omega))⟨J,by rw [hms(by omega),←hci];exact congrArg some(Dj(by omega)),rfl,trivial⟩K2
 ·exact Yu<|Zt<|Zt<|Ov<|Za<|Zb<|Zg<|mv J J<|as_ J J<|Zf<|Za<|Zw<|Zy(.inl J)hsc()_(fun a w hs=>Qi hs Tryz.results52 J)(by rw [List.take_of_length_le(by omega)])trivial J Zj
theorem Zae(v w:Value)(zs:List(Int×SL))(y:Int)(hs:Sz 1000000(Zs zs))(hl:zs.length≤1000)(hy:bl y.natAbs≤1000000):Cal Tryz.prog 56#[v,.agg#[.bool(decide(y<0)),w]] [pp v zs,d9p w y.natAbs]true(G:=Value×List(Int×SL))(fun r=>Zs r.2=Xk(Zs zs)y)(fun r=>r.1)(fun r=>[pp r.1 r.2]):=by
 refine Yc Tryz.func56 J Tryz.ntmps56 J K2 ?_
 intro w0 sc hw hsc
 simp only [Zo,Zn]
 have hli:=Zu zs
 refine Zb<|Zg<|tt(Xh(i:=3)J J J J J J hw)J fun b _=>as_ J J<|Zf<|Za<|Zb<|Zg<|as_ J J<|Zf<|Za<|Zb<|Zb<|Zg<|as_ J J<|Zf<|Za<|Zl<|Yn(Nl 70 2 48 Db)<|Yn(Mn qI 71)<|Nt [(0,_),(3,_)] [(0,_),(1,_),(2,_),(3,_)](fun(q:Nat×Value×List(Int×SL))=>[(6,.int .i64(q.1:Int)),(5,q.2.1)])(fun(q:Nat×Value×List(Int×SL))=>[(70,osl 2 48 Db q.2.1 q.2.2),(71,Zb2 qI q.2.2)])(fun(q:Nat×Value×List(Int×SL))=>(q.1≤zs.length)∧(Zs q.2.2=mk q.1(fun t=>cf(Zs zs)t*y))∧(q.2.2.length=q.1))(fun(q:Nat×Value×List(Int×SL))=>zs.length-q.1)(0,.slice none 0 0,[])⟨by first | omega | (dsimp only<;>omega),rfl,rfl⟩K4 K6 ?_
 rintro⟨i,vo,ws⟩⟨hi,hz,hzl⟩
 dsimp only at hi hz hzl
 simp only [List.cons_append,List.nil_append]
 have hci:=Oz zs i
 refine Zb<|Zb<|Zg<|mv J J<|mv J J<|dt(Ya J J(i:=1)J Zx Nd)J<|dt(Xw J J J)J<|Zf<|Za<|Zp J(fun h109=>?_)(fun h109=>?_)
 ·refine Zk<|Za<|Zb<|Zl<|On [1,3] [9](by kernel_rfl)<|Zz(n:=3) [(0,0),(1,0),(2,0),(3,0),(4,0),(5,0),(6,1)](by kernel_rfl)<|r0' J J J J(stf(Ym J J)K2)<|r0' J J J J(stf(Ym J J)K2)<|r0' J J J J(stf(Ym J J)K2)<|r0' J J J J(stf(Yw(ii:=1)J J J J Zx Nd Ql J(by first | omega | (simp only [List.length_set];omega)))K2)<|r0' J J J J(stf(Xn(ii:=1)I0 J J J Zx pI(by first | omega | (simp only [List.length_set];omega)))K2)<|r0' J J J J(stf(Yb(i:=3)J J J Ka Ql J J)K2)<|r1' J J(Zh(n:=4)(Zaj _ _ _ _(by rw [hci];have:=hs i;omega)(by omega))J J J K2 Zov(Of 1 J J(Yv(by omega))(Zd 2 J J J Ze))J hw)fun v _=>Yp<|Zko(Om 4 J Zi)(fun sl hsl=>?_)
  subst hsl
  exact Zz(n:=0) [(7,1),(8,1),(9,3)](by kernel_rfl)<|r1' J J(Pr(i:=73)(ivs:=[(0,_)])(enc:=Db) [((zs.getD i I0).1*y,sl)]J J J K2 Nd Tryz.ti48 J J J J J J pI.cells J J hw)fun v_2 _=>r1' J J(Zd2 70 J J J K2(fun hoffr=>(Bs(xs:=ws)(ys:=[_])(i:=70)(j:=73)(by_:=32)J J J J J J(by decide)J(Yo pI)Nd Tryz.ti48 J pI J J J(by simp;omega)(by decide)J hw hoffr)))fun v_3 _=>r3' J J(Pz(Kc J J)J J)fun _ _=>Yp<|Yj(by kernel_rfl)<|Px<|Za<|Zg<|mv J J<|dt(Ys J J J⟨by omega,by omega⟩)J<|as_ J J<|Zf<|Qv(Ps(q:=qI)(z:=((zs.getD i I0).1*y,sl))71 4 71 J J J J J)<|Xl(i+1,_,ws ++ [((zs.getD i I0).1*y,sl)])⟨by first | omega | (dsimp only<;>omega),by rw [Kf,Ad,hz];dsimp only;rw [Oz],by simp [hzl]⟩(by first | omega | (dsimp only<;>omega))K4 K6
 ·exact Yu<|Zt<|Zt<|Ov<|Za<|Zb<|Yn(Pe 70 J J pI)<|Yn(Mj 70 71 72 J J J J)<|Zg<|mv J J<|tt(Zh(n:=5)(Zbt _ _(by rw [hz];exact Zas fun t ht=>by have:=Xy(cf(Zs zs)t)y;have:=hs t;omega))J J J K1 cF89(Zd 72 J J J Ze)J hw)J fun g hg=>as_ J J<|Zf<|Za<|Zw<|Zy(.inl J)hsc _ _(fun a w hs=>Qi hs Tryz.results56 J)J(by rw [hg,hz,show i=(Zs zs).length by omega,Zpj])J(Xa 5 J J J Zj)
theorem Zne(v:Value)(zs:List(Int×SL))(hs:Sz 1000000(Zs zs))(hl:zs.length≤1000):Cal Tryz.prog 138#[v] [pp v zs]true(G:=Value×List(Int×SL))(fun r=>Zs r.2=Xk(Zs zs)(-1))(fun r=>r.1)(fun r=>[pp r.1 r.2]):=by
 refine Yc Tryz.func138 J Tryz.ntmps138 J K1 ?_
 intro w0 sc hw hsc
 simp only [Zo,Zn]
 exact Zb<|Zg<|as_ J J<|Zf<|Za<|Zb<|Zg<|mv J J<|tt(Zh(n:=2)(Zjj(-1)⟨by omega,by omega⟩)J J J K1 cF34 Ze J hw)J fun v _=>tt(Zh(n:=3)(Zae _ _ _ _ hs hl(by decide))J J J K2 cF56(Zd 1 J J J(Zd 2 J J J Ze))J hw)J fun g hg=>as_ J J<|Zf<|Za<|Zw<|Zy(.inl J)hsc _ _(fun a w hs=>Qi hs Tryz.results138 J)J hg J(Xa 3 J J J Zj)
theorem rp_add(v u:Value)(zs ys:List(Int×SL))(hs:Sz 1000000(Zs zs))(hl:zs.length≤1000)(ht:Sz 1000000(Zs ys))(hk:ys.length≤1000):Cal Tryz.prog 43#[v,u] [pp v zs,pp u ys]true(G:=Value×List(Int×SL))(fun r=>Zs r.2=Zwt(Zs zs)(Zs ys))(fun r=>r.1)(fun r=>[pp r.1 r.2]):=by
 refine Yc Tryz.func43 J Tryz.ntmps43 J K2 ?_
 intro w0 sc hw hsc
 simp only [Zo,Zn]
 have hli:=Zu zs
 have hli2:=Zu ys
 refine Ma(Gb(i:=1)J Zx)fun hlen=>Ma(Gb(i:=2)J Zx)fun hlen2=>Zb<|Zg<|as_ J J<|Zf<|Za<|Zb<|Zg<|as_ J J<|Zf<|Za<|Zb<|Zb<|Zg<|as_ J J<|Zf<|Za<|Zl<|Yn(Nl 70 2 48 Db)<|Yn(Mn qI 71)<|Nt [(0,_),(1,_)] [(0,_),(1,_),(2,_)](fun(q:Nat×Value×List(Int×SL))=>[(6,.int .i64(q.1:Int)),(5,q.2.1)])(fun(q:Nat×Value×List(Int×SL))=>[(70,osl 2 48 Db q.2.1 q.2.2),(71,Zb2 qI q.2.2)])(fun(q:Nat×Value×List(Int×SL))=>(q.1≤(max zs.length ys.length))∧(Zs q.2.2=mk q.1(fun t=>cf(Zs zs)t+cf(Zs ys)t))∧(q.2.2.length=q.1))(fun(q:Nat×Value×List(Int×SL))=>(max zs.length ys.length)-q.1)(0,.slice none 0 0,[])⟨by first | omega | (dsimp only<;>omega),rfl,rfl⟩K4 K5 ?_
 rintro⟨i,vo,ws⟩⟨hi,hz,hzl⟩
 dsimp only at hi hz hzl
 simp only [List.cons_append,List.nil_append]
 refine Zb<|Dc [(0,_),(1,_),(5,_),(6,_)] [(0,_),(70,_),(71,_),(1,_),(2,_)](fun(_:Unit)=>[(16,.bool(decide(i<max zs.length ys.length)))])(fun(_:Unit)=>[])(fun(_:Unit)=>True)K4 K5 ?_ ?_
 ·refine Zg<|mv J J<|mv J J<|dt(Ya J J(i:=1)J Zx Nd)J<|dt(Xw J J J)J<|mv J J<|Pa(d:=11)J(fun s100=>?_)(fun s100=>?_)
  ·exact gsk J J J J J<|gsk J J J J J<|gsk J J J J J<|gsk J J J J J<|dt(Xi J J J)J<|Zf<|Qy()trivial⟨by first | exact congrArg some(congrArg Value.bool(decide_eq_decide.2(by omega))) | exact congrArg some(congrArg Value.bool(decide_eq_true(by omega)).symm),rfl,rfl,rfl,rfl,trivial⟩K5
  ·exact gdt(Ym J J)J J J J<|gdt(Ym J J)J J J J<|gdt(Ya J J(i:=2)J Zx Nd)J J J J<|gdt(Xw J J J)J J J J<|dt(Yh J J J)J<|Zf<|Qy()trivial⟨by first | exact congrArg some(congrArg Value.bool(decide_eq_decide.2(by omega))) | exact congrArg some(congrArg Value.bool(decide_eq_true(by omega)).symm),rfl,rfl,rfl,rfl,trivial⟩K5
 ·rintro _ -
  simp only [List.cons_append,List.nil_append]
  refine Zp J(fun h100=>?_)(fun h100=>?_)
  ·refine Zk<|Za<|Zb<|Zl<|Zg<|mv J J<|mv J J<|mv J J<|tt(Zh(n:=3)(Zhl _ _ _ i J(by omega))J J J K2 Zil(Zd 1 J J J Ze)J hw)J fun v _=>mv J J<|mv J J<|tt(Zh(n:=4)(Zhl _ _ _ i J(by omega))J J J K2 Zil(Zd 2 J J J Ze)J hw)J fun v_2 _=>tt(Zh(n:=5)(Zrk _ _ _ _(by have:=hs i;omega)(by have:=ht i;omega))J J J K2 cF37(Zd 3 J J J(Zd 4 J J J Ze))J hw)J fun v_3 _=>l_ex(Om 5 J Zi)(fun sl hsl=>?_)
   subst hsl
   exact tt(Pr(i:=6)(ivs:=[(0,_)])(enc:=Db) [(cf(Zs zs)i+cf(Zs ys)i,sl)]J J J K2 Nd Tryz.ti48 J J J J J J pI.cells J J hw)J fun v_4 _=>tt(Kq(i:=70)(j:=6)(by_:=32)J J J J J J(by decide)J(Yo pI)Nd Tryz.ti48 J pI J J J(by simp;omega)(by decide)J hw)J fun v_5 _=>as_ J J<|Zf<|Px<|Za<|Zg<|mv J J<|dt(Ys J J J⟨by omega,by omega⟩)J<|as_ J J<|Zf<|Qv(Ps(q:=qI)(z:=(cf(Zs zs)i+cf(Zs ys)i,sl))71 5 71 J J J J J)<|Xl(i+1,_,ws ++ [(cf(Zs zs)i+cf(Zs ys)i,sl)])⟨by first | omega | (dsimp only<;>omega),by rw [Kf,Ad,hz],by simp [hzl]⟩(by first | omega | (dsimp only<;>omega))K4 K5
  ·exact Yu<|Zt<|Zt<|Ov<|Za<|Zb<|Yn(Pe 70 J J pI)<|Yn(Mj 70 71 72 J J J J)<|Zg<|mv J J<|tt(Zh(n:=7)(Zbt _ _(by rw [hz];exact Zas fun t h=>by have:=Kp(cf(Zs zs)t)(cf(Zs ys)t);have:=hs t;have:=ht t;omega))J J J K1 cF89(Zd 72 J J J Ze)J hw)J fun g hg=>as_ J J<|Zf<|Za<|Zw<|Zy(.inl J)hsc _ _(fun a w hs=>Qi hs Tryz.results43 J)J(by rw [hg,hz,show i=max(Zs zs).length(Zs ys).length by omega,padd_mk])J(Xa 7 J J J Zj)
theorem Znd(v u:Value)(zs ys:List(Int×SL))(hs:Sz 1000000(Zs zs))(hl:zs.length≤1000)(ht:Sz 1000000(Zs ys))(hk:ys.length≤1000):Cal Tryz.prog 88#[v,u] [pp v zs,pp u ys]true(G:=Value×List(Int×SL))(fun r=>Zs r.2=Zfi(Zs zs)(Zs ys))(fun r=>r.1)(fun r=>[pp r.1 r.2]):=by
 refine Yc Tryz.func88 J Tryz.ntmps88 J K2 ?_
 intro w0 sc hw hsc
 simp only [Zo,Zn]
 exact Zb<|Zg<|as_ J J<|Zf<|Za<|Zb<|Zg<|mv J J<|mv J J<|tt(Zh(n:=3)(Zne _ _ ht hk)J J J K1 Zx7(Zd 2 J J J Ze)J hw)J fun g hg=>tt(Zh(n:=4)(rp_add _ _ _ _ hs hl(by rw [hg];intro t;rw [Xo];have h1:=ht t;rw [Int.mul_neg,Int.mul_one,Zkj];exact h1)(by rw [←Zu,hg];have:=Kt(Zs ys)(-1);rw [Zu]at this;omega))J J J K2 cF43(Zd 1 J J J(Zd 3 J J J Ze))J hw)J fun g_2 hg_2=>as_ J J<|Zf<|Za<|Zw<|Zy(.inl J)hsc _ _(fun a w hs=>Qi hs Tryz.results88 J)J(by rw [hg_2,hg,psub_eq])J(Xa 4 J J J Zj)
theorem Zjb(v:Value)(zs:List(Int×SL))(hs:Sz 1000000(Zs zs))(hl:zs.length≤1000):Cal Tryz.prog 115#[v] [pp v zs]true(G:=Value×List(Int×SL))(fun r=>Zs r.2=Pi(Zs zs))(fun r=>r.1)(fun r=>[pp r.1 r.2]):=by
 refine Yc Tryz.func115 J Tryz.ntmps115 J K1 ?_
 intro w0 sc hw hsc
 simp only [Zo,Zn]
 have hli:=Zu zs
 refine Zb<|Zg<|as_ J J<|Zf<|Za<|Zb<|Zg<|as_ J J<|Zf<|Za<|Zb<|Zb<|Zg<|as_ J J<|Zf<|Za<|Zl<|Yn(Nl 70 2 48 Db)<|Yn(Mn qI 71)<|Nt [(0,_)] [(0,_),(1,_)](fun(q:Nat×Value×List(Int×SL))=>[(4,.int .i64((q.1:Int)+1)),(3,q.2.1)])(fun(q:Nat×Value×List(Int×SL))=>[(70,osl 2 48 Db q.2.1 q.2.2),(71,Zb2 qI q.2.2)])(fun(q:Nat×Value×List(Int×SL))=>(q.1≤(zs.length-1))∧(Zs q.2.2=mk q.1(fun t=>cf(Zs zs)(t+1)*((t:Int)+1)))∧(q.2.2.length=q.1))(fun(q:Nat×Value×List(Int×SL))=>(zs.length-1)-q.1)(0,.slice none 0 0,[])⟨by first | omega | (dsimp only<;>omega),rfl,rfl⟩K3 K4 ?_
 rintro⟨i,vo,ws⟩⟨hi,hz,hzl⟩
 dsimp only at hi hz hzl
 simp only [List.cons_append,List.nil_append]
 have hci:=Oz zs(i+1)
 refine Zb<|Zb<|Zg<|mv J J<|mv J J<|dt(Ya J J(i:=1)J Zx Nd)J<|dt(Xw J J J)J<|Zf<|Za<|Zp J(fun h140=>?_)(fun h140=>?_)
 ·refine Zk<|Za<|Zb<|Zl<|On [1] [10](by kernel_rfl)<|Zz(n:=3) [(0,0),(1,0),(2,0),(3,0),(4,0),(5,0),(6,1),(7,1)](by kernel_rfl)<|r0' J J J J(stf(Ym J J)K1)<|r0' J J J J(stf(Ym J J)K1)<|r0' J J J J(stf(Ym J J)K1)<|r0' J J J J(stf(Yw(ii:=1)(i:=(i+1))J J J J Zx Nd Ql(by omega)(by omega))K1)<|r0' J J J J(stf(Xn(ii:=1)I0 J J J Zx pI(by omega))K1)<|r0' J J J J(stf(Ym J J)K1)<|r1' J J(Zh(n:=2)(Zjj((i:Int)+1)⟨by omega,by omega⟩)J J J K1 cF34 Ze J hw)fun v _=>r1' J J(Zh(n:=3)(Zaj _ _ _ _(by rw [hci];have:=hs(i+1);omega)(bl_i1(by omega)))J J J K2 Zov(Of 1 J J(Yv(i:=i+1)(by omega))(Zd 2 J J J Ze))J hw)fun v_2 _=>Yp<|Zko(Om 3 J Zi)(fun sl hsl=>?_)
  subst hsl
  exact Zz(n:=0) [(8,1),(9,1),(10,3)](by kernel_rfl)<|r1' J J(Pr(i:=73)(ivs:=[(0,_)])(enc:=Db) [((zs.getD(i+1)I0).1*((i:Int)+1),sl)]J J J K2 Nd Tryz.ti48 J J J J J J pI.cells J J hw)fun v_3 _=>r1' J J(Zd2 70 J J J K1(fun hoffr=>(Bs(xs:=ws)(ys:=[_])(i:=70)(j:=73)(by_:=32)J J J J J J(by decide)J(Yo pI)Nd Tryz.ti48 J pI J J J(by simp;omega)(by decide)J hw hoffr)))fun v_4 _=>r3' J J(Pz(Kc J J)J J)fun _ _=>Yp<|Yj(by kernel_rfl)<|Px<|Za<|Zg<|mv J J<|dt(Ys J J J⟨by omega,by omega⟩)J<|as_ J J<|Zf<|Qv(Ps(q:=qI)(z:=((zs.getD(i+1)I0).1*((i:Int)+1),sl))71 3 71 J J J J J)<|Xl(i+1,_,ws ++ [((zs.getD(i+1)I0).1*((i:Int)+1),sl)])⟨by first | omega | (dsimp only<;>omega),by rw [Kf,Ad,hz];dsimp only;rw [Oz],by simp [hzl]⟩(by first | omega | (dsimp only<;>omega))K3 K4
 ·exact Yu<|Zt<|Zt<|Ov<|Za<|Zb<|Yn(Pe 70 J J pI)<|Yn(Mj 70 71 72 J J J J)<|Zg<|mv J J<|as_ J J<|Zf<|Za<|Zw<|Zy(.inl J)hsc(_,ws)_(fun a w hs=>Qi hs Tryz.results115 J)J(by rw [hz,show i=(Zs zs).length-1 by omega]<;>rfl)J(Xa 72 J J J Zj)
theorem Zhk(v:Value)(x:Int)(j:Int)(n:Nat)(hj:j=(n:Int))(hn:n≤100)(hx:bl x.natAbs≤1000000):Cal Tryz.prog 165#[.agg#[.bool(decide(x<0)),v],.int .i64 j] [d9p v x.natAbs]true(G:=Value)(fun r=>True)(fun r=> .agg#[.bool(decide(x^n<0)),r])(fun r=>[d9p r(x^n).natAbs]):=by
 refine Yc Tryz.func165 J Tryz.ntmps165 J K1 ?_
 intro w0 sc hw hsc
 simp only [Zo,Zn]
 have hpb:=fun k=>Bt hx k
 refine Zb<|Zg<|tt(Xh(i:=2)J J J J J J hw)J fun b _=>tt(Zq(i:=3)J J J Tryz.zeroValue48 J J hw)J fun b_2 _=>Zf<|Za<|Zb<|Zg<|tt(Zh(n:=98)(Zjj 1⟨by omega,by omega⟩)J J J K1 cF34 Ze J hw)J fun v _=>tt(Zq(i:=97)J J J Tryz.zeroValue48 J J hw)J fun b_3 _=>tt(Zm(i:=97)J J J J J(by decide)J Ql J J⟨Zc J,Zr(i:=98)J Zi,trivial⟩J hw trivial)J fun _ _=>Zf<|Za<|Zb<|Zb<|Zg<|as_ J J<|Zf<|Za<|Zl<|Nt [(1,_),(2,_),(4,_),(5,_)] [(0,_),(1,_),(2,_),(3,_)](fun(q:Nat×Value)=>[(6,.int .i64(q.1:Int))])(fun(q:Nat×Value)=>[(97,box b_3 48#[.bool(decide(x^q.1<0)),q.2]),(98,d9p q.2(x^q.1).natAbs)])(fun(q:Nat×Value)=>q.1≤n)(fun(q:Nat×Value)=>n-q.1)(0,_)(by first | omega | (dsimp only<;>omega))K5⟨by rw [Int.pow_zero];rfl,by rw [Int.pow_zero];rfl,rfl,rfl,rfl,rfl,trivial⟩ ?_
 rintro⟨i,vs⟩hi
 dsimp only at hi
 simp only [List.cons_append,List.nil_append]
 have hp1:=hpb i
 have hp2:i*1000000≤100*1000000:=Nat.mul_le_mul_right _(by omega)
 refine Zb<|Zb<|Zg<|mv J J<|mv J J<|dt(Xw J J J)J<|Zf<|Za<|Zp J(fun h149=>?_)(fun h149=>?_)
 ·exact Zk<|Za<|Zb<|Zl<|Zg<|dt(Yb(i:=97)J J J Ka Ql J J)J<|dt(Yb(i:=2)J J J Ka Ql J J)J<|tt(Zh(n:=4)(Zaj _ _ _ _(by omega)(by omega))J J J K2 Zov(Zd 98 J J J(Zd 1 J J J Ze))J hw)J fun v_2 _=>tt(Zm(i:=97)J J J J J(by decide)J Ql J J⟨Zc J,Zr(i:=4)J Zi,trivial⟩J hw trivial)J fun _ _=>Zf<|Px<|Za<|Zg<|mv J J<|dt(Ys J J J⟨by omega,by omega⟩)J<|as_ J J<|Zf<|Qv(Oa 4 98 J J J)<|Xl(i+1,v_2)(by first | omega | (dsimp only<;>omega))(by first | omega | (dsimp only<;>omega))K5⟨by rw [Int.pow_succ];rfl,by rw [Int.pow_succ];rfl,rfl,rfl,rfl,rfl,trivial⟩
 ·refine Yu<|Zt<|Zt<|Ov<|Za<|Zb ?_
  obtain rfl:i=n:=by omega
  exact Zg<|dt(Yb(i:=97)J J J Ka Ql J J)J<|tt(Zm(i:=3)J J J J J(by decide)J Ql J J⟨Zc J,Zr(i:=98)J Zi,trivial⟩J hw trivial)J fun _ _=>Zf<|Za<|Zw<|Zy(.inl J)hsc _ _(fun a w hs=>Qi hs Tryz.results165(Yr(i:=3)J J Ka Ql J))J trivial J(Xa 98 J J J Zj)
theorem rp_eval(v w u:Value)(zs:List(Int×SL))(x y:Int)(hs:Sz 1000000(Zs zs))(hl:zs.length≤30)(hx:bl x.natAbs≤1000000)(hy:bl y.natAbs≤1000000):Cal Tryz.prog 121#[v,.agg#[.bool(decide(x<0)),w,.bool(decide(y<0)),u]] [pp v zs,d9p w x.natAbs,d9p u y.natAbs]true(G:=Value)(fun r=>True)(fun r=> .agg#[.bool(decide(pev(Zs zs)x y<0)),r])(fun r=>[d9p r(pev(Zs zs)x y).natAbs]):=by
 refine Yc Tryz.func121 J Tryz.ntmps121 J K3 ?_
 intro w0 sc hw hsc
 simp only [Zo,Zn]
 have hli:=Zu zs
 have hpx:=fun k=>Bt hx k
 have hpy:=fun k=>Bt hy k
 have htb:=ev_tb hs hpx hpy(by omega:(Zs zs).length≤30)
 have hsb:=fun i(h:i≤30)=>Zml(n:=i)(fun t _=>htb t)(by omega)
 refine Zb<|Zg<|tt(Xh(i:=4)J J J J J J hw)J fun b _=>tt(Zq(i:=5)J J J Tryz.zeroValue48 J J hw)J fun b_2 _=>Zf<|Za<|Zb<|Zg<|dt(Oo(ivs:=[])J trivial(fun a w hs=>b48_))J<|tt(Zq(i:=97)J J J Tryz.zeroValue48 J J hw)J fun b_3 _=>tt(Zm(i:=97)J J J J J(by decide)J Ql J J⟨Zc J,Zc J,trivial⟩J hw trivial)J fun _ _=>Zf<|Za<|Zb<|Zb<|Zg<|as_ J J<|Zf<|Za<|Zl<|Yn(Nl 98 1 3 Dk)<|Yn(Pe 98 J J pN)<|Nt [(0,_),(3,_),(4,_),(5,_)] [(0,_),(1,_),(2,_),(3,_),(4,_),(5,_)](fun(q:Nat×Value)=>[(6,.int .i64(q.1:Int))])(fun(q:Nat×Value)=>[(97,box b_3 48#[.bool(decide(Qn(fun t=>cf(Zs zs)t*(x^t*y^((Zs zs).length-1-t)))q.1<0)),q.2]),(98,d9p q.2(Qn(fun t=>cf(Zs zs)t*(x^t*y^((Zs zs).length-1-t)))q.1).natAbs)])(fun(q:Nat×Value)=>q.1≤zs.length)(fun(q:Nat×Value)=>zs.length-q.1)(0,.slice none 0 0)(by first | omega | (dsimp only<;>omega))K5 K8 ?_
 rintro⟨i,vs⟩hi
 dsimp only at hi
 simp only [List.cons_append,List.nil_append]
 have hci:=Oz zs i
 have h1:=hpx i
 have h2:=hpy((Zs zs).length-1-i)
 have h3:i*1000000≤30*1000000:=Nat.mul_le_mul_right _(by omega)
 have h4:((Zs zs).length-1-i)*1000000≤30*1000000:=Nat.mul_le_mul_right _(by omega)
 have h5:=Xy(x^i)(y^((Zs zs).length-1-i))
 have h6:=hs i
 have h7:=hsb i(by omega)
 refine Zb<|Zb<|Zg<|mv J J<|mv J J<|dt(Ya J J(i:=1)J Zx Nd)J<|dt(Xw J J J)J<|Zf<|Za<|Zp J(fun h158=>?_)(fun h158=>?_)
 ·refine Zk<|Za<|Zb<|Zl<|Qr(fun _=>False) [(0,0),(1,0),(2,0),(3,0),(4,0),(5,0),(6,0),(7,0),(9,0),(10,0),(11,0),(12,0),(13,0),(14,0),(15,0),(8,1),(16,1),(17,1),(18,1),(19,1),(20,3)](by kernel_rfl) ?_ ?_
  ·kernel_rfl
  refine r0' J J J J(st0(Yb(i:=97)J J J Ka Ql J J))<|r0' J J J J(st0(Ym J J))<|r0' J J J J(st0(Ym J J))<|r0' J J J J(st0(Yw(ii:=1)J J J J Zx Nd Ql J(by first | omega | (simp only [List.length_set];omega))))<|r0' J J J J(st0(Xn(ii:=1)I0 J J J Zx pI(by first | omega | (simp only [List.length_set];omega))))<|r0' J J J J(st0(Qa J J uT50 J Ql J J))<|r0' J J J J(st0(Yb(i:=4)J J J Ka Ql J J))<|r0' J J J J(st0(Ym J J))<|r0' J J J J(st0(Qa J J uT50 J Ql J J))<|r0' J J J J(st0(Yb(i:=4)J J J Ka Ql J J))<|r0' J J J J(st0(Ym J J))<|r0' J J J J(st0(Ya J J(i:=1)J Zx Nd))<|r0' J J J J(st0(Qb J J J⟨by omega,by omega⟩))<|r0' J J J J(st0(Ym J J))<|r0' J J J J(st0(Qb J J J⟨by omega,by omega⟩))<|r1' J J(Zh(n:=6)(Zhk _ _ _ i J(by omega)hx)J J J K2 cF165(Zd 2 J J J Ze)J hw)fun v _=>r1' J J(Zh(n:=7)(Zhk _ _ _((Zs zs).length-1-i)(by omega)(by omega)hy)J J J K2 cF165(Zd 3 J J J Ze)J hw)fun v_2 _=>r1' J J(Zh(n:=8)(Zaj _ _ _ _(by first | omega | (rw [hci];omega))(by omega))J J J K2 Zov(Zd 6 J J J(Zd 7 J J J Ze))J hw)(fun v_3 _=>?_)
  exact r1' J J(Zh(n:=9)(Zaj _ _ _ _(by first | omega | (rw [hci];omega))(by omega))J J J K2 Zov(Of 1 J J(Yv(by omega))(Zd 8 J J J Ze))J hw)fun v_4 _=>r1' J J(Zh(n:=10)(Zrk _ _ _ _(by omega)(by rw [hci];have:=htb i;omega))J J J K2 cF37(Zd 98 J J J(Zd 9 J J J Ze))J hw)fun v_5 _=>r3' J J(Zm(i:=97)J J J J J(by decide)J Ql J J⟨Zc J,Zr(i:=10)J Zi,trivial⟩J hw trivial)fun _ _=>Oj<|Px<|Za<|Zg<|mv J J<|dt(Ys J J J⟨by omega,by omega⟩)J<|as_ J J<|Zf<|Qv(Oa 10 98 J J J)<|Xl(i+1,v_5)(by first | omega | (dsimp only<;>omega))(by first | omega | (dsimp only<;>omega))K5⟨by rw [hci,Xs];rfl,by rw [hci,Xs];rfl,rfl,rfl,rfl,rfl,rfl,rfl,trivial⟩
 ·refine Yu<|Zt<|Zt<|Ov<|Za<|Zb ?_
  obtain rfl:i=zs.length:=by omega
  exact Zg<|dt(Yb(i:=97)J J J Ka Ql J J)J<|tt(Zm(i:=5)J J J J J(by decide)J Ql J J⟨Zc J,Zr(i:=98)J Zi,trivial⟩J hw trivial)J fun _ _=>Zf<|Za<|Zw<|Zy(.inl J)hsc _ _(fun a w hs=>Qi hs Tryz.results121(Yr(i:=5)J J Ka Ql J))(by unfold pev;rw [hli]<;>rfl)trivial J(Yk 98 J J J(by unfold pev;rw [hli]<;>rfl)Zj)
theorem Zpf(v:Value)(zs:List(Int×SL))(hs:Sz 1000000(Zs zs))(hl:zs.length≤1000):Cal Tryz.prog 116#[v] [pp v zs]true(G:=Value)(fun r=>True)(fun r=> .agg#[.bool(decide(Qc(Zs zs)<0)),r])(fun r=>[d9p r(Qc(Zs zs)).natAbs]):=by
 refine Yc Tryz.func116 J Tryz.ntmps116 J K1 ?_
 intro w0 sc hw hsc
 simp only [Zo,Zn]
 have hli:=Zu zs
 have hcb:∀k,bl(Qc((Zs zs).take k)).natAbs≤1000000:=fun k=>Zde _(hs.take k)
 refine Zb<|Zg<|tt(Zq(i:=2)J J J Tryz.zeroValue48 J J hw)J fun b _=>Zf<|Za<|Zb<|Zg<|dt(Oo(ivs:=[])J trivial(fun a w hs=>b48_))J<|tt(Zq(i:=97)J J J Tryz.zeroValue48 J J hw)J fun b_2 _=>tt(Zm(i:=97)J J J J J(by decide)J Ql J J⟨Zc J,Zc J,trivial⟩J hw trivial)J fun _ _=>Zf<|Za<|Zb<|Zb<|Zg<|as_ J J<|Zf<|Za<|Zl<|Yn(Nl 98 1 3 Dk)<|Yn(Pe 98 J J pN)<|Nt [(0,_),(2,_),(3,_)] [(0,_),(1,_),(2,_)](fun(q:Nat×Value)=>[(4,.int .i64(q.1:Int))])(fun(q:Nat×Value)=>[(97,box b_2 48#[.bool(decide(Qc((Zs zs).take q.1)<0)),q.2]),(98,d9p q.2(Qc((Zs zs).take q.1)).natAbs)])(fun(q:Nat×Value)=>q.1≤zs.length)(fun(q:Nat×Value)=>zs.length-q.1)(0,.slice none 0 0)(by first | omega | (dsimp only<;>omega))K4 K5 ?_
 rintro⟨i,vs⟩hi
 dsimp only at hi
 simp only [List.cons_append,List.nil_append]
 have hci:=Oz zs i
 have hgc:=fun h=>Mq(p:=Zs zs)(k:=i)h
 have h1:=hcb i
 have h2:=hs i
 refine Zb<|Zb<|Zg<|mv J J<|mv J J<|dt(Ya J J(i:=1)J Zx Nd)J<|dt(Xw J J J)J<|Zf<|Za<|Zp J(fun h186=>?_)(fun h186=>?_)
 ·refine Zk<|Za<|Zb<|Zl<|Qr(fun _=>False) [(0,0),(1,0),(2,0),(3,0),(4,0),(5,1),(6,3)](by kernel_rfl) ?_ ?_
  ·kernel_rfl
  exact r0' J J J J(st0(Yb(i:=97)J J J Ka Ql J J))<|r0' J J J J(st0(Ym J J))<|r0' J J J J(st0(Ym J J))<|r0' J J J J(st0(Yw(ii:=1)J J J J Zx Nd Ql J(by first | omega | (simp only [List.length_set];omega))))<|r0' J J J J(st0(Xn(ii:=1)I0 J J J Zx pI(by first | omega | (simp only [List.length_set];omega))))<|r1' J J(Zh(n:=3)(r_gcd _ _ _ _(by omega)(by rw [hci];omega))J J J K2 cF71(Zd 98 J J J(Of 1 J J(Yv(by omega))Ze))J hw)fun v _=>r3' J J(Zm(i:=97)J J J J J(by decide)J Ql J J⟨Zc J,Zr(i:=3)J Zi,trivial⟩J hw trivial)fun _ _=>Oj<|Px<|Za<|Zg<|mv J J<|dt(Ys J J J⟨by omega,by omega⟩)J<|as_ J J<|Zf<|Qv(Oa 3 98 J J J)<|Xl(i+1,v)(by first | omega | (dsimp only<;>omega))(by first | omega | (dsimp only<;>omega))K4⟨by rw [hgc(by omega),show(Zs zs).getD i 0=(zs.getD i I0).1 from hci.symm];rfl,by rw [hgc(by omega),show(Zs zs).getD i 0=(zs.getD i I0).1 from hci.symm];rfl,rfl,rfl,rfl,trivial⟩
 ·refine Yu<|Zt<|Zt<|Ov<|Za<|Zb ?_
  obtain rfl:i=zs.length:=by omega
  rw [List.take_of_length_le(by omega:(Zs zs).length≤zs.length)]
  exact Zg<|dt(Yb(i:=97)J J J Ka Ql J J)J<|tt(Zm(i:=2)J J J J J(by decide)J Ql J J⟨Zc J,Zr(i:=98)J Zi,trivial⟩J hw trivial)J fun _ _=>Zf<|Za<|Zw<|Zy(.inl J)hsc _ _(fun a w hs=>Qi hs Tryz.results116(Yr(i:=2)J J Ka Ql J))J trivial J(Xa 98 J J J Zj)
theorem Ks(v:Value)(zs:List(Int×SL))(hs:Sz 1000000(Zs zs))(hl:zs.length≤1000)(hc:zs.length≠0→Qc(Zs zs)≠0):Cal Tryz.prog 57#[v] [pp v zs]true(G:=Value×List(Int×SL))(fun r=>Zs r.2=Yx(Zs zs))(fun r=>r.1)(fun r=>[pp r.1 r.2]):=by
 refine Yc Tryz.func57 J Tryz.ntmps57 J K1 ?_
 intro w0 sc hw hsc
 simp only [Zo,Zn]
 have hli:=Zu zs
 have hcb:bl(Qc(Zs zs)).natAbs≤1000000:=Zde _ hs
 refine Zb<|Zg<|as_ J J<|Zf<|Za<|Zb<|Zg<|mv J J<|tt(Zh(n:=2)(Zpf _ _ hs hl)J J J K1 cF116(Zd 1 J J J Ze)J hw)J fun v _=>tt(Zq(i:=3)J J J Tryz.zeroValue48 J J hw)J fun b _=>tt(Zm(i:=3)J J J J J(by decide)J Ql J J⟨Zc J,Zr(i:=2)J Zi,trivial⟩J hw trivial)J fun _ _=>Zf<|Za<|Zb<|Zg<|as_ J J<|Zf<|Za<|Zb<|Zb<|Zg<|as_ J J<|Zf<|Za<|Zl<|Yn(Nl 70 2 48 Db)<|Yn(Mn qI 71)<|Nt [(0,_),(3,_)] [(0,_),(1,_),(2,_),(3,_)](fun(q:Nat×Value×List(Int×SL))=>[(5,.int .i64(q.1:Int)),(4,q.2.1)])(fun(q:Nat×Value×List(Int×SL))=>[(70,osl 2 48 Db q.2.1 q.2.2),(71,Zb2 qI q.2.2)])(fun(q:Nat×Value×List(Int×SL))=>(q.1≤zs.length)∧(Zs q.2.2=mk q.1(fun t=>cf(Zs zs)t/Qc(Zs zs)))∧(q.2.2.length=q.1))(fun(q:Nat×Value×List(Int×SL))=>zs.length-q.1)(0,.slice none 0 0,[])⟨by first | omega | (dsimp only<;>omega),rfl,rfl⟩K4 K6 ?_
 rintro⟨i,vo,ws⟩⟨hi,hz,hzl⟩
 dsimp only at hi hz hzl
 simp only [List.cons_append,List.nil_append]
 have hci:=Oz zs i
 refine Zb<|Zb<|Zg<|mv J J<|mv J J<|dt(Ya J J(i:=1)J Zx Nd)J<|dt(Xw J J J)J<|Zf<|Za<|Zp J(fun h196=>?_)(fun h196=>?_)
 ·refine Zk<|Za<|Zb<|Zl<|Dc [(0,_),(3,_),(4,_),(5,_)] [(0,_),(70,_),(71,_),(1,_),(2,_),(3,_)](fun(q:Value×Nat)=>[(6,.pointer(some⟨q.2,0,none⟩))])(fun(q:Value×Nat)=>[(83,d9p q.1((zs.getD i I0).1/Qc(Zs zs)).natAbs),(97,box q.2 48#[.bool(decide((zs.getD i I0).1/Qc(Zs zs)<0)),q.1])])(fun(q:Value×Nat)=>True)K4 K6 ?_ ?_
  ·refine On [1,3] [12](by kernel_rfl)<|Zz(n:=8) [(0,0),(1,0),(2,0),(3,0),(4,0)](by kernel_rfl)<|r0' J J J J(stf(Ym J J)K2)<|r0' J J J J(stf(Ym J J)K2)<|r0' J J J J(stf(Yw(ii:=1)J J J J Zx Nd Ql J(by first | omega | (simp only [List.length_set];omega)))K2)<|r0' J J J J(stf(Xn(ii:=1)I0 J J J Zx pI(by first | omega | (simp only [List.length_set];omega)))K2)<|r0' J J J J(stf(Yb(i:=3)J J J Ka Ql J J)K2)<|Yp<|Zbh(n:=7)5 9 10(by kernel_rfl) ?_ ?_ ?_
   ·refine Yq J J(Zh(n:=83)(Fc _ _ _ _(by rw [hci];have:=hs i;omega)(by omega)(hc(by omega)))J J J K2 Zfp(Of 1 J J(Yv(by omega))(Zd 2 J J J Ze))J hw)fun g _=>Zz(n:=4) [(6,0),(7,0),(8,0)](by kernel_rfl)<|r0' J J J J(stf(Ym J J)K2)<|r0' J J J J(stf(Yg J J J)K2)<|r0' J J J J(stf(Yg J J J)K2)<|Yp<|Pw(n:=3)9 10(by kernel_rfl) ?_ ?_
    ·exact Yq J J(Zv(i:=97)J J J Tryz.zeroValue48 J J hw K2)fun b_2 hoff=>Zz(n:=0) [(10,1),(11,1),(12,3)](by kernel_rfl)<|r1' J J(Zv(i:=99)J J J Tryz.zeroValue48 J J hw K2)fun b_3 hoff_2=>r1' J J(Zm(i:=97)J J J J J(by decide)J Ql J J⟨Zc J,Zr(i:=83)J Zi,trivial⟩J hw hoff)fun _ _=>r3' J J(Zm(i:=99)J J J J J(by decide)J Ql J J⟨Zc J,Zr(i:=84)J Zi,trivial⟩J hw trivial)fun _ _=>Yp<|Yj(by kernel_rfl)<|Qy(_,_)trivial K5 K8
    ·exact Yq J J(Zv(i:=99)J J J Tryz.zeroValue48 J J hw K2)fun b_4 hoff_3=>Zz(n:=0) [(9,1),(11,1),(12,3)](by kernel_rfl)<|r1' J J(Zv(i:=97)J J J Tryz.zeroValue48 J J hw K2)fun b_5 hoff_4=>r1' J J(Zm(i:=97)J J J J J(by decide)J Ql J J⟨Zc J,Zr(i:=83)J Zi,trivial⟩J hw hoff_4)fun _ _=>r3' J J(Zm(i:=99)J J J J J(by decide)J Ql J J⟨Zc J,Zr(i:=84)J Zi,trivial⟩J hw trivial)fun _ _=>Yp<|Yj(by kernel_rfl)<|Qy(_,_)trivial K5 K8
   ·refine Yq J J(Zv(i:=97)J J J Tryz.zeroValue48 J J hw K2)fun b_6 hoff_5=>Pw(n:=6)5 10(by kernel_rfl) ?_ ?_
    ·exact Yq J J(Zh(n:=83)(Fc _ _ _ _(by rw [hci];have:=hs i;omega)(by omega)(hc(by omega)))J J J K2 Zfp(Of 1 J J(Yv(by omega))(Zd 2 J J J Ze))J hw)fun g_2 _=>Zz(n:=0) [(6,0),(7,0),(8,0),(10,1),(11,1),(12,3)](by kernel_rfl)<|r0' J J J J(stf(Ym J J)K2)<|r0' J J J J(stf(Yg J J J)K2)<|r0' J J J J(stf(Yg J J J)K2)<|r1' J J(Zv(i:=99)J J J Tryz.zeroValue48 J J hw K2)fun b_7 hoff_6=>r1' J J(Zm(i:=97)J J J J J(by decide)J Ql J J⟨Zc J,Zr(i:=83)J Zi,trivial⟩J hw hoff_5)fun _ _=>r3' J J(Zm(i:=99)J J J J J(by decide)J Ql J J⟨Zc J,Zr(i:=84)J Zi,trivial⟩J hw trivial)fun _ _=>Yp<|Yj(by kernel_rfl)<|Qy(_,_)trivial K5 K8
    ·exact Yq J J(Zv(i:=99)J J J Tryz.zeroValue48 J J hw K2)fun b_8 hoff_7=>Zz(n:=0) [(5,1),(6,0),(7,0),(8,0),(11,1),(12,3)](by kernel_rfl)<|r1' J J(Zh(n:=83)(Fc _ _ _ _(by rw [hci];have:=hs i;omega)(by omega)(hc(by omega)))J J J K2 Zfp(Of 1 J J(Yv(by omega))(Zd 2 J J J Ze))J hw)fun g_3 _=>r0' J J J J(stf(Ym J J)K2)<|r0' J J J J(stf(Yg J J J)K2)<|r0' J J J J(stf(Yg J J J)K2)<|r1' J J(Zm(i:=97)J J J J J(by decide)J Ql J J⟨Zc J,Zr(i:=83)J Zi,trivial⟩J hw hoff_5)fun _ _=>r3' J J(Zm(i:=99)J J J J J(by decide)J Ql J J⟨Zc J,Zr(i:=84)J Zi,trivial⟩J hw trivial)fun _ _=>Yp<|Yj(by kernel_rfl)<|Qy(_,_)trivial K5 K8
   ·refine Yq J J(Zv(i:=99)J J J Tryz.zeroValue48 J J hw K2)fun b_9 hoff_8=>Pw(n:=6)5 9(by kernel_rfl) ?_ ?_
    ·exact Yq J J(Zh(n:=83)(Fc _ _ _ _(by rw [hci];have:=hs i;omega)(by omega)(hc(by omega)))J J J K2 Zfp(Of 1 J J(Yv(by omega))(Zd 2 J J J Ze))J hw)fun g_4 _=>Zz(n:=0) [(6,0),(7,0),(8,0),(9,1),(11,1),(12,3)](by kernel_rfl)<|r0' J J J J(stf(Ym J J)K2)<|r0' J J J J(stf(Yg J J J)K2)<|r0' J J J J(stf(Yg J J J)K2)<|r1' J J(Zv(i:=97)J J J Tryz.zeroValue48 J J hw K2)fun b_10 hoff_9=>r1' J J(Zm(i:=97)J J J J J(by decide)J Ql J J⟨Zc J,Zr(i:=83)J Zi,trivial⟩J hw hoff_9)fun _ _=>r3' J J(Zm(i:=99)J J J J J(by decide)J Ql J J⟨Zc J,Zr(i:=84)J Zi,trivial⟩J hw trivial)fun _ _=>Yp<|Yj(by kernel_rfl)<|Qy(_,_)trivial K5 K8
    ·exact Yq J J(Zv(i:=97)J J J Tryz.zeroValue48 J J hw K2)fun b_11 hoff_10=>Zz(n:=0) [(5,1),(6,0),(7,0),(8,0),(11,1),(12,3)](by kernel_rfl)<|r1' J J(Zh(n:=83)(Fc _ _ _ _(by rw [hci];have:=hs i;omega)(by omega)(hc(by omega)))J J J K2 Zfp(Of 1 J J(Yv(by omega))(Zd 2 J J J Ze))J hw)fun g_5 _=>r0' J J J J(stf(Ym J J)K2)<|r0' J J J J(stf(Yg J J J)K2)<|r0' J J J J(stf(Yg J J J)K2)<|r1' J J(Zm(i:=97)J J J J J(by decide)J Ql J J⟨Zc J,Zr(i:=83)J Zi,trivial⟩J hw hoff_10)fun _ _=>r3' J J(Zm(i:=99)J J J J J(by decide)J Ql J J⟨Zc J,Zr(i:=84)J Zi,trivial⟩J hw trivial)fun _ _=>Yp<|Yj(by kernel_rfl)<|Qy(_,_)trivial K5 K8
  ·rintro⟨qv,b6⟩ -
   simp only [List.cons_append,List.nil_append]
   refine e_ex(Om 83 J Zi)(fun sl hsl=>?_)
   subst hsl
   exact Zg<|mv J J<|dt(Yb(i:=97)J J J Ka Ql J J)J<|tt(Pr(i:=4)(ivs:=[(0,_)])(enc:=Db) [((zs.getD i I0).1/Qc(Zs zs),sl)]J J J K2 Nd Tryz.ti48 J J J J J J pI.cells J J hw)J fun v_2 _=>tt(Kq(i:=70)(j:=4)(by_:=32)J J J J J J(by decide)J(Yo pI)Nd Tryz.ti48 J pI J J J(by simp;omega)(by decide)J hw)J fun v_3 _=>as_ J J<|Zf<|Px<|Za<|Zg<|mv J J<|dt(Ys J J J⟨by omega,by omega⟩)J<|as_ J J<|Zf<|Qv(Ps(q:=qI)(z:=((zs.getD i I0).1/Qc(Zs zs),sl))71 83 71 J J J J J)<|Xl(i+1,_,ws ++ [((zs.getD i I0).1/Qc(Zs zs),sl)])⟨by first | omega | (dsimp only<;>omega),by rw [Kf,Ad,hz];dsimp only;rw [Oz],by simp [hzl]⟩(by first | omega | (dsimp only<;>omega))K4 K6
 ·exact Yu<|Zt<|Zt<|Ov<|Za<|Zb<|Yn(Pe 70 J J pI)<|Yn(Mj 70 71 72 J J J J)<|Zg<|mv J J<|as_ J J<|Zf<|Za<|Zw<|Zy(.inl J)hsc(_,ws)_(fun a w hs=>Qi hs Tryz.results57 J)J(by rw [hz,show i=(Zs zs).length by omega,Znx(Zs zs)(· / Qc(Zs zs))]<;>rfl)J(Xa 72 J J J Zj)
theorem rp_mul(v u:Value)(zs ys:List(Int×SL))(hs:Sz 1000000(Zs zs))(hl:zs.length≤60)(ht:Sz 1000000(Zs ys))(hk:ys.length≤60):Cal Tryz.prog 42#[v,u] [pp v zs,pp u ys]true(G:=Value×List(Int×SL))(fun r=>Zs r.2=Nz(Zs zs)(Zs ys))(fun r=>r.1)(fun r=>[pp r.1 r.2]):=by
 refine Yc Tryz.func42 J Tryz.ntmps42 J K2 ?_
 intro w0 sc hw hsc
 simp only [Zo,Zn]
 have hli:=Zu zs
 have hli2:=Zu ys
 have htb:∀i k,bl(cf(Zs zs)k*cf(Zs ys)(i-k)).natAbs≤2000000:=fun i k=>by have:=Xy(cf(Zs zs)k)(cf(Zs ys)(i-k));have:=hs k;have:=ht(i-k);omega
 have hsb:∀i n,n≤1000→bl(Qn(fun k=>cf(Zs zs)k*cf(Zs ys)(i-k))n).natAbs≤2000010:=fun i n hn=>Zml(fun t _=>htb i t)(by omega)
 refine Zb<|Zg<|as_ J J<|Zf<|Za<|Zb<|Zg<|as_ J J<|Zf<|Za<|Zb<|Zb<|Zg<|as_ J J<|Zf<|Za<|Zl<|Yn(Nl 70 2 48 Db)<|Yn(Mn qI 71)<|Nt [(0,_),(1,_)] [(0,_),(1,_),(2,_)](fun(q:Nat×Value×List(Int×SL))=>[(6,.int .i64(q.1:Int)),(5,q.2.1)])(fun(q:Nat×Value×List(Int×SL))=>[(70,osl 2 48 Db q.2.1 q.2.2),(71,Zb2 qI q.2.2)])(fun(q:Nat×Value×List(Int×SL))=>(q.1≤(zs.length+ys.length-1))∧(Zs q.2.2=mk q.1(fun t=>Qn(fun a9=>cf(Zs zs)a9*cf(Zs ys)(t-a9))(t+1)))∧(q.2.2.length=q.1))(fun(q:Nat×Value×List(Int×SL))=>(zs.length+ys.length-1)-q.1)(0,.slice none 0 0,[])⟨by first | omega | (dsimp only<;>omega),rfl,rfl⟩K4 K5 ?_
 rintro⟨i,vo,ws⟩⟨hi,hz,hzl⟩
 dsimp only at hi hz hzl
 simp only [List.cons_append,List.nil_append]
 refine Zb<|Zb<|Zg<|mv J J<|mv J J<|dt(Ya J J(i:=1)J Zx Nd)J<|mv J J<|dt(Ya J J(i:=2)J Zx Nd)J<|dt(Ys J J J⟨by omega,by omega⟩)J<|dt(Qb J J J⟨by omega,by omega⟩)J<|dt(Xw J J J)J<|Zf<|Za<|Zp J(fun h124=>?_)(fun h124=>?_)
 ·refine Zk<|Za<|Zb<|Zl<|Zb<|Zg<|dt(Oo(ivs:=[])J trivial(fun a w hs=>b48_))J<|tt(Zq(i:=97)J J J Tryz.zeroValue48 J J hw)J fun b _=>tt(Zm(i:=97)J J J J J(by decide)J Ql J J⟨Zc J,Zc J,trivial⟩J hw trivial)J fun _ _=>Zf<|Za<|Zb<|Zb<|Zg<|as_ J J<|Zf<|Za<|Zl<|Yn(Nl 98 1 3 Dk)<|Yn(Pe 98 J J pN)<|Nt [(0,_),(1,_),(5,_),(6,_),(7,_)] [(0,_),(70,_),(71,_),(1,_),(2,_)](fun(q:Nat×Value)=>[(8,.int .i64(q.1:Int))])(fun(q:Nat×Value)=>[(97,box b 48#[.bool(decide(Qn(fun a9=>cf(Zs zs)a9*cf(Zs ys)(i-a9))q.1<0)),q.2]),(98,d9p q.2(Qn(fun a9=>cf(Zs zs)a9*cf(Zs ys)(i-a9))q.1).natAbs)])(fun(q:Nat×Value)=>q.1≤i+1)(fun(q:Nat×Value)=>i+1-q.1)(0,.slice none 0 0)(by first | omega | (dsimp only<;>omega))K6 K7 ?_
  rintro⟨k,vs⟩hk1
  dsimp only at hk1
  simp only [List.cons_append,List.nil_append]
  have h1:=hsb i k
  have h2:=htb i k
  have h3:=hs k
  have h4:=ht(i-k)
  refine Zb<|Zb<|Zg<|mv J J<|mv J J<|dt(Dl J J J)J<|Zf<|Za<|Zp J(fun h126=>?_)(fun h126=>?_)
  ·refine Zk<|Za<|Zb<|Zl<|Qr(fun _=>False) [(0,0),(1,0),(2,0),(4,0),(5,0),(6,0),(7,0),(3,1),(8,1),(9,1),(10,1),(11,3)](by kernel_rfl) ?_ ?_
   ·kernel_rfl
   exact r0' J J J J(st0(Yb(i:=97)J J J Ka Ql J J))<|r0' J J J J(st0(Ym J J))<|r0' J J J J(st0(Ym J J))<|r0' J J J J(st0(Ym J J))<|r0' J J J J(st0(Ym J J))<|r0' J J J J(st0(Ym J J))<|r0' J J J J(st0(Qb J J J⟨by omega,by omega⟩))<|r1' J J(Zh(n:=3)(Zhl _ _ _ k J(by omega))J J J K2 Zil(Zd 1 J J J Ze)J hw)fun v _=>r1' J J(Zh(n:=4)(Zhl _ _ _(i-k)(by omega)(by omega))J J J K2 Zil(Zd 2 J J J Ze)J hw)fun v_2 _=>r1' J J(Zh(n:=5)(Zaj _ _ _ _(by omega)(by omega))J J J K2 Zov(Zd 3 J J J(Zd 4 J J J Ze))J hw)fun v_3 _=>r1' J J(Zh(n:=6)(Zrk _ _ _ _(by omega)(by omega))J J J K2 cF37(Zd 98 J J J(Zd 5 J J J Ze))J hw)fun v_4 _=>r3' J J(Zm(i:=97)J J J J J(by decide)J Ql J J⟨Zc J,Zr(i:=6)J Zi,trivial⟩J hw trivial)fun _ _=>Oj<|Px<|Za<|Zg<|mv J J<|dt(Ys J J J⟨by omega,by omega⟩)J<|as_ J J<|Zf<|Qv(Oa 6 98 J J J)<|Xl(k+1,v_4)(by first | omega | (dsimp only<;>omega))(by first | omega | (dsimp only<;>omega))K6⟨by rw [Xs];rfl,by rw [Xs];rfl,rfl,rfl,rfl,rfl,rfl,trivial⟩
  ·refine Yu<|Zt<|Zt<|Ov<|Za ?_
   obtain rfl:k=i+1:=by omega
   refine e_ex(Om 98 J Zi)(fun sl hsl=>?_)
   subst hsl
   exact Zg<|mv J J<|dt(Yb(i:=97)J J J Ka Ql J J)J<|tt(Pr(i:=7)(ivs:=[(0,_)])(enc:=Db) [(Qn(fun a9=>cf(Zs zs)a9*cf(Zs ys)(i-a9))(i+1),sl)]J J J K2 Nd Tryz.ti48 J J J J J J pI.cells J J hw)J fun v_5 _=>tt(Kq(i:=70)(j:=7)(by_:=32)J J J J J J(by decide)J(Yo pI)Nd Tryz.ti48 J pI J J J(by simp;omega)(by decide)J hw)J fun v_6 _=>as_ J J<|Zf<|Px<|Za<|Zg<|mv J J<|dt(Ys J J J⟨by omega,by omega⟩)J<|as_ J J<|Zf<|Qv(Ps(q:=qI)(z:=(Qn(fun a9=>cf(Zs zs)a9*cf(Zs ys)(i-a9))(i+1),sl))71 98 71 J J J J J)<|Xl(i+1,_,ws ++ [(Qn(fun a9=>cf(Zs zs)a9*cf(Zs ys)(i-a9))(i+1),sl)])⟨by first | omega | (dsimp only<;>omega),by rw [Kf,Ad,hz],by simp [hzl]⟩(by first | omega | (dsimp only<;>omega))K4 K5
 ·refine Yu<|Zt<|Zt<|Ov<|Za<|Zb<|Zb<|Zg<|mv J J<|dt(Ya J J(i:=1)J Zx Nd)J<|dt(Pm J J J)J<|mv J J<|Pa(d:=43)J(fun s131=>?_)(fun s131=>?_)
  ·refine gsk J J J J J<|gsk J J J J J<|gsk J J J J J<|dt(Xi J J J)J<|Zf<|Za<|Nm J<|Zb<|Zg<|as_ J J<|Zf<|Za<|Zw<|Xe<|Qv(Fr 62) ?_
   have hp0:Nz(Zs zs)(Zs ys)=[]:=Ct(by first | (left;omega) | (right;omega))
   exact Zy(.inl J)hsc(.slice none 0 0,[])_(fun a w hs=>Qi hs Tryz.results42 J)J(by rw [hp0]<;>rfl)J(Xa 62 J J J Zj)
  ·refine gdt(Ym J J)J J J J<|gdt(Ya J J(i:=2)J Zx Nd)J J J J<|gdt(Pm J J J)J J J J<|dt(Yh J J J)J<|Zf<|Za<|Zp J(fun h131=>?_)(fun h131=>?_)
   ·refine Zb<|Zg<|as_ J J<|Zf<|Za<|Zw<|Xe<|Qv(Fr 62) ?_
    have hp0:Nz(Zs zs)(Zs ys)=[]:=Ct(by first | (left;omega) | (right;omega))
    exact Zy(.inl J)hsc(.slice none 0 0,[])_(fun a w hs=>Qi hs Tryz.results42 J)J(by rw [hp0]<;>rfl)J(Xa 62 J J J Zj)
   ·exact Zk<|Za<|Zb<|Yn(Pe 70 J J pI)<|Yn(Mj 70 71 72 J J J J)<|Zg<|mv J J<|tt(Zh(n:=8)(Zbt _ _(by rw [hz];exact Zas fun t h=>by have:=hsb t(t+1)(by omega);omega))J J J K1 cF89(Zd 72 J J J Ze)J hw)J fun g hg=>as_ J J<|Zf<|Za<|Zw<|Zy(.inl J)hsc _ _(fun a w hs=>Qi hs Tryz.results42 J)J(by rw [hg,hz,show i=(Zs zs).length+(Zs ys).length-1 by omega,pmul_mk])J(Xa 8 J J J Zj)
theorem r_same(v u:Value)(r t:List(Bool×ByteArray)):Cal Tryz.prog 17#[v,u] [slp 2 Zgh v r,slp 2 Zgh u t]false(G:=Unit)(fun _=>True)(fun _=> .bool(decide(r=t)))(fun _=>[]):=by
 refine Yc Tryz.func17 J Tryz.ntmps17 J K2 ?_
 intro w0 sc hw hsc
 simp only [Zo,Zn]
 refine Ma(Gb(i:=1)J Zi)fun hlr=>Ma(Gb(i:=2)J Zi)fun hlt=>Zb<|Zg<|as_ J J<|Zf<|Za<|Zb<|Zb<|Zg<|mv J J<|dt(Ya J J(i:=1)J Zi Qp)J<|mv J J<|dt(Ya J J(i:=2)J Zi Qp)J<|dt(Qe J J J)J<|Zf<|Za<|Zp J(fun h78=>?_)(fun h78=>?_)
 ·exact Zb<|Zg<|as_ J J<|Zf<|Za<|Zw<|Xe<|Zy(.inl J)hsc()_(fun a w hs=>Qi hs Tryz.results17 J)(by rw [decide_eq_false(fun e=>by subst e;exact h78 rfl)])trivial J Zj
 ·have hle:r.length=t.length:=by omega
  refine Zk<|Za<|Zb<|Zb<|Zg<|as_ J J<|Zf<|Za<|Zl<|Nt [(0,_),(1,_)] [(0,_),(1,_),(2,_)](fun(k:Nat)=>[(5,.int .i64(k:Int))])(fun(k:Nat)=>[])(fun(k:Nat)=>(k≤r.length)∧(r.take k=t.take k))(fun(k:Nat)=>r.length-k)0⟨by first | omega | (dsimp only<;>omega),by simp⟩K3 K3 ?_
  rintro k⟨hk,ht⟩
  simp only [List.cons_append,List.nil_append]
  refine Zb<|Zb<|Zg<|mv J J<|mv J J<|dt(Ya J J(i:=1)J Zi Qp)J<|dt(Xw J J J)J<|Zf<|Za<|Zp J(fun h81=>?_)(fun h81=>?_)
  ·refine Zk<|Za<|Zb<|Zl<|Zb<|Qr(fun _=>False) [(0,0),(1,0),(2,0),(3,0),(4,0),(5,0),(6,0),(7,0),(8,0)](by kernel_rfl) ?_ ?_
   ·kernel_rfl
   refine r0' J J J J(st0(Ym J J))<|r0' J J J J(st0(Ym J J))<|r0' J J J J(st0(Yw(ii:=1)J J J J Zi Qp Yl J(by first | omega | (simp only [List.length_set];omega))))<|r0' J J J J(st0(Xn(ii:=1)(false,⟨#[]⟩)J J J Zi pW(by first | omega | (simp only [List.length_set];omega))))<|r0' J J J J(st0(Ym J J))<|r0' J J J J(st0(Ym J J))<|r0' J J J J(st0(Yw(ii:=2)J J J J Zi Qp Yl J(by first | omega | (simp only [List.length_set];omega))))<|r0' J J J J(st0(Xn(ii:=2)(false,⟨#[]⟩)J J J Zi pW(by first | omega | (simp only [List.length_set];omega))))<|r0' J J J J(st0(Zpu J J J eg31(fun w=>Zwy w _ _ _ _)))<|Oj<|Za<|Mt J(fun h82=>?_)(fun h82=>?_)
   ·exact Zb<|Zg<|as_ J J<|Zf<|Za<|Zw<|Hb<|Xe<|Xe<|Hb<|Xe<|Zy(.inl J)hsc()_(fun a w hs=>Qi hs Tryz.results17 J)(by rw [decide_eq_false(fun e=>by rw [e]at h82;simp [Cz]at h82)])trivial J Zj
   ·exact Zk<|Px<|Za<|Zg<|mv J J<|dt(Ys J J J⟨by omega,by omega⟩)J<|as_ J J<|Zf<|Xl(k+1)⟨by first | omega | (dsimp only<;>omega),by rw [Oe(false,⟨#[]⟩)_ _(by omega),Oe(false,⟨#[]⟩)_ _(by omega),ht,Zxj(x:=r.getD k(false,⟨#[]⟩))(y:=t.getD k(false,⟨#[]⟩))(by simpa using h82)]⟩(by first | omega | (dsimp only<;>omega))K3 K3
  ·exact Yu<|Zt<|Zt<|Ov<|Za<|Zb<|Zg<|as_ J J<|Zf<|Za<|Zw<|Zy(.inl J)hsc()_(fun a w hs=>Qi hs Tryz.results17 J)(by rw [decide_eq_true(by rw [show k=r.length by omega,List.take_length,hle,List.take_length]at ht;exact ht)])trivial J Zj
theorem Zai(v u:Value)(xs ys:List Int):Cal Tryz.prog 17#[v,u] [slp 2 wv v xs,slp 2 wv u ys]false(G:=Unit)(fun _=>True)(fun _=> .bool(decide(xs=ys)))(fun _=>[]):=by
 have h:=((r_same v u(xs.map wr)(ys.map wr)).imp(Zqw v xs)(fun _ h=>h)).imp2(Zqw u ys)(fun _ h=>h)
 rw [decide_eq_decide.2(Zpp xs ys)]at h;exact h
theorem Zc7(v:Value)(r:List(Bool×ByteArray)):Cal Tryz.prog 13#[v] [slp 2 Zgh v r]false(G:=Unit)(fun _=>True)(fun _=> .bool(okP r))(fun _=>[]):=by
 refine Yc Tryz.func13 J Tryz.ntmps13 J K1 ?_
 intro w0 sc hw hsc
 simp only [Zo,Zn]
 refine Ma(Gb(i:=1)J Zi)fun hlen=>Zb<|Zg<|as_ J J<|Zf<|Za<|Zb<|Zb<|Zg<|as_ J J<|Zf<|Za<|Zl<|Nt [(0,_)] [(0,_),(1,_)](fun(k:Nat)=>[(3,.int .i64(k:Int))])(fun(k:Nat)=>[])(fun(k:Nat)=>(k≤r.length)∧((r.take k).all(fun w=>okW w.1 w.2)=true))(fun(k:Nat)=>r.length-k)0⟨by first | omega | (dsimp only<;>omega),by simp⟩K2 K2 ?_
 rintro k⟨hk,ha⟩
 simp only [List.cons_append,List.nil_append]
 refine Zb<|Zb<|Zg<|mv J J<|mv J J<|dt(Ya J J(i:=1)J Zi Qp)J<|dt(Xw J J J)J<|Zf<|Za<|Zp J(fun h30=>?_)(fun h30=>?_)
 ·refine Zk<|Za<|Zb<|Zl<|Zb<|Zg<|mv J J<|mv J J<|dt(Yw(ii:=1)J J J J Zi Qp Yl J(by first | omega | (simp only [List.length_set];omega)))J<|dt(Xn(ii:=1)(false,⟨#[]⟩)J J J Zi pW(by first | omega | (simp only [List.length_set];omega)))J<|tt(Zh(n:=1)(r_valid _ _)J J J K1 cF35 Ze J hw)J fun _ _=>dt(Xr J J)J<|Zf<|Za<|Mt J(fun h31=>?_)(fun h31=>?_)
  ·exact Zb<|Zg<|as_ J J<|Zf<|Za<|Zw<|Hb<|Xe<|Xe<|Hb<|Xe<|Zy(.inl J)hsc()_(fun a w hs=>Qi hs Tryz.results13 J)(by rw [Zr2(Yv(i:=k)(d:=(false,⟨#[]⟩))(by omega))(by simpa using h31)])trivial J Zj
  ·exact Zk<|Px<|Za<|Zg<|mv J J<|dt(Ys J J J⟨by omega,by omega⟩)J<|as_ J J<|Zf<|Xl(k+1)⟨by first | omega | (dsimp only<;>omega),by rw [Oe(false,⟨#[]⟩)_ _(by omega),List.all_append,ha];simpa using h31⟩(by first | omega | (dsimp only<;>omega))K2 K2
 ·refine Yu<|Zt<|Zt<|Ov<|Za<|Zb ?_
  obtain rfl:k=r.length:=by omega
  rw [List.take_length]at ha
  refine Zg<|mv J J<|dt(Ya J J(i:=1)J Zi Qp)J<|dt(Dl J J J)J<|mv J J<|Pa(d:=19)J(fun s35=>?_)(fun s35=>?_)
  ·refine gdt(Ym J J)J J J J<|gdt(Ya J J(i:=1)J Zi Qp)J J J J<|gdt(Pm J J J)J J J J<|gdt(Ym J J)J J J J<|Pa(d:=23)J(fun s35_2=>?_)(fun s35_2=>?_)
   ·exact gsk J J J J J<|gsk J J J J J<|gsk J J J J J<|gsk J J J J J<|gsk J J J J J<|gsk J J J J J<|gsk J J J J J<|gsk J J J J J<|gsk J J J J J<|gdt(Xi J J J)J J J J<|dt(Xi J J J)J<|as_ J J<|Zf<|Za<|Zw<|Zy(.inl J)hsc()_(fun a w hs=>Qi hs Tryz.results13 J)(by rw [Zhy ha];first | (rw [decide_eq_false(show ¬r.length≤25 by omega)];rfl) | (rw [decide_eq_true(show r.length≤25 by omega),decide_eq_true(show r.length=0 by omega)];rfl) | (rw [decide_eq_true(show r.length≤25 by omega),decide_eq_false(show ¬r.length=0 by omega)];rfl))trivial J Zj
   ·exact gdt(Ym J J)J J J J<|gdt(Ym J J)J J J J<|gdt(Ya J J(i:=1)J Zi Qp)J J J J<|gdt(Qb J J J⟨by omega,by omega⟩)J J J J<|gdt(Yw(ii:=1)(i:=(r.length-1))J J J J Zi Qp Yl(by omega)(by omega))J J J J<|gdt(d_fae(ii:=1)J J J Zi(by omega)Zct J zT9 J)J J J J<|gdt(d_ldf(ii:=1)(false,⟨#[]⟩)J J J Zi(by omega)iA9 J)J J J J<|gdt(Cg J J uT9)J J J J<|gdt(Ot J J J)J J J J<|gdt(Yh J J J)J J J J<|dt(Xi J J J)J<|as_ J J<|Zf<|Za<|Zw<|Zy(.inl J)hsc()_(fun a w hs=>Qi hs Tryz.results13 J)(by rw [Zhy ha];first | (rw [decide_eq_false(show ¬r.length≤25 by omega)];rfl) | (rw [decide_eq_true(show r.length≤25 by omega),decide_eq_true(show r.length=0 by omega)];rfl) | (rw [decide_eq_true(show r.length≤25 by omega),decide_eq_false(show ¬r.length=0 by omega)];rfl))trivial J Zj
  ·exact gsk J J J J J<|gsk J J J J J<|gsk J J J J J<|gsk J J J J J<|Zjz J J J<|Zjz J J J<|Zjz J J J<|Zjz J J J<|Zjz J J J<|Zjz J J J<|Zjz J J J<|Zjz J J J<|Zjz J J J<|gsk J J J J J<|dt(Yh J J J)J<|as_ J J<|Zf<|Za<|Zw<|Zy(.inl J)hsc()_(fun a w hs=>Qi hs Tryz.results13 J)(by rw [Zhy ha];first | (rw [decide_eq_false(show ¬r.length≤25 by omega)];rfl) | (rw [decide_eq_true(show r.length≤25 by omega),decide_eq_true(show r.length=0 by omega)];rfl) | (rw [decide_eq_true(show r.length≤25 by omega),decide_eq_false(show ¬r.length=0 by omega)];rfl))trivial J Zj
set_option maxHeartbeats 4000000 in
theorem rp_rest(v u:Value)(zs ys:List(Int×SL))(hl:zs.length≤30)(hk:ys.length≤30)(hy0:0<ys.length)(ht:Tr(Zs ys))(hF:ys.length≤zs.length→msz(Zs zs)+(zs.length-ys.length+1)*(msz(Zs ys)+1)≤900000):Cal Tryz.prog 160#[v,u] [pp v zs,pp u ys]true(G:=Value×List(Int×SL))(fun r=>Zs r.2=Pk(Zs zs)(Zs ys))(fun r=>r.1)(fun r=>[pp r.1 r.2]):=by
 refine Yc Tryz.func160 J Tryz.ntmps160 J K2 ?_
 intro w0 sc hw hsc
 simp only [Zo,Zn]
 have hli:=Zu zs
 have hli2:=Zu ys
 have hlead:(cf(Zs ys)((Zs ys).length-1))≠0:=ht.mem(fun e=>by rw [←hli2,e]at hy0;simp at hy0)
 refine Ma(Gb(i:=1)J Zx)fun hlen=>Ma(Gb(i:=2)J Zx)fun hlen2=>Zb<|Zg<|as_ J J<|Zf<|Za<|Zb<|Zb<|Zg<|mv J J<|dt(Ya J J(i:=1)J Zx Nd)J<|mv J J<|dt(Ya J J(i:=2)J Zx Nd)J<|dt(Xw J J J)J<|Zf<|Za<|Zp J(fun h205=>?_)(fun h205=>?_)
 ·exact Zb<|Zg<|mv J J<|as_ J J<|Zf<|Za<|Zw<|Xe<|Zy(.inl J)hsc(_,zs)_(fun a w hs=>Qi hs Tryz.results160 J)J(by unfold Pk;rw [if_pos(by omega)])J(Xa 1 J J J Zj)
 ·have hF2:=hF(by omega)
  have hF3:msz(Zs zs)+((Zs zs).length-(Zs ys).length+1)*(msz(Zs ys)+1)≤900000:=by rw [hli,hli2];exact hF2
  have hN:1≤zs.length-ys.length+1:=by omega
  have hB:=Nat.mul_le_mul_right(msz(Zs ys)+1)hN
  rw [Nat.one_mul]at hB
  have hcl:=Oz ys(ys.length-1)
  have hci2:(ys.getD(ys.length-1)I0).1=(cf(Zs ys)((Zs ys).length-1)):=by rw [hcl,hli2]
  have hsy:=Oc(Zs ys)
  have hlq:=hsy((Zs ys).length-1)
  have hpw:=Bt hlq(zs.length-ys.length+1)
  have hpw2:(zs.length-ys.length+1)*msz(Zs ys)≤(zs.length-ys.length+1)*(msz(Zs ys)+1):=Nat.mul_le_mul_left _(by omega)
  refine Zk<|Za<|Zb<|Zg<|mv J J<|mv J J<|dt(Ya J J(i:=2)J Zx Nd)J<|dt(Qb J J J⟨by omega,by omega⟩)J<|dt(Yw(ii:=2)(i:=(ys.length-1))J J J J Zx Nd Ql(by omega)(by omega))J<|dt(Xn(ii:=2)I0 J J J Zx pI(by omega))J<|tt(Zq(i:=96)J J J Tryz.zeroValue48 J J hw)J fun b _=>tt(Zm(i:=96)J J J J J(by decide)J Ql J J⟨Zc J,Zc J,trivial⟩J hw trivial)J fun _ _=>Zf<|Za<|Zb<|Zg<|mv J J<|dt(Yb(i:=96)J J J Ka Ql J J)J<|mv J J<|dt(Ya J J(i:=1)J Zx Nd)J<|mv J J<|dt(Ya J J(i:=2)J Zx Nd)J<|dt(Qb J J J⟨by omega,by omega⟩)J<|dt(Ys J J J⟨by omega,by omega⟩)J<|tt(Zh(n:=3)(Zhk _ _ _(zs.length-ys.length+1)(by omega)(by omega)(by rw [hci2];omega))J J J K2 cF165(Of 2 J J(Yv(i:=ys.length-1)(by omega))Ze)J hw)J fun v _=>tt(Zh(n:=80)(Zae _ _ _ _((Oc _).mono(by omega))(by omega)(by rw [hci2];omega))J J J K2 cF56(Zd 1 J J J(Zd 3 J J J Ze))J hw)J fun g hg=>as_ J J<|Zf<|Za<|Zb<|Zl ?_
  refine Nt [(1,_),(5,_)] [(0,_),(1,_),(2,_),(96,_),(3,_)](fun(q:Nat×List(Int×SL)×Value)=>[(6,q.2.2)])(fun(q:Nat×List(Int×SL)×Value)=>[(80,pp q.2.2 q.2.1)])(fun(q:Nat×List(Int×SL)×Value)=>(q.1≤zs.length-ys.length+1)∧(Fi(Zs zs)(Zs ys)(Zs q.2.1)q.1))(fun(q:Nat×List(Int×SL)×Value)=>zs.length-ys.length+1-q.1)(0,_,_)⟨Nat.zero_le _,by dsimp only;rw [hg,hci2,←hli,←hli2];exact Zjh⟩K3 K6 ?_
  rintro⟨j,ws,vr⟩⟨hj,hI⟩
  dsimp only at hj hI
  simp only [List.cons_append,List.nil_append]
  have hlw:=Zu ws
  have hwl:=Zk5 hI
  refine Zb<|Zb<|Zg<|mv J J<|dt(Ya J J(i:=80)J Zx Nd)J<|mv J J<|dt(Ya J J(i:=2)J Zx Nd)J<|dt(Lq J J J)J<|Zf<|Za<|Zp J(fun h210=>?_)(fun h210=>?_)
  ·have hR0:(Zs ys).length≤(Zs ws).length:=by omega
   obtain⟨g1,g2,g3,hI2⟩:=Zph(by omega)(by omega)hlead(by omega)hI hR0
   have hst:=Zji hlead hI2(by omega)hR0 g3
   have hqe:=Zek hlead hI2(by omega)hR0 g3
   have hsR:=Zpi(by omega)hI
   have hsw:Sz 1000000(Zs ws):=hsR.mono(by omega)
   have hcw:=Oz ws(ws.length-1)
   have hcqb:bl(cf(Zs ws)((Zs ws).length-1)/(cf(Zs ys)((Zs ys).length-1))).natAbs≤900001:=by have:=Zuq hqe(Fn(Zs zs)(Zs ys)_ _)hlq;have h7:=restq_b(p:=Zs zs)(q:=Zs ys)(R:=Zs ws)(by omega)(by omega)g3;omega
   have hcqa:(ws.getD(ws.length-1)I0).1/(ys.getD(ys.length-1)I0).1=(cf(Zs ws)((Zs ws).length-1)/(cf(Zs ys)((Zs ys).length-1))):=by rw [hci2,hcw,hlw]
   refine Zk<|Za<|Zl<|Dc [(1,_),(5,_),(6,_)] [(0,_),(80,_),(1,_),(2,_),(96,_),(3,_)](fun(q:Value×Nat)=>[(7,.pointer(some⟨q.2,0,none⟩))])(fun(q:Value×Nat)=>[(83,d9p q.1(cf(Zs ws)((Zs ws).length-1)/(cf(Zs ys)((Zs ys).length-1))).natAbs),(97,box q.2 48#[.bool(decide((cf(Zs ws)((Zs ws).length-1)/(cf(Zs ys)((Zs ys).length-1)))<0)),q.1])])(fun(q:Value×Nat)=>True)K3 K6 ?_ ?_
   ·refine On [80,96] [14](by kernel_rfl)<|Zz(n:=8) [(0,0),(1,0),(2,0),(3,0),(4,0),(5,0),(6,0)](by kernel_rfl)<|r0' J J J J(stf(Ym J J)K2)<|r0' J J J J(stf(Ym J J)K2)<|r0' J J J J(stf(Ya J J(i:=80)J Zx Nd)K2)<|r0' J J J J(stf(Qb J J J⟨by omega,by omega⟩)K2)<|r0' J J J J(stf(Yw(ii:=80)(i:=(ws.length-1))J J J J Zx Nd Ql(by omega)(by omega))K2)<|r0' J J J J(stf(Xn(ii:=80)I0 J J J Zx pI(by omega))K2)<|r0' J J J J(stf(Yb(i:=96)J J J Ka Ql J J)K2)<|Yp<|Zbh(n:=7)7 11 12(by kernel_rfl) ?_ ?_ ?_
    ·refine Yq J J(Zh(n:=83)(Fc _ _ _ _(by rw [hcw];have:=hsw(ws.length-1);omega)(by rw [hci2];omega)(by rw [hci2];exact hlead))J J J K2 Zfp(Of 80 J J(Yv(zs:=ws)(i:=ws.length-1)(d:=I0)(by omega))(Of 2 J J(Yv(zs:=ys)(i:=ys.length-1)(d:=I0)(by omega))Ze))J hw)fun g_2 _=>Zz(n:=4) [(8,0),(9,0),(10,0)](by kernel_rfl)<|r0' J J J J(stf(Ym J J)K2)<|r0' J J J J(stf(Yg J J J)K2)<|r0' J J J J(stf(Yg J J J)K2)<|Yp<|Pw(n:=3)11 12(by kernel_rfl) ?_ ?_
     ·exact Yq J J(Zv(i:=97)J J J Tryz.zeroValue48 J J hw K2)fun b_2 hoff=>Zz(n:=0) [(12,1),(13,1),(14,3)](by kernel_rfl)<|r1' J J(Zv(i:=99)J J J Tryz.zeroValue48 J J hw K2)fun b_3 hoff_2=>r1' J J(Zm(i:=97)J J J J J(by decide)J Ql J J⟨Zc J,Zr(i:=83)J Zi,trivial⟩J hw hoff)fun _ _=>r3' J J(Zm(i:=99)J J J J J(by decide)J Ql J J⟨Zc J,Zr(i:=84)J Zi,trivial⟩J hw trivial)fun _ _=>Yp<|Yj(by kernel_rfl)<|Qy(_,_)trivial K4⟨by rw [←hcqa];rfl,by rw [←hcqa];rfl,rfl,rfl,rfl,rfl,rfl,rfl,trivial⟩
     ·exact Yq J J(Zv(i:=99)J J J Tryz.zeroValue48 J J hw K2)fun b_4 hoff_3=>Zz(n:=0) [(11,1),(13,1),(14,3)](by kernel_rfl)<|r1' J J(Zv(i:=97)J J J Tryz.zeroValue48 J J hw K2)fun b_5 hoff_4=>r1' J J(Zm(i:=97)J J J J J(by decide)J Ql J J⟨Zc J,Zr(i:=83)J Zi,trivial⟩J hw hoff_4)fun _ _=>r3' J J(Zm(i:=99)J J J J J(by decide)J Ql J J⟨Zc J,Zr(i:=84)J Zi,trivial⟩J hw trivial)fun _ _=>Yp<|Yj(by kernel_rfl)<|Qy(_,_)trivial K4⟨by rw [←hcqa];rfl,by rw [←hcqa];rfl,rfl,rfl,rfl,rfl,rfl,rfl,trivial⟩
    ·refine Yq J J(Zv(i:=97)J J J Tryz.zeroValue48 J J hw K2)fun b_6 hoff_5=>Pw(n:=6)7 12(by kernel_rfl) ?_ ?_
     ·exact Yq J J(Zh(n:=83)(Fc _ _ _ _(by rw [hcw];have:=hsw(ws.length-1);omega)(by rw [hci2];omega)(by rw [hci2];exact hlead))J J J K2 Zfp(Of 80 J J(Yv(zs:=ws)(i:=ws.length-1)(d:=I0)(by omega))(Of 2 J J(Yv(zs:=ys)(i:=ys.length-1)(d:=I0)(by omega))Ze))J hw)fun g_3 _=>Zz(n:=0) [(8,0),(9,0),(10,0),(12,1),(13,1),(14,3)](by kernel_rfl)<|r0' J J J J(stf(Ym J J)K2)<|r0' J J J J(stf(Yg J J J)K2)<|r0' J J J J(stf(Yg J J J)K2)<|r1' J J(Zv(i:=99)J J J Tryz.zeroValue48 J J hw K2)fun b_7 hoff_6=>r1' J J(Zm(i:=97)J J J J J(by decide)J Ql J J⟨Zc J,Zr(i:=83)J Zi,trivial⟩J hw hoff_5)fun _ _=>r3' J J(Zm(i:=99)J J J J J(by decide)J Ql J J⟨Zc J,Zr(i:=84)J Zi,trivial⟩J hw trivial)fun _ _=>Yp<|Yj(by kernel_rfl)<|Qy(_,_)trivial K4⟨by rw [←hcqa];rfl,by rw [←hcqa];rfl,rfl,rfl,rfl,rfl,rfl,rfl,trivial⟩
     ·exact Yq J J(Zv(i:=99)J J J Tryz.zeroValue48 J J hw K2)fun b_8 hoff_7=>Zz(n:=0) [(7,1),(8,0),(9,0),(10,0),(13,1),(14,3)](by kernel_rfl)<|r1' J J(Zh(n:=83)(Fc _ _ _ _(by rw [hcw];have:=hsw(ws.length-1);omega)(by rw [hci2];omega)(by rw [hci2];exact hlead))J J J K2 Zfp(Of 80 J J(Yv(zs:=ws)(i:=ws.length-1)(d:=I0)(by omega))(Of 2 J J(Yv(zs:=ys)(i:=ys.length-1)(d:=I0)(by omega))Ze))J hw)fun g_4 _=>r0' J J J J(stf(Ym J J)K2)<|r0' J J J J(stf(Yg J J J)K2)<|r0' J J J J(stf(Yg J J J)K2)<|r1' J J(Zm(i:=97)J J J J J(by decide)J Ql J J⟨Zc J,Zr(i:=83)J Zi,trivial⟩J hw hoff_5)fun _ _=>r3' J J(Zm(i:=99)J J J J J(by decide)J Ql J J⟨Zc J,Zr(i:=84)J Zi,trivial⟩J hw trivial)fun _ _=>Yp<|Yj(by kernel_rfl)<|Qy(_,_)trivial K4⟨by rw [←hcqa];rfl,by rw [←hcqa];rfl,rfl,rfl,rfl,rfl,rfl,rfl,trivial⟩
    ·refine Yq J J(Zv(i:=99)J J J Tryz.zeroValue48 J J hw K2)fun b_9 hoff_8=>Pw(n:=6)7 11(by kernel_rfl) ?_ ?_
     ·exact Yq J J(Zh(n:=83)(Fc _ _ _ _(by rw [hcw];have:=hsw(ws.length-1);omega)(by rw [hci2];omega)(by rw [hci2];exact hlead))J J J K2 Zfp(Of 80 J J(Yv(zs:=ws)(i:=ws.length-1)(d:=I0)(by omega))(Of 2 J J(Yv(zs:=ys)(i:=ys.length-1)(d:=I0)(by omega))Ze))J hw)fun g_5 _=>Zz(n:=0) [(8,0),(9,0),(10,0),(11,1),(13,1),(14,3)](by kernel_rfl)<|r0' J J J J(stf(Ym J J)K2)<|r0' J J J J(stf(Yg J J J)K2)<|r0' J J J J(stf(Yg J J J)K2)<|r1' J J(Zv(i:=97)J J J Tryz.zeroValue48 J J hw K2)fun b_10 hoff_9=>r1' J J(Zm(i:=97)J J J J J(by decide)J Ql J J⟨Zc J,Zr(i:=83)J Zi,trivial⟩J hw hoff_9)fun _ _=>r3' J J(Zm(i:=99)J J J J J(by decide)J Ql J J⟨Zc J,Zr(i:=84)J Zi,trivial⟩J hw trivial)fun _ _=>Yp<|Yj(by kernel_rfl)<|Qy(_,_)trivial K4⟨by rw [←hcqa];rfl,by rw [←hcqa];rfl,rfl,rfl,rfl,rfl,rfl,rfl,trivial⟩
     ·exact Yq J J(Zv(i:=97)J J J Tryz.zeroValue48 J J hw K2)fun b_11 hoff_10=>Zz(n:=0) [(7,1),(8,0),(9,0),(10,0),(13,1),(14,3)](by kernel_rfl)<|r1' J J(Zh(n:=83)(Fc _ _ _ _(by rw [hcw];have:=hsw(ws.length-1);omega)(by rw [hci2];omega)(by rw [hci2];exact hlead))J J J K2 Zfp(Of 80 J J(Yv(zs:=ws)(i:=ws.length-1)(d:=I0)(by omega))(Of 2 J J(Yv(zs:=ys)(i:=ys.length-1)(d:=I0)(by omega))Ze))J hw)fun g_6 _=>r0' J J J J(stf(Ym J J)K2)<|r0' J J J J(stf(Yg J J J)K2)<|r0' J J J J(stf(Yg J J J)K2)<|r1' J J(Zm(i:=97)J J J J J(by decide)J Ql J J⟨Zc J,Zr(i:=83)J Zi,trivial⟩J hw hoff_10)fun _ _=>r3' J J(Zm(i:=99)J J J J J(by decide)J Ql J J⟨Zc J,Zr(i:=84)J Zi,trivial⟩J hw trivial)fun _ _=>Yp<|Yj(by kernel_rfl)<|Qy(_,_)trivial K4⟨by rw [←hcqa];rfl,by rw [←hcqa];rfl,rfl,rfl,rfl,rfl,rfl,rfl,trivial⟩
   ·rintro⟨qv,b7⟩ -
    simp only [List.cons_append,List.nil_append]
    refine Zb<|Zg<|mv J J<|dt(Ya J J(i:=80)J Zx Nd)J<|mv J J<|dt(Ya J J(i:=2)J Zx Nd)J<|dt(Qb J J J⟨by omega,by omega⟩)J<|tt(Hk(i:=70)(n:=(ws.length-ys.length))(by_:=32)(enc:=Db)I0 J J J J J(by omega)Nd Tryz.ti48 J pI.cells pI.pos J J(by omega)(by decide)J hw)J fun v_2 _=>as_ J J<|Zf<|Za<|Zb<|Zb<|Zg<|as_ J J<|Zf<|Za<|Zl<|Yn(Fq 71(ws.length-ys.length))<|Nt [(1,_),(5,_),(6,_),(7,_)] [(0,_),(83,_),(97,_),(80,_),(1,_),(2,_),(96,_),(3,_)](fun(q:Nat×Value×List(Int×SL))=>[(10,.int .i64(q.1:Int)),(9,q.2.1)])(fun(q:Nat×Value×List(Int×SL))=>[(70,osl 2 48 Db q.2.1 q.2.2),(71,Zb2 qI q.2.2)])(fun(q:Nat×Value×List(Int×SL))=>(q.1≤ys.length)∧(Zs q.2.2=shm(Zs ys)(cf(Zs ws)((Zs ws).length-1)/(cf(Zs ys)((Zs ys).length-1)))((Zs ws).length-(Zs ys).length)q.1)∧(q.2.2.length=((Zs ws).length-(Zs ys).length)+q.1))(fun(q:Nat×Value×List(Int×SL))=>ys.length-q.1)(0,_,List.replicate(ws.length-ys.length)I0)⟨by first | omega | (dsimp only<;>omega),by rw [←Zc4,←hlw,←hli2];simp [Zs],by simp<;>omega⟩K6 K10 ?_
    rintro⟨i,vo,ms⟩⟨hi,hms,hml⟩
    dsimp only at hi hms hml
    simp only [List.cons_append,List.nil_append]
    have hci:=Oz ys i
    refine Zb<|Zb<|Zg<|mv J J<|mv J J<|dt(Ya J J(i:=2)J Zx Nd)J<|dt(Xw J J J)J<|Zf<|Za<|Zp J(fun h214=>?_)(fun h214=>?_)
    ·refine Zk<|Za<|Zb<|Zl<|On [2,97] [9](by kernel_rfl)<|Zz(n:=3) [(0,0),(1,0),(2,0),(3,0),(4,0),(5,0),(6,1)](by kernel_rfl)<|r0' J J J J(stf(Ym J J)K2)<|r0' J J J J(stf(Yb(i:=97)J J J Ka Ql J J)K2)<|r0' J J J J(stf(Ym J J)K2)<|r0' J J J J(stf(Ym J J)K2)<|r0' J J J J(stf(Yw(ii:=2)J J J J Zx Nd Ql J(by first | omega | (simp only [List.length_set];omega)))K2)<|r0' J J J J(stf(Xn(ii:=2)I0 J J J Zx pI(by first | omega | (simp only [List.length_set];omega)))K2)<|r1' J J(Zh(n:=86)(Zaj _ _ _ _(by omega)(by rw [hci];have:=hsy i;omega))J J J K2 Zov(Zd 83 J J J(Of 2 J J(Yv(i:=i)(by omega))Ze))J hw)fun v_3 _=>Yp<|Zko(Om 86 J Zi)(fun sl hsl=>?_)
     subst hsl
     exact Zz(n:=0) [(7,1),(8,1),(9,3)](by kernel_rfl)<|r1' J J(Pr(i:=87)(ivs:=[(0,_)])(enc:=Db) [((cf(Zs ws)((Zs ws).length-1)/(cf(Zs ys)((Zs ys).length-1)))*(ys.getD i I0).1,sl)]J J J K2 Nd Tryz.ti48 J J J J J J pI.cells J J hw)fun v_4 _=>r1' J J(Zd2 70 J J J K2(fun hoffr=>(Bs(xs:=ms)(ys:=[_])(i:=70)(j:=87)(by_:=32)J J J J J J(by decide)J(Yo pI)Nd Tryz.ti48 J pI J J J(by simp;omega)(by decide)J hw hoffr)))fun v_5 _=>r3' J J(Pz(Kc J J)J J)fun _ _=>Yp<|Yj(by kernel_rfl)<|Px<|Za<|Zg<|mv J J<|dt(Ys J J J⟨by omega,by omega⟩)J<|as_ J J<|Zf<|Qv(Ps(q:=qI)(z:=((cf(Zs ws)((Zs ws).length-1)/(cf(Zs ys)((Zs ys).length-1)))*(ys.getD i I0).1,sl))71 86 71 J J J J J)<|Xl(i+1,_,ms ++ [((cf(Zs ws)((Zs ws).length-1)/(cf(Zs ys)((Zs ys).length-1)))*(ys.getD i I0).1,sl)])⟨by first | omega | (dsimp only<;>omega),by rw [Kf,hms,←Zc5];dsimp only;rw [hci],by simp;omega⟩(by first | omega | (dsimp only<;>omega))K6 K10
    ·exact Yu<|Zt<|Zt<|Ov<|Za<|Yn(Pe 70 J J pI)<|Yn(Mj 70 71 72 J J J J)<|Zg<|mv J J<|mv J J<|tt(Zh(n:=4)(Znd _ _ _ _ hsw(by omega)(by rw [hms];exact Zm6(fun t=>by have h8:=Xy(cf(Zs ws)((Zs ws).length-1)/(cf(Zs ys)((Zs ys).length-1)))(cf(Zs ys)t);have h9:=hsy t;have h10:=Zv9(p:=Zs zs)(q:=Zs ys)(R:=Zs ws)hqe(Fn(Zs zs)(Zs ys)_ _)hsy(by omega)(by omega)g3 t;omega))(by omega))J J J K2 cF88(Zd 80 J J J(Zd 72 J J J Ze))J hw)J fun g_7 hg_2=>as_ J J<|Zf<|Px<|Qv(Oa 4 80 J J J)<|Xl((Zs zs).length-(Zs ws).length+1,_,_)⟨by dsimp only;omega,by dsimp only;rw [hg_2,hms,show i=(Zs ys).length by omega];exact hst⟩(by dsimp only;omega)K3 K6
  ·exact Yu<|Zt<|Zt<|Ov<|Za<|Zb<|Zg<|mv J J<|as_ J J<|Zf<|Za<|Zw<|Zy(.inl J)hsc(_,ws)_(fun a w hs=>Qi hs Tryz.results160 J)J(Zk6(R:=Zs ws)(by omega)(by omega)hlead(by omega)hI(by have:=Zu ws;omega))J(Xa 80 J J J Zj)
set_option maxHeartbeats 4000000 in
theorem Zaf(v u:Value)(zs ys:List(Int×SL))(hl:zs.length≤30)(hk:ys.length≤30)(hy0:0<ys.length)(htz:Tr(Zs zs))(ht:Tr(Zs ys))(hF:ys.length≤zs.length→msz(Zs zs)+(zs.length-ys.length+1)*(msz(Zs ys)+1)≤900000):Cal Tryz.prog 55#[v,u] [pp v zs,pp u ys]true(G:=Value×List(Int×SL))(fun r=>pdv(Zs zs)(Zs ys)→Zs r.2=Kl(Zs zs)(Zs ys))(fun r=> .tuple#[r.1,.bool(decide(pdv(Zs zs)(Zs ys)))])(fun r=>[pp r.1 r.2]):=by
 refine Yc Tryz.func55 J Tryz.ntmps55 J K2 ?_
 intro w0 sc hw hsc
 simp only [Zo,Zn]
 have hli:=Zu zs
 have hli2:=Zu ys
 have hlead:(cf(Zs ys)((Zs ys).length-1))≠0:=ht.mem(fun e=>by rw [←hli2,e]at hy0;simp at hy0)
 refine Ma(Gb(i:=1)J Zx)fun hlen=>Ma(Gb(i:=2)J Zx)fun hlen2=>Zb<|Zg<|as_ J J<|as_ J J<|Zf<|Za<|Zb<|Zb<|Zg<|mv J J<|dt(Ya J J(i:=1)J Zx Nd)J<|dt(Pm J J J)J<|Zf<|Za<|Zp J(fun h224=>?_)(fun h224=>?_)
 ·refine Zb<|Zg<|as_ J J<|as_ J J<|Zf<|Za<|Zw<|Xe<|Qv(Fr 62) ?_
  have hzn:Zs zs=[]:=List.eq_nil_of_length_eq_zero(by omega)
  exact Zy(.inl J)hsc(.slice none 0 0,[])_(fun a w hs=>No hs Tryz.results55 J J)(by rw [pdv_nil hzn])(fun _=>by unfold Kl;rw [if_pos hzn];rfl)J(Xa 62 J J J Zj)
 ·have hnz:Zs zs≠[]:=fun e=>by have h7:=congrArg List.length e;simp only [List.length_nil]at h7;omega
  refine Zk<|Za<|Zb<|Zb<|Zg<|mv J J<|dt(Ya J J(i:=1)J Zx Nd)J<|mv J J<|dt(Ya J J(i:=2)J Zx Nd)J<|dt(Xw J J J)J<|Zf<|Za<|Zp J(fun h227=>?_)(fun h227=>?_)
  ·refine Zb<|Zg<|as_ J J<|as_ J J<|Zf<|Za<|Zw<|Xe<|Qv(Fr 62) ?_
   have hno:=pdv_low(p:=Zs zs)(q:=Zs ys)(fun e=>by have h7:=congrArg List.length e;simp only [List.length_nil]at h7;omega)(by omega)
   exact Zy(.inl J)hsc(.slice none 0 0,[])_(fun a w hs=>No hs Tryz.results55 J J)(by rw [hno])(fun h=>absurd h(of_decide_eq_false hno))J(Xa 62 J J J Zj)
  ·have hF2:=hF(by omega)
   have hF3:msz(Zs zs)+((Zs zs).length-(Zs ys).length+1)*(msz(Zs ys)+1)≤900000:=by rw [hli,hli2];exact hF2
   have hcl:=Oz ys(ys.length-1)
   have hci2:(ys.getD(ys.length-1)I0).1=(cf(Zs ys)((Zs ys).length-1)):=by rw [hcl,hli2]
   have hsy:=Oc(Zs ys)
   have hlq:=hsy((Zs ys).length-1)
   have hmy:msz(Zs ys)≤900000:=by have h7:=Nat.mul_le_mul_right(msz(Zs ys)+1)(show 1≤(Zs zs).length-(Zs ys).length+1 by omega);omega
   refine Zk<|Za<|Zb<|Zg<|mv J J<|dt(Ya J J(i:=1)J Zx Nd)J<|mv J J<|dt(Ya J J(i:=2)J Zx Nd)J<|dt(Qb J J J⟨by omega,by omega⟩)J<|dt(Ys J J J⟨by omega,by omega⟩)J<|tt(Hk(i:=60)(n:=(zs.length-ys.length+1))(by_:=32)(enc:=Db)I0 J J J J J(by omega)Nd Tryz.ti48 J pI.cells pI.pos J J(by omega)(by decide)J hw)J fun v _=>as_ J J<|Zf<|Za<|Zb<|Zg<|mv J J<|as_ J J<|Zf<|Za<|Zb<|Zb<|Zg<|mv J J<|dt(Ya J J(i:=60)J(Yo pI)Nd)J<|dt(Qb J J J⟨by simp only [List.length_replicate];omega,by simp only [List.length_replicate];omega⟩)J<|as_ J J<|Zf<|Za<|Zl<|Yn(Fq 61(zs.length-ys.length+1))<|Yn(Oa 1 80 J J J) ?_
   refine Nt [(1,_),(6,_)] [(0,_),(1,_),(2,_)](fun(q:Nat×List(Int×SL)×List(Int×SL)×Value)=>[(7,q.2.2.2),(8,.int .i64((zs.length:Int)-(ys.length:Int)-(q.1:Int)))])(fun(q:Nat×List(Int×SL)×List(Int×SL)×Value)=>[(60,osl 2 48 Db v q.2.1),(61,Zb2 qI q.2.1),(80,pp q.2.2.2 q.2.2.1)])(fun(q:Nat×List(Int×SL)×List(Int×SL)×Value)=>(q.1≤(Zs zs).length-(Zs ys).length+1)∧(∀k,((Zs zs).length-(Zs ys).length)<k+q.1→k≤((Zs zs).length-(Zs ys).length)→Mu(Zs zs)(Zs ys)k)∧(Zs q.2.1=Zj7(Zs zs)(Zs ys)q.1)∧(Zs q.2.2.1=tzl(Qj(Zs zs)(Zs ys)q.1)))(fun(q:Nat×List(Int×SL)×List(Int×SL)×Value)=>(Zs zs).length-(Zs ys).length+1-q.1)(0,List.replicate(zs.length-ys.length+1)I0,zs,_)⟨Nat.zero_le _,fun k h1 h2=>by omega,by rw [←Zj6,hli,hli2];simp [Zs],(Av htz).symm⟩⟨J,by simp only [List.length_replicate];exact congrArg some(Dj(by omega)),rfl,rfl,trivial⟩K6 ?_
   rintro⟨j,os,ws,vr⟩⟨hj,hx,hos,hws⟩
   dsimp only at hj hx hos hws
   simp only [List.cons_append,List.nil_append]
   have hlw:=Zu ws
   have hlo:=Zu os
   have hlo2:=congrArg List.length hos
   rw [Ev]at hlo2
   have hwl:ws.length≤zs.length:=by rw [←hlw,hws];exact Nat.le_trans(Hy _)(by rw [Ic];omega)
   refine Zb<|Zb<|Zg<|mv J J<|dt(Lq J J J)J<|Zf<|Za<|Zp J(fun h232=>?_)(fun h232=>?_)
   ·have hj2:j≤(Zs zs).length-(Zs ys).length:=by omega
    have hcw:cf(Zs ws)(((Zs zs).length-(Zs ys).length-j)+(Zs ys).length-1)=(cf(Qj(Zs zs)(Zs ys)j)(((Zs zs).length-(Zs ys).length-j)+(Zs ys).length-1)):=by rw [hws,Lo]
    have hb1:=div_sz2 hj2 hx hF3
    have hb2:=hb1(((Zs zs).length-(Zs ys).length-j)+(Zs ys).length-1)
    refine Zk<|Za<|Zb<|Zl<|Dc [(1,_),(6,_),(7,_),(8,_)] [(0,_),(60,_),(61,_),(80,_),(1,_),(2,_)](fun(q:Value×Value×Nat×Nat)=>[(9,.pointer(some⟨q.2.2.1,0,none⟩)),(10,.pointer(some⟨q.2.2.2,0,none⟩))])(fun(q:Value×Value×Nat×Nat)=>[(83,d9p q.1((cf(Qj(Zs zs)(Zs ys)j)(((Zs zs).length-(Zs ys).length-j)+(Zs ys).length-1))/(cf(Zs ys)((Zs ys).length-1))).natAbs),(84,d9p q.2.1((cf(Qj(Zs zs)(Zs ys)j)(((Zs zs).length-(Zs ys).length-j)+(Zs ys).length-1))%(cf(Zs ys)((Zs ys).length-1))).natAbs),(97,box q.2.2.1 48#[.bool(decide(((cf(Qj(Zs zs)(Zs ys)j)(((Zs zs).length-(Zs ys).length-j)+(Zs ys).length-1))/(cf(Zs ys)((Zs ys).length-1)))<0)),q.1]),(98,box q.2.2.2 48#[.bool(decide(((cf(Qj(Zs zs)(Zs ys)j)(((Zs zs).length-(Zs ys).length-j)+(Zs ys).length-1))%(cf(Zs ys)((Zs ys).length-1)))<0)),q.2.1])])(fun(q:Value×Value×Nat×Nat)=>True)K4 K6 ?_ ?_
    ·refine On [2] [20](by kernel_rfl)<|Zz(n:=9) [(0,0),(1,0),(2,0),(3,0),(4,0),(5,0),(7,0),(8,0),(9,0),(10,0),(11,0),(12,0)](by kernel_rfl)<|r0' J J J J(stf(Ym J J)K1)<|r0' J J J J(stf(Ym J J)K1)<|r0' J J J J(stf(Ym J J)K1)<|r0' J J J J(stf(Ya J J(i:=2)J Zx Nd)K1)<|r0' J J J J(stf(Ys J J J⟨by omega,by omega⟩)K1)<|r0' J J J J(stf(Qb J J J⟨by omega,by omega⟩)K1)<|r0' J J J J(stf(Ym J J)K1)<|r0' J J J J(stf(Ym J J)K1)<|r0' J J J J(stf(Ya J J(i:=2)J Zx Nd)K1)<|r0' J J J J(stf(Qb J J J⟨by omega,by omega⟩)K1)<|r0' J J J J(stf(Yw(ii:=2)(i:=(ys.length-1))J J J J Zx Nd Ql(by omega)(by omega))K1)<|r0' J J J J(stf(Xn(ii:=2)I0 J J J Zx pI(by omega))K1)<|Yp<|Zbh(n:=8)6 17 18(by kernel_rfl) ?_ ?_ ?_
     ·refine Yq J J(Zh(n:=3)(Zhl _ _ _(((Zs zs).length-(Zs ys).length-j)+(Zs ys).length-1)(by omega)(by omega))J J J K2 Zil(Zd 80 J J J Ze)J hw)fun v_2 _=>Zbh(n:=7)13 17 18(by kernel_rfl) ?_ ?_ ?_
      ·refine Yq J J(Zh(n:=83)(Fc _ _ _ _(by rw [hcw];omega)(by rw [hci2];omega)(by rw [hci2];exact hlead))J J J K2 Zfp(Zd 3 J J J(Of 2 J J(Yv(zs:=ys)(i:=ys.length-1)(d:=I0)(by omega))Ze))J hw)fun g _=>Zz(n:=4) [(14,0),(15,0),(16,0)](by kernel_rfl)<|r0' J J J J(stf(Ym J J)K1)<|r0' J J J J(stf(Yg J J J)K1)<|r0' J J J J(stf(Yg J J J)K1)<|Yp<|Pw(n:=3)17 18(by kernel_rfl) ?_ ?_
       ·exact Yq J J(Zv(i:=97)J J J Tryz.zeroValue48 J J hw K1)fun b hoff=>Zz(n:=0) [(18,1),(19,1),(20,3)](by kernel_rfl)<|r1' J J(Zv(i:=98)J J J Tryz.zeroValue48 J J hw K1)fun b_2 hoff_2=>r1' J J(Zm(i:=97)J J J J J(by decide)J Ql J J⟨Zc J,Zr(i:=83)J Zi,trivial⟩J hw hoff)fun _ _=>r3' J J(Zm(i:=98)J J J J J(by decide)J Ql J J⟨Zc J,Zr(i:=84)J Zi,trivial⟩J hw trivial)fun _ _=>Yp<|Yj(by kernel_rfl)<|Qy(_,_,_,_)trivial K6⟨by rw [←hcw,←hci2];rfl,by rw [←hcw,←hci2];rfl,by rw [←hcw,←hci2];rfl,by rw [←hcw,←hci2];rfl,rfl,rfl,rfl,rfl,rfl,rfl,trivial⟩
       ·exact Yq J J(Zv(i:=98)J J J Tryz.zeroValue48 J J hw K1)fun b_3 hoff_3=>Zz(n:=0) [(17,1),(19,1),(20,3)](by kernel_rfl)<|r1' J J(Zv(i:=97)J J J Tryz.zeroValue48 J J hw K1)fun b_4 hoff_4=>r1' J J(Zm(i:=97)J J J J J(by decide)J Ql J J⟨Zc J,Zr(i:=83)J Zi,trivial⟩J hw hoff_4)fun _ _=>r3' J J(Zm(i:=98)J J J J J(by decide)J Ql J J⟨Zc J,Zr(i:=84)J Zi,trivial⟩J hw trivial)fun _ _=>Yp<|Yj(by kernel_rfl)<|Qy(_,_,_,_)trivial K6⟨by rw [←hcw,←hci2];rfl,by rw [←hcw,←hci2];rfl,by rw [←hcw,←hci2];rfl,by rw [←hcw,←hci2];rfl,rfl,rfl,rfl,rfl,rfl,rfl,trivial⟩
      ·refine Yq J J(Zv(i:=97)J J J Tryz.zeroValue48 J J hw K1)fun b_5 hoff_5=>Pw(n:=6)13 18(by kernel_rfl) ?_ ?_
       ·exact Yq J J(Zh(n:=83)(Fc _ _ _ _(by rw [hcw];omega)(by rw [hci2];omega)(by rw [hci2];exact hlead))J J J K2 Zfp(Zd 3 J J J(Of 2 J J(Yv(zs:=ys)(i:=ys.length-1)(d:=I0)(by omega))Ze))J hw)fun g_2 _=>Zz(n:=0) [(14,0),(15,0),(16,0),(18,1),(19,1),(20,3)](by kernel_rfl)<|r0' J J J J(stf(Ym J J)K1)<|r0' J J J J(stf(Yg J J J)K1)<|r0' J J J J(stf(Yg J J J)K1)<|r1' J J(Zv(i:=98)J J J Tryz.zeroValue48 J J hw K1)fun b_6 hoff_6=>r1' J J(Zm(i:=97)J J J J J(by decide)J Ql J J⟨Zc J,Zr(i:=83)J Zi,trivial⟩J hw hoff_5)fun _ _=>r3' J J(Zm(i:=98)J J J J J(by decide)J Ql J J⟨Zc J,Zr(i:=84)J Zi,trivial⟩J hw trivial)fun _ _=>Yp<|Yj(by kernel_rfl)<|Qy(_,_,_,_)trivial K6⟨by rw [←hcw,←hci2];rfl,by rw [←hcw,←hci2];rfl,by rw [←hcw,←hci2];rfl,by rw [←hcw,←hci2];rfl,rfl,rfl,rfl,rfl,rfl,rfl,trivial⟩
       ·exact Yq J J(Zv(i:=98)J J J Tryz.zeroValue48 J J hw K1)fun b_7 hoff_7=>Zz(n:=0) [(13,1),(14,0),(15,0),(16,0),(19,1),(20,3)](by kernel_rfl)<|r1' J J(Zh(n:=83)(Fc _ _ _ _(by rw [hcw];omega)(by rw [hci2];omega)(by rw [hci2];exact hlead))J J J K2 Zfp(Zd 3 J J J(Of 2 J J(Yv(zs:=ys)(i:=ys.length-1)(d:=I0)(by omega))Ze))J hw)fun g_3 _=>r0' J J J J(stf(Ym J J)K1)<|r0' J J J J(stf(Yg J J J)K1)<|r0' J J J J(stf(Yg J J J)K1)<|r1' J J(Zm(i:=97)J J J J J(by decide)J Ql J J⟨Zc J,Zr(i:=83)J Zi,trivial⟩J hw hoff_5)fun _ _=>r3' J J(Zm(i:=98)J J J J J(by decide)J Ql J J⟨Zc J,Zr(i:=84)J Zi,trivial⟩J hw trivial)fun _ _=>Yp<|Yj(by kernel_rfl)<|Qy(_,_,_,_)trivial K6⟨by rw [←hcw,←hci2];rfl,by rw [←hcw,←hci2];rfl,by rw [←hcw,←hci2];rfl,by rw [←hcw,←hci2];rfl,rfl,rfl,rfl,rfl,rfl,rfl,trivial⟩
      ·refine Yq J J(Zv(i:=98)J J J Tryz.zeroValue48 J J hw K1)fun b_8 hoff_8=>Pw(n:=6)13 17(by kernel_rfl) ?_ ?_
       ·exact Yq J J(Zh(n:=83)(Fc _ _ _ _(by rw [hcw];omega)(by rw [hci2];omega)(by rw [hci2];exact hlead))J J J K2 Zfp(Zd 3 J J J(Of 2 J J(Yv(zs:=ys)(i:=ys.length-1)(d:=I0)(by omega))Ze))J hw)fun g_4 _=>Zz(n:=0) [(14,0),(15,0),(16,0),(17,1),(19,1),(20,3)](by kernel_rfl)<|r0' J J J J(stf(Ym J J)K1)<|r0' J J J J(stf(Yg J J J)K1)<|r0' J J J J(stf(Yg J J J)K1)<|r1' J J(Zv(i:=97)J J J Tryz.zeroValue48 J J hw K1)fun b_9 hoff_9=>r1' J J(Zm(i:=97)J J J J J(by decide)J Ql J J⟨Zc J,Zr(i:=83)J Zi,trivial⟩J hw hoff_9)fun _ _=>r3' J J(Zm(i:=98)J J J J J(by decide)J Ql J J⟨Zc J,Zr(i:=84)J Zi,trivial⟩J hw trivial)fun _ _=>Yp<|Yj(by kernel_rfl)<|Qy(_,_,_,_)trivial K6⟨by rw [←hcw,←hci2];rfl,by rw [←hcw,←hci2];rfl,by rw [←hcw,←hci2];rfl,by rw [←hcw,←hci2];rfl,rfl,rfl,rfl,rfl,rfl,rfl,trivial⟩
       ·exact Yq J J(Zv(i:=97)J J J Tryz.zeroValue48 J J hw K1)fun b_10 hoff_10=>Zz(n:=0) [(13,1),(14,0),(15,0),(16,0),(19,1),(20,3)](by kernel_rfl)<|r1' J J(Zh(n:=83)(Fc _ _ _ _(by rw [hcw];omega)(by rw [hci2];omega)(by rw [hci2];exact hlead))J J J K2 Zfp(Zd 3 J J J(Of 2 J J(Yv(zs:=ys)(i:=ys.length-1)(d:=I0)(by omega))Ze))J hw)fun g_5 _=>r0' J J J J(stf(Ym J J)K1)<|r0' J J J J(stf(Yg J J J)K1)<|r0' J J J J(stf(Yg J J J)K1)<|r1' J J(Zm(i:=97)J J J J J(by decide)J Ql J J⟨Zc J,Zr(i:=83)J Zi,trivial⟩J hw hoff_10)fun _ _=>r3' J J(Zm(i:=98)J J J J J(by decide)J Ql J J⟨Zc J,Zr(i:=84)J Zi,trivial⟩J hw trivial)fun _ _=>Yp<|Yj(by kernel_rfl)<|Qy(_,_,_,_)trivial K6⟨by rw [←hcw,←hci2];rfl,by rw [←hcw,←hci2];rfl,by rw [←hcw,←hci2];rfl,by rw [←hcw,←hci2];rfl,rfl,rfl,rfl,rfl,rfl,rfl,trivial⟩
     ·refine Yq J J(Zv(i:=97)J J J Tryz.zeroValue48 J J hw K1)fun b_11 hoff_11=>Pw(n:=7)6 18(by kernel_rfl) ?_ ?_
      ·refine Yq J J(Zh(n:=4)(Zhl _ _ _(((Zs zs).length-(Zs ys).length-j)+(Zs ys).length-1)(by omega)(by omega))J J J K2 Zil(Zd 80 J J J Ze)J hw)fun v_3 _=>Pw(n:=6)13 18(by kernel_rfl) ?_ ?_
       ·exact Yq J J(Zh(n:=83)(Fc _ _ _ _(by rw [hcw];omega)(by rw [hci2];omega)(by rw [hci2];exact hlead))J J J K2 Zfp(Zd 4 J J J(Of 2 J J(Yv(zs:=ys)(i:=ys.length-1)(d:=I0)(by omega))Ze))J hw)fun g_6 _=>Zz(n:=0) [(14,0),(15,0),(16,0),(18,1),(19,1),(20,3)](by kernel_rfl)<|r0' J J J J(stf(Ym J J)K1)<|r0' J J J J(stf(Yg J J J)K1)<|r0' J J J J(stf(Yg J J J)K1)<|r1' J J(Zv(i:=98)J J J Tryz.zeroValue48 J J hw K1)fun b_12 hoff_12=>r1' J J(Zm(i:=97)J J J J J(by decide)J Ql J J⟨Zc J,Zr(i:=83)J Zi,trivial⟩J hw hoff_11)fun _ _=>r3' J J(Zm(i:=98)J J J J J(by decide)J Ql J J⟨Zc J,Zr(i:=84)J Zi,trivial⟩J hw trivial)fun _ _=>Yp<|Yj(by kernel_rfl)<|Qy(_,_,_,_)trivial K6⟨by rw [←hcw,←hci2];rfl,by rw [←hcw,←hci2];rfl,by rw [←hcw,←hci2];rfl,by rw [←hcw,←hci2];rfl,rfl,rfl,rfl,rfl,rfl,rfl,trivial⟩
       ·exact Yq J J(Zv(i:=98)J J J Tryz.zeroValue48 J J hw K1)fun b_13 hoff_13=>Zz(n:=0) [(13,1),(14,0),(15,0),(16,0),(19,1),(20,3)](by kernel_rfl)<|r1' J J(Zh(n:=83)(Fc _ _ _ _(by rw [hcw];omega)(by rw [hci2];omega)(by rw [hci2];exact hlead))J J J K2 Zfp(Zd 4 J J J(Of 2 J J(Yv(zs:=ys)(i:=ys.length-1)(d:=I0)(by omega))Ze))J hw)fun g_7 _=>r0' J J J J(stf(Ym J J)K1)<|r0' J J J J(stf(Yg J J J)K1)<|r0' J J J J(stf(Yg J J J)K1)<|r1' J J(Zm(i:=97)J J J J J(by decide)J Ql J J⟨Zc J,Zr(i:=83)J Zi,trivial⟩J hw hoff_11)fun _ _=>r3' J J(Zm(i:=98)J J J J J(by decide)J Ql J J⟨Zc J,Zr(i:=84)J Zi,trivial⟩J hw trivial)fun _ _=>Yp<|Yj(by kernel_rfl)<|Qy(_,_,_,_)trivial K6⟨by rw [←hcw,←hci2];rfl,by rw [←hcw,←hci2];rfl,by rw [←hcw,←hci2];rfl,by rw [←hcw,←hci2];rfl,rfl,rfl,rfl,rfl,rfl,rfl,trivial⟩
      ·exact Yq J J(Zv(i:=98)J J J Tryz.zeroValue48 J J hw K1)fun b_14 hoff_14=>Zz(n:=0) [(6,1),(13,1),(14,0),(15,0),(16,0),(19,1),(20,3)](by kernel_rfl)<|r1' J J(Zh(n:=5)(Zhl _ _ _(((Zs zs).length-(Zs ys).length-j)+(Zs ys).length-1)(by omega)(by omega))J J J K2 Zil(Zd 80 J J J Ze)J hw)fun v_4 _=>r1' J J(Zh(n:=83)(Fc _ _ _ _(by rw [hcw];omega)(by rw [hci2];omega)(by rw [hci2];exact hlead))J J J K2 Zfp(Zd 5 J J J(Of 2 J J(Yv(zs:=ys)(i:=ys.length-1)(d:=I0)(by omega))Ze))J hw)fun g_8 _=>r0' J J J J(stf(Ym J J)K1)<|r0' J J J J(stf(Yg J J J)K1)<|r0' J J J J(stf(Yg J J J)K1)<|r1' J J(Zm(i:=97)J J J J J(by decide)J Ql J J⟨Zc J,Zr(i:=83)J Zi,trivial⟩J hw hoff_11)fun _ _=>r3' J J(Zm(i:=98)J J J J J(by decide)J Ql J J⟨Zc J,Zr(i:=84)J Zi,trivial⟩J hw trivial)fun _ _=>Yp<|Yj(by kernel_rfl)<|Qy(_,_,_,_)trivial K6⟨by rw [←hcw,←hci2];rfl,by rw [←hcw,←hci2];rfl,by rw [←hcw,←hci2];rfl,by rw [←hcw,←hci2];rfl,rfl,rfl,rfl,rfl,rfl,rfl,trivial⟩
     ·refine Yq J J(Zv(i:=98)J J J Tryz.zeroValue48 J J hw K1)fun b_15 hoff_15=>Pw(n:=7)6 17(by kernel_rfl) ?_ ?_
      ·refine Yq J J(Zh(n:=6)(Zhl _ _ _(((Zs zs).length-(Zs ys).length-j)+(Zs ys).length-1)(by omega)(by omega))J J J K2 Zil(Zd 80 J J J Ze)J hw)fun v_5 _=>Pw(n:=6)13 17(by kernel_rfl) ?_ ?_
       ·exact Yq J J(Zh(n:=83)(Fc _ _ _ _(by rw [hcw];omega)(by rw [hci2];omega)(by rw [hci2];exact hlead))J J J K2 Zfp(Zd 6 J J J(Of 2 J J(Yv(zs:=ys)(i:=ys.length-1)(d:=I0)(by omega))Ze))J hw)fun g_9 _=>Zz(n:=0) [(14,0),(15,0),(16,0),(17,1),(19,1),(20,3)](by kernel_rfl)<|r0' J J J J(stf(Ym J J)K1)<|r0' J J J J(stf(Yg J J J)K1)<|r0' J J J J(stf(Yg J J J)K1)<|r1' J J(Zv(i:=97)J J J Tryz.zeroValue48 J J hw K1)fun b_16 hoff_16=>r1' J J(Zm(i:=97)J J J J J(by decide)J Ql J J⟨Zc J,Zr(i:=83)J Zi,trivial⟩J hw hoff_16)fun _ _=>r3' J J(Zm(i:=98)J J J J J(by decide)J Ql J J⟨Zc J,Zr(i:=84)J Zi,trivial⟩J hw trivial)fun _ _=>Yp<|Yj(by kernel_rfl)<|Qy(_,_,_,_)trivial K6⟨by rw [←hcw,←hci2];rfl,by rw [←hcw,←hci2];rfl,by rw [←hcw,←hci2];rfl,by rw [←hcw,←hci2];rfl,rfl,rfl,rfl,rfl,rfl,rfl,trivial⟩
       ·exact Yq J J(Zv(i:=97)J J J Tryz.zeroValue48 J J hw K1)fun b_17 hoff_17=>Zz(n:=0) [(13,1),(14,0),(15,0),(16,0),(19,1),(20,3)](by kernel_rfl)<|r1' J J(Zh(n:=83)(Fc _ _ _ _(by rw [hcw];omega)(by rw [hci2];omega)(by rw [hci2];exact hlead))J J J K2 Zfp(Zd 6 J J J(Of 2 J J(Yv(zs:=ys)(i:=ys.length-1)(d:=I0)(by omega))Ze))J hw)fun g_10 _=>r0' J J J J(stf(Ym J J)K1)<|r0' J J J J(stf(Yg J J J)K1)<|r0' J J J J(stf(Yg J J J)K1)<|r1' J J(Zm(i:=97)J J J J J(by decide)J Ql J J⟨Zc J,Zr(i:=83)J Zi,trivial⟩J hw hoff_17)fun _ _=>r3' J J(Zm(i:=98)J J J J J(by decide)J Ql J J⟨Zc J,Zr(i:=84)J Zi,trivial⟩J hw trivial)fun _ _=>Yp<|Yj(by kernel_rfl)<|Qy(_,_,_,_)trivial K6⟨by rw [←hcw,←hci2];rfl,by rw [←hcw,←hci2];rfl,by rw [←hcw,←hci2];rfl,by rw [←hcw,←hci2];rfl,rfl,rfl,rfl,rfl,rfl,rfl,trivial⟩
      ·exact Yq J J(Zv(i:=97)J J J Tryz.zeroValue48 J J hw K1)fun b_18 hoff_18=>Zz(n:=0) [(6,1),(13,1),(14,0),(15,0),(16,0),(19,1),(20,3)](by kernel_rfl)<|r1' J J(Zh(n:=7)(Zhl _ _ _(((Zs zs).length-(Zs ys).length-j)+(Zs ys).length-1)(by omega)(by omega))J J J K2 Zil(Zd 80 J J J Ze)J hw)fun v_6 _=>r1' J J(Zh(n:=83)(Fc _ _ _ _(by rw [hcw];omega)(by rw [hci2];omega)(by rw [hci2];exact hlead))J J J K2 Zfp(Zd 7 J J J(Of 2 J J(Yv(zs:=ys)(i:=ys.length-1)(d:=I0)(by omega))Ze))J hw)fun g_11 _=>r0' J J J J(stf(Ym J J)K1)<|r0' J J J J(stf(Yg J J J)K1)<|r0' J J J J(stf(Yg J J J)K1)<|r1' J J(Zm(i:=97)J J J J J(by decide)J Ql J J⟨Zc J,Zr(i:=83)J Zi,trivial⟩J hw hoff_18)fun _ _=>r3' J J(Zm(i:=98)J J J J J(by decide)J Ql J J⟨Zc J,Zr(i:=84)J Zi,trivial⟩J hw trivial)fun _ _=>Yp<|Yj(by kernel_rfl)<|Qy(_,_,_,_)trivial K6⟨by rw [←hcw,←hci2];rfl,by rw [←hcw,←hci2];rfl,by rw [←hcw,←hci2];rfl,by rw [←hcw,←hci2];rfl,rfl,rfl,rfl,rfl,rfl,rfl,trivial⟩
    ·rintro⟨qv,rv,b7,b8⟩ -
     simp only [List.cons_append,List.nil_append]
     refine Zb<|Zb<|Zg<|dt(Yb(i:=98)J J J Ka Ql J J)J<|tt(Zh(n:=7)(Zah _ _(by have:=Zmn(cf(Qj(Zs zs)(Zs ys)j)(((Zs zs).length-(Zs ys).length-j)+(Zs ys).length-1))(cf(Zs ys)((Zs ys).length-1))hlead;omega))J J J K1 Zx1(Zd 84 J J J Ze)J hw)J fun _ _=>dt(Qe J J J)J<|Zf<|Za<|Zp J(fun h234=>?_)(fun h234=>?_)
     ·have hne:¬Mu(Zs zs)(Zs ys)((Zs zs).length-(Zs ys).length-j):=fun he=>h234(by rw [(Zdj hj2).1 he];rfl)
      refine Zb<|Zg<|as_ J J<|as_ J J<|Zf<|Za<|Zw<|Xe<|Hb<|Xe<|Xe<|Hb<|Xe<|Qv(Fr 62) ?_
      have hno:=pdv_no(p:=Zs zs)(q:=Zs ys)hnz(by omega)hne
      exact Zy(.inl J)hsc(.slice none 0 0,[])_(fun a w hs=>No hs Tryz.results55 J J)(by rw [hno])(fun h=>absurd h(of_decide_eq_false hno))J(Xa 62 J J J Zj)
     ·have hr0:((cf(Qj(Zs zs)(Zs ys)j)(((Zs zs).length-(Zs ys).length-j)+(Zs ys).length-1))%(cf(Zs ys)((Zs ys).length-1)))=0:=Int.sign_eq_zero_iff_zero.1(Decidable.byContradiction h234)
      have hde:Mu(Zs zs)(Zs ys)((Zs zs).length-(Zs ys).length-j):=(Zdj hj2).2 hr0
      have hcb:=fun t=>Nat.le_trans(div_c hlead hr0(Nat.le_refl _)t)hb2
      have hcc:=Ix(Int.dvd_of_emod_eq_zero hr0)(Nat.le_trans(Nat.le_add_right _ _)hb2)
      refine Zk<|Za<|Zb<|e_ex(Om 83 J Zi)(fun sl hsl=>?_)
      subst hsl
      refine Zg<|mv J J<|mv J J<|dt(Yb(i:=97)J J J Ka Ql J J)J<|dt(Yw(ii:=60)(i:=((Zs zs).length-(Zs ys).length-j))J J J J(Yo pI)Nd Ql(by omega)(by omega))J<|tt(Ky(i:=60)(enc:=Db)(((cf(Qj(Zs zs)(Zs ys)j)(((Zs zs).length-(Zs ys).length-j)+(Zs ys).length-1))/(cf(Zs ys)((Zs ys).length-1))),sl)J J J J J J(by decide)pI(by omega)J hw)J fun _ _=>Zf<|Za<|Zb<|Yn(Ps(q:=qI)(z:=(((cf(Qj(Zs zs)(Zs ys)j)(((Zs zs).length-(Zs ys).length-j)+(Zs ys).length-1))/(cf(Zs ys)((Zs ys).length-1))),sl))61 83 62 J J J J J)<|Yn(Zpd(ys:=os.set((Zs zs).length-(Zs ys).length-j)(((cf(Qj(Zs zs)(Zs ys)j)(((Zs zs).length-(Zs ys).length-j)+(Zs ys).length-1))/(cf(Zs ys)((Zs ys).length-1))),sl))62 61 J J(fun y hy=>by rcases List.mem_or_eq_of_mem_set hy with h | h;exact List.mem_append_left _ h;rw [h];exact List.mem_append_right _(List.mem_singleton.2 rfl)))<|Zg<|mv J J<|tt(Hk(i:=70)(n:=((Zs zs).length-(Zs ys).length-j))(by_:=32)(enc:=Db)I0 J J J J J(by omega)Nd Tryz.ti48 J pI.cells pI.pos J J(by omega)(by decide)J hw)J fun v_7 _=>as_ J J<|Zf<|Za<|Zb<|Zb<|Zg<|as_ J J<|Zf<|Za<|Zl ?_
      refine Yn(Fq 71((Zs zs).length-(Zs ys).length-j))<|Nt [(1,_),(6,_),(7,_),(8,_),(9,_)] [(0,_),(83,_),(84,_),(97,_),(98,_),(60,_),(61,_),(80,_),(1,_),(2,_)](fun(q:Nat×Value×List(Int×SL))=>[(12,.int .i64(q.1:Int)),(11,q.2.1)])(fun(q:Nat×Value×List(Int×SL))=>[(70,osl 2 48 Db q.2.1 q.2.2),(71,Zb2 qI q.2.2)])(fun(q:Nat×Value×List(Int×SL))=>(q.1≤ys.length)∧(Zs q.2.2=shm(Zs ys)((cf(Qj(Zs zs)(Zs ys)j)(((Zs zs).length-(Zs ys).length-j)+(Zs ys).length-1))/(cf(Zs ys)((Zs ys).length-1)))((Zs zs).length-(Zs ys).length-j)q.1)∧(q.2.2.length=((Zs zs).length-(Zs ys).length-j)+q.1))(fun(q:Nat×Value×List(Int×SL))=>ys.length-q.1)(0,_,List.replicate((Zs zs).length-(Zs ys).length-j)I0)⟨by first | omega | (dsimp only<;>omega),by rw [←Zc4];simp [Zs],by simp⟩K7 K12 ?_
      rintro⟨i,vo,ms⟩⟨hi,hms,hml⟩
      dsimp only at hi hms hml
      simp only [List.cons_append,List.nil_append]
      have hci:=Oz ys i
      refine Zb<|Zb<|Zg<|mv J J<|mv J J<|dt(Ya J J(i:=2)J Zx Nd)J<|dt(Xw J J J)J<|Zf<|Za<|Zp J(fun h239=>?_)(fun h239=>?_)
      ·refine Zk<|Za<|Zb<|Zl<|On [2,97] [9](by kernel_rfl)<|Zz(n:=3) [(0,0),(1,0),(2,0),(3,0),(4,0),(5,0),(6,1)](by kernel_rfl)<|r0' J J J J(stf(Ym J J)K2)<|r0' J J J J(stf(Yb(i:=97)J J J Ka Ql J J)K2)<|r0' J J J J(stf(Ym J J)K2)<|r0' J J J J(stf(Ym J J)K2)<|r0' J J J J(stf(Yw(ii:=2)J J J J Zx Nd Ql J(by first | omega | (simp only [List.length_set];omega)))K2)<|r0' J J J J(stf(Xn(ii:=2)I0 J J J Zx pI(by first | omega | (simp only [List.length_set];omega)))K2)<|r1' J J(Zh(n:=86)(Zaj _ _ _ _(by omega)(by rw [hci];have:=hsy i;omega))J J J K2 Zov(Zd 83 J J J(Of 2 J J(Yv(i:=i)(by omega))Ze))J hw)fun v_8 _=>Yp<|Zko(Om 86 J Zi)(fun sl_2 hsl=>?_)
       subst hsl
       refine Zz(n:=0) [(7,1),(8,1),(9,3)](by kernel_rfl)<|r1' J J(Pr(i:=87)(ivs:=[(0,_)])(enc:=Db) [(((cf(Qj(Zs zs)(Zs ys)j)(((Zs zs).length-(Zs ys).length-j)+(Zs ys).length-1))/(cf(Zs ys)((Zs ys).length-1)))*(ys.getD i I0).1,sl_2)]J J J K2 Nd Tryz.ti48 J J J J J J pI.cells J J hw)fun v_9 _=>r1' J J(Zd2 70 J J J K2(fun hoffr=>(Bs(xs:=ms)(ys:=[_])(i:=70)(j:=87)(by_:=32)J J J J J J(by decide)J(Yo pI)Nd Tryz.ti48 J pI J J J(by simp;omega)(by decide)J hw hoffr)))fun v_10 _=>r3' J J(Pz(Kc J J)J J)fun _ _=>Yp<|Yj(by kernel_rfl)<|Px<|Za<|Zg<|mv J J<|dt(Ys J J J⟨by omega,by omega⟩)J<|as_ J J<|Zf<|Qv(Ps(q:=qI)(z:=(((cf(Qj(Zs zs)(Zs ys)j)(((Zs zs).length-(Zs ys).length-j)+(Zs ys).length-1))/(cf(Zs ys)((Zs ys).length-1)))*(ys.getD i I0).1,sl_2))71 86 71 J J J J J) ?_
       exact Xl(i+1,_,ms ++ [(((cf(Qj(Zs zs)(Zs ys)j)(((Zs zs).length-(Zs ys).length-j)+(Zs ys).length-1))/(cf(Zs ys)((Zs ys).length-1)))*(ys.getD i I0).1,sl_2)])⟨by first | omega | (dsimp only<;>omega),by rw [Kf,hms,←Zc5];dsimp only;rw [hci],by simp;omega⟩(by first | omega | (dsimp only<;>omega))K7 K12
      ·refine Yu<|Zt<|Zt<|Ov<|Za<|Yn(Pe 70 J J pI)<|Yn(Mj 70 71 72 J J J J)<|Zg<|mv J J<|mv J J<|tt(Zh(n:=8)(Zbt _ _(by rw [hms];exact Zm6 fun t=>by have:=hcb t;omega))J J J K1 cF89(Zd 72 J J J Ze)J hw)J fun g_12 hg=>tt(Zh(n:=9)(Znd _ _ _ _(by rw [hws];exact Sz.tzl fun t=>by have:=hb1 t;omega)(by omega)(by rw [hg,hms];exact Sz.tzl(Zm6 fun t=>by have:=hcb t;omega))(by have h7:=congrArg List.length hg;have h8:=Hy(Zs ms);have h9:=Zu ms;have h10:=Zu g_12.2;omega))J J J K2 cF88(Zd 80 J J J(Zd 8 J J J Ze))J hw)J fun g_13 hg_2=>as_ J J<|Zf<|Px<|Za<|Zg<|mv J J<|dt(Qb J J J⟨by omega,by omega⟩)J<|as_ J J<|Zf ?_
       obtain rfl:i=(Zs ys).length:=by omega
       exact Qv(Oa 9 80 J J J)<|Xl(j+1,os.set((Zs zs).length-(Zs ys).length-j)(((cf(Qj(Zs zs)(Zs ys)j)(((Zs zs).length-(Zs ys).length-j)+(Zs ys).length-1))/(cf(Zs ys)((Zs ys).length-1))),sl),_,_)⟨by dsimp only;omega,fun k h1 h2=>by dsimp only at h1 h2;rcases Nat.lt_or_ge((Zs zs).length-(Zs ys).length)(k+j)with h3 | h3;(exact hx k h3 h2);(rw [show k=((Zs zs).length-(Zs ys).length-j)by omega];exact hde),by dsimp only;rw [Zxd,hos];exact Ztr(by omega),by dsimp only;rw [hg_2,hg,hws,hms];exact Zxp(by omega)hj2⟩(by first | omega | (dsimp only<;>omega))⟨J,by dsimp only;rw [show(zs.length:Int)-(ys.length:Int)-((j+1:Nat):Int)=(zs.length:Int)-(ys.length:Int)-(j:Int)-1 by omega];rfl,rfl,rfl,trivial⟩K6
   ·refine Yu<|Zt<|Zt<|Ov<|Za<|Zb ?_
    have hall:∀k,k≤(Zs zs).length-(Zs ys).length→Mu(Zs zs)(Zs ys)k:=fun k hk=>hx k(by omega)hk
    exact Yn(Pe 60 J J pI)<|Yn(Mj 60 61 72 J J J J)<|Zg<|mv J J<|tt(Zh(n:=10)(Zbt _ _(by rw [hos];exact(dout_sz hF3 hall _).mono(by omega)))J J J K1 cF89(Zd 72 J J J Ze)J hw)J fun g_14 hg_3=>mv J J<|dt(Ya J J(i:=80)J Zx Nd)J<|dt(Pm J J J)J<|as_ J J<|as_ J J<|Zf<|Za<|Zw<|Zy(.inl J)hsc _ _(fun a w hs=>No hs Tryz.results55 J J)(by rw [←pdv_end hnz(by omega)hall(show ws.length=_ by rw [←hlw,hws,show j=(Zs zs).length-(Zs ys).length+1 by omega]),show decide((ws.length:Int)=0)=decide(ws.length=0)from decide_eq_decide.2(by omega)]<;>rfl)(fun _=>by rw [hg_3,hos,show j=(Zs zs).length-(Zs ys).length+1 by omega,Za3,Zht hnz])J(Xa 10 J J J Zj)
set_option maxHeartbeats 4000000 in
theorem rp_gcd(v u:Value)(zs ys:List(Int×SL))(F:Nat)(hv:Vp(Zs zs))(hu:Vp(Zs ys))(hok:eok F(Zs zs)(Zs ys)):Cal Tryz.prog 114#[v,u] [pp v zs,pp u ys]true(G:=Value×List(Int×SL))(fun r=>Zs r.2=Kg(Yx(eu F(Zs zs)(Zs ys))))(fun r=>r.1)(fun r=>[pp r.1 r.2]):=by
 refine Yc Tryz.func114 J Tryz.ntmps114 J K2 ?_
 intro w0 sc hw hsc
 simp only [Zo,Zn]
 refine Zb<|Zg<|as_ J J<|Zf<|Za<|Zb<|Zg<|mv J J<|mv J J<|as_ J J<|as_ J J<|Zf<|Za<|Zb<|Zl<|Yn(Oa 1 80 J J J)<|Yn(Oa 2 81 J J J)<|Nt [] [(0,_),(1,_),(2,_)](fun(q:Value×Value×List(Int×SL)×List(Int×SL)×Nat)=>[(5,q.1),(6,q.2.1)])(fun(q:Value×Value×List(Int×SL)×List(Int×SL)×Nat)=>[(80,pp q.1 q.2.2.1),(81,pp q.2.1 q.2.2.2.1)])(fun(q:Value×Value×List(Int×SL)×List(Int×SL)×Nat)=>(Vp(Zs q.2.2.1))∧(Vp(Zs q.2.2.2.1))∧(eok q.2.2.2.2(Zs q.2.2.1)(Zs q.2.2.2.1))∧(eu q.2.2.2.2(Zs q.2.2.1)(Zs q.2.2.2.1)=eu F(Zs zs)(Zs ys)))(fun(q:Value×Value×List(Int×SL)×List(Int×SL)×Nat)=>q.2.2.2.2)(_,_,zs,ys,F)⟨hv,hu,hok,J⟩K2 K5 ?_
 rintro⟨va,vb,aa,bb,f⟩⟨hva,hvb,hok0,heu⟩
 dsimp only at hva hvb hok0 heu
 simp only [List.cons_append,List.nil_append]
 have hla:=Zu aa
 have hlb:=Zu bb
 have hna:=hva.len
 have hnb:=hvb.len
 refine Zb<|Zb<|Zg<|mv J J<|dt(Ya J J(i:=81)J Zx Nd)J<|dt(Ot J J J)J<|Zf<|Za<|Zp J(fun h250=>?_)(fun h250=>?_)
 ·have hbn:Zs bb≠[]:=fun e=>by have h7:=congrArg List.length e;simp only [List.length_nil]at h7;omega
  obtain⟨f1,rfl,hde,hok1,heu1⟩:=Zod hok0 hbn
  have hdo:=(Ah hde).2
  have hvp:=Cm hva hde
  exact Zk<|Za<|Zl<|Zg<|mv J J<|mv J J<|mv J J<|tt(Zh(n:=3)(rp_rest _ _ _ _(by omega)(by omega)(by omega)hvb.tr(fun h=>by have h7:=hdo(by omega);rw [hla,hlb]at h7;omega))J J J K2 cF160(Zd 80 J J J(Zd 81 J J J Ze))J hw)J fun g hg=>tt(Zh(n:=4)(Ks _ _(by rw [hg];exact hvp.sz.mono(by omega))(by have h7:=congrArg List.length hg;have h8:=hvp.len;have h9:=Zu g.2;omega)(fun h=>by rw [hg];exact hvp.ne(fun e=>by have h7:=congrArg List.length hg;rw [e,Zu]at h7;exact h h7)))J J J K1 cF57(Zd 3 J J J Ze)J hw)J fun g_2 hg_2=>as_ J J<|as_ J J<|Zf<|Px<|Qv(Oa 81 80 J J J)<|Qv(Oa 4 81 J J J)<|Xl(_,_,bb,g_2.2,f1)⟨hvb,by dsimp only;rw [hg_2,hg];exact Lm hvp,by dsimp only;rw [hg_2,hg];exact hok1,by dsimp only;rw [hg_2,hg,←heu1];exact heu⟩(Nat.lt_succ_self f1)K2 K5
 ·have hbn:Zs bb=[]:=List.eq_nil_of_length_eq_zero(by omega)
  rw [hbn,Eb]at heu
  have hpb:=Ha hva.sz
  have hpl:=Yi(Zs aa)
  refine Yu<|Zt<|Zt<|Ov<|Za<|Zb<|Zg<|mv J J<|tt(Zh(n:=5)(Ks _ _(hva.sz.mono(by omega))(by omega)(fun h=>hva.ne(fun e=>by have h7:=congrArg List.length e;simp only [List.length_nil]at h7;omega)))J J J K1 cF57(Zd 80 J J J Ze)J hw)J fun g_3 hg_3=>as_ J J<|Zf<|Za<|Zb<|Zb ?_
  have hpz:g_3.2.length=aa.length:=by rw [←Zu g_3.2,hg_3,hpl];exact hla
  refine Zg<|mv J J<|dt(Ya J J(i:=5)J Zx Nd)J<|dt(Ot J J J)J<|mv J J<|Pa(d:=22)J(fun s254=>?_)(fun s254=>?_)
  ·refine gdt(Ym J J)J J J J<|gdt(Ym J J)J J J J<|gdt(Ya J J(i:=5)J Zx Nd)J J J J<|gdt(Qb J J J⟨by omega,by omega⟩)J J J J<|gdt(Yw(ii:=5)(i:=(g_3.2.length-1))J J J J Zx Nd Ql(by omega)(by omega))J J J J<|gdt(Xn(ii:=5)I0 J J J Zx pI(by omega))J J J J<|gtt(Zh(n:=5)(Zah _ _(by rw [Oz,hg_3];have:=hpb(g_3.2.length-1);omega))J J J K1 Zx1(Of 5 J J(Yv(zs:=g_3.2)(i:=g_3.2.length-1)(d:=I0)(by omega))Ze)J hw)J J J J fun _ _=>gdt(Xw J J J)J J J J<|dt(Xi J J J)J<|Zf<|Za<|Zp J(fun h254=>?_)(fun h254=>?_)
   ·have hlc:=Oz g_3.2(g_3.2.length-1)
    have hneg:(Kg(Yx(Zs aa)))=Xk(Yx(Zs aa))(-1):=by unfold Kg;rw [if_pos⟨by omega,by rw [←hg_3,Zu,←hlc];exact(Qk _).1 h254⟩]
    exact Zb<|Zg<|mv J J<|tt(Zh(n:=6)(Zne _ _(by rw [hg_3];exact hpb.mono(by omega))(by omega))J J J K1 Zx7(Zd 5 J J J Ze)J hw)J fun g_4 hg_4=>as_ J J<|Zf<|Za<|Zw<|Xe<|Zy(.inl J)hsc _ _(fun a w hs=>Qi hs Tryz.results114 J)J(by rw [hg_4,hg_3,←heu,hneg])J(Xa 6 J J J Zj)
   ·refine Zk<|Za<|Zb<|Zg<|mv J J<|as_ J J<|Zf<|Za<|Zw ?_
    have hneg:(Kg(Yx(Zs aa)))=Yx(Zs aa):=by unfold Kg;rw [if_neg(fun h=>by rw [←hg_3,Zu,←Oz]at h;first | omega | exact absurd((Qk _).2 h.2)(by assumption))]
    exact Zy(.inl J)hsc(_,g_3.2)_(fun a w hs=>Qi hs Tryz.results114 J)J(by rw [hg_3,←heu,hneg])J(Xa 5 J J J Zj)
  ·refine gsk J J J J J<|gsk J J J J J<|gsk J J J J J<|gsk J J J J J<|gsk J J J J J<|gsk J J J J J<|gsk J J J J J<|gsk J J J J J<|dt(Yh J J J)J<|Zf<|Za<|Yf J<|Zk<|Za<|Zb<|Zg<|mv J J<|as_ J J<|Zf<|Za<|Zw ?_
   have hneg:(Kg(Yx(Zs aa)))=Yx(Zs aa):=by unfold Kg;rw [if_neg(fun h=>by rw [←hg_3,Zu,←Oz]at h;first | omega | exact absurd((Qk _).2 h.2)(by assumption))]
   exact Zy(.inl J)hsc(_,g_3.2)_(fun a w hs=>Qi hs Tryz.results114 J)J(by rw [hg_3,←heu,hneg])J(Xa 5 J J J Zj)
end Go.Sky

