/- the law: part 20
   Proved without conditions of its own: each theorem bears its own. -/
import Derived.Test.YtcmiiammekgooaaGreatSo03
import Derived.Test.YtcmiiammekgooaaGreatSo02
import Derived.Test.YtcmiiammekgooaaGreatSo01
import Derived.Test.YtcmiiammekgooaaGreatSo10
import Derived.Test.YtcmiiammekgooaaGreatSo12
import Derived.Test.YtcmiiammekgooaaGreatSo18
import Derived.Test.YtcmiiammekgooaaGreatSo14
set_option linter.all false
namespace Go.Sky
open Go.Proofs
set_option maxRecDepth 20000
set_option maxHeartbeats 4000000
set_option linter.unusedVariables false
set_option linter.unusedSimpArgs false
set_option maxHeartbeats 4000000 in
theorem r3_rem(v u:Value)(zs ys:List(Int×SL))(F:Nat)(hl:zs.length≤30)(hk:ys.length≤30)(hy0:0<ys.length)(htz:Tr(Zs zs))(ht:Tr(Zs ys))(hF0:zs.length<ys.length+F)(hS0:msz(Zs zs)+F*(msz(Zs ys)+1)≤900000):Cal Tryz.prog 187#[v,u] [pp v zs,pp u ys]true(G:=Value×List(Int×SL))(fun r=>Zs r.2=Bg F(Zs zs)(Zs ys))(fun r=>r.1)(fun r=>[pp r.1 r.2]):=by
 refine Yc Tryz.func187 J Tryz.ntmps187 J K2 ?_
 intro w0 sc hw hsc
 simp only [Zo,Zn]
 have hli:=Zu zs
 have hli2:=Zu ys
 have hcy:=Oz ys(ys.length-1)
 have hra:=Zup(Zs ys)
 refine Zb<|Zg<|as_ J J<|Zf<|Za<|Zb<|Zg<|mv J J<|mv J J<|dt(Ya J J(i:=2)J Zx Nd)J<|dt(Qb J J J⟨by omega,by omega⟩)J<|dt(Yw(ii:=2)(i:=(ys.length-1))J J J J Zx Nd Ql(by omega)(by omega))J<|dt(Xn(ii:=2)I0 J J J Zx pI(by omega))J<|tt(Zq(i:=85)J J J Tryz.zeroValue48 J J hw)J fun b _=>tt(Zm(i:=85)J J J J J(by decide)J Ql J J⟨Zc J,Zc J,trivial⟩J hw trivial)J fun _ _=>Pt(Zfz 2 91(ys.getD(ys.length-1)I0)J J(Yv(by omega))J)<|Zf<|Za<|Zb<|Zl<|Yn(Oa 1 80 J J J)<|Nt [(1,_),(5,_)] [(0,_),(1,_),(2,_),(85,_),(91,_)](fun(q:Value×List(Int×SL)×Nat)=>[(0,q.1)])(fun(q:Value×List(Int×SL)×Nat)=>[(80,pp q.1 q.2.1)])(fun(q:Value×List(Int×SL)×Nat)=>(Bg q.2.2(Zs q.2.1)(Zs ys)=Bg F(Zs zs)(Zs ys))∧((Zs q.2.1).length<(Zs ys).length+q.2.2)∧(Tr(Zs q.2.1))∧(msz(Zs q.2.1)+q.2.2*(msz(Zs ys)+1)≤900000)∧(q.2.1.length≤30))(fun(q:Value×List(Int×SL)×Nat)=>q.2.2)(_,zs,F)⟨J,by dsimp only;omega,htz,hS0,hl⟩K3 K6 ?_
 rintro⟨vr,ws,f⟩⟨hE,hL,hT,hS,hW⟩
 dsimp only at hE hL hT hS hW
 simp only [List.cons_append,List.nil_append]
 have hlw:=Zu ws
 have hcw:=Oz ws(ws.length-1)
 refine Zb<|Zb<|Zg<|mv J J<|dt(Ya J J(i:=80)J Zx Nd)J<|mv J J<|dt(Ya J J(i:=2)J Zx Nd)J<|dt(Lq J J J)J<|Zf<|Za<|Zp J(fun h45=>?_)(fun h45=>?_)
 ·obtain⟨f1,rfl,hE1,hL1,hT1,hS1,hLl⟩:=Zrb(by omega)(by omega)hL hT hS
  have hB:msz(Zs ws)+(msz(Zs ys)+1)≤900000:=by rw [Nat.succ_mul]at hS;omega
  have hrb:=bl_rb(Zs ws)(Zs ys)
  refine Zk<|Za<|Zl<|Zb<|On [80,85] [10](by kernel_rfl)<|Zz(n:=4) [(0,0),(1,0),(2,0),(3,0),(4,0),(5,0),(6,0)](by kernel_rfl)<|r0' J J J J(stf(Yb(i:=85)J J J Ka Ql J J)K2)<|r0' J J J J(stf(Ym J J)K2)<|r0' J J J J(stf(Ym J J)K2)<|r0' J J J J(stf(Ya J J(i:=80)J Zx Nd)K2)<|r0' J J J J(stf(Qb J J J⟨by omega,by omega⟩)K2)<|r0' J J J J(stf(Yw(ii:=80)(i:=(ws.length-1))J J J J Zx Nd Ql(by omega)(by omega))K2)<|r0' J J J J(stf(Xn(ii:=80)I0 J J J Zx pI(by omega))K2)<|Yp<|Pw(n:=3)7 8(by kernel_rfl) ?_ ?_
  ·refine Yq J J(Zv(i:=95)J J J Tryz.zeroValue48 J J hw K2)fun b_2 hoff=>Zz(n:=0) [(8,1),(9,1),(10,3)](by kernel_rfl)<|r1' J J(Zv(i:=96)J J J Tryz.zeroValue48 J J hw K2)fun b_3 hoff_2=>r1' J J(Zm(i:=95)J J J J J(by decide)J Ql J J⟨Zc J,Zr(i:=91)J Zi,trivial⟩J hw hoff)fun _ _=>r3' J J(Zm(i:=96)J J J J J(by decide)J Ql J J⟨Zc J,Zc J,trivial⟩J hw trivial)fun _ _=>Yp<|Yj(by kernel_rfl)<|Za<|Dc [(0,_),(1,_),(5,_),(6,_),(7,_)] [(0,_),(80,_),(1,_),(2,_),(85,_),(91,_)](fun(q:Value×Value)=>[])(fun(q:Value×Value)=>[(95,box b_2 48#[.bool(decide((Bz(Zs ys))<0)),q.1]),(96,box b_3 48#[.bool(decide((rb(Zs ws)(Zs ys))<0)),q.2]),(93,d9p q.1(Bz(Zs ys)).natAbs),(94,d9p q.2(rb(Zs ws)(Zs ys)).natAbs)])(fun(q:Value×Value)=>True)K5 K6 ?_ ?_
   ·refine Zb<|Yn(Zfz 80 92(ws.getD(ws.length-1)I0)J J(Yv(by omega))J)<|Zg<|dt(Yb(i:=95)J J J Ka Ql J J)J<|tt(Zh(n:=2)(Zah _ _(by rw [hcy];have:=Oc(Zs ys)(ys.length-1);omega))J J J K1 Zx1(Zd 91 J J J Ze)J hw)J fun _ _=>dt(Xw J J J)J<|Zf<|Za<|Zp J(fun h47=>?_)(fun h47=>?_)
    ·refine On [96] [5](by kernel_rfl)<|Zz(n:=0) [(2,0),(0,1),(1,1),(3,1),(4,1),(5,3)](by kernel_rfl)<|r0' J J J J(stf(Yb(i:=96)J J J Ka Ql J J)K1)<|r1' J J(Pz(Yb(i:=95)J J J Ka Ql J J)J J)fun _ _=>r1' J J(Zh(n:=3)(Zrj _ _(by rw [hcy];have:=Oc(Zs ys)(ys.length-1);omega))J J J K1 cF73(Zd 91 J J J Ze)J hw)fun v _=>r1' J J(Zh(n:=4)(Zrj _ _(by rw [hcw];have:=Oc(Zs ws)(ws.length-1);omega))J J J K1 cF73(Zd 92 J J J Ze)J hw)fun v_2 _=>r1' J J(Zd3 95 J J K1(fun hoffb=>(Zm(i:=95)J J J J J(by decide)J Ql J J⟨Zc J,Zr(i:=3)J Zi,trivial⟩J hw hoffb)))fun _ _=>r3' J J(Zm(i:=96)J J J J J(by decide)J Ql J J⟨Zc J,Zr(i:=4)J Zi,trivial⟩J hw trivial)fun _ _=>Yp<|Yj(by kernel_rfl) ?_
     have hra:=rabs_n hli2 hcy(by assumption)
     have hrb:=rb_n(x:=Zs ws)(y:=Zs ys)hli2 hlw hcy hcw(by assumption)
     exact Qv(Oa 3 93 J J J)<|Qv(Oa 4 94 J J J)<|Qy(_,_)trivial K5⟨by rw [hra];rfl,by rw [hrb];rfl,by rw [hra];rfl,by rw [hrb];rfl,rfl,rfl,rfl,rfl,rfl,rfl,trivial⟩
    ·refine Zk ?_
     have hra:=rabs_p hli2 hcy(by assumption)
     have hrb:=rb_p(x:=Zs ws)(y:=Zs ys)hli2 hlw hcy hcw(by assumption)
     exact Qv(Oa 91 93 J J J)<|Qv(Oa 92 94 J J J)<|Qy(_,_)trivial K5⟨by rw [hra];rfl,by rw [hrb];rfl,by rw [hra];rfl,by rw [hrb];rfl,rfl,rfl,rfl,rfl,rfl,rfl,trivial⟩
   ·rintro⟨va,vb⟩ -
    simp only [List.cons_append,List.nil_append]
    refine Zb<|Zg<|mv J J<|dt(Ya J J(i:=80)J Zx Nd)J<|mv J J<|dt(Ya J J(i:=2)J Zx Nd)J<|dt(Qb J J J⟨by omega,by omega⟩)J<|tt(Hk(i:=70)(n:=(ws.length-ys.length))(by_:=32)(enc:=Db)I0 J J J J J(by omega)Nd Tryz.ti48 J pI.cells pI.pos J J(by omega)(by decide)J hw)J fun v_3 _=>as_ J J<|Zf<|Za<|Zb<|Zb<|Zg<|as_ J J<|Zf<|Za<|Zl<|Yn(Fq 71(ws.length-ys.length))<|Nt [(0,_),(1,_),(5,_),(6,_),(7,_)] [(0,_),(95,_),(96,_),(93,_),(94,_),(80,_),(1,_),(2,_),(85,_),(91,_)](fun(q:Nat×Value×List(Int×SL))=>[(9,.int .i64(q.1:Int)),(8,q.2.1)])(fun(q:Nat×Value×List(Int×SL))=>[(70,osl 2 48 Db q.2.1 q.2.2),(71,Zb2 qI q.2.2)])(fun(q:Nat×Value×List(Int×SL))=>(q.1≤ys.length)∧(Zs q.2.2=shm(Zs ys)(rb(Zs ws)(Zs ys))((Zs ws).length-(Zs ys).length)q.1)∧(q.2.2.length=((Zs ws).length-(Zs ys).length)+q.1))(fun(q:Nat×Value×List(Int×SL))=>ys.length-q.1)(0,_,List.replicate(ws.length-ys.length)I0)⟨by first | omega | (dsimp only<;>omega),by rw [←Zc4,hlw,hli2];simp [Zs],by simp<;>omega⟩K7 K12 ?_
    rintro⟨i,vo,ms⟩⟨hi,hms,hml⟩
    dsimp only at hi hms hml
    simp only [List.cons_append,List.nil_append]
    have hci:=Oz ys i
    refine Zb<|Zb<|Zg<|mv J J<|mv J J<|dt(Ya J J(i:=2)J Zx Nd)J<|dt(Xw J J J)J<|Zf<|Za<|Zp J(fun h51=>?_)(fun h51=>?_)
    ·refine Zk<|Za<|Zb<|Zl<|On [2,96] [9](by kernel_rfl)<|Zz(n:=3) [(0,0),(1,0),(2,0),(3,0),(4,0),(5,0),(6,1)](by kernel_rfl)<|r0' J J J J(stf(Ym J J)K2)<|r0' J J J J(stf(Ym J J)K2)<|r0' J J J J(stf(Ym J J)K2)<|r0' J J J J(stf(Yw(ii:=2)J J J J Zx Nd Ql J(by first | omega | (simp only [List.length_set];omega)))K2)<|r0' J J J J(stf(Xn(ii:=2)I0 J J J Zx pI(by first | omega | (simp only [List.length_set];omega)))K2)<|r0' J J J J(stf(Yb(i:=96)J J J Ka Ql J J)K2)<|r1' J J(Zh(n:=86)(Zaj _ _ _ _(by rw [hci];have:=Oc(Zs ys)i;omega)(by omega))J J J K2 Zov(Of 2 J J(Yv(i:=i)(by omega))(Zd 94 J J J Ze))J hw)fun v_4 _=>Yp<|Zko(Om 86 J Zi)(fun sl hsl=>?_)
     subst hsl
     exact Zz(n:=0) [(7,1),(8,1),(9,3)](by kernel_rfl)<|r1' J J(Pr(i:=87)(ivs:=[(0,_)])(enc:=Db) [((ys.getD i I0).1*(rb(Zs ws)(Zs ys)),sl)]J J J K2 Nd Tryz.ti48 J J J J J J pI.cells J J hw)fun v_5 _=>r1' J J(Zd2 70 J J J K2(fun hoffr=>(Bs(xs:=ms)(ys:=[_])(i:=70)(j:=87)(by_:=32)J J J J J J(by decide)J(Yo pI)Nd Tryz.ti48 J pI J J J(by simp;omega)(by decide)J hw hoffr)))fun v_6 _=>r3' J J(Pz(Kc J J)J J)fun _ _=>Yp<|Yj(by kernel_rfl)<|Px<|Za<|Zg<|mv J J<|dt(Ys J J J⟨by omega,by omega⟩)J<|as_ J J<|Zf<|Qv(Ps(q:=qI)(z:=((ys.getD i I0).1*(rb(Zs ws)(Zs ys)),sl))71 86 71 J J J J J)<|Xl(i+1,_,ms ++ [((ys.getD i I0).1*(rb(Zs ws)(Zs ys)),sl)])⟨by first | omega | (dsimp only<;>omega),by rw [Kf,hms,←Zc5];dsimp only;rw [hci,Int.mul_comm],by simp;omega⟩(by first | omega | (dsimp only<;>omega))K7 K12
    ·refine Yu<|Zt<|Zt<|Ov<|Za<|Yn(Pe 70 J J pI)<|Yn(Mj 70 71 72 J J J J)<|Zg<|mv J J<|dt(Yb(i:=95)J J J Ka Ql J J)J<|tt(Zh(n:=5)(Zae _ _ _ _((Oc _).mono(by omega))(by omega)(by omega))J J J K2 cF56(Zd 80 J J J(Zd 93 J J J Ze))J hw)J(fun g hg=>?_)
     have hlsc:=congrArg List.length hg
     rw [Zu]at hlsc
     have hlsd:=Kt(Zs ws)(Bz(Zs ys))
     refine mv J J<|tt(Zh(n:=6)(Znd _ _ _ _(by rw [hg];exact(Co(Oc _)hra).mono(by omega))(by omega)(by rw [hms];exact sz_shm'.mono(by omega))(by omega))J J J K2 cF88(Zd 5 J J J(Zd 72 J J J Ze))J hw)J fun g_2 hg_2=>as_ J J<|Zf<|Px<|Qv(Oa 6 80 J J J) ?_
     have hR:Zs g_2.2=Fa(Zs ws)(Zs ys):=by rw [hg_2,hg,hms,show i=(Zs ys).length by omega];rfl
     exact Xl(_,g_2.2,f1)⟨by dsimp only;rw [hR,←hE1];exact hE,by dsimp only;rw [hR];exact hL1,by dsimp only;rw [hR];exact hT1,by dsimp only;rw [hR];exact hS1,by dsimp only;rw [←Zu,hR];omega⟩(Nat.lt_succ_self f1)K3 K6
  ·refine Yq J J(Zv(i:=96)J J J Tryz.zeroValue48 J J hw K2)fun b_4 hoff_3=>Zz(n:=0) [(7,1),(9,1),(10,3)](by kernel_rfl)<|r1' J J(Zv(i:=95)J J J Tryz.zeroValue48 J J hw K2)fun b_5 hoff_4=>r1' J J(Zm(i:=95)J J J J J(by decide)J Ql J J⟨Zc J,Zr(i:=91)J Zi,trivial⟩J hw hoff_4)fun _ _=>r3' J J(Zm(i:=96)J J J J J(by decide)J Ql J J⟨Zc J,Zc J,trivial⟩J hw trivial)fun _ _=>Yp<|Yj(by kernel_rfl)<|Za<|Dc [(0,_),(1,_),(5,_),(6,_),(7,_)] [(0,_),(80,_),(1,_),(2,_),(85,_),(91,_)](fun(q:Value×Value)=>[])(fun(q:Value×Value)=>[(95,box b_5 48#[.bool(decide((Bz(Zs ys))<0)),q.1]),(96,box b_4 48#[.bool(decide((rb(Zs ws)(Zs ys))<0)),q.2]),(93,d9p q.1(Bz(Zs ys)).natAbs),(94,d9p q.2(rb(Zs ws)(Zs ys)).natAbs)])(fun(q:Value×Value)=>True)K5 K6 ?_ ?_
   ·refine Zb<|Yn(Zfz 80 92(ws.getD(ws.length-1)I0)J J(Yv(by omega))J)<|Zg<|dt(Yb(i:=95)J J J Ka Ql J J)J<|tt(Zh(n:=6)(Zah _ _(by rw [hcy];have:=Oc(Zs ys)(ys.length-1);omega))J J J K1 Zx1(Zd 91 J J J Ze)J hw)J fun _ _=>dt(Xw J J J)J<|Zf<|Za<|Zp J(fun h47_2=>?_)(fun h47_2=>?_)
    ·refine On [96] [5](by kernel_rfl)<|Zz(n:=0) [(2,0),(0,1),(1,1),(3,1),(4,1),(5,3)](by kernel_rfl)<|r0' J J J J(stf(Yb(i:=96)J J J Ka Ql J J)K1)<|r1' J J(Pz(Yb(i:=95)J J J Ka Ql J J)J J)fun _ _=>r1' J J(Zh(n:=7)(Zrj _ _(by rw [hcy];have:=Oc(Zs ys)(ys.length-1);omega))J J J K1 cF73(Zd 91 J J J Ze)J hw)fun v_7 _=>r1' J J(Zh(n:=8)(Zrj _ _(by rw [hcw];have:=Oc(Zs ws)(ws.length-1);omega))J J J K1 cF73(Zd 92 J J J Ze)J hw)fun v_8 _=>r1' J J(Zd3 95 J J K1(fun hoffb=>(Zm(i:=95)J J J J J(by decide)J Ql J J⟨Zc J,Zr(i:=7)J Zi,trivial⟩J hw hoffb)))fun _ _=>r3' J J(Zm(i:=96)J J J J J(by decide)J Ql J J⟨Zc J,Zr(i:=8)J Zi,trivial⟩J hw trivial)fun _ _=>Yp<|Yj(by kernel_rfl) ?_
     have hra:=rabs_n hli2 hcy(by assumption)
     have hrb:=rb_n(x:=Zs ws)(y:=Zs ys)hli2 hlw hcy hcw(by assumption)
     exact Qv(Oa 7 93 J J J)<|Qv(Oa 8 94 J J J)<|Qy(_,_)trivial K5⟨by rw [hra];rfl,by rw [hrb];rfl,by rw [hra];rfl,by rw [hrb];rfl,rfl,rfl,rfl,rfl,rfl,rfl,trivial⟩
    ·refine Zk ?_
     have hra:=rabs_p hli2 hcy(by assumption)
     have hrb:=rb_p(x:=Zs ws)(y:=Zs ys)hli2 hlw hcy hcw(by assumption)
     exact Qv(Oa 91 93 J J J)<|Qv(Oa 92 94 J J J)<|Qy(_,_)trivial K5⟨by rw [hra];rfl,by rw [hrb];rfl,by rw [hra];rfl,by rw [hrb];rfl,rfl,rfl,rfl,rfl,rfl,rfl,trivial⟩
   ·rintro⟨va,vb⟩ -
    simp only [List.cons_append,List.nil_append]
    refine Zb<|Zg<|mv J J<|dt(Ya J J(i:=80)J Zx Nd)J<|mv J J<|dt(Ya J J(i:=2)J Zx Nd)J<|dt(Qb J J J⟨by omega,by omega⟩)J<|tt(Hk(i:=70)(n:=(ws.length-ys.length))(by_:=32)(enc:=Db)I0 J J J J J(by omega)Nd Tryz.ti48 J pI.cells pI.pos J J(by omega)(by decide)J hw)J fun v_9 _=>as_ J J<|Zf<|Za<|Zb<|Zb<|Zg<|as_ J J<|Zf<|Za<|Zl<|Yn(Fq 71(ws.length-ys.length))<|Nt [(0,_),(1,_),(5,_),(6,_),(7,_)] [(0,_),(95,_),(96,_),(93,_),(94,_),(80,_),(1,_),(2,_),(85,_),(91,_)](fun(q:Nat×Value×List(Int×SL))=>[(9,.int .i64(q.1:Int)),(8,q.2.1)])(fun(q:Nat×Value×List(Int×SL))=>[(70,osl 2 48 Db q.2.1 q.2.2),(71,Zb2 qI q.2.2)])(fun(q:Nat×Value×List(Int×SL))=>(q.1≤ys.length)∧(Zs q.2.2=shm(Zs ys)(rb(Zs ws)(Zs ys))((Zs ws).length-(Zs ys).length)q.1)∧(q.2.2.length=((Zs ws).length-(Zs ys).length)+q.1))(fun(q:Nat×Value×List(Int×SL))=>ys.length-q.1)(0,_,List.replicate(ws.length-ys.length)I0)⟨by first | omega | (dsimp only<;>omega),by rw [←Zc4,hlw,hli2];simp [Zs],by simp<;>omega⟩K7 K12 ?_
    rintro⟨i,vo,ms⟩⟨hi,hms,hml⟩
    dsimp only at hi hms hml
    simp only [List.cons_append,List.nil_append]
    have hci:=Oz ys i
    refine Zb<|Zb<|Zg<|mv J J<|mv J J<|dt(Ya J J(i:=2)J Zx Nd)J<|dt(Xw J J J)J<|Zf<|Za<|Zp J(fun h51_2=>?_)(fun h51_2=>?_)
    ·refine Zk<|Za<|Zb<|Zl<|On [2,96] [9](by kernel_rfl)<|Zz(n:=3) [(0,0),(1,0),(2,0),(3,0),(4,0),(5,0),(6,1)](by kernel_rfl)<|r0' J J J J(stf(Ym J J)K2)<|r0' J J J J(stf(Ym J J)K2)<|r0' J J J J(stf(Ym J J)K2)<|r0' J J J J(stf(Yw(ii:=2)J J J J Zx Nd Ql J(by first | omega | (simp only [List.length_set];omega)))K2)<|r0' J J J J(stf(Xn(ii:=2)I0 J J J Zx pI(by first | omega | (simp only [List.length_set];omega)))K2)<|r0' J J J J(stf(Yb(i:=96)J J J Ka Ql J J)K2)<|r1' J J(Zh(n:=86)(Zaj _ _ _ _(by rw [hci];have:=Oc(Zs ys)i;omega)(by omega))J J J K2 Zov(Of 2 J J(Yv(i:=i)(by omega))(Zd 94 J J J Ze))J hw)fun v_10 _=>Yp<|Zko(Om 86 J Zi)(fun sl_2 hsl_2=>?_)
     subst hsl_2
     exact Zz(n:=0) [(7,1),(8,1),(9,3)](by kernel_rfl)<|r1' J J(Pr(i:=87)(ivs:=[(0,_)])(enc:=Db) [((ys.getD i I0).1*(rb(Zs ws)(Zs ys)),sl_2)]J J J K2 Nd Tryz.ti48 J J J J J J pI.cells J J hw)fun v_11 _=>r1' J J(Zd2 70 J J J K2(fun hoffr=>(Bs(xs:=ms)(ys:=[_])(i:=70)(j:=87)(by_:=32)J J J J J J(by decide)J(Yo pI)Nd Tryz.ti48 J pI J J J(by simp;omega)(by decide)J hw hoffr)))fun v_12 _=>r3' J J(Pz(Kc J J)J J)fun _ _=>Yp<|Yj(by kernel_rfl)<|Px<|Za<|Zg<|mv J J<|dt(Ys J J J⟨by omega,by omega⟩)J<|as_ J J<|Zf<|Qv(Ps(q:=qI)(z:=((ys.getD i I0).1*(rb(Zs ws)(Zs ys)),sl_2))71 86 71 J J J J J)<|Xl(i+1,_,ms ++ [((ys.getD i I0).1*(rb(Zs ws)(Zs ys)),sl_2)])⟨by first | omega | (dsimp only<;>omega),by rw [Kf,hms,←Zc5];dsimp only;rw [hci,Int.mul_comm],by simp;omega⟩(by first | omega | (dsimp only<;>omega))K7 K12
    ·refine Yu<|Zt<|Zt<|Ov<|Za<|Yn(Pe 70 J J pI)<|Yn(Mj 70 71 72 J J J J)<|Zg<|mv J J<|dt(Yb(i:=95)J J J Ka Ql J J)J<|tt(Zh(n:=9)(Zae _ _ _ _((Oc _).mono(by omega))(by omega)(by omega))J J J K2 cF56(Zd 80 J J J(Zd 93 J J J Ze))J hw)J(fun g_3 hg_3=>?_)
     have hlsc:=congrArg List.length hg_3
     rw [Zu]at hlsc
     have hlsd:=Kt(Zs ws)(Bz(Zs ys))
     refine mv J J<|tt(Zh(n:=10)(Znd _ _ _ _(by rw [hg_3];exact(Co(Oc _)hra).mono(by omega))(by omega)(by rw [hms];exact sz_shm'.mono(by omega))(by omega))J J J K2 cF88(Zd 9 J J J(Zd 72 J J J Ze))J hw)J fun g_4 hg_4=>as_ J J<|Zf<|Px<|Qv(Oa 10 80 J J J) ?_
     have hR:Zs g_4.2=Fa(Zs ws)(Zs ys):=by rw [hg_4,hg_3,hms,show i=(Zs ys).length by omega];rfl
     exact Xl(_,g_4.2,f1)⟨by dsimp only;rw [hR,←hE1];exact hE,by dsimp only;rw [hR];exact hL1,by dsimp only;rw [hR];exact hT1,by dsimp only;rw [hR];exact hS1,by dsimp only;rw [←Zu,hR];omega⟩(Nat.lt_succ_self f1)K3 K6
 ·have hE2:=Zv7(f:=f)(x:=Zs ws)(y:=Zs ys)(by omega)
  exact Yu<|Zt<|Zt<|Ov<|Za<|Zb<|Zg<|mv J J<|as_ J J<|Zf<|Za<|Zw<|Zy(.inl J)hsc(_,ws)_(fun a w hs=>Qi hs Tryz.results187 J)J(by rw [←hE,hE2])J(Xa 80 J J J Zj)
theorem Zrm(v:Value)(zs:List(Int×SL))(hv:Vp(Zs zs))(h0:zs.length≠0):Cal Tryz.prog 113#[v] [pp v zs]true(G:=Value×List(Int×SL))(fun r=>Zs r.2=nrm(Zs zs))(fun r=>r.1)(fun r=>[pp r.1 r.2]):=by
 refine Yc Tryz.func113 J Tryz.ntmps113 J K1 ?_
 intro w0 sc hw hsc
 simp only [Zo,Zn]
 have hli:=Zu zs
 have hlen:=hv.len
 refine Zb<|Zg<|as_ J J<|Zf<|Za<|Zb<|Zg<|mv J J<|tt(Zh(n:=2)(Ks _ _(hv.sz.mono(by omega))(by omega)(fun h=>hv.ne(fun e=>by have h7:=congrArg List.length e;simp only [List.length_nil]at h7;omega)))J J J K1 cF57(Zd 1 J J J Ze)J hw)J fun g hg=>as_ J J<|Zf<|Za<|Zb<|Zb ?_
 have hpl:=congrArg List.length hg
 rw [Zu,Yi,hli]at hpl
 have hlc:=Oz g.2(g.2.length-1)
 have hlc2:(g.2.getD(g.2.length-1)I0).1=cf(Yx(Zs zs))((Yx(Zs zs)).length-1):=by rw [hlc,hg,Yi,hli,hpl]
 have hpb:=(Lm hv).sz
 refine Zg<|mv J J<|mv J J<|dt(Ya J J(i:=2)J Zx Nd)J<|dt(Qb J J J⟨by omega,by omega⟩)J<|dt(Yw(ii:=2)(i:=(g.2.length-1))J J J J Zx Nd Ql(by omega)(by omega))J<|dt(Xn(ii:=2)I0 J J J Zx pI(by omega))J<|tt(Zh(n:=2)(Zah _ _(by rw [hlc2];have:=hpb((Yx(Zs zs)).length-1);omega))J J J K1 Zx1(Of 2 J J(Yv(zs:=g.2)(i:=g.2.length-1)(d:=I0)(by omega))Ze)J hw)J fun _ _=>dt(Xw J J J)J<|Zf<|Za<|Zp J(fun h29=>?_)(fun h29=>?_)
 ·have hnn:=Zh1(xs:=Zs zs)(by rw [Yi];omega)(by rw [←hlc2];exact Zbq.1 h29)
  exact Zb<|Zg<|mv J J<|tt(Zh(n:=3)(Zne _ _(by rw [hg];exact hpb.mono(by omega))(by omega))J J J K1 Zx7(Zd 2 J J J Ze)J hw)J fun g_2 hg_2=>as_ J J<|Zf<|Za<|Zw<|Xe<|Zy(.inl J)hsc _ _(fun a w hs=>Qi hs Tryz.results113 J)J(by rw [hg_2,hg,hnn])J(Xa 3 J J J Zj)
 ·have hnn:=Zh0(xs:=Zs zs)(fun h=>h29(Zbq.2(by rw [hlc2];exact h)))
  exact Zk<|Za<|Zb<|Zg<|mv J J<|as_ J J<|Zf<|Za<|Zw<|Zy(.inl J)hsc(_,g.2)_(fun a w hs=>Qi hs Tryz.results113 J)J(by rw [hg,hnn])J(Xa 2 J J J Zj)
theorem Zrl(v:Value)(zs:List(Int×SL))(hv:Vp(Zs zs))(h0:zs.length≠0)(hs:Sz 260(Zs zs))(hl:zs.length≤8):Cal Tryz.prog 54#[v] [pp v zs]true(G:=Value×List(Int×SL))(fun r=>Zs r.2=sqf 13(Zs zs))(fun r=>r.1)(fun r=>[pp r.1 r.2]):=by
 refine Yc Tryz.func54 J Tryz.ntmps54 J K1 ?_
 intro w0 sc hw hsc
 simp only [Zo,Zn]
 have hli:=Zu zs
 have hne:Zs zs≠[]:=fun e=>h0(by rw [←hli,e];rfl)
 obtain⟨k1,k2,k3,k4,k5,k6,k7,k8,k9,k10,k11,k12,k13,k14⟩:=Zi6 hv hne hs(by omega)
 have k6l:=List.length_pos_iff.2 k6
 have k12l:=List.length_pos_iff.2 k12
 have k2l:=k2.len
 have k11l:=k11.len
 refine Zb<|Zg<|as_ J J<|Zf<|Za<|Zb<|Zg<|mv J J<|tt(Zh(n:=2)(Zrm _ _ hv h0)J J J K1 cF113(Zd 1 J J J Ze)J hw)J fun g hg=>as_ J J<|Zf<|Za<|Zb ?_
 have hl_qs:=congrArg List.length hg
 rw [Zu]at hl_qs
 refine Zg<|mv J J<|mv J J<|mv J J<|tt(Zh(n:=3)(Zjb _ _(by rw [hg];exact k1.sz.mono(by omega))(by omega))J J J K1 cF115(Zd 2 J J J Ze)J hw)J(fun g_2 hg_2=>?_)
 have hl_qd:=congrArg List.length hg_2
 rw [Zu]at hl_qd
 refine tt(Zh(n:=4)(rp_gcd _ _ _ _ 13(by rw [hg];exact k1)(by rw [hg_2,hg];exact k2)(by rw [hg_2,hg];exact k3))J J J K2 cF114(Zd 2 J J J(Zd 3 J J J Ze))J hw)J(fun g_3 hg_3=>?_)
 have hgg:Zs g_3.2=Ku 13(nrm(Zs zs))(Pi(nrm(Zs zs))):=by rw [hg_3,hg_2,hg,k4]
 have hl_g:=congrArg List.length hgg
 rw [Zu]at hl_g
 refine tt(Zh(n:=5)(Zaf _ _ _ _(by omega)(by omega)(by omega)(by rw [hg];exact k1.tr)(by rw [hgg];exact k5.tr)(fun _=>by rw [hg,hgg];have:=Nat.mul_le_mul(show g.2.length-g_3.2.length+1≤9 by omega)(show msz(Ku 13(nrm(Zs zs))(Pi(nrm(Zs zs))))+1≤391 by omega);omega))J J J K2 cF55(Zd 2 J J J(Zd 4 J J J Ze))J hw)J fun g_4 hg_4=>mv J J<|dt(Yg J J J)J<|dt(Yg J J J)J<|as_ J J<|as_ J J<|Zf<|Za<|Zb ?_
 have hqe:=hg_4(by rw [hg,hgg];exact k7)
 rw [hg,hgg]at hqe
 have hl_q:=congrArg List.length hqe
 rw [Zu]at hl_q
 exact Zg<|mv J J<|tt(Zh(n:=6)(Zrm _ _(by rw [hqe];exact k11)(by rw [hl_q];exact Nat.ne_of_gt k12l))J J J K1 cF113(Zd 5 J J J Ze)J hw)J fun g_5 hg_5=>as_ J J<|Zf<|Za<|Zw<|Zy(.inl J)hsc _ _(fun a w hs=>Qi hs Tryz.results54 J)J(by rw [hg_5,hqe];exact k13)J(Xa 6 J J J Zj)
end Go.Sky
namespace Go.Sky
open Go.Proofs
theorem pT {α:Type} : Enc Tryz.prog 34 1(Ba(α:=α)):=Enc.flat Tryz.sizeOf34 Tryz.isAgg34(fun _=>rfl)
theorem Bm(v:Value)(zs:List(Int×SL))(hs:Sz 1000000(Zs zs))(hl:zs.length≤1000)(hc:zs.length≠0→Qc(Zs zs)≠0):Cal Tryz.prog 57#[v] [pp v zs]true(G:=SL×List(Int×SL))(fun r=>Zs r.2=Yx(Zs zs))(fun r=>svv r.1)(fun r=>[pp(svv r.1)r.2]):=
  (Ks v zs hs hl hc).toS
theorem Zwe(v:Value)(zs:List(Int×SL))(hv:Vp(Zs zs))(h0:zs.length≠0)(hs:Sz 260(Zs zs))(hl:zs.length≤8):Cal Tryz.prog 54#[v] [pp v zs]true(G:=SL×List(Int×SL))(fun r=>Zs r.2=sqf 13(Zs zs))(fun r=>svv r.1)(fun r=>[pp(svv r.1)r.2]):=
  (Zrl v zs hv h0 hs hl).toS
end Go.Sky
namespace Go.Sky
open Go.Proofs
set_option maxRecDepth 20000
set_option maxHeartbeats 4000000
set_option linter.unusedVariables false
set_option linter.unusedSimpArgs false
set_option maxHeartbeats 4000000 in
theorem Zwg(v:Value)(zs:List(Int×SL))(hv:Vp(Zs zs))(h0:zs.length≠0)(hs:Sz 260(Zs zs))(hl:zs.length≤8):Cal Tryz.prog 166#[v] [pp v zs]true(G:=Value×List(SL×List(Int×SL)))(fun r=>Bi r.2=chn 13(Zs zs))(fun r=>r.1)(fun r=>[Ai 1 Ba qT r.1 r.2]):=by
 refine Yc Tryz.func166 J Tryz.ntmps166 J K1 ?_
 intro w0 sc hw hsc
 simp only [Zo,Zn]
 have hli:=Zu zs
 have hne:Zs zs≠[]:=fun e=>h0(by rw [←hli,e];rfl)
 obtain⟨hC,hq,hql⟩:=ch13r hv.tr hne hs(by omega)
 obtain⟨hC1,hC2,hC3⟩:=hC
 have hvq:=Zix hv hne hC1
 have hq0:sqf 13(Zs zs)≠[]:=(Zi6 hv hne hs(by omega)).2.2.2.2.2.2.2.2.2.2.2.1
 have hqd:=Gp hq(by omega)
 have hqdl:=Ox(sqf 13(Zs zs))
 have hqdt:=Ny hvq.tr
 have hvqd:Vp(Pi(sqf 13(Zs zs))):=⟨hqd.mono(by omega),hqdt,by omega⟩
 refine Zb<|Zg<|as_ J J<|Zf<|Za<|Zb<|Zg<|mv J J<|tt(Zh(n:=2)(Zwe _ _ hv h0 hs hl)J J J K1 cF54(Zd 1 J J J Ze)J hw)J fun g hg=>as_ J J<|Zf<|Za<|Zb<|Zg<|mv J J<|tt(Pr(i:=70)(ivs:=[(0,_)])(enc:=Ba) [g]J J J K2 Zqi Tryz.ti34 J J J J J J pT.cells J J hw)J fun v _=>as_ J J<|Zf<|Za<|Zb ?_
 have hxe:Zs g.2=sqf 13(Zs zs):=hg
 have hxl:=congrArg List.length hxe
 rw [Zu]at hxl
 refine Yn(Mn qT 71)<|Yn(Ps(q:=qT)(z:=g)71 2 71 J J J J J)<|Yn(Oa 2 92 J J J)<|Zg<|mv J J<|tt(Zh(n:=3)(Zjb _ _(by rw [hxe];exact hvq.sz.mono(by omega))(by omega))J J J K1 cF115(Zd 2 J J J Ze)J hw)J(fun g_2 hg_2=>?_)
 have hdl:=congrArg List.length hg_2
 rw [Zu,hxe,Ox]at hdl
 refine tt(Zh(n:=4)(Bm _ _(by rw [hg_2,hxe];exact hqd.mono(by omega))(by omega)(fun h=>by rw [hg_2,hxe];exact hvqd.ne(fun e=>h(by have h7:=congrArg List.length hg_2;rw [Zu,hxe,e]at h7;exact h7))))J J J K1 cF57(Zd 3 J J J Ze)J hw)J(fun g_3 hg_3=>?_)
 have hye:Zs g_3.2=Yx(Pi(sqf 13(Zs zs))):=by rw [show Zs g_3.2=Yx _ from hg_3,hg_2,hxe]
 refine as_ J J<|Zf<|Za<|Zb<|Zl<|Yn(Oa 4 80 J J J) ?_
 refine Nt [] [(0,_),(1,_),(2,_),(3,_),(4,_)](fun(q:List(SL×List(Int×SL))×(SL×List(Int×SL))×(SL×List(Int×SL))×Nat×Value)=>[(4,q.2.2.2.2),(3,svv q.2.1.1),(5,svv q.2.2.1.1)])(fun(q:List(SL×List(Int×SL))×(SL×List(Int×SL))×(SL×List(Int×SL))×Nat×Value)=>[(70,osl 1 34 Ba q.2.2.2.2(q.1 ++ [q.2.1])),(71,Zb2 qT(q.1 ++ [q.2.1])),(92,pp(svv q.2.1.1)q.2.1.2),(80,pp(svv q.2.2.1.1)q.2.2.1.2)])(fun(q:List(SL×List(Int×SL))×(SL×List(Int×SL))×(SL×List(Int×SL))×Nat×Value)=>(Vp(Zs q.2.1.2))∧(Vp(Zs q.2.2.1.2))∧(cok q.2.2.2.1(Zs q.2.1.2)(Zs q.2.2.1.2))∧(Bi q.1 ++ Mz q.2.2.2.1(Zs q.2.1.2)(Zs q.2.2.1.2)=chn 13(Zs zs))∧(q.2.1.2.length≤8)∧(q.2.2.1.2.length≤8)∧(q.1.length+q.2.2.1.2.length≤25))(fun(q:List(SL×List(Int×SL))×(SL×List(Int×SL))×(SL×List(Int×SL))×Nat×Value)=>q.2.2.1.2.length)([],g,g_3,13,_)⟨by dsimp only;rw [hxe];exact hvq,by dsimp only;rw [hye];exact Lm hvqd,by dsimp only;rw [hxe,hye];exact hC3,by dsimp only;rw [hxe,hye];rfl,by dsimp only;omega,by dsimp only;rw [←Zu,hye,Yi];omega,by dsimp only;rw [←Zu,hye,Yi];simp;omega⟩K3 K9 ?_
 rintro⟨ws,ex,ey,f,vo⟩⟨hvx,hvy,hck,hch,hx8,hy8,hwl⟩
 dsimp only at hvx hvy hck hch hx8 hy8 hwl
 simp only [List.cons_append,List.nil_append]
 have hlx:=Zu ex.2
 have hly:=Zu ey.2
 refine Zb<|Zb<|Zg<|mv J J<|dt(Ya J J(i:=80)J Zx Nd)J<|dt(Ot J J J)J<|Zf<|Za<|Zp J(fun h64=>?_)(fun h64=>?_)
 ·have hy0:Zs ey.2≠[]:=fun e=>by have h7:=congrArg List.length e;rw [hly]at h7;simp only [List.length_nil]at h7;omega
  obtain⟨f0,rfl,hd,hle,hck2,hsc2⟩:=Zdn hck hy0
  refine Zk<|Za<|Zl<|Zb<|Zg<|mv J J<|mv J J<|tt(Pr(i:=5)(ivs:=[(0,_)])(enc:=Ba) [ey]J J J K2 Zqi Tryz.ti34 J J J J J J pT.cells J J hw)J fun v_2 _=>tt(Kq(i:=70)(j:=5)(by_:=24)J J J J J J(by decide)J(Yo pT)Zqi Tryz.ti34 J pT J J J(by simp;omega)(by decide)J hw)J fun v_3 _=>as_ J J<|Zf<|Za<|Zg<|mv J J<|mv J J<|mv J J<|tt(Zh(n:=6)(r3_rem _ _ _ _ 8(by omega)(by omega)(by omega)hvx.tr hvy.tr(by omega)(by have:=Pp hvx.sz;have:=Pp hvy.sz;omega))J J J K2 cF187(Zd 92 J J J(Zd 80 J J J Ze))J hw)J(fun g_4 hg_4=>?_)
  have hrl:(Bg 8(Zs ex.2)(Zs ey.2)).length<(Zs ey.2).length:=(Bx hvy.tr hy0 8(Zs ex.2)hvx.tr(by omega)).2.1
  have hrm:=Znw(Zs ey.2)8(Zs ex.2)
  have hrt:=(Bx hvy.tr hy0 8(Zs ex.2)hvx.tr(by omega)).1
  have hrl2:=congrArg List.length hg_4
  rw [Zu]at hrl2
  refine tt(Zh(n:=7)(Zne _ _(by rw [hg_4];exact(Oc _).mono(by have:=Pp hvx.sz;have:=Pp hvy.sz;omega))(by omega))J J J K1 Zx7(Zd 6 J J J Ze)J hw)J(fun g_5 hg_5=>?_)
  have hnl:=congrArg List.length hg_5
  rw [Zu,hg_4]at hnl
  have hnl2:=Kt(Bg 8(Zs ex.2)(Zs ey.2))(-1)
  refine tt(Zh(n:=8)(Bm _ _(by rw [hg_5,hg_4];exact(Co(Oc _)(m:=1)(by decide)).mono(by have:=Pp hvx.sz;have:=Pp hvy.sz;omega))(by omega)(fun h=>Et(by rw [hg_5];exact Qw _ _)(fun e=>h(by rw [←Zu,e];rfl))))J J J K1 cF57(Zd 7 J J J Ze)J hw)J fun g_6 hg_6=>as_ J J<|as_ J J<|Zf<|Px ?_
  have hsn:=Az(f:=8)hvx.tr hvy.tr hy0(by omega)(by omega)
  have hnx:Zs g_6.2=Lf(Zs ex.2)(Zs ey.2):=by rw [show Zs g_6.2=Yx _ from hg_6,hg_5,hg_4];exact hsn
  have hsl:=Gt(y:=Zs ey.2)hvx.tr
  have hpl:=Qx(Zs ex.2)hy0
  have hnxl:=congrArg List.length hnx
  rw [Zu]at hnxl
  exact Qv(Ps(q:=qT)(z:=ey)71 80 71 J J J J J)<|Qv(Oa 80 92 J J J)<|Qv(Oa 8 80 J J J)<|Xl(ws ++ [ex],ey,g_6,f0,_)⟨hvy,by dsimp only;rw [hnx];exact Zgs hvx hd,by dsimp only;rw [hnx];exact hck2,by dsimp only;rw [hnx,←hch,hsc2];simp [Bi],hy8,by dsimp only;omega,by dsimp only;simp;omega⟩(by dsimp only;omega)K3 K9
 ·refine Yu<|Zt<|Zt<|Ov<|Za<|Zb ?_
  have hy0:Zs ey.2=[]:=List.eq_nil_of_length_eq_zero(by omega)
  exact Yn(Pe 70 J J pT)<|Yn(Mj 70 71 72 J J J J)<|Zg<|mv J J<|as_ J J<|Zf<|Za<|Zw<|Zy(.inl J)hsc(_,ws ++ [ex])_(fun a w hs=>Qi hs Tryz.results166 J)J(by rw [←hch,hy0,Hw];simp [Bi])J(Xa 72 J J J Zj)
end Go.Sky
namespace Go.Sky
open Go.Proofs
set_option maxRecDepth 20000
set_option maxHeartbeats 4000000
set_option linter.unusedVariables false
set_option linter.unusedSimpArgs false
theorem Zwf(v:Value)(l:List Int)(hl:∀i,-1≤l.getD i 0∧l.getD i 0≤1)(hlen:l.length≤1000):Cal Tryz.prog 188#[v] [slp 1 Am v l]false(G:=Unit)(fun _=>True)(fun _=> .int .i64(chg l))(fun _=>[]):=by
 refine Yc Tryz.func188 J Tryz.ntmps188 J K1 ?_
 intro w0 sc hw hsc
 simp only [Zo,Zn]
 refine Zb<|Zg<|as_ J J<|Zf<|Za<|Zb<|Zg<|as_ J J<|as_ J J<|Zf<|Za<|Zb<|Zb<|Zg<|as_ J J<|Zf<|Za<|Zl<|Nt [(0,_)] [(0,_),(1,_)](fun(q:Nat×Int×Int)=>[(5,.int .i64(q.1:Int)),(3,.int .i64 q.2.1),(4,.int .i64 q.2.2)])(fun(q:Nat×Int×Int)=>[])(fun(q:Nat×Int×Int)=>(q.1≤l.length)∧((q.2.1,q.2.2)=(l.take q.1).foldl Kw(0,0))∧(0≤q.2.1)∧(q.2.1≤(q.1:Int))∧(-1≤q.2.2)∧(q.2.2≤1))(fun(q:Nat×Int×Int)=>l.length-q.1)(0,0,0)⟨by first | omega | (dsimp only<;>omega),by simp,Int.le_refl _,Int.le_refl _,by decide,by decide⟩K4 K2 ?_
 rintro⟨i,n,m⟩⟨hi,hc,hn0,hn1,hm0,hm1⟩
 dsimp only at hi hc hn0 hn1 hm0 hm1
 simp only [List.cons_append,List.nil_append]
 have hx:=hl i
 refine Zb<|Zb<|Zg<|mv J J<|mv J J<|dt(Ya J J(i:=1)J Zi Nx)J<|dt(Xw J J J)J<|Zf<|Za<|Zp J(fun h74=>?_)(fun h74=>?_)
 ·refine Zk<|Za<|Zb<|Zl<|Zb<|Zb<|Zg<|mv J J<|mv J J<|dt(Yw(ii:=1)J J J J Zi Nx zT3 J(by first | omega | (simp only [List.length_set];omega)))J<|dt(Xn(ii:=1)0 J J J Zi pZ(by first | omega | (simp only [List.length_set];omega)))J<|mv J J<|dt(Gi J J J(mul_r hx.1 hx.2 hm0 hm1))J<|dt(Xw J J J)J<|Zf<|Za<|Zp J(fun h75=>?_)(fun h75=>?_)
  ·refine Zg<|mv J J<|dt(Ys J J J⟨by omega,by omega⟩)J<|as_ J J<|Zf<|Za<|Zb<|Zg<|mv J J<|mv J J<|dt(Yw(ii:=1)J J J J Zi Nx zT3 J(by first | omega | (simp only [List.length_set];omega)))J<|dt(Xn(ii:=1)0 J J J Zi pZ(by first | omega | (simp only [List.length_set];omega)))J<|dt(Qe J J J)J<|Zf<|Za<|Zp J(fun h78=>?_)(fun h78=>?_)
   ·refine Zg<|mv J J<|mv J J<|dt(Yw(ii:=1)J J J J Zi Nx zT3 J(by first | omega | (simp only [List.length_set];omega)))J<|dt(Xn(ii:=1)0 J J J Zi pZ(by first | omega | (simp only [List.length_set];omega)))J<|as_ J J<|Zf<|Px<|Za<|Zg<|mv J J<|dt(Ys J J J⟨by omega,by omega⟩)J<|as_ J J<|Zf ?_
    have hst:=Ax(l:=l)(i:=i)(by omega)hc
    exact Xl(i+1,_,_)⟨by first | omega | (dsimp only<;>omega),by dsimp only;rw [hst];first | exact(Zwd hm0 hm1 hx.1 hx.2(by assumption)(by assumption)).symm | exact(Zwc hm0 hm1 hx.1 hx.2(by assumption)(by assumption)).symm | exact(Zwb hm0 hm1 hx.1 hx.2(by assumption)(by assumption)).symm | exact(Zwa hm0 hm1 hx.1 hx.2(by assumption)(by assumption)).symm,by dsimp only;omega,by dsimp only;omega,by first | exact hx.1 | exact hm0,by first | exact hx.2 | exact hm1⟩(by first | omega | (dsimp only<;>omega))K4 K2
   ·refine Zk<|Px<|Za<|Zg<|mv J J<|dt(Ys J J J⟨by omega,by omega⟩)J<|as_ J J<|Zf ?_
    have hst:=Ax(l:=l)(i:=i)(by omega)hc
    exact Xl(i+1,_,_)⟨by first | omega | (dsimp only<;>omega),by dsimp only;rw [hst];first | exact(Zwd hm0 hm1 hx.1 hx.2(by assumption)(by assumption)).symm | exact(Zwc hm0 hm1 hx.1 hx.2(by assumption)(by assumption)).symm | exact(Zwb hm0 hm1 hx.1 hx.2(by assumption)(by assumption)).symm | exact(Zwa hm0 hm1 hx.1 hx.2(by assumption)(by assumption)).symm,by dsimp only;omega,by dsimp only;omega,by first | exact hx.1 | exact hm0,by first | exact hx.2 | exact hm1⟩(by first | omega | (dsimp only<;>omega))K4 K2
  ·refine Zk<|Za<|Zb<|Zg<|mv J J<|mv J J<|dt(Yw(ii:=1)J J J J Zi Nx zT3 J(by first | omega | (simp only [List.length_set];omega)))J<|dt(Xn(ii:=1)0 J J J Zi pZ(by first | omega | (simp only [List.length_set];omega)))J<|dt(Qe J J J)J<|Zf<|Za<|Zp J(fun h78_2=>?_)(fun h78_2=>?_)
   ·refine Zg<|mv J J<|mv J J<|dt(Yw(ii:=1)J J J J Zi Nx zT3 J(by first | omega | (simp only [List.length_set];omega)))J<|dt(Xn(ii:=1)0 J J J Zi pZ(by first | omega | (simp only [List.length_set];omega)))J<|as_ J J<|Zf<|Px<|Za<|Zg<|mv J J<|dt(Ys J J J⟨by omega,by omega⟩)J<|as_ J J<|Zf ?_
    have hst:=Ax(l:=l)(i:=i)(by omega)hc
    exact Xl(i+1,_,_)⟨by first | omega | (dsimp only<;>omega),by dsimp only;rw [hst];first | exact(Zwd hm0 hm1 hx.1 hx.2(by assumption)(by assumption)).symm | exact(Zwc hm0 hm1 hx.1 hx.2(by assumption)(by assumption)).symm | exact(Zwb hm0 hm1 hx.1 hx.2(by assumption)(by assumption)).symm | exact(Zwa hm0 hm1 hx.1 hx.2(by assumption)(by assumption)).symm,by dsimp only;omega,by dsimp only;omega,by first | exact hx.1 | exact hm0,by first | exact hx.2 | exact hm1⟩(by first | omega | (dsimp only<;>omega))K4 K2
   ·refine Zk<|Px<|Za<|Zg<|mv J J<|dt(Ys J J J⟨by omega,by omega⟩)J<|as_ J J<|Zf ?_
    have hst:=Ax(l:=l)(i:=i)(by omega)hc
    exact Xl(i+1,_,_)⟨by first | omega | (dsimp only<;>omega),by dsimp only;rw [hst];first | exact(Zwd hm0 hm1 hx.1 hx.2(by assumption)(by assumption)).symm | exact(Zwc hm0 hm1 hx.1 hx.2(by assumption)(by assumption)).symm | exact(Zwb hm0 hm1 hx.1 hx.2(by assumption)(by assumption)).symm | exact(Zwa hm0 hm1 hx.1 hx.2(by assumption)(by assumption)).symm,by dsimp only;omega,by dsimp only;omega,by first | exact hx.1 | exact hm0,by first | exact hx.2 | exact hm1⟩(by first | omega | (dsimp only<;>omega))K4 K2
 ·exact Yu<|Zt<|Zt<|Ov<|Za<|Zb<|Zg<|mv J J<|as_ J J<|Zf<|Za<|Zw<|Zy(.inl J)hsc()_(fun a w hs=>Qi hs Tryz.results188 J)(by unfold chg;rw [show l=l.take i by rw [List.take_of_length_le(by omega)],←hc]<;>rfl)trivial J Zj
theorem r3_at(v w u:Value)(ls:List(SL×List(Int×SL)))(x y:Int)(hz:∀z∈ls,Vp(Zs z.2))(hx:bl x.natAbs≤1000000)(hy:bl y.natAbs≤1000000)(hlen:ls.length≤30):Cal Tryz.prog 167#[v,.agg#[.bool(decide(x<0)),w,.bool(decide(y<0)),u]] [Ai 1 Ba qT v ls,d9p w x.natAbs,d9p u y.natAbs]false(G:=Unit)(fun _=>True)(fun _=> .int .i64(chg((Bi ls).map(fat x y))))(fun _=>[]):=by
 refine Yc Tryz.func167 J Tryz.ntmps167 J K3 ?_
 intro w0 sc hw hsc
 simp only [Zo,Zn]
 have hLl:((Bi ls).map(fat x y)).length=ls.length:=by simp
 have hLg:=fun i(h:i<ls.length)=>Zsz(z:=ls)rfl(fat x y)h
 refine Zb<|Zg<|tt(Xh(i:=4)J J J J J J hw)J fun b _=>as_ J J<|Zf<|Za<|Zb<|Zg<|as_ J J<|Zf<|Za<|Zb<|Zb<|Zg<|as_ J J<|Zf<|Za<|Zl<|Yn(Nl 70 1 3 Am)<|Nt [(0,_),(3,_)] [(0,_),(1,_),(2,_),(3,_),(4,_)](fun(q:Nat×Value)=>[(6,.int .i64(q.1:Int)),(5,q.2)])(fun(q:Nat×Value)=>[(70,osl 1 3 Am q.2(((Bi ls).map(fat x y)).take q.1))])(fun(q:Nat×Value)=>q.1≤ls.length)(fun(q:Nat×Value)=>ls.length-q.1)(0,.slice none 0 0)(by first | omega | (dsimp only<;>omega))K4 K6 ?_
 rintro⟨i,vo⟩hi
 dsimp only at hi
 simp only [List.cons_append,List.nil_append]
 have htl:(((Bi ls).map(fat x y)).take i).length=i:=by rw [List.length_take];omega
 refine Zb<|Zb<|Zg<|mv J J<|mv J J<|dt(Ya J J(i:=1)J Zx Zqi)J<|dt(Xw J J J)J<|Zf<|Za<|Zp J(fun h88=>?_)(fun h88=>?_)
 ·refine Zk<|Za<|Zb<|Zl ?_
  have hvi:=hz(ls.getD i T0)(Yv(by omega))
  have hvl:=hvi.len
  rw [Zu]at hvl
  refine Yn(Zfz 1 91(ls.getD i T0)J J(Yv(by omega))J)<|On [1,4] [10](by kernel_rfl)<|Zz(n:=0) [(0,0),(1,0),(2,0),(3,0),(4,0),(5,0),(6,1),(7,1),(8,1),(9,1),(10,3)](by kernel_rfl)<|r0' J J J J(stf(Ym J J)K2)<|r0' J J J J(stf(Ym J J)K2)<|r0' J J J J(stf(Ym J J)K2)<|r0' J J J J(stf(Yw(ii:=1)J J J J Zx Zqi zT34 J(by first | omega | (simp only [List.length_set];omega)))K2)<|r0' J J J J(stf(Xn(ii:=1)T0 J J J Zx pT(by first | omega | (simp only [List.length_set];omega)))K2)<|r0' J J J J(stf(Xj(i:=4)J J J iA50 zT50 J J J J)K2)<|r1' J J(Zh(n:=5)(rp_eval _ _ _ _ x y(hvi.sz.mono(by omega))(by omega)hx hy)J J J K2 cF121(Zd 91 J J J(Zd 2 J J J(Zd 3 J J J Ze)))J hw)fun v _=>r1' J J(Zh(n:=5)(Zah _ _(by have:=ev_b(hvi.sz.mono(by omega):Sz 1000000 _)(by have:=hvi.len;omega)hx hy;omega))J J J K1 Zx1(Zd 5 J J J Ze)J hw)fun _ _=>r1' J J(Pr(i:=6)(ivs:=[(0,_)])(enc:=Am) [(fat x y(Zs(ls.getD i T0).2))]J J J K2 Nx Tryz.ti3 J J J J J J pZ.cells J J hw)(fun v_2 _=>?_)
  exact r1' J J(Zd2 70 J J J K2(fun hoffr=>(Bs(i:=70)(j:=6)(by_:=8)J J J J J J(by decide)J(Yo pZ)Nx Tryz.ti3 J pZ J J J(by rw [htl];simp;omega)(by decide)J hw hoffr)))fun v_3 _=>r3' J J(Pz(Kc J J)J J)fun _ _=>Yp<|Yj(by kernel_rfl)<|Px<|Za<|Zg<|mv J J<|dt(Ys J J J⟨by omega,by omega⟩)J<|as_ J J<|Zf<|Xl(i+1,_)(by first | omega | (dsimp only<;>omega))(by first | omega | (dsimp only<;>omega))K4⟨by rw [Oe 0 _ _(by omega),hLg i(by omega)];rfl,rfl,rfl,rfl,rfl,rfl,trivial⟩
 ·refine Yu<|Zt<|Zt<|Ov<|Za<|Zb<|Yn(Pe 70 J J pZ) ?_
  have htk:((Bi ls).map(fat x y)).take i=((Bi ls).map(fat x y)):=List.take_of_length_le(by omega)
  exact Zg<|mv J J<|tt(Zh(n:=6)(Zwf _ _(fun i=>by rw [htk];by_cases hi9:i<ls.length;(rw [hLg i hi9];exact fat_r _ _ _);(rw [show((Bi ls).map(fat x y)).getD i 0=0 from Qf(by omega)];decide))(by omega))J J J K1 cF188(Zd 70 J J J Ze)J hw)J fun _ _=>as_ J J<|Zf<|Za<|Zw<|Zy(.inl J)hsc()_(fun a w hs=>Qi hs Tryz.results167 J)(by rw [htk])trivial J Zj
theorem r3_count(v w u w2 u2:Value)(zs:List(Int×SL))(x y x2 y2:Int)(hv:Vp(Zs zs))(h0:zs.length≠0)(hs:Sz 260(Zs zs))(hl:zs.length≤8)(hx:bl x.natAbs≤1000000)(hy:bl y.natAbs≤1000000)(hx2:bl x2.natAbs≤1000000)(hy2:bl y2.natAbs≤1000000):Cal Tryz.prog 122#[v,.agg#[.bool(decide(x<0)),w,.bool(decide(y<0)),u],.agg#[.bool(decide(x2<0)),w2,.bool(decide(y2<0)),u2]] [pp v zs,d9p w x.natAbs,d9p u y.natAbs,d9p w2 x2.natAbs,d9p u2 y2.natAbs]false(G:=Unit)(fun _=>True)(fun _=> .int .i64(cnt 13(Zs zs)x y-cnt 13(Zs zs)x2 y2))(fun _=>[]):=by
 refine Yc Tryz.func122 J Tryz.ntmps122 J K5 ?_
 intro w0 sc hw hsc
 simp only [Zo,Zn]
 have hli:=Zu zs
 have hne:Zs zs≠[]:=fun e=>h0(by rw [←hli,e];rfl)
 obtain⟨hC,hq,hql⟩:=ch13r hv.tr hne hs(by omega)
 refine Zb<|Zg<|tt(Xh(i:=6)J J J J J J hw)J fun b _=>tt(Xh(i:=7)J J J J J J hw)J fun b_2 _=>as_ J J<|Zf<|Za<|Zb<|Zg<|mv J J<|tt(Zh(n:=8)(Zwg _ _ hv h0 hs hl)J J J K1 cF166(Zd 1 J J J Ze)J hw)J fun g hg=>as_ J J<|Zf<|Za<|Zb ?_
 have hT:Bi g.2=chn 13(Zs zs):=hg
 have hTl:=Zs0 hT
 have hll:(chn 13(Zs zs)).length≤_:=Eu 13 _ _
 have hr1:=Cj((Bi g.2).map(fat x y))
 have hr2:=Cj((Bi g.2).map(fat x2 y2))
 simp only [List.length_map]at hr1 hr2
 have hVz:∀z∈g.2,Vp(Zs z.2):=fun z hz=>vp_chn hv hne hC _(by rw [←hT];exact List.mem_map_of_mem(f:=fun z=>Zs z.2)hz)
 refine Qr(fun _=>False) [(0,0),(1,0),(3,0),(4,0),(2,1),(5,1),(6,0),(7,3)](by kernel_rfl) ?_ ?_
 ·kernel_rfl
 exact r0' J J J J(st0(Ym J J))<|r0' J J J J(st0(Xj(i:=6)J J J iA50 zT50 J J J J))<|r0' J J J J(st0(Ym J J))<|r0' J J J J(st0(Xj(i:=7)J J J iA50 zT50 J J J J))<|r1' J J(Zh(n:=8)(r3_at _ _ _ _ x y hVz hx hy(by omega))J J J K2 cF167(Zd 8 J J J(Zd 2 J J J(Zd 3 J J J Ze)))J hw)fun _ _=>r1' J J(Zh(n:=8)(r3_at _ _ _ _ x2 y2 hVz hx2 hy2(by omega))J J J K2 cF167(Zd 8 J J J(Zd 4 J J J(Zd 5 J J J Ze)))J hw)fun _ _=>r0' J J J J(st0(Qb J J J⟨by omega,by omega⟩))<|r3' J J(Pz(Kc J J)J J)fun _ _=>Oj<|Za<|Zw<|Zy(.inl J)hsc()_(fun a w hs=>Qi hs Tryz.results122 J)(by rw [hT]<;>rfl)trivial J Zj
end Go.Sky
namespace Go.Sky
open Go.Proofs
set_option maxRecDepth 20000
set_option maxHeartbeats 4000000
set_option linter.unusedVariables false
set_option linter.unusedSimpArgs false
theorem r4_fits(v:Value)(m:Nat)(zs:List(Int×SL))(hs:Sz 1000000(Zs zs))(hl:zs.length≤30)(hm:m≤1000):Cal Tryz.prog 15#[v,.int .i64(m:Int)] [pp v zs]false(G:=Unit)(fun _=>True)(fun _=> .bool(decide(Bk(Zs zs)m)))(fun _=>[]):=by
 refine Yc Tryz.func15 J Tryz.ntmps15 J K1 ?_
 intro w0 sc hw hsc
 simp only [Zo,Zn]
 have hli:=Zu zs
 have hmz:=Pp hs
 have q1:(zs.length+2)*(zs.length+2)≤32*32:=Nat.mul_le_mul(by omega)(by omega)
 have q2:(zs.length+2)*(zs.length+2)*(msz(Zs zs)+m+2*(zs.length-1)+32)≤32*32*1002100:=Nat.mul_le_mul q1(by omega)
 have q3:((zs.length:Int)-1+3)*((zs.length:Int)-1+3)=(((zs.length+2)*(zs.length+2):Nat):Int):=by rw [show(zs.length:Int)-1+3=((zs.length+2:Nat):Int)by omega];push_cast;rfl
 have q4:zs.length≠0→((zs.length:Int)-1+3)*((zs.length:Int)-1+3)*((msz(Zs zs):Int)+(m:Int)+2*((zs.length:Int)-1)+32)=(((zs.length+2)*(zs.length+2)*(msz(Zs zs)+m+2*(zs.length-1)+32):Nat):Int):=fun h=>by rw [q3,show(msz(Zs zs):Int)+(m:Int)+2*((zs.length:Int)-1)+32=((msz(Zs zs)+m+2*(zs.length-1)+32:Nat):Int)by omega];push_cast;rfl
 refine Zb<|Zg<|as_ J J<|Zf<|Za<|Zb<|Zg<|mv J J<|dt(Ya J J(i:=1)J Zx Nd)J<|dt(Qb J J J⟨by omega,by omega⟩)J<|as_ J J<|Zf<|Za<|Zb<|Zg<|mv J J<|dt(Ya J J(i:=1)J Zx Nd)J<|dt(Pm J J J)J<|mv J J<|Pa(d:=12)J(fun s23=>?_)(fun s23=>?_)
 ·exact gsk J J J J J<|gsk J J J J J<|gsk J J J J J<|gsk J J J J J<|gsk J J J J J<|gsk J J J J J<|gsk J J J J J<|gsk J J J J J<|gsk J J J J J<|gsk J J J J J<|gsk J J J J J<|gsk J J J J J<|gsk J J J J J<|gsk J J J J J<|gsk J J J J J<|dt(Xi J J J)J<|as_ J J<|Zf<|Za<|Zw<|Zy(.inl J)hsc()_(fun a w hs=>Qi hs Tryz.results15 J)(by first | exact Zvy(xs:=Zs zs)(by omega) | (rw [q4(by omega),←hli];exact Zvz(xs:=Zs zs)(by omega)rfl))trivial J Zj
 ·exact gdt(Ym J J)J J J J<|gdt(Ys J J J⟨by omega,by omega⟩)J J J J<|gdt(Ym J J)J J J J<|gdt(Ys J J J⟨by omega,by omega⟩)J J J J<|gdt(Gi J J J(by rw [q3];exact⟨by omega,by omega⟩))J J J J<|gdt(Ym J J)J J J J<|gtt(Zh(n:=1)(rp_bits _ _(hs.mono(by omega))(by omega))J J J K1 cF52(Zd 1 J J J Ze)J hw)J J J J fun _ _=>gdt(Ym J J)J J J J<|gdt(Ys J J J⟨by omega,by omega⟩)J J J J<|gdt(Ym J J)J J J J<|gdt(Gi J J J⟨by omega,by omega⟩)J J J J<|gdt(Ys J J J⟨by omega,by omega⟩)J J J J<|gdt(Ys J J J⟨by omega,by omega⟩)J J J J<|gdt(Gi J J J(by rw [q4(by omega)];exact⟨by omega,by omega⟩))J J J J<|gdt(Dl J J J)J J J J<|dt(Yh J J J)J<|as_ J J<|Zf<|Za<|Zw<|Zy(.inl J)hsc()_(fun a w hs=>Qi hs Tryz.results15 J)(by first | exact Zvy(xs:=Zs zs)(by omega) | (rw [q4(by omega),←hli];exact Zvz(xs:=Zs zs)(by omega)rfl))trivial J Zj
set_option maxHeartbeats 4000000 in
theorem Zlb(xs:List Int)(hd:Cvd xs)(hx0:xs≠[])(f:Nat)(ih:∀(v:Value)(zs:List(Int×SL))(hI:RI xs(Zs zs))(hf:zs.length≤f),Cal Tryz.prog 19#[v] [pp v zs]true(G:=Value×List(Int×SL))(fun r=>Zs r.2=Zje 13 f(Zs zs))(fun r=>r.1)(fun r=>[pp r.1 r.2]))(v:Value)(zs:List(Int×SL))(hI:RI xs(Zs zs))(hf:zs.length≤f+1):Cal Tryz.prog 19#[v] [pp v zs]true(G:=Value×List(Int×SL))(fun r=>Zs r.2=Zje 13(f+1)(Zs zs))(fun r=>r.1)(fun r=>[pp r.1 r.2]):=by
 refine Yc Tryz.func19 J Tryz.ntmps19 J K1 ?_
 intro w0 sc hw hsc
 simp only [Zo,Zn]
 have hli:=Zu zs
 have hIl:=hI.l
 have hz0:zs.length≠0:=fun e=>hI.ne(List.eq_nil_of_length_eq_zero(by omega))
 refine Zb<|Zg<|as_ J J<|Zf<|Za<|Zb<|Zg<|mv J J<|tt(Zh(n:=2)(Zrl _ _ hI.v hz0(hI.s.mono(by omega))(by omega))J J J K1 cF54(Zd 1 J J J Ze)J hw)J(fun g hg=>?_)
 have H_on:Zs g.2=(sqf 13(Zs zs)):=hg
 have hl_on:=congrArg List.length H_on
 rw [Zu]at hl_on
 refine as_ J J<|Zf<|Za<|Zb<|Zb<|Zg<|mv J J<|dt(Ya J J(i:=2)J Zx Nd)J<|dt(Pm J J J)J<|Zf<|Za<|Zp J(fun h29=>?_)(fun h29=>?_)
 ·have h1:(sqf 13(Zs zs)).length=1:=by omega
  exact Zb<|Zg<|mv J J<|as_ J J<|Zf<|Za<|Zw<|Xe<|Zy(.inl J)hsc(_,g.2)_(fun a w hs=>Qi hs Tryz.results19 J)J(by rw [H_on,rodd_1 h1])J(Xa 2 J J J Zj)
 ·have h1:(sqf 13(Zs zs)).length≠1:=by omega
  obtain⟨c1,c2,c3,c4,c5,c6,c7,c8,c9,c10,c11,c12,c13,c14,c15,c16,c17,c18,c19,c20,c21,c22,c23,c24,c25⟩:=RI.step hd hx0 hI
  have m6:=Pp c6
  have m12:=Pp c12
  have hl_lfp:=Yi(Zs zs)
  refine Zk<|Za<|Zb<|Zg<|mv J J<|tt(Zh(n:=3)(Ks _ _(hI.s.mono(by omega))(by omega)(fun _=>c5))J J J K1 cF57(Zd 1 J J J Ze)J hw)J(fun g_2 hg_2=>?_)
  have H_pp:Zs g_2.2=Yx(Zs zs):=hg_2
  have hl_pp:=congrArg List.length H_pp
  rw [Zu]at hl_pp
  refine tt(Zh(n:=4)(Zjj 1⟨by decide,by decide⟩)J J J K1 cF34 Ze J hw)J fun v _=>tt(Zh(n:=5)(Zae _ _ _ _(by rw [H_pp];exact(Ha hI.s).mono(by omega))(by omega)(by decide +kernel))J J J K2 cF56(Zd 3 J J J(Zd 4 J J J Ze))J hw)J(fun g_3 hg_3=>?_)
  have H_sc:Zs g_3.2=Xk(Yx(Zs zs))1:=by rw [hg_3,H_pp]
  have hl_sc:=congrArg List.length H_sc
  rw [Zu]at hl_sc
  refine mv J J<|tt(Zh(n:=6)(Zaf _ _ _ _(by omega)(by omega)(by omega)(by rw [H_sc];exact c7)(by rw [H_on];exact c1)(fun _=>by rw [H_sc,H_on];have h7:=Nat.mul_le_mul(show g_3.2.length-g.2.length+1≤8 by omega)(show msz(sqf 13(Zs zs))+1≤331 by omega);omega))J J J K2 cF55(Zd 5 J J J(Zd 2 J J J Ze))J hw)J(fun g_4 hg_4=>?_)
  have H_lf:Zs g_4.2=Mo 13(Zs zs):=by have h9:=hg_4(by rw [H_sc,H_on];exact c9);rw [H_sc,H_on]at h9;exact h9
  have hl_lf:=congrArg List.length H_lf
  rw [Zu]at hl_lf
  refine mv J J<|dt(Yg J J J)J<|dt(Yg J J J)J<|as_ J J<|as_ J J<|Zf<|Za<|Zb<|Zg<|mv J J<|tt(Zh(n:=7)(Zrl _ _(by rw [H_lf];exact c10)(fun e=>c11(List.eq_nil_of_length_eq_zero(by rw [←H_lf,Zu];exact e)))(by rw [H_lf];exact c12.mono(by omega))(by omega))J J J K1 cF54(Zd 6 J J J Ze)J hw)J(fun g_5 hg_5=>?_)
  have H_tw:Zs g_5.2=(sqf 13(Mo 13(Zs zs))):=by rw [hg_5,H_lf]
  have hl_tw:=congrArg List.length H_tw
  rw [Zu]at hl_tw
  refine as_ J J<|Zf<|Za<|Zb<|Zg<|mv J J<|mv J J<|tt(Zh(n:=8)(Zaf _ _ _ _(by omega)(by omega)(by omega)(by rw [H_on];exact c1)(by rw [H_tw];exact c16)(fun _=>by rw [H_on,H_tw];have h7:=Nat.mul_le_mul(show g.2.length-g_5.2.length+1≤8 by omega)(show msz(sqf 13(Mo 13(Zs zs)))+1≤331 by omega);omega))J J J K2 cF55(Zd 2 J J J(Zd 7 J J J Ze))J hw)J(fun g_6 hg_6=>?_)
  have H_ol:Zs g_6.2=Kl(sqf 13(Zs zs))(sqf 13(Mo 13(Zs zs))):=by have h9:=hg_6(by rw [H_on,H_tw];exact c20);rw [H_on,H_tw]at h9;exact h9
  have hl_ol:=congrArg List.length H_ol
  rw [Zu]at hl_ol
  refine mv J J<|dt(Yg J J J)J<|dt(Yg J J J)J<|as_ J J<|as_ J J<|Zf<|Za<|Zb<|Zg<|mv J J<|tt(Zh(n:=9)(Ks _ _(by rw [H_lf];exact c12.mono(by omega))(by omega)(fun _=>by rw [H_lf];exact c14))J J J K1 cF57(Zd 6 J J J Ze)J hw)J(fun g_7 hg_7=>?_)
  have H_p2:Zs g_7.2=(Mo 13(Zs zs)):=by rw [hg_7,H_lf,c15]
  have hl_p2:=congrArg List.length H_p2
  rw [Zu]at hl_p2
  refine mv J J<|tt(Zh(n:=10)(Zaf _ _ _ _(by omega)(by omega)(by omega)(by rw [H_p2];exact c10.tr)(by rw [H_tw];exact c16)(fun _=>by rw [H_p2,H_tw];have h7:=Nat.mul_le_mul(show g_7.2.length-g_5.2.length+1≤8 by omega)(show msz(sqf 13(Mo 13(Zs zs)))+1≤331 by omega);omega))J J J K2 cF55(Zd 9 J J J(Zd 7 J J J Ze))J hw)J(fun g_8 hg_8=>?_)
  have H_rs:Zs g_8.2=Bw 13(Zs zs):=by have h9:=hg_8(by rw [H_p2,H_tw];exact c23);rw [H_p2,H_tw]at h9;exact h9.trans(by unfold Bw;rw [c15])
  have hl_rs:=congrArg List.length H_rs
  rw [Zu]at hl_rs
  refine mv J J<|dt(Yg J J J)J<|dt(Yg J J J)J<|as_ J J<|as_ J J<|Zf<|Za<|Zb<|Zg<|mv J J<|mv J J<|tt(Zh(n:=11)(ih _ _(by rw [H_rs];exact c24)(by have:=c25 h1;omega))J J J K1 cF19(Zd 10 J J J Ze)J hw)J(fun g_9 hg_9=>?_)
  have hl_od:=congrArg List.length hg_9
  rw [Zu,H_rs]at hl_od
  obtain⟨q1,q2,q3⟩:=RI.size hd hx0 c24(f:=f)(by have:=c25 h1;omega)
  exact tt(Zh(n:=12)(rp_mul _ _ _ _(by rw [H_ol];exact c21.mono(by omega))(by omega)(by rw [hg_9,H_rs];exact q2.mono(by omega))(by omega))J J J K2 cF42(Zd 8 J J J(Zd 11 J J J Ze))J hw)J fun g_10 hg_10=>as_ J J<|Zf<|Za<|Zw<|Zy(.inl J)hsc _ _(fun a w hs=>Qi hs Tryz.results19 J)J(by rw [hg_10,H_ol,hg_9,H_rs];exact(rodd_s h1).symm)J(Xa 12 J J J Zj)
end Go.Sky
namespace Go.Sky
open Go.Proofs
set_option linter.unusedVariables false
theorem Zf3(xs:List Int)(hd:Cvd xs)(hx0:xs≠[]):∀(f:Nat)(v:Value)(zs:List(Int×SL))(hI:RI xs(Zs zs))(hf:zs.length≤f),Cal Tryz.prog 19#[v] [pp v zs]true(G:=Value×List(Int×SL))(fun r=>Zs r.2=Zje 13 f(Zs zs))(fun r=>r.1)(fun r=>[pp r.1 r.2])
 | 0,v,zs,hI,hf=>absurd(List.eq_nil_of_length_eq_zero(by rw [Zu];omega))hI.ne
 | f+1,v,zs,hI,hf=>Zlb xs hd hx0 f(Zf3 xs hd hx0 f)v zs hI hf
theorem r4_odd(v:Value)(zs:List(Int×SL))(hd:Cvd(Zs zs))(h0:zs.length≠0):Cal Tryz.prog 19#[v] [pp v zs]true(G:=Value×List(Int×SL))(fun r=>Zs r.2=Fd(Zs zs))(fun r=>r.1)(fun r=>[pp r.1 r.2]):=by
 have hne:Zs zs≠[]:=fun e=>h0(by rw [←Zu,e];rfl)
 have h:=Zf3(Zs zs)hd hne zs.length v zs(RI.start hd hne)(Nat.le_refl _)
 rw [←Zu zs,Zrc hd hne]at h
 exact h
end Go.Sky
namespace Go.Sky
set_option linter.unusedVariables false
theorem sm_dec {r:RWL} (h:smR r=true)(hok:okP r=true):Cvd(dec r)∧Sz 32(dec r)∧(dec r).length=r.length:=by
 obtain⟨h1,h2⟩:=smR_le h
 obtain⟨h3,h4⟩:=Ze1 hok
 have h5:=congrArg List.length h4
 rw [List.length_map]at h5
 have hs:Sz 32(dec r):=Sz.of_mem fun c hc=>by
  have h6:=h2(wr c)(by rw [h4];exact List.mem_map_of_mem hc)
  exact Zur 4 h6
 exact⟨⟨h3,hs.mono(by omega),by omega⟩,hs,h5.symm⟩
noncomputable def odR(r:RWL):List Int×Int:=if okP r=true then(if(dec r).length=0 then([],3)else(Fd(dec r),0))else([],2)
theorem Zr6 {r:RWL} (h:okP r=false):odR r=([],2):=by unfold odR;rw [if_neg(by rw [h];decide)]
theorem Zll {r:RWL} (h:okP r=true)(h0:(dec r).length=0):odR r=([],3):=by unfold odR;rw [if_pos h,if_pos h0]
theorem Zr5 {r:RWL} (h:okP r=true)(h0:(dec r).length≠0):odR r=(Fd(dec r),0):=by unfold odR;rw [if_pos h,if_neg h0]
theorem slp_nil {α:Type} {k:Nat} {enc:α→Value} (w:World):(slp k enc(.slice none 0 0)([]:List α)).holds w:=⟨⟨_,_,rfl,Nat.le_refl _,Nat.zero_le _,.inl rfl⟩,fun b h=>by cases h⟩
theorem Cal.nilres {P:Program} {f:FuncId} {args:Array Value} {pre:List Pc} {e:Int} (h:Cal P f args pre false(G:=Unit)(fun _=>True)(fun _=> .tuple#[.slice none 0 0,.int .i64 e])(fun _=>[])) :
  Cal P f args pre true(G:=Value)(fun _=>True)(fun g=> .tuple#[g,.int .i64 e])(fun g=>[slp 2 wv g []]):=fun w hp=>
 (h w hp).mono fun e' w'⟨_,he,_,hb,_⟩=>⟨.slice none 0 0,he,trivial,hb,fun p hp=>by
  rw [List.mem_singleton.1 hp];exact⟨slp_nil w',rfl,fun b hb=>by cases hb⟩⟩
end Go.Sky
namespace Go.Sky
open Go.Proofs
theorem Bu(v:Value)(r:List(Bool×ByteArray)):Cal Tryz.prog 14#[v] [slp 2 Zgh v r]false(G:=Unit)(fun _=>True)(fun _=> .bool(okP r && decide(Bk(dec r)0)))(fun _=>[]):=by
 by_cases h:okP r=true
 ·rw [h,Bool.true_and]
  exact Cal.imp(Zhe v(dec r)(Ze1 h).1)(Zg6 h v)(fun _ h=>h)
 ·have h:okP r=false:=by simpa using h
  rw [h,Bool.false_and];exact Zja v r h
theorem Zej(v:Value)(r:List(Bool×ByteArray))(hok:okP r=true):Cal Tryz.prog 16#[v] [slp 2 Zgh v r]true(G:=Value×List(Int×SL))(fun q=>Zs q.2=dec r)(fun q=>q.1)(fun q=>[pp q.1 q.2]):=
 Cal.imp(rp_from v(dec r)((Ze1 hok).1.sz.mono(by omega))(by have:=(Ze1 hok).1.len;omega))(Zg6 hok v)(fun _ h=>h)
theorem Zpb(v:Value)(r:List(Bool×ByteArray))(hs:smR r=true):Cal Tryz.prog 12#[v] [slp 2 Zgh v r]true(G:=Value)(fun _=>True)(fun g=> .tuple#[g,.int .i64(odR r).2])(fun g=>[slp 2 wv g(odR r).1]):=by
 by_cases h:okP r=true
 ·obtain⟨hd,-,hl⟩:=sm_dec hs h
  by_cases h0:(dec r).length=0
  ·rw [Zll h h0]
   exact Cal.imp(Zk0 v(dec r)hd.v h0).nilres(Zg6 h v)(fun _ h=>h)
  ·rw [Zr5 h h0]
   exact Cal.imp(Zhb v(dec r)hd(fun e=>h0(by rw [e];rfl)))(Zg6 h v)(fun _ h=>h)
 ·have h:okP r=false:=by simpa using h
  rw [Zr6 h]
  exact(Zk1 v r h).nilres
end Go.Sky
namespace Go.Sky
open Go.Proofs
set_option maxRecDepth 20000
set_option maxHeartbeats 4000000
set_option linter.unusedVariables false
set_option linter.unusedSimpArgs false
set_option maxHeartbeats 4000000 in
theorem Zl0(v:Value)(r:List(Bool×ByteArray))(b:Int)(hs:smR r=false):Cal Tryz.prog 3#[v,.int .i64 b] [slp 2 Zgh v r]false(G:=Unit)(fun _=>True)(fun _=> .bool true)(fun _=>[]):=by
 refine Yc Tryz.func3 J Tryz.ntmps3 J K1 ?_
 intro w0 sc hw hsc
 simp only [Zo,Zn]
 exact Yn(Nl 999 2 31 wv)<|Yn(Pe 999 J J pV)<|Zb<|Zg<|as_ J J<|Zf<|Za<|Zb<|Zb<|Zg<|mv J J<|tt(Zh(n:=1)(Zgd _ _)J J J K1 cF10(Zd 1 J J J Ze)J hw)J fun _ _=>dt(Ye(r':= .bool true)(Xr J J)(congrArg Value.bool(by rw [hs];rfl)))J<|Zf<|Za<|Nm J<|Zb<|Zg<|tt(Zh(n:=1)(Cx)J J J trivial cF11 Ze J hw)J fun _ _=>as_ J J<|Zf<|Za<|Zw<|Xe<|Zy(.inl J)hsc()_(fun a w hs=>Qi hs Tryz.results3 J)J trivial J Zj
set_option maxHeartbeats 4000000 in
theorem Zlz(v:Value)(r:List(Bool×ByteArray))(b:Int)(hs:smR r=true):Cal Tryz.prog 3#[v,.int .i64 b] [slp 2 Zgh v r]false(G:=Unit)(fun _=>True)(fun _=> .bool true)(fun _=>[]):=by
 refine Yc Tryz.func3 J Tryz.ntmps3 J K1 ?_
 intro w0 sc hw hsc
 simp only [Zo,Zn]
 obtain⟨hr7,hr4⟩:=smR_le hs
 refine Yn(Nl 999 2 31 wv)<|Yn(Pe 999 J J pV)<|Zb<|Zg<|as_ J J<|Zf<|Za<|Zb<|Zb<|Zg<|mv J J<|tt(Zh(n:=1)(Zgd _ _)J J J K1 cF10(Zd 1 J J J Ze)J hw)J fun _ _=>dt(Ye(r':= .bool false)(Xr J J)(congrArg Value.bool(by rw [hs];rfl)))J<|Zf<|Za<|Yf J<|Zk<|Za<|Zb<|Zg<|mv J J<|tt(Zh(n:=2)(Zpb _ _ hs)J J J K1 cF12(Zd 1 J J J Ze)J hw)J fun _ _=>mv J J<|dt(Yg J J J)J<|dt(Yg J J J)J<|as_ J J<|as_ J J<|Zf<|Za<|Zb<|Zg<|mv J J<|Pt(Nl 3 2 31 Zgh)<|tt(Kq(i:=3)(j:=1)(by_:=24)J J J J J J(by decide)J Zi Qp Tryz.ti31 J pW J J J(by simp;omega)(by decide)J hw)J fun v _=>as_ J J<|Zf<|Za<|Dc [(0,_),(5,_),(6,_)] [(0,_),(1,_),(999,_),(2,_)](fun(_j:Unit)=>[])(fun(_j:Unit)=>[])(fun(_j:Unit)=>True)K3 K4 ?_ ?_
 ·refine Zb<|Zg<|mv J J<|dt(Lq J J J)J<|mv J J<|Pa(d:=22)J(fun s92=>?_)(fun s92=>?_)
  ·refine gdt(Ym J J)J J J J<|gdt(Dl J J J)J J J J<|dt(Xi J J J)J<|Zf<|Za<|Zp J(fun h92=>?_)(fun h92=>?_)
   ·obtain⟨n,rfl⟩:∃n:Nat,b=(n:Int)+1:=⟨(b-1).toNat,by omega⟩
    have h8:1*2^(n%8)<256:=by rw [Nat.one_mul];exact Nat.lt_of_lt_of_le(Nat.pow_lt_pow_right(by decide)(Nat.mod_lt n(by decide)))(by decide)
    refine Zb<|Zg<|mv J J<|dt(Ys J J J⟨by omega,by omega⟩)J<|dt(Zie J J J(by omega)(by omega)(by omega))J<|tt(Hk(i:=4)(n:=(n/8+1))(by_:=1)(enc:=Zp3)0 J J J J J(by omega)Zkq Tryz.ti5 J pB.cells pB.pos J J(by omega)(by decide)J hw)J fun v_2 _=>as_ J J<|Zf<|Za<|Zb<|Zg<|mv J J<|mv J J<|dt(Qb J J J⟨by omega,by omega⟩)J<|dt(Zka J J J(by omega)(by omega))J<|dt(d_shl8(m:=1)(n:=n%8)J J J(by omega)(by omega)h8)J<|dt(Yw(ii:=4)(i:=0)J J J J(Yo pB)Zkq zT5 J(by simp))J<|tt(Ky(i:=4)(enc:=Zp3)(1*2^(n%8))J J J J J J(by decide)pB(by simp)J hw)J fun _ _=>Zf<|Za<|Zb<|Zg<|mv J J<|mv J J<|dt(d_b2s J J(i:=4)J(Yo pB)Zkq uT9 uT5)J<|dt(Oo(ivs:=[(1,_)])J K2(fun a w hs=>b31_1((Zc J)a w hs)))J<|tt(Pr(i:=5)(ivs:=[(0,_)])(enc:=Zgh) [(false,⟨(((List.replicate(n/8+1)0).set 0(1*2^(n%8))).map(fun x:Nat=>UInt8.ofNat x)).toArray⟩)]J J J K2 Qp Tryz.ti31 J J J J J J pW.cells J J hw)J fun v_3 _=>tt(Kq(i:=3)(j:=5)(by_:=24)J J J J J J(by decide)J(Yo pW)Qp Tryz.ti31 J pW J J J(by simp;omega)(by decide)J hw)J fun v_4 _=>as_ J J<|Zf<|Za<|Zb ?_
    obtain⟨r1,hr1⟩:∃r1:RWL,[] ++ r ++ [(false,⟨(((List.replicate(n/8+1)0).set 0(1*2^(n%8))).map(fun x:Nat=>UInt8.ofNat x)).toArray⟩)]=r1:=⟨_,rfl⟩
    refine Yn(Zef 3 hr1 J J) ?_
    have hr9:r1.length≤9:=by rw [←hr1];simp;omega
    clear hr1
    refine Yn(Pe 3 J J pW)<|Zg<|mv J J<|tt(Zh(n:=5)(Zc7 _ _)J J J K1 cF13(Zd 3 J J J Ze)J hw)J fun _ _=>mv J J<|Ey(d:=44)J(fun s96=>?_)(fun s96=>?_)
    ·have hok1:okP r1=true:=s96
     exact gdt(Ym J J)J J J J<|gtt(Zh(n:=5)(Bu _ _)J J J K1 cF14(Zd 3 J J J Ze)J hw)J J J J fun _ _=>gdt(Ym J J)J J J J<|gtt(Zh(n:=6)(Zej _ _ hok1)J J J K1 cF16(Zd 3 J J J Ze)J hw)J J J J fun g hg=>gtt(Zh(n:=6)(r4_fits _ 0 _(by rw [hg];exact(Ze1 hok1).1.sz.mono(by omega))(by have h7:=congrArg List.length hg;rw [Zu]at h7;have:=(Ze1 hok1).1.len;omega)(by decide))J J J K2 cF15(Zd 6 J J J Ze)J hw)J J J J fun _ _=>gdt(Ye(r':= .bool false)(Zmb J J J uT4)(congrArg Value.bool(by rw [hg,hok1];simp)))J J J J<|dt(Xi J J J)J<|mv J J<|gdt(Ym J J)J J J J<|gtt(Zh(n:=6)(Zc7 _ _)J J J K1 cF13(Zd 3 J J J Ze)J hw)J J J J fun _ _=>gdt(Ye(r':= .bool false)(Xr J J)(congrArg Value.bool(by rw [hok1];rfl)))J J J J<|gdt(Ym J J)J J J J<|gsk J J J J J<|gsk J J J J J<|gdt(Yh J J J)J J J J<|dt(Yh J J J)J<|Zf<|Za<|Yf J<|Zk<|Qy()trivial K3 K4
    ·have hno1:okP r1=false:=s96
     refine gsk J J J J J<|gsk J J J J J<|gsk J J J J J<|gsk J J J J J<|gsk J J J J J<|gsk J J J J J<|dt(Yh J J J)J<|mv J J<|gdt(Ym J J)J J J J<|gtt(Zh(n:=6)(Zc7 _ _)J J J K1 cF13(Zd 3 J J J Ze)J hw)J J J J fun _ _=>gdt(Ye(r':= .bool true)(Xr J J)(congrArg Value.bool(by rw [hno1];rfl)))J J J J<|gdt(Ym J J)J J J J<|gdt(Ym J J)J J J J<|gtt(Zh(n:=6)(Bu _ _)J J J K1 cF14(Zd 3 J J J Ze)J hw)J J J J fun _ _=>gdt(Xi J J J)J J J J<|dt(Yh J J J)J<|Zf<|Za<|Mt J(fun h96=>?_)(fun h96=>?_)
     ·exfalso;rw [hno1,Bool.false_and]at h96;exact absurd h96(by decide)
     ·exact Zk<|Qy()trivial K3 K4
   ·exact Zk<|Qy()trivial K3 K4
  ·exact gsk J J J J J<|gsk J J J J J<|dt(Yh J J J)J<|Zf<|Za<|Yf J<|Zk<|Qy()trivial K3 K4
 ·rintro _j -
  simp only [List.cons_append,List.nil_append]
  refine Zb<|Zb<|Zg<|mv J J<|tt(Zh(n:=6)(Zc7 _ _)J J J K1 cF13(Zd 1 J J J Ze)J hw)J fun _ _=>dt(Xr J J)J<|Zf<|Za<|Mt J(fun h100=>?_)(fun h100=>?_)
  ·have hno:okP r=false:=by simpa using h100
   exact Zb<|Zg<|mv J J<|dt(Ya J J(i:=2)J Zi Qp)J<|dt(Ye(r':= .bool true)(Pm J J J)(congrArg Value.bool(by rw [Zr6 hno];rfl)))J<|mv J J<|gdt(Ym J J)J J J J<|gdt(Ye(r':= .bool true)(Pm J J J)(congrArg Value.bool(by rw [Zr6 hno];rfl)))J J J J<|dt(Xi J J J)J<|mv J J<|gdt(Ym J J)J J J J<|gtt(Zh(n:=6)(Bu _ _)J J J K1 cF14(Zd 1 J J J Ze)J hw)J J J J fun _ _=>gdt(Ye(r':= .bool true)(Xr J J)(congrArg Value.bool(by rw [hno];rfl)))J J J J<|dt(Xi J J J)J<|mv J J<|gtt(Zh(n:=6)(Cx)J J J trivial cF11 Ze J hw)J J J J fun _ _=>dt(Xi J J J)J<|as_ J J<|Zf<|Za<|Zw<|Xe<|Zy(.inl J)hsc()_(fun a w hs=>Qi hs Tryz.results3 J)J trivial J Zj
  ·have hok:okP r=true:=by simpa using h100
   obtain⟨hd,hs32,hlr⟩:=sm_dec hs hok
   refine Zk<|Za<|Zb<|Zb<|Zg<|mv J J<|dt(Ya J J(i:=1)J Zi Qp)J<|dt(Pm J J J)J<|Zf<|Za<|Zp J(fun h103=>?_)(fun h103=>?_)
   ·have h0:(dec r).length=0:=by omega
    exact Zb<|Zg<|mv J J<|dt(Ya J J(i:=2)J Zi Qp)J<|dt(Ye(r':= .bool true)(Pm J J J)(congrArg Value.bool(by rw [Zll hok h0];rfl)))J<|mv J J<|gdt(Ym J J)J J J J<|gdt(Ye(r':= .bool true)(Pm J J J)(congrArg Value.bool(by rw [Zll hok h0];rfl)))J J J J<|dt(Xi J J J)J<|mv J J<|gtt(Zh(n:=6)(Cx)J J J trivial cF11 Ze J hw)J J J J fun _ _=>dt(Xi J J J)J<|as_ J J<|Zf<|Za<|Zw<|Xe<|Zy(.inl J)hsc()_(fun a w hs=>Qi hs Tryz.results3 J)J trivial J Zj
   ·have h0:(dec r).length≠0:=by omega
    obtain⟨o1,o2,o3,o4,-⟩:=Zbz hd(fun e=>h0(by rw [e];rfl))
    have hd7:=hd.l
    refine Zk<|Za<|Zb<|Zg<|mv J J<|mv J J<|tt(Zh(n:=7)(Zej _ _ hok)J J J K1 cF16(Zd 1 J J J Ze)J hw)J(fun g_2 hg_2=>?_)
    have hG:Zs g_2.2=dec r:=hg_2
    refine tt(Zh(n:=8)(r4_odd _ _(by rw [hG];exact hd)(by have h7:=congrArg List.length hG;rw [Zu]at h7;omega))J J J K1 cF19(Zd 7 J J J Ze)J hw)J(fun g_3 hg_3=>?_)
    have hO:Zs g_3.2=Fd(dec r):=by rw [hg_3,hG]
    refine tt(Zh(n:=9)(rp_to _ _(by rw [hg_3,hG];exact o3.mono(by omega))(by have h7:=congrArg List.length hg_3;rw [Zu,hG]at h7;omega))J J J K1 cF18(Zd 8 J J J Ze)J hw)J fun v_5 _=>tt(Zh(n:=9)(Zai _ _ _ _)J J J K2 cF17(Zd 2 J J J(Zd 9 J J J Ze))J hw)J fun _ _=>mv J J<|Pa(d:=98)J(fun s106=>?_)(fun s106=>?_)
    ·exact gdt(Ym J J)J J J J<|gdt(Ye(r':= .bool true)(Pm J J J)(congrArg Value.bool(by rw [Zr5 hok h0];rfl)))J J J J<|dt(Xi J J J)J<|mv J J<|gtt(Zh(n:=9)(Cx)J J J trivial cF11 Ze J hw)J J J J fun _ _=>dt(Xi J J J)J<|as_ J J<|Zf<|Za<|Zw<|Zy(.inl J)hsc()_(fun a w hs=>Qi hs Tryz.results3 J)J trivial J Zj
    ·exfalso;exact s106(by rw [Zr5 hok h0,hO])
end Go.Sky
namespace Go.Sky
open Go.Proofs
theorem Zxa(v:Value)(r:List(Bool×ByteArray))(b:Int):Cal Tryz.prog 3#[v,.int .i64 b] [slp 2 Zgh v r]false(G:=Unit)(fun _=>True)(fun _=> .bool true)(fun _=>[]):=by
 cases h:smR r with
 | false=>exact Zl0 v r b h
 | true=>exact Zlz v r b h
end Go.Sky
namespace Go.Proofs.YtcmiiammekgooaaGreat
open Go.ChangeShapes Go.WideShapes Go.ChangeAt Go.RowKit Go.Joins Go.Deep Go.Sky
set_option linter.unusedVariables false
theorem own:ownKnob Tryz.prog.godebug=none:=by kernel_rfl
theorem Zsw:laidOutB Tryz.prog=true:=by kernel_rfl
set_option maxRecDepth 100000 in
theorem lifted(os:Os)(started:os.Started)(H:Type)(enc:TypeId×Value→H) :
  ReturnsInHanded {} Tryz.checked os 3 .any(Rows.signOddSpec.pre6 enc Tryz.prog Tryz.f3 Rows.signOddRow.domain false)(Rows.signOddSpec.post enc Tryz.prog Tryz.f3 false true false false):=by
 refine returnsInHanded_of_change(C:=Tryz.checked)own started(by kernel_rfl)Tryz.func3
  (ChangeSpec.witness6(enc:=enc)(C:=Tryz.checked)false⟨#[],#[.slice none 0 0,.int .i64 0],[]⟩8(by kernel_rfl)(by kernel_rfl)(by kernel_rfl)(by kernel_rfl)) ?_
 intro W base args ds gs before hval0 hW hcnd _
 have hval:∀(j:Nat)t v,Tryz.f3.params[j]? = some t→args[j]? = some v→Value.okWide Tryz.prog W .any base t v:=hval0
 have hW':=hW
 obtain⟨p,q,hA0,hV,rfl,hfz,hnd⟩:=hW
 have hA:DataW.TrodAll enc Tryz.prog W 0(fun _=>true)true Tryz.f3.params.toList args.toList ds p:=hA0
 rw [Tryz.params3]at hA hval
 obtain⟨v0,vs0,d0,ds0,p0,q0,hargs,rfl,rfl,h0,r0⟩:=trodAll_cons hA
 obtain⟨v1,vs1,d1,ds1,p1,q1,rfl,rfl,rfl,h1,r1⟩:=trodAll_cons r0
 obtain⟨rfl,rfl,rfl⟩:=trodAll_nil r1
 obtain rfl:args=#[v0,v1]:=by cases args;simp_all
 obtain⟨rfl,rfl⟩:=trodVars_none hV
 have lt0:∀x∈p0,x.block<W.heap.size:=by obtain⟨m,hm⟩:=h0;exact DataW.trod_lt m _ _ _ hm
 obtain⟨l0,hl0⟩:=Zpn Tryz.underlying23 Tryz.underlying31(by kernel_rfl)rfl rfl(by kernel_rfl)(by kernel_rfl)(by kernel_rfl)(by kernel_rfl)(hval 0 23 v0 rfl rfl)h0 lt0
 have lt1:∀x∈p1,x.block<W.heap.size:=by obtain⟨m,hm⟩:=h1;exact DataW.trod_lt m _ _ _ hm
 obtain⟨n1,rfl⟩:=okWide_int Tryz.underlying3(hval 1 3 v1 rfl rfl)
 clear hA0 hval0
 refine(Zxa v0 l0 n1 W(fun p hp=>by cases hp with | head=>exact hl0 | tail _ hp=>cases hp)).mono fun e W'⟨_,he,_,bel,_⟩=>?_
 subst he
 exact⟨_,rfl,_,_,_,[],_,[],hW',trodAll_mk1(shut_bool Tryz.underlying4 _),(trodAll_cons_mk(Below.trod Zsw(by kernel_rfl)(of_decide_eq_true(by kernel_rfl))h0 bel lt0)(trodAll_cons_mk(Below.trod Zsw(by kernel_rfl)(of_decide_eq_true(by kernel_rfl))h1 bel lt1)trodAll_mk0)),rfl,bel.frame _,fun h=>by cases h⟩
theorem x_holds : Rows.SignOddSaid :=
 OpenClaim.holds_of_wide 3 Tryz.f3 rfl rfl rfl rfl rfl rfl rfl⟨rfl,rfl,rfl,rfl,rfl⟩rfl rfl rfl rfl rfl(by kernel_rfl)Tryz.func3(by kernel_rfl)
  (of_decide_eq_true(by kernel_rfl))(by unfold Func.isWrapper;first | (rw [if_pos(by decide +kernel)];kernel_rfl) | (rw [if_neg(by decide +kernel)];exact⟨rfl,rfl⟩))
  (fun os started H enc _=>lifted os started H enc)
#print axioms x_holds
end Go.Proofs.YtcmiiammekgooaaGreat

