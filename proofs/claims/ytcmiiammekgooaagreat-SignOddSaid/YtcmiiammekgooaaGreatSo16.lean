/- rules, arithmetic and contracts: part 17
   Proved without conditions of its own: each theorem bears its own. -/
import Derived.Test.YtcmiiammekgooaaGreatSo03
import Derived.Test.YtcmiiammekgooaaGreatSo02
import Derived.Test.YtcmiiammekgooaaGreatSo01
import Derived.Test.YtcmiiammekgooaaGreatSo15
set_option linter.all false
namespace Go.Sky
open Go.Proofs
set_option maxRecDepth 20000
set_option maxHeartbeats 4000000
set_option linter.unusedVariables false
set_option linter.unusedSimpArgs false
theorem sg_neg1(bf bc bs:Nat)(v1 v2 c0 c1 c2 c3:Value)(ls cs:List(SL×List Int))(a b m:R2)(hx:bl m.1.natAbs≤65536)(hy:bl m.2.natAbs≤65536)(hp:0<m.2)(hlsv:∀z∈ls,Vp z.2)(hlsE:∀z∈ls,¬Kh z.2 m.1 m.2):CalP Tryz.prog 64#[.agg#[.bool(decide(a.1<0)),.string(Xd a.1.natAbs),.bool(decide(a.2<0)),.string(Xd a.2.natAbs),.bool(decide(b.1<0)),.string(Xd b.1.natAbs),.bool(decide(b.2<0)),.string(Xd b.2.natAbs)],.agg#[.bool(decide(m.1<0)),.string(Xd m.1.natAbs),.bool(decide(m.2<0)),.string(Xd m.2.natAbs)],.pointer(some⟨bf,0,none⟩),.pointer(some⟨bc,0,none⟩),.pointer(some⟨bs,0,none⟩)] [Zf2 bs 102#[.int .i64 0],Zf2 bc 98#[v1,v2],Ai 1 Ba qZ v1 ls,Ai 1 Ba qZ v2 cs](box bf 41#[c0,c1,c2,c3])(G:=Unit)(fun _=>True)(fun _=> .bool(decide(vlu(ls.map Prod.snd)(m.1,m.2)<0)))(fun _=>box bf 41#[.bool(decide(m.1<0)),.string(Xd m.1.natAbs),.bool(decide(m.2<0)),.string(Xd m.2.natAbs)]):=by
 refine Zik Tryz.func64 J Tryz.ntmps64 J K4 ?_
 intro w0 sc hw hsc
 simp only [Zo,Zn]
 exact Zb<|Zg<|tt(Xh(i:=6)J J J J J J hw)J fun bx _=>tt(Xh(i:=7)J J J J J J hw)J fun bx_2 _=>as_ J J<|Zf<|Za<|Zb<|Zg<|dt(Xj(i:=7)J J J Pu Xz J J J J)J<|tt(Zm(i:=1)J J J J J(by decide)J Xz J J⟨Zc J,Zc J,Zc J,Zc J,trivial⟩J hw trivial)J fun _ _=>Zf<|Za<|Zb<|Zg<|dt(d_lr2(i:=3)J J J Zcx Ck J J)J<|dt(Xj(i:=7)J J J Pu Xz J J J J)J<|tt(Zh(n:=7)(Zab _ _ _ _ _ _ _ hx hy hp hlsv hlsE)J J J K3 cF62(Zd 4 J J J(Zd 5 J J J(Zd 2 J J J Ze)))J hw)J fun _ _=>dt(Xw J J J)J<|as_ J J<|Zf<|Za<|Zw<|Zmq(.inl J)hsc()_(fun a w hs=>Qi hs Tryz.results64 J)J trivial 1 J J J J(Zd 2 J J J(Zd 3 J J J(Zd 4 J J J(Zd 5 J J J Ze))))
theorem sg_fst1(bf:Nat)(k:Int)(a b m:R2)(hk:-1000≤k∧k≤1000):CalP Tryz.prog 79#[.agg#[.bool(decide(a.1<0)),.string(Xd a.1.natAbs),.bool(decide(a.2<0)),.string(Xd a.2.natAbs),.bool(decide(b.1<0)),.string(Xd b.1.natAbs),.bool(decide(b.2<0)),.string(Xd b.2.natAbs)],.agg#[.bool(decide(m.1<0)),.string(Xd m.1.natAbs),.bool(decide(m.2<0)),.string(Xd m.2.natAbs)],.pointer(some⟨bf,0,none⟩)] [](box bf 3#[.int .i64 k])(G:=Unit)(fun _=>True)(fun _=> .bool(decide(k-1<0)))(fun _=>box bf 3#[.int .i64(k-1)]):=by
 refine Zik Tryz.func79 J Tryz.ntmps79 J trivial ?_
 intro w0 sc hw hsc
 simp only [Zo,Zn]
 exact Zb<|Zg<|tt(Xh(i:=2)J J J J J J hw)J fun bx _=>tt(Xh(i:=3)J J J J J J hw)J fun bx_2 _=>as_ J J<|Zf<|Za<|Zb<|Zg<|dt(Oh(i:=1)J J J iA3 J)J<|dt(Qb J J J⟨by omega,by omega⟩)J<|tt(Zm(i:=1)J J J J J(by decide)J zT3 J J⟨Zc J,trivial⟩J hw trivial)J fun _ _=>Zf<|Za<|Zb<|Zg<|dt(Oh(i:=1)J J J iA3 J)J<|dt(Xw J J J)J<|as_ J J<|Zf<|Za<|Zw<|Zmq(.inl J)hsc()_(fun a w hs=>Qi hs Tryz.results79 J)J trivial 1 J J J J Ze
set_option maxHeartbeats 4000000 in
theorem Zhc(bf bc bs:Nat)(v1 v2:Value)(ls cs:List(SL×List Int))(xs:List Int)(a0 b0:R2)(s t:Rat)(c0 c1 c2 c3:Value)(hd:Cvd xs)(h0:xs≠[])(hgl:ls.map Prod.snd=Nq xs)(hgc:cs.map Prod.snd=chx xs)(hI0:NIn xs s t 0 a0 b0):CalP Tryz.prog 63#[.agg#[v1,v2],.pointer(some⟨bs,0,none⟩),.agg#[.bool(decide(a0.1<0)),.string(Xd a0.1.natAbs),.bool(decide(a0.2<0)),.string(Xd a0.2.natAbs),.bool(decide(b0.1<0)),.string(Xd b0.1.natAbs),.bool(decide(b0.2<0)),.string(Xd b0.2.natAbs)],.func(.func 64)#[] #[.pointer(some⟨bf,0,none⟩),.pointer(some⟨bc,0,none⟩),.pointer(some⟨bs,0,none⟩)]] [Zf2 bs 102#[.int .i64 0],Zf2 bc 98#[v1,v2],Ai 1 Ba qZ v1 ls,Ai 1 Ba qZ v2 cs](box bf 41#[c0,c1,c2,c3])(G:=R2×R2×R2)(fun r=>Fnd xs s t r.1)(fun r=> .agg#[.bool(decide(r.2.1.1<0)),.string(Xd r.2.1.1.natAbs),.bool(decide(r.2.1.2<0)),.string(Xd r.2.1.2.natAbs),.bool(decide(r.2.2.1<0)),.string(Xd r.2.2.1.natAbs),.bool(decide(r.2.2.2<0)),.string(Xd r.2.2.2.natAbs)])(fun r=>box bf 41#[.bool(decide(r.1.1<0)),.string(Xd r.1.1.natAbs),.bool(decide(r.1.2<0)),.string(Xd r.1.2.natAbs)]):=by
 refine Zik Tryz.func63 J Tryz.ntmps63 J K4 ?_
 intro w0 sc hw hsc
 simp only [Zo,Zn]
 refine Zb<|Zg<|tt(Xh(i:=6)J J J J J J hw)J fun bx _=>tt(Xh(i:=7)J J J J J J hw)J fun bx_2 _=>tt(Zq(i:=8)J J J Tryz.zeroValue62 J J hw)J fun bx_3 _=>Zf<|Za<|Zb<|Zl<|Nt [(1,_),(3,_),(4,_),(6,_),(8,_)] [(0,_),(2,_),(3,_),(4,_),(5,_),(6,_),(8,_)](fun(q:R2×R2×Nat×Value×Value×Value×Value)=>[])(fun(q:R2×R2×Nat×Value×Value×Value×Value)=>[(7,box bx_2 62#[.bool(decide(q.1.1<0)),.string(Xd q.1.1.natAbs),.bool(decide(q.1.2<0)),.string(Xd q.1.2.natAbs),.bool(decide(q.2.1.1<0)),.string(Xd q.2.1.1.natAbs),.bool(decide(q.2.1.2<0)),.string(Xd q.2.1.2.natAbs)]),(1,box bf 41#[q.2.2.2.1,q.2.2.2.2.1,q.2.2.2.2.2.1,q.2.2.2.2.2.2])])(fun(q:R2×R2×Nat×Value×Value×Value×Value)=>NIn xs s t q.2.2.1 q.1 q.2.1)(fun(q:R2×R2×Nat×Value×Value×Value×Value)=>2736-q.2.2.1)(a0,b0,0,c0,c1,c2,c3)(hI0)K5 K9 ?_
 rintro⟨a,b,j,c0,c1,c2,c3⟩hI
 dsimp only at hI
 simp only [List.cons_append,List.nil_append]
 obtain⟨r1,r2,r3,r4,r5,r6,r7⟩:=hI.round hd h0
 rw [←hgl]at r5 r6 r7
 rw [←hgc]at r6 r7
 refine Zb<|Zb<|Zg<|mv J J<|dt(Zfm J J)J<|dt(Qa J J Kx J Gj J J)J<|dt(Zxt(i:=2)J J J Al J)J<|dt(Ye(r':= .bool true)(Pm J J J)(congrArg Value.bool(by decide)))J<|Zf<|Za<|Nm J<|Zk<|Za<|Zl<|Zb<|Zg<|mv J J<|dt(Qa J J Zp1 J Xz J J)J<|dt(Xj(i:=7)J J J Pu Xz J J J J)J<|dt(Qa J J Zp1 J Xz J J)J<|dt(Xj(i:=7)J J J Pu Xz J J J J)J<|tt(Zh(n:=8)(Zi9 _ a.1 a.2 b.1 b.2(by omega)(by omega)(by omega)(by omega)r3.2.2 r4.2.2 r1)J J J K3 cF94(Zd 2 J J J Ze)J hw)J fun _ _=>tt(Zq(i:=9)J J J Tryz.zeroValue41 J J hw)J fun bx_4 _=>tt(Zm(i:=9)J J J J J(by decide)J Xz J J⟨Zc J,Zc J,Zc J,Zc J,trivial⟩J hw trivial)J fun _ _=>Zf<|Za<|Zb<|Zb<|Zg<|mv J J<|dt(Zfn(i:=7)J J J Zit Be J J J J J J J J)J<|dt(Xj(i:=9)J J J Pu Xz J J J J)J ?_
 refine tt(Zbn(i:=1)(fs:=[])(vs:=[_,_])(us:=[_,_,_])(sg_neg1 _ _ _ _ _ _ _ _ _ _ _ a b(Mm a b)(by omega)(by omega)r2.2.2(Xx hgl(fun q hq=>(Nw hd q hq).1))(Xx hgl(Kn hd(m:=(Mm a b))(by omega)(by omega)).1))J J J J K2 cF64 J J(by decide)(Zd 2 J J J(Zd 3 J J J(Zd 4 J J J(Zd 5 J J J Ze))))J hw(fun _ _=>trivial))J fun _ _=>Zf<|Za<|Zp J(fun h228=>?_)(fun h228=>?_)
 ·exact Yu<|Zt<|Zo1(by decide)<|Zt<|Ov<|Za<|Zb<|Zg<|dt(Zfn(i:=7)J J J Zit Be J J J J J J J J)J<|tt(Zm(i:=8)J J J J J(by decide)J Be J J⟨Zc J,Zc J,Zc J,Zc J,Zc J,Zc J,Zc J,Zc J,trivial⟩J hw trivial)J fun _ _=>Zf<|Za<|Zw<|Zmq(.inl J)hsc(Mm a b,a,b)_(fun a w hs=>Qi hs Tryz.results63(Yr(i:=8)J J Zit Be J))J(r5(by assumption))1 J J J J(Zd 2 J J J(Zd 3 J J J(Zd 4 J J J(Zd 5 J J J Ze))))
 ·refine Zk<|Za<|Zb<|Zg<|dt(Yb(i:=6)J J J Zcx Ck J J)J<|mv J J<|dt(Qa J J Zp1 J Xz J J)J<|dt(Xj(i:=7)J J J Pu Xz J J J J)J<|dt(Xj(i:=9)J J J Pu Xz J J J J)J<|tt(Zh(n:=9)(Lt _ _ _ _ _ a.1 a.2(Mm a b).1(Mm a b).2(by omega)(by omega)(by omega)(by omega)r3.2.2 r2.2.2(Xx hgl(fun q hq=>(Nw hd q hq).1))(Xx hgl(Kn hd(m:=a)(by omega)(by omega)).1)(Xx hgc(fun q hq=>(Gd hd q hq).1))(Xx hgc(Kn hd(m:=a)(by omega)(by omega)).2)(Xx hgc(Kn hd(m:=(Mm a b))(by omega)(by omega)).2)(by have h7:=congrArg List.length hgc;rw [List.length_map]at h7;have:=Df xs;omega))J J J K4 cF61(Zd 4 J J J(Zd 5 J J J(Zd 2 J J J Ze)))J hw)J fun _ _=>Zf<|Za<|Mt J(fun h231=>?_)(fun h231=>?_)
  ·exact Zg<|dt(Xj(i:=9)J J J Pu Xz J J J J)J<|dt(Qa J J Zp1 J Xz J J)J<|tt(Zkv(cs':=#[])(i:=7)J J J J J(by decide)J Xz J J⟨Zc J,Zc J,Zc J,Zc J,trivial⟩J hw trivial)J fun _ _=>Zf<|Px<|Xl(a,Mm a b,j+1,_,_,_,_)(r6(by assumption)(by assumption))(by have:=hI.j hd h0;dsimp only;omega)K5 K9
  ·exact Zg<|dt(Xj(i:=9)J J J Pu Xz J J J J)J<|dt(Qa J J Zp1 J Xz J J)J<|tt(Zkv(cs':=#[])(i:=7)J J J J J(by decide)J Xz J J⟨Zc J,Zc J,Zc J,Zc J,trivial⟩J hw trivial)J fun _ _=>Zf<|Px<|Xl(Mm a b,b,j+1,_,_,_,_)(r7(by assumption)(by assumption))(by have:=hI.j hd h0;dsimp only;omega)K5 K9
set_option maxHeartbeats 4000000 in
theorem El(bf bs:Nat)(v1 v2:Value)(ls cs:List(SL×List Int))(xs:List Int)(a0 b0:R2)(hq:Nat)(hh:hq≤100)(hd:Cvd xs)(hgl:ls.map Prod.snd=Nq xs)(hgc:cs.map Prod.snd=chx xs)(hI0:FIn xs 0 a0 b0):CalP Tryz.prog 63#[.agg#[v1,v2],.pointer(some⟨bs,0,none⟩),.agg#[.bool(decide(a0.1<0)),.string(Xd a0.1.natAbs),.bool(decide(a0.2<0)),.string(Xd a0.2.natAbs),.bool(decide(b0.1<0)),.string(Xd b0.1.natAbs),.bool(decide(b0.2<0)),.string(Xd b0.2.natAbs)],.func(.func 79)#[] #[.pointer(some⟨bf,0,none⟩)]] [Zf2 bs 102#[.int .i64 0],Ai 1 Ba qZ v1 ls,Ai 1 Ba qZ v2 cs](box bf 3#[.int .i64(hq:Int)])(G:=Unit)(fun _=>True)(fun _=> .agg#[.bool(decide((frs xs hq a0 b0).1.1<0)),.string(Xd(frs xs hq a0 b0).1.1.natAbs),.bool(decide((frs xs hq a0 b0).1.2<0)),.string(Xd(frs xs hq a0 b0).1.2.natAbs),.bool(decide((frs xs hq a0 b0).2.1<0)),.string(Xd(frs xs hq a0 b0).2.1.natAbs),.bool(decide((frs xs hq a0 b0).2.2<0)),.string(Xd(frs xs hq a0 b0).2.2.natAbs)])(fun _=>box bf 3#[.int .i64(-1)]):=by
 refine Zik Tryz.func63 J Tryz.ntmps63 J K3 ?_
 intro w0 sc hw hsc
 simp only [Zo,Zn]
 refine Zb<|Zg<|tt(Xh(i:=5)J J J J J J hw)J fun bx _=>tt(Xh(i:=6)J J J J J J hw)J fun bx_2 _=>tt(Zq(i:=7)J J J Tryz.zeroValue62 J J hw)J fun bx_3 _=>Zf<|Za<|Zb<|Zl<|Nt [(1,_),(3,_),(4,_),(6,_),(8,_)] [(0,_),(2,_),(3,_),(4,_),(5,_),(7,_)](fun(q:R2×R2×Nat)=>[])(fun(q:R2×R2×Nat)=>[(6,box bx_2 62#[.bool(decide(q.1.1<0)),.string(Xd q.1.1.natAbs),.bool(decide(q.1.2<0)),.string(Xd q.1.2.natAbs),.bool(decide(q.2.1.1<0)),.string(Xd q.2.1.1.natAbs),.bool(decide(q.2.1.2<0)),.string(Xd q.2.1.2.natAbs)]),(1,box bf 3#[.int .i64((hq:Int)-(q.2.2:Int))])])(fun(q:R2×R2×Nat)=>(FIn xs q.2.2 q.1 q.2.1)∧(q.2.2≤hq)∧(frs xs(hq-q.2.2)q.1 q.2.1=frs xs hq a0 b0))(fun(q:R2×R2×Nat)=>hq+1-q.2.2)(a0,b0,0)⟨hI0,by first | omega | (dsimp only<;>omega),rfl⟩K5⟨J,(by rw [show((hq:Int)-((0:Nat):Int))=(hq:Int)by omega]<;>rfl),J,J,J,J,J,J,trivial⟩ ?_
 rintro⟨a,b,j⟩⟨hI,hj,hF⟩
 dsimp only at hI hj hF
 simp only [List.cons_append,List.nil_append]
 obtain⟨r1,r2,r3,r4,r5⟩:=hI.round
 refine Zb<|Zb<|Zg<|mv J J<|dt(Zfm J J)J<|dt(Qa J J Kx J Gj J J)J<|dt(Zxt(i:=2)J J J Al J)J<|dt(Ye(r':= .bool true)(Pm J J J)(congrArg Value.bool(by decide)))J<|Zf<|Za<|Nm J<|Zk<|Za<|Zl<|Zb<|Zg<|mv J J<|dt(Qa J J Zp1 J Xz J J)J<|dt(Xj(i:=6)J J J Pu Xz J J J J)J<|dt(Qa J J Zp1 J Xz J J)J<|dt(Xj(i:=6)J J J Pu Xz J J J J)J<|tt(Zh(n:=7)(Zi9 _ a.1 a.2 b.1 b.2(by omega)(by omega)(by omega)(by omega)r3.2.2 r4.2.2 r1)J J J K3 cF94(Zd 2 J J J Ze)J hw)J fun _ _=>tt(Zq(i:=8)J J J Tryz.zeroValue41 J J hw)J fun bx_4 _=>tt(Zm(i:=8)J J J J J(by decide)J Xz J J⟨Zc J,Zc J,Zc J,Zc J,trivial⟩J hw trivial)J fun _ _=>Zf<|Za<|Zb<|Zb<|Zg<|mv J J<|dt(Zfn(i:=6)J J J Zit Be J J J J J J J J)J<|dt(Xj(i:=8)J J J Pu Xz J J J J)J<|tt(Zbn(i:=1)(fs:=[])(vs:=[_,_])(us:=[_])(sg_fst1 _ _ a b(Mm a b)⟨by omega,by omega⟩)J J J J K2 cF79 J J(by decide)Ze J hw(fun _ _=>trivial))J fun _ _=>Zf<|Za<|Zp J(fun h228=>?_)(fun h228=>?_)
 ·exact Yu<|Zt<|Zo1(by decide)<|Zt<|Ov<|Za<|Zb<|Zg<|dt(Zfn(i:=6)J J J Zit Be J J J J J J J J)J<|tt(Zm(i:=7)J J J J J(by decide)J Be J J⟨Zc J,Zc J,Zc J,Zc J,Zc J,Zc J,Zc J,Zc J,trivial⟩J hw trivial)J fun _ _=>Zf<|Za<|Zw<|Zmq(.inl J)hsc()_(fun a w hs=>Qi hs Tryz.results63(Yr(i:=7)J J Zit Be J))(by rw [←hF,show hq-j=0 by omega]<;>rfl)trivial 1(by rw [show(-1:Int)=(hq:Int)-(j:Int)-1 by omega]<;>rfl)J J J(Zd 2 J J J(Zd 3 J J J(Zd 4 J J J Ze)))
 ·refine Zk<|Za<|Zb<|Zg<|dt(Yb(i:=5)J J J Zcx Ck J J)J<|mv J J<|dt(Qa J J Zp1 J Xz J J)J<|dt(Xj(i:=6)J J J Pu Xz J J J J)J<|dt(Xj(i:=8)J J J Pu Xz J J J J)J<|tt(Zh(n:=8)(Lt _ _ _ _ _ a.1 a.2(Mm a b).1(Mm a b).2(by omega)(by omega)(by omega)(by omega)r3.2.2 r2.2.2(Xx hgl(fun q hq=>(Nw hd q hq).1))(Xx hgl(Kn hd(m:=a)(by omega)(by omega)).1)(Xx hgc(fun q hq=>(Gd hd q hq).1))(Xx hgc(Kn hd(m:=a)(by omega)(by omega)).2)(Xx hgc(Kn hd(m:=(Mm a b))(by omega)(by omega)).2)(by have h7:=congrArg List.length hgc;rw [List.length_map]at h7;have:=Df xs;omega))J J J K4 cF61(Zd 3 J J J(Zd 4 J J J(Zd 2 J J J Ze)))J hw)J fun _ _=>Zf<|Za<|Mt J(fun h231=>?_)(fun h231=>?_)
  ·exact Zg<|dt(Xj(i:=8)J J J Pu Xz J J J J)J<|dt(Qa J J Zp1 J Xz J J)J<|tt(Zkv(cs':=#[])(i:=6)J J J J J(by decide)J Xz J J⟨Zc J,Zc J,Zc J,Zc J,trivial⟩J hw trivial)J fun _ _=>Zf<|Px<|Xl(a,Mm a b,j+1)⟨(r5(by omega)).1,by first | omega | (dsimp only<;>omega),by dsimp only;rw [←hF,show hq-j=(hq-(j+1))+1 by omega,Zn8,←hgl,←hgc,if_pos(by assumption)]⟩(by dsimp only;omega)K5⟨J,(by rw [show((hq:Int)-((j+1:Nat):Int))=(hq:Int)-(j:Int)-1 by omega]<;>rfl),J,J,J,J,J,J,trivial⟩
  ·exact Zg<|dt(Xj(i:=8)J J J Pu Xz J J J J)J<|dt(Qa J J Zp1 J Xz J J)J<|tt(Zkv(cs':=#[])(i:=6)J J J J J(by decide)J Xz J J⟨Zc J,Zc J,Zc J,Zc J,trivial⟩J hw trivial)J fun _ _=>Zf<|Px<|Xl(Mm a b,b,j+1)⟨(r5(by omega)).2,by first | omega | (dsimp only<;>omega),by dsimp only;rw [←hF,show hq-j=(hq-(j+1))+1 by omega,Zn8,←hgl,←hgc,if_neg(by rw [show ngb _ _ a(Mm a b)=false by assumption];decide)]⟩(by dsimp only;omega)K5⟨J,(by rw [show((hq:Int)-((j+1:Nat):Int))=(hq:Int)-(j:Int)-1 by omega]<;>rfl),J,J,J,J,J,J,trivial⟩
end Go.Sky
namespace Go.Sky
open Go.Proofs
set_option maxRecDepth 20000
set_option maxHeartbeats 4000000
set_option linter.unusedVariables false
set_option linter.unusedSimpArgs false
set_option maxHeartbeats 4000000 in
theorem Dr(v:Value)(xs:List Int)(a b:R2)(hd:Cvd xs)(ha:E32 a)(hb:E32 b)(hc:¬0<cmp a b)(hn:ngb(Nq xs)(chx xs)a b=true):Cal Tryz.prog 21#[v,.agg#[.bool(decide(a.1<0)),.string(Xd a.1.natAbs),.bool(decide(a.2<0)),.string(Xd a.2.natAbs)],.agg#[.bool(decide(b.1<0)),.string(Xd b.1.natAbs),.bool(decide(b.2<0)),.string(Xd b.2.natAbs)]] [slp 2 wv v xs]false(G:=R2)(fun r=>Fnd xs(qv a)(qv b)r)(fun r=> .tuple#[.agg#[.bool(decide(r.1<0)),.string(Xd r.1.natAbs),.bool(decide(r.2<0)),.string(Xd r.2.natAbs)],.bool true,.int .i64 0])(fun r=>[]):=by
 refine Yc Tryz.func21 J Tryz.ntmps21 J K1 ?_
 intro w0 sc hw hsc
 simp only [Zo,Zn]
 have ha1:=ha.b1
 have ha2:=ha.b2
 have hap:=ha.p
 have hb1:=hb.b1
 have hb2:=hb.b2
 have hbp:=hb.p
 have hle:=Zt5 ha hb hc
 have h0:=ngb_ne hn
 have hE2:=e32_two ha hb
 have hLl:([slow a,slow b]:List R2).length=2:=rfl
 refine Yn(Nl 999 2 31 wv)<|Yn(Pe 999 J J pV)<|Zb<|Zg<|tt(Xh(i:=2)J J J J J J hw)J fun bx _=>tt(Xh(i:=3)J J J J J J hw)J fun bx_2 _=>tt(Zq(i:=4)J J J Tryz.zeroValue41 J J hw)J fun bx_3 _=>as_ J J<|as_ J J<|Zf<|Za<|Zb<|Zb<|Zg<|mv J J<|dt(Xj(i:=2)J J J Pu Xz J J J J)J<|dt(Xj(i:=3)J J J Pu Xz J J J J)J<|tt(Zh(n:=4)(Zc6 _ _ a.1 a.2 b.1 b.2(by omega)(by omega)(by omega)(by omega)hap hbp hd.v(Dd hd(by omega))ha.efit hb.efit)J J J K4 cF58(Zd 1 J J J Ze)J hw)J fun _ _=>as_ J J<|Zf<|Za<|Zb<|Zg<|mv J J<|dt(Ye(r':= .bool false)(Qe J J J)(congrArg Value.bool(decide_eq_false(fun h=>h(if_neg hc)))))J<|Zf<|Za<|Yf J<|Zk<|Za<|Zb<|Zg<|mv J J<|tt(Zh(n:=5)(Zkz _ _ hd)J J J K1 cF59(Zd 1 J J J Ze)J hw)J(fun g hg=>?_)
 obtain⟨hgl,hgc⟩:=hg
 refine mv J J<|dt(Yg J J J)J<|dt(Yg J J J)J<|tt(Zq(i:=7)J J J Tryz.zeroValue98 J J hw)J fun bx_4 _=>tt(Zm(i:=7)J J J J J(by decide)J Ck J J⟨Zr(i:=5)J Zx,Zr(i:=6)J Zx,trivial⟩J hw trivial)J fun _ _=>as_ J J<|Zf<|Za<|Zb<|Zb<|Zg<|mv J J<|dt(Ye(r':= .bool false)(Qe J J J)(congrArg Value.bool(by decide)))J<|Zf<|Za<|Yf J<|Zk<|Za<|Zb<|Zg<|tt(Zq(i:=8)J J J Tryz.zeroValue102 J J hw)J fun bx_5 _=>Zf<|Za<|Zb<|Zg<|dt(Xj(i:=2)J J J Pu Xz J J J J)J<|dt(Xj(i:=3)J J J Pu Xz J J J J)J<|tt(Zh(n:=8)(Zac a.1 a.2 b.1 b.2(by omega)(by omega)(by omega)(by omega)hap hbp)J J J K2 cF60 Ze J hw)J fun _ _=>tt(Zq(i:=9)J J J Tryz.zeroValue62 J J hw)J fun bx_6 _=>tt(Zm(i:=9)J J J J J(by decide)J Be J J⟨Zc J,Zc J,Zc J,Zc J,Zc J,Zc J,Zc J,Zc J,trivial⟩J hw trivial)J fun _ _=>Zf<|Za<|Zb<|Zg<|dt(Yb(i:=7)J J J Zcx Ck J J)J<|dt(Xj(i:=2)J J J Pu Xz J J J J)J<|dt(Xj(i:=3)J J J Pu Xz J J J J)J ?_
 refine tt(Zh(n:=9)(Lt _ _ _ _ _ a.1 a.2 b.1 b.2(by omega)(by omega)(by omega)(by omega)hap hbp(Xx hgl(fun q hq=>(Nw hd q hq).1))(Xx hgl(Kn hd(m:=a)(by omega)(by omega)).1)(Xx hgc(fun q hq=>(Gd hd q hq).1))(Xx hgc(Kn hd(m:=a)(by omega)(by omega)).2)(Xx hgc(Kn hd(m:=b)(by omega)(by omega)).2)(by have h7:=congrArg List.length hgc;rw [List.length_map]at h7;have:=Df xs;omega))J J J K4 cF61(Zd 5 J J J(Zd 6 J J J(Nn 8 J J Ze)))J hw)J fun _ _=>as_ J J<|Zf<|Za<|Zb<|Zb<|Zg<|dt(Qa J J Kx J Gj J J)J<|dt(Oh(i:=8)J J J Al J)J<|dt(Ye(r':= .bool false)(Qe J J J)(congrArg Value.bool(by decide)))J<|mv J J<|gdt(Ym J J)J J J J<|gdt(Ye(r':= .bool false)(Xr J J)(congrArg Value.bool(by rw [hgl,hgc];show(!ngb(Nq xs)(chx xs)a b)=false;rw [hn];rfl)))J J J J<|dt(Yh J J J)J<|Zf<|Za<|Yf J<|Zk<|Za<|Zb<|Zb<|Zg<|dt(Qa J J Zp1 J Xz J J)J<|dt(Xj(i:=9)J J J Pu Xz J J J J)J<|dt(Qa J J Zp1 J Xz J J)J<|dt(Xj(i:=9)J J J Pu Xz J J J J)J ?_
 refine tt(Pr(i:=10)(ivs:=[(0,_),(1,_)])(enc:=rq)([slow a,slow b]:List R2)J J J K4 uT83 Tryz.ti41 J J J(fill24 _ _ _ _ _ _ _ _ _ _ _ _)J J pQ.cells J J hw)J fun v _=>dt(Ya J J(i:=10)J(Yo pQ)uT83)J<|mv J J<|Zf<|Za<|Zl<|Nt [(6,_),(10,_),(12,_),(13,_),(56,_),(57,_)] [(0,_),(1,_),(999,_),(2,_),(3,_),(4,_),(5,_),(6,_),(7,_),(8,_),(9,_),(10,_)](fun(i:Nat)=>[(58,.int .i64(i:Int))])(fun(i:Nat)=>[])(fun(i:Nat)=>(i≤2)∧(∀k,k<i→¬vlu(g.2.1.map Prod.snd)([slow a,slow b].getD k(0,0))<0))(fun(i:Nat)=>2-i)0⟨by first | omega | (dsimp only<;>omega),fun k hk=>absurd hk(Nat.not_lt_zero k)⟩K7 K12 ?_
 rintro i⟨hi,hz⟩
 simp only [List.cons_append,List.nil_append]
 refine Zb<|Zg<|dt(Xw J J J)J<|Zf<|Za<|Zb<|Zp J(fun h262=>?_)(fun h262=>?_)
 ·refine Zk<|Za<|Zb<|Zl<|Zb<|Zg<|dt(Yw(ii:=10)J J J J(Yo pQ)uT83 Xz J(by first | omega | (simp only [List.length_set];omega)))J<|dt(Xn(ii:=10)(0,0)J J J(Yo pQ)pQ(by first | omega | (simp only [List.length_set];omega)))J<|tt(Zq(i:=11)J J J Tryz.zeroValue41 J J hw)J fun bx_7 _=>tt(Zm(i:=11)J J J J J(by decide)J Xz J J⟨Zc J,Zc J,Zc J,Zc J,trivial⟩J hw trivial)J fun _ _=>Zf<|Za<|Zb ?_
  have hEi:=hE2 i(by omega)
  have hEb1:=hEi.b1
  have hEb2:=hEi.b2
  refine Zg<|dt(Yb(i:=7)J J J Zcx Ck J J)J<|dt(Xj(i:=11)J J J Pu Xz J J J J)J<|tt(Zh(n:=11)(Zab _ _ _ _ _([slow a,slow b].getD i(0,0)).1([slow a,slow b].getD i(0,0)).2(by omega)(by omega)hEi.p(Xx hgl(fun q hq=>(Nw hd q hq).1))(Xx hgl(Kn hd(m:=([slow a,slow b].getD i(0,0)))(by omega)(by omega)).1))J J J K3 cF62(Zd 5 J J J(Zd 6 J J J(Nn 8 J J Ze)))J hw)J fun _ _=>dt(Xw J J J)J<|Zf<|Za<|Zp J(fun h263=>?_)(fun h263=>?_)
  ·exact Zb<|On [8,11] [5](by kernel_rfl)<|Zz(n:=0) [(0,0),(1,0),(2,0),(3,1),(4,0),(5,3)](by kernel_rfl)<|r0' J J J J(stf(Xj(i:=11)J J J Pu Xz J J J J)K2)<|r0' J J J J(stf(Qa J J Kx J Gj J J)K2)<|r0' J J J J(stf(Oh(i:=8)J J J Al J)K2)<|r1' J J(Zd3 4 J J K2(fun hoffb=>(Zm(i:=4)J J J J J(by decide)J Xz J J⟨Zc J,Zc J,Zc J,Zc J,trivial⟩J hw hoffb)))fun _ _=>r0' J J J J(stf(Kc J J)K2)<|r3' J J(Pz(Kc J J)J J)fun _ _=>Yp<|Yj(by kernel_rfl)<|Za<|Zw<|Hb<|Xe<|Xe<|Hb<|Xe<|Zy(.inl J)hsc([slow a,slow b].getD i(0,0))_(fun a w hs=>res3 hs Tryz.results21(Yr(i:=4)J J Pu Xz J)J J)J(neg_two ha hb hle(by omega)(by rw [←hgl];assumption))J Zj
  ·exact Zk<|Px<|Za<|Zg<|dt(Ys J J J⟨by omega,by omega⟩)J<|mv J J<|Zf<|Xl(i+1)⟨by first | omega | (dsimp only<;>omega),fun k hk2=>by rcases Nat.lt_succ_iff_lt_or_eq.1 hk2 with h9 | h9;exact hz k h9;subst h9;assumption⟩(by first | omega | (dsimp only<;>omega))K7 K12
 ·refine Yu<|Zt<|Zt<|Ov<|Za<|Zb ?_
  have hI0:=Zsb hd ha hb hle(by have h9:=hz 0(by omega);rw [hgl]at h9;exact h9)(by have h9:=hz 1(by omega);rw [hgl]at h9;exact h9)hn
  exact Zg<|tt(Zq(i:=12)J J J Tryz.zeroValue41 J J hw)J fun bx_8 _=>Zf<|Za<|Zb<|Zg<|dt(Yb(i:=7)J J J Zcx Ck J J)J<|dt(Zfn(i:=9)J J J Zit Be J J J J J J J J)J<|dt(d_mkc(vs:=[])(us:=[_,_,_])J trivial K3)J<|tt(Zbn(i:=12)(fs:=[])(vs:=[_,_,_,_])(us:=[])(Zhc _ _ _ _ _ _ _ xs(slow a)(slow b)(qv a)(qv b)_ _ _ _ hd h0 hgl hgc hI0)J J J J K4 cF63 J J(by decide)(Nn 8 J J(Nn 7 J J(Zd 5 J J J(Zd 6 J J J Ze))))J hw(fun _ _=>trivial))J fun g_2 hg_2=>Zf<|Za<|Zb<|Zb<|Zg<|dt(Qa J J Kx J Gj J J)J<|dt(Oh(i:=8)J J J Al J)J<|dt(Ye(r':= .bool false)(Qe J J J)(congrArg Value.bool(by decide)))J<|Zf<|Za<|Yf J<|Zk<|Za<|Zb<|Zg<|dt(Xj(i:=12)J J J Pu Xz J J J J)J<|tt(Zm(i:=4)J J J J J(by decide)J Xz J J⟨Zc J,Zc J,Zc J,Zc J,trivial⟩J hw trivial)J fun _ _=>as_ J J<|as_ J J<|Zf<|Za<|Zw<|Zy(.inl J)hsc(g_2.1)_(fun a w hs=>res3 hs Tryz.results21(Yr(i:=4)J J Pu Xz J)J J)J hg_2 J Zj
set_option maxHeartbeats 4000000 in
theorem Bl(v:Value)(xs:List Int)(a b:R2)(hd:Cvd xs)(ha:E32 a)(hb:E32 b)(hc:¬0<cmp a b)(hn:ngb(Nq xs)(chx xs)a b=false):Cal Tryz.prog 21#[v,.agg#[.bool(decide(a.1<0)),.string(Xd a.1.natAbs),.bool(decide(a.2<0)),.string(Xd a.2.natAbs)],.agg#[.bool(decide(b.1<0)),.string(Xd b.1.natAbs),.bool(decide(b.2<0)),.string(Xd b.2.natAbs)]] [slp 2 wv v xs]false(G:=Unit)(fun _=>True)(fun _=> .tuple#[.agg#[.bool false,.string⟨#[]⟩,.bool false,.string⟨#[]⟩],.bool false,.int .i64 0])(fun _=>[]):=by
 refine Yc Tryz.func21 J Tryz.ntmps21 J K1 ?_
 intro w0 sc hw hsc
 simp only [Zo,Zn]
 have ha1:=ha.b1
 have ha2:=ha.b2
 have hap:=ha.p
 have hb1:=hb.b1
 have hb2:=hb.b2
 have hbp:=hb.p
 refine Yn(Nl 999 2 31 wv)<|Yn(Pe 999 J J pV)<|Zb<|Zg<|tt(Xh(i:=2)J J J J J J hw)J fun bx _=>tt(Xh(i:=3)J J J J J J hw)J fun bx_2 _=>tt(Zq(i:=4)J J J Tryz.zeroValue41 J J hw)J fun bx_3 _=>as_ J J<|as_ J J<|Zf<|Za<|Zb<|Zb<|Zg<|mv J J<|dt(Xj(i:=2)J J J Pu Xz J J J J)J<|dt(Xj(i:=3)J J J Pu Xz J J J J)J<|tt(Zh(n:=4)(Zc6 _ _ a.1 a.2 b.1 b.2(by omega)(by omega)(by omega)(by omega)hap hbp hd.v(Dd hd(by omega))ha.efit hb.efit)J J J K4 cF58(Zd 1 J J J Ze)J hw)J fun _ _=>as_ J J<|Zf<|Za<|Zb<|Zg<|mv J J<|dt(Ye(r':= .bool false)(Qe J J J)(congrArg Value.bool(decide_eq_false(fun h=>h(if_neg hc)))))J<|Zf<|Za<|Yf J<|Zk<|Za<|Zb<|Zg<|mv J J<|tt(Zh(n:=5)(Zkz _ _ hd)J J J K1 cF59(Zd 1 J J J Ze)J hw)J(fun g hg=>?_)
 obtain⟨hgl,hgc⟩:=hg
 refine mv J J<|dt(Yg J J J)J<|dt(Yg J J J)J<|tt(Zq(i:=7)J J J Tryz.zeroValue98 J J hw)J fun bx_4 _=>tt(Zm(i:=7)J J J J J(by decide)J Ck J J⟨Zr(i:=5)J Zx,Zr(i:=6)J Zx,trivial⟩J hw trivial)J fun _ _=>as_ J J<|Zf<|Za<|Zb<|Zb<|Zg<|mv J J<|dt(Ye(r':= .bool false)(Qe J J J)(congrArg Value.bool(by decide)))J<|Zf<|Za<|Yf J<|Zk<|Za<|Zb<|Zg<|tt(Zq(i:=8)J J J Tryz.zeroValue102 J J hw)J fun bx_5 _=>Zf<|Za<|Zb<|Zg<|dt(Xj(i:=2)J J J Pu Xz J J J J)J<|dt(Xj(i:=3)J J J Pu Xz J J J J)J<|tt(Zh(n:=8)(Zac a.1 a.2 b.1 b.2(by omega)(by omega)(by omega)(by omega)hap hbp)J J J K2 cF60 Ze J hw)J fun _ _=>tt(Zq(i:=9)J J J Tryz.zeroValue62 J J hw)J fun bx_6 _=>tt(Zm(i:=9)J J J J J(by decide)J Be J J⟨Zc J,Zc J,Zc J,Zc J,Zc J,Zc J,Zc J,Zc J,trivial⟩J hw trivial)J fun _ _=>Zf<|Za<|Zb<|Zg<|dt(Yb(i:=7)J J J Zcx Ck J J)J<|dt(Xj(i:=2)J J J Pu Xz J J J J)J<|dt(Xj(i:=3)J J J Pu Xz J J J J)J ?_
 refine tt(Zh(n:=9)(Lt _ _ _ _ _ a.1 a.2 b.1 b.2(by omega)(by omega)(by omega)(by omega)hap hbp(Xx hgl(fun q hq=>(Nw hd q hq).1))(Xx hgl(Kn hd(m:=a)(by omega)(by omega)).1)(Xx hgc(fun q hq=>(Gd hd q hq).1))(Xx hgc(Kn hd(m:=a)(by omega)(by omega)).2)(Xx hgc(Kn hd(m:=b)(by omega)(by omega)).2)(by have h7:=congrArg List.length hgc;rw [List.length_map]at h7;have:=Df xs;omega))J J J K4 cF61(Zd 5 J J J(Zd 6 J J J(Nn 8 J J Ze)))J hw)J fun _ _=>as_ J J<|Zf<|Za<|Zb<|Zb<|Zg<|dt(Qa J J Kx J Gj J J)J<|dt(Oh(i:=8)J J J Al J)J<|dt(Ye(r':= .bool false)(Qe J J J)(congrArg Value.bool(by decide)))J<|mv J J<|gdt(Ym J J)J J J J<|gdt(Ye(r':= .bool true)(Xr J J)(congrArg Value.bool(by rw [hgl,hgc];show(!ngb(Nq xs)(chx xs)a b)=true;rw [hn];rfl)))J J J J<|dt(Yh J J J)J<|Zf<|Za<|Nm J<|Zb<|On [8] [5](by kernel_rfl)<|Zz(n:=0) [(0,0),(1,0),(2,0),(3,1),(4,0),(5,3)](by kernel_rfl)<|r0' J J J J(stf(Oo(ivs:=[])J trivial(fun a w hs=>b41_))K1)<|r0' J J J J(stf(Qa J J Kx J Gj J J)K1)<|r0' J J J J(stf(Oh(i:=8)J J J Al J)K1) ?_
 exact r1' J J(Zd3 4 J J K1(fun hoffb=>(Zm(i:=4)J J J J J(by decide)J Xz J J⟨Zc J,Zc J,Zc J,Zc J,trivial⟩J hw hoffb)))fun _ _=>r0' J J J J(stf(Kc J J)K1)<|r3' J J(Pz(Kc J J)J J)fun _ _=>Yp<|Yj(by kernel_rfl)<|Za<|Zw<|Xe<|Zy(.inl J)hsc()_(fun a w hs=>res3 hs Tryz.results21(Yr(i:=4)J J Pu Xz J)J J)J trivial J Zj
set_option maxHeartbeats 4000000 in
theorem Zee(v:Value)(xs:List Int)(a b:R2)(hd:Cvd xs)(ha:E32 a)(hb:E32 b)(hq:Nat)(hh:hq≤100)(hc:¬0<cmp a b)(hn:ngb(Nq xs)(chx xs)a b=true):Cal Tryz.prog 31#[v,.agg#[.bool(decide(a.1<0)),.string(Xd a.1.natAbs),.bool(decide(a.2<0)),.string(Xd a.2.natAbs)],.agg#[.bool(decide(b.1<0)),.string(Xd b.1.natAbs),.bool(decide(b.2<0)),.string(Xd b.2.natAbs)],.int .i64(hq:Int)] [slp 2 wv v xs]false(G:=Unit)(fun _=>True)(fun _=> .tuple#[.agg#[.bool(decide((frs xs hq(slow a)(slow b)).1.1<0)),.string(Xd(frs xs hq(slow a)(slow b)).1.1.natAbs),.bool(decide((frs xs hq(slow a)(slow b)).1.2<0)),.string(Xd(frs xs hq(slow a)(slow b)).1.2.natAbs),.bool(decide((frs xs hq(slow a)(slow b)).2.1<0)),.string(Xd(frs xs hq(slow a)(slow b)).2.1.natAbs),.bool(decide((frs xs hq(slow a)(slow b)).2.2<0)),.string(Xd(frs xs hq(slow a)(slow b)).2.2.natAbs)],.int .i64 0])(fun _=>[]):=by
 refine Yc Tryz.func31 J Tryz.ntmps31 J K1 ?_
 intro w0 sc hw hsc
 simp only [Zo,Zn]
 have ha1:=ha.b1
 have ha2:=ha.b2
 have hap:=ha.p
 have hb1:=hb.b1
 have hb2:=hb.b2
 have hbp:=hb.p
 have hle:=Zt5 ha hb hc
 have hI0:=FIn.start(xs:=xs)ha hb hle
 refine Yn(Nl 999 2 31 wv)<|Yn(Pe 999 J J pV)<|Zb<|Zg<|tt(Xh(i:=2)J J J J J J hw)J fun bx _=>tt(Xh(i:=3)J J J J J J hw)J fun bx_2 _=>tt(Zq(i:=4)J J J Tryz.zeroValue62 J J hw)J fun bx_3 _=>as_ J J<|Zf<|Za<|Zb<|Zb<|Zg<|mv J J<|dt(Ye(r':= .bool false)(Xw J J J)(congrArg Value.bool(decide_eq_false(by omega))))J<|mv J J<|gdt(Ym J J)J J J J<|gdt(Ye(r':= .bool false)(Ot J J J)(congrArg Value.bool(decide_eq_false(by omega))))J J J J<|dt(Yh J J J)J<|Zf<|Za<|Yf J<|Zk<|Za<|Zb<|Zb<|Zg<|mv J J<|dt(Xj(i:=2)J J J Pu Xz J J J J)J<|dt(Xj(i:=3)J J J Pu Xz J J J J)J<|tt(Zh(n:=4)(Zc6 _ _ a.1 a.2 b.1 b.2(by omega)(by omega)(by omega)(by omega)hap hbp hd.v(Dd hd(by omega))ha.efit hb.efit)J J J K4 cF58(Zd 1 J J J Ze)J hw)J fun _ _=>as_ J J<|Zf<|Za<|Zb<|Zg<|mv J J<|dt(Ye(r':= .bool false)(Qe J J J)(congrArg Value.bool(decide_eq_false(fun h=>h(if_neg hc)))))J<|Zf<|Za<|Yf J<|Zk<|Za<|Zb<|Zg<|mv J J<|tt(Zh(n:=5)(Zkz _ _ hd)J J J K1 cF59(Zd 1 J J J Ze)J hw)J(fun g hg=>?_)
 obtain⟨hgl,hgc⟩:=hg
 refine mv J J<|dt(Yg J J J)J<|dt(Yg J J J)J<|tt(Zq(i:=7)J J J Tryz.zeroValue98 J J hw)J fun bx_4 _=>tt(Zm(i:=7)J J J J J(by decide)J Ck J J⟨Zr(i:=5)J Zx,Zr(i:=6)J Zx,trivial⟩J hw trivial)J fun _ _=>as_ J J<|Zf<|Za<|Zb<|Zb<|Zg<|mv J J<|dt(Ye(r':= .bool false)(Qe J J J)(congrArg Value.bool(by decide)))J<|Zf<|Za<|Yf J<|Zk<|Za<|Zb<|Zg<|tt(Zq(i:=8)J J J Tryz.zeroValue102 J J hw)J fun bx_5 _=>Zf<|Za<|Zb<|Zb<|Zg<|dt(Yb(i:=7)J J J Zcx Ck J J)J<|dt(Xj(i:=2)J J J Pu Xz J J J J)J<|dt(Xj(i:=3)J J J Pu Xz J J J J)J<|tt(Zh(n:=8)(Lt _ _ _ _ _ a.1 a.2 b.1 b.2(by omega)(by omega)(by omega)(by omega)hap hbp(Xx hgl(fun q hq=>(Nw hd q hq).1))(Xx hgl(Kn hd(m:=a)(by omega)(by omega)).1)(Xx hgc(fun q hq=>(Gd hd q hq).1))(Xx hgc(Kn hd(m:=a)(by omega)(by omega)).2)(Xx hgc(Kn hd(m:=b)(by omega)(by omega)).2)(by have h7:=congrArg List.length hgc;rw [List.length_map]at h7;have:=Df xs;omega))J J J K4 cF61(Zd 5 J J J(Zd 6 J J J(Nn 8 J J Ze)))J hw)J(fun _ _=>?_)
 refine dt(Ye(r':= .bool false)(Xr J J)(congrArg Value.bool(by rw [hgl,hgc];show(!ngb(Nq xs)(chx xs)a b)=false;rw [hn];rfl)))J<|Zf<|Za<|Yf J<|Zk<|Za<|Zb<|Zg<|mv J J<|tt(Zq(i:=9)J J J Tryz.zeroValue3 J J hw)J fun bx_6 _=>tt(Zm(i:=9)J J J J J(by decide)J zT3 J J⟨Zc J,trivial⟩J hw trivial)J fun _ _=>Zf<|Za<|Zb<|Gc(fun x=>x=bx_6) [7](by kernel_rfl)<|Zz(n:=4) [(0,0),(1,0),(2,0),(4,0)](by kernel_rfl)<|r0' J J J J(st1 9 J(Yb(i:=7)J J J Zcx Ck J J))<|r0' J J J J(st1 9 J(Xj(i:=2)J J J Pu Xz J J J J))<|r0' J J J J(st1 9 J(Xj(i:=3)J J J Pu Xz J J J J))<|r0' J J J J(st1 9 J(d_mkc(vs:=[])(us:=[_])J trivial K1))<|Yp<|Pw(n:=3)3 6(by kernel_rfl) ?_ ?_
 ·refine Yq J J(Zh(n:=9)(Zac a.1 a.2 b.1 b.2(by omega)(by omega)(by omega)(by omega)hap hbp)J J J K2 cF60 Ze J hw)fun _ _=>Pw(n:=2)5 6(by kernel_rfl) ?_ ?_
  ·exact Yq J J(Zbn(i:=9)(fs:=[])(vs:=[_,_,_,_])(us:=[])(El _ _ _ _ _ _ xs(slow a)(slow b)hq hh hd hgl hgc hI0)J J J J K4 cF63 J J(by decide)(Nn 8 J J(Zd 5 J J J(Zd 6 J J J Ze)))J hw(fun _ h=>h))fun _ _=>Zz(n:=0) [(6,1),(7,3)](by kernel_rfl)<|r1' J J(Zq(i:=10)J J J Tryz.zeroValue62 J J hw)fun bx_7 _=>r3' J J(Zm(i:=10)J J J J J(by decide)J Be J J⟨Zc J,Zc J,Zc J,Zc J,Zc J,Zc J,Zc J,Zc J,trivial⟩J hw trivial)fun _ _=>Yp<|Yj(by kernel_rfl)<|Za<|Zb<|Zb<|Zg<|dt(Qa J J Kx J Gj J J)J<|dt(Oh(i:=8)J J J Al J)J<|dt(Ye(r':= .bool false)(Qe J J J)(congrArg Value.bool(by decide)))J<|Zf<|Za<|Yf J<|Zk<|Za<|Zb<|Zg<|dt(Zfn(i:=10)J J J Zit Be J J J J J J J J)J<|tt(Zm(i:=4)J J J J J(by decide)J Be J J⟨Zc J,Zc J,Zc J,Zc J,Zc J,Zc J,Zc J,Zc J,trivial⟩J hw trivial)J fun _ _=>as_ J J<|Zf<|Za<|Zw<|Zy(.inl J)hsc()_(fun a w hs=>No hs Tryz.results31(Yr(i:=4)J J Zit Be J)J)J trivial J Zj
  ·exact Yq J J(Zq(i:=11)J J J Tryz.zeroValue62 J J hw)fun bx_8 _=>Zz(n:=0) [(5,1),(7,3)](by kernel_rfl)<|r1' J J(Zbn(i:=9)(fs:=[])(vs:=[_,_,_,_])(us:=[])(El _ _ _ _ _ _ xs(slow a)(slow b)hq hh hd hgl hgc hI0)J J J J K4 cF63 J J(by decide)(Nn 8 J J(Zd 5 J J J(Zd 6 J J J Ze)))J hw(fun _ h=>h))fun _ _=>r3' J J(Zm(i:=11)J J J J J(by decide)J Be J J⟨Zc J,Zc J,Zc J,Zc J,Zc J,Zc J,Zc J,Zc J,trivial⟩J hw trivial)fun _ _=>Yp<|Yj(by kernel_rfl)<|Za<|Zb<|Zb<|Zg<|dt(Qa J J Kx J Gj J J)J<|dt(Oh(i:=8)J J J Al J)J<|dt(Ye(r':= .bool false)(Qe J J J)(congrArg Value.bool(by decide)))J<|Zf<|Za<|Yf J<|Zk<|Za<|Zb<|Zg<|dt(Zfn(i:=11)J J J Zit Be J J J J J J J J)J<|tt(Zm(i:=4)J J J J J(by decide)J Be J J⟨Zc J,Zc J,Zc J,Zc J,Zc J,Zc J,Zc J,Zc J,trivial⟩J hw trivial)J fun _ _=>as_ J J<|Zf<|Za<|Zw<|Zy(.inl J)hsc()_(fun a w hs=>No hs Tryz.results31(Yr(i:=4)J J Zit Be J)J)J trivial J Zj
 ·refine Yq J J(Zq(i:=12)J J J Tryz.zeroValue62 J J hw)fun bx_9 _=>Zz(n:=0) [(3,1),(5,1),(7,3)](by kernel_rfl)<|r1' J J(Zh(n:=12)(Zac a.1 a.2 b.1 b.2(by omega)(by omega)(by omega)(by omega)hap hbp)J J J K2 cF60 Ze J hw)fun _ _=>r1' J J(Zbn(i:=9)(fs:=[])(vs:=[_,_,_,_])(us:=[])(El _ _ _ _ _ _ xs(slow a)(slow b)hq hh hd hgl hgc hI0)J J J J K4 cF63 J J(by decide)(Nn 8 J J(Zd 5 J J J(Zd 6 J J J Ze)))J hw(fun _ h=>h))fun _ _=>r3' J J(Zm(i:=12)J J J J J(by decide)J Be J J⟨Zc J,Zc J,Zc J,Zc J,Zc J,Zc J,Zc J,Zc J,trivial⟩J hw trivial)fun _ _=>Yp<|Yj(by kernel_rfl)<|Za<|Zb<|Zb<|Zg<|dt(Qa J J Kx J Gj J J)J<|dt(Oh(i:=8)J J J Al J)J<|dt(Ye(r':= .bool false)(Qe J J J)(congrArg Value.bool(by decide)))J<|Zf<|Za<|Yf J<|Zk<|Za<|Zb<|Zg<|dt(Zfn(i:=12)J J J Zit Be J J J J J J J J)J<|tt(Zm(i:=4)J J J J J(by decide)J Be J J⟨Zc J,Zc J,Zc J,Zc J,Zc J,Zc J,Zc J,Zc J,trivial⟩J hw trivial)J fun _ _=>as_ J J<|Zf<|Za<|Zw ?_
  exact Zy(.inl J)hsc()_(fun a w hs=>No hs Tryz.results31(Yr(i:=4)J J Zit Be J)J)J trivial J Zj
set_option maxHeartbeats 4000000 in
theorem Zhf(v:Value)(xs:List Int)(a b:R2)(hd:Cvd xs)(ha:E32 a)(hb:E32 b)(hq:Nat)(hh:hq≤100)(hc:¬0<cmp a b)(hn:ngb(Nq xs)(chx xs)a b=false):Cal Tryz.prog 31#[v,.agg#[.bool(decide(a.1<0)),.string(Xd a.1.natAbs),.bool(decide(a.2<0)),.string(Xd a.2.natAbs)],.agg#[.bool(decide(b.1<0)),.string(Xd b.1.natAbs),.bool(decide(b.2<0)),.string(Xd b.2.natAbs)],.int .i64(hq:Int)] [slp 2 wv v xs]false(G:=Unit)(fun _=>True)(fun _=> .tuple#[.agg#[.bool false,.string⟨#[]⟩,.bool false,.string⟨#[]⟩,.bool false,.string⟨#[]⟩,.bool false,.string⟨#[]⟩],.int .i64 9])(fun _=>[]):=by
 refine Yc Tryz.func31 J Tryz.ntmps31 J K1 ?_
 intro w0 sc hw hsc
 simp only [Zo,Zn]
 have ha1:=ha.b1
 have ha2:=ha.b2
 have hap:=ha.p
 have hb1:=hb.b1
 have hb2:=hb.b2
 have hbp:=hb.p
 refine Yn(Nl 999 2 31 wv)<|Yn(Pe 999 J J pV)<|Zb<|Zg<|tt(Xh(i:=2)J J J J J J hw)J fun bx _=>tt(Xh(i:=3)J J J J J J hw)J fun bx_2 _=>tt(Zq(i:=4)J J J Tryz.zeroValue62 J J hw)J fun bx_3 _=>as_ J J<|Zf<|Za<|Zb<|Zb<|Zg<|mv J J<|dt(Ye(r':= .bool false)(Xw J J J)(congrArg Value.bool(decide_eq_false(by omega))))J<|mv J J<|gdt(Ym J J)J J J J<|gdt(Ye(r':= .bool false)(Ot J J J)(congrArg Value.bool(decide_eq_false(by omega))))J J J J<|dt(Yh J J J)J<|Zf<|Za<|Yf J<|Zk<|Za<|Zb<|Zb<|Zg<|mv J J<|dt(Xj(i:=2)J J J Pu Xz J J J J)J<|dt(Xj(i:=3)J J J Pu Xz J J J J)J<|tt(Zh(n:=4)(Zc6 _ _ a.1 a.2 b.1 b.2(by omega)(by omega)(by omega)(by omega)hap hbp hd.v(Dd hd(by omega))ha.efit hb.efit)J J J K4 cF58(Zd 1 J J J Ze)J hw)J fun _ _=>as_ J J<|Zf<|Za<|Zb<|Zg<|mv J J<|dt(Ye(r':= .bool false)(Qe J J J)(congrArg Value.bool(decide_eq_false(fun h=>h(if_neg hc)))))J<|Zf<|Za<|Yf J<|Zk<|Za<|Zb<|Zg<|mv J J<|tt(Zh(n:=5)(Zkz _ _ hd)J J J K1 cF59(Zd 1 J J J Ze)J hw)J(fun g hg=>?_)
 obtain⟨hgl,hgc⟩:=hg
 refine mv J J<|dt(Yg J J J)J<|dt(Yg J J J)J<|tt(Zq(i:=7)J J J Tryz.zeroValue98 J J hw)J fun bx_4 _=>tt(Zm(i:=7)J J J J J(by decide)J Ck J J⟨Zr(i:=5)J Zx,Zr(i:=6)J Zx,trivial⟩J hw trivial)J fun _ _=>as_ J J<|Zf<|Za<|Zb<|Zb<|Zg<|mv J J<|dt(Ye(r':= .bool false)(Qe J J J)(congrArg Value.bool(by decide)))J<|Zf<|Za<|Yf J<|Zk<|Za<|Zb<|Zg<|tt(Zq(i:=8)J J J Tryz.zeroValue102 J J hw)J fun bx_5 _=>Zf<|Za<|Zb<|Zb<|Zg<|dt(Yb(i:=7)J J J Zcx Ck J J)J<|dt(Xj(i:=2)J J J Pu Xz J J J J)J<|dt(Xj(i:=3)J J J Pu Xz J J J J)J<|tt(Zh(n:=8)(Lt _ _ _ _ _ a.1 a.2 b.1 b.2(by omega)(by omega)(by omega)(by omega)hap hbp(Xx hgl(fun q hq=>(Nw hd q hq).1))(Xx hgl(Kn hd(m:=a)(by omega)(by omega)).1)(Xx hgc(fun q hq=>(Gd hd q hq).1))(Xx hgc(Kn hd(m:=a)(by omega)(by omega)).2)(Xx hgc(Kn hd(m:=b)(by omega)(by omega)).2)(by have h7:=congrArg List.length hgc;rw [List.length_map]at h7;have:=Df xs;omega))J J J K4 cF61(Zd 5 J J J(Zd 6 J J J(Nn 8 J J Ze)))J hw)J(fun _ _=>?_)
 exact dt(Ye(r':= .bool true)(Xr J J)(congrArg Value.bool(by rw [hgl,hgc];show(!ngb(Nq xs)(chx xs)a b)=true;rw [hn];rfl)))J<|Zf<|Za<|Nm J<|Zb<|Zb<|Zg<|dt(Qa J J Kx J Gj J J)J<|dt(Oh(i:=8)J J J Al J)J<|dt(Ye(r':= .bool false)(Qe J J J)(congrArg Value.bool(by decide)))J<|Zf<|Za<|Yf J<|Zk<|Za<|Zb<|Zg<|dt(Oo(ivs:=[])J trivial(fun a w hs=>b62_))J<|tt(Zm(i:=4)J J J J J(by decide)J Be J J⟨Zc J,Zc J,Zc J,Zc J,Zc J,Zc J,Zc J,Zc J,trivial⟩J hw trivial)J fun _ _=>as_ J J<|Zf<|Za<|Zw<|Xe<|Zy(.inl J)hsc()_(fun a w hs=>No hs Tryz.results31(Yr(i:=4)J J Zit Be J)J)J trivial J Zj
end Go.Sky
namespace Go.Sky
set_option linter.unusedVariables false
def Fz(xs:List Int)(m:Int):List Int:=Zfi xs(tzl [m])
theorem Zjg(xs:List Int)(m:Int)(x:Rat):rev(Fz xs m)x=rev xs x-m:=by
 have h:rev(Fz xs m)x=rev(Hx xs([m].map fun a=>-1*a))x:=Mp x _ _ fun i=>by
  unfold Fz
  rw [Ko,Kd,Lo]
  match i with
  | 0=>show cf xs 0-m=cf xs 0 + -1*m;omega
  | i+1=>show cf xs(i+1)-cf [m](i+1)=cf xs(i+1)+cf [-1*m](i+1);rw [show cf [m](i+1)=0 from rfl,show cf [-1*m](i+1)=0 from rfl];omega
 rw [h,Qd,Yd,Ok];push_cast;grind
theorem Zjw {xs:List Int} {m:Int} (hd:Cvd xs)(hs:Sz 40 xs)(hm:bl m.natAbs≤50):Cvd(Fz xs m)∧(∀i,bl(cf xs i-cf(tzl [m])i).natAbs≤65536)∧Vp(tzl [m]):=by
 have hl:=hd.l
 have hc:∀i,bl(cf [m]i).natAbs≤50:=fun i=>by
  match i with
  | 0=>exact hm
  | i+1=>rw [show cf [m](i+1)=0 from rfl];simp [Le]
 have hz:∀i,bl(cf xs i-cf(tzl [m])i).natAbs≤51:=fun i=>by
  have h1:=hs i
  have h2:=hc i
  rw [Lo,Int.sub_eq_add_neg]
  have h3:=Kp(cf xs i)(-cf [m]i)
  rw [Int.natAbs_neg]at h3
  omega
 have ht:(tzl [m]).length≤1:=Hy [m]
 have hv:Vp(tzl [m]):=⟨fun i=>by rw [Lo];have:=hc i;omega,Ow _,by omega⟩
 have hsz:Sz 51(Fz xs m):=fun i=>by unfold Fz;rw [Ko];exact hz i
 have hlen:(Fz xs m).length≤7:=by
  unfold Fz Zfi
  refine Nat.le_trans(Hy _) ?_
  rw [Xq];omega
 exact⟨⟨⟨hsz.mono(by omega),Ow _,by omega⟩,hsz.mono(by omega),hlen⟩,fun i=>Nat.le_trans(hz i)(by omega),hv⟩
def An(xs:List Int)(m:Int):Prop:=∃x:Rat,0≤x∧x≤1∧rev xs x<(m:Rat)
theorem Zw7(xs:List Int)(m:Int):NegI(Fz xs m)0 1↔An xs m:=by
 constructor
 ·rintro⟨x,a,b,c⟩;rw [Zjg]at c;exact⟨x,a,b,by grind⟩
 ·rintro⟨x,a,b,c⟩;exact⟨x,a,b,by rw [Zjg];grind⟩
theorem Zso {xs:List Int} {m n:Int} (h:An xs m)(hmn:m≤n):An xs n:=by
 obtain⟨x,a,b,c⟩:=h
 have:(m:Rat)≤(n:Rat):=by exact_mod_cast hmn
 exact⟨x,a,b,by grind⟩
def lws:List Int→Int
 | []=>0
 | c :: p=>-(c.natAbs:Int)+lws p
theorem Zsn:∀p q:List Int,lws(p ++ q)=lws p+lws q
 | [],q=>by show lws q=0+lws q;omega
 | c :: p,q=>by show -(c.natAbs:Int)+lws(p ++ q)=-(c.natAbs:Int)+lws p+lws q;rw [Zsn p q];omega
theorem Cv {xs:List Int} {i:Nat} (h:i<xs.length):lws(xs.take(i+1))=lws(xs.take i) + -((cf xs i).natAbs:Int):=by
 rw [Oe 0 xs i h,Zsn];show lws(xs.take i)+(-((cf xs i).natAbs:Int)+0)=_;omega
theorem lws_b {n:Nat} : ∀p:List Int,(∀c∈p,c.natAbs≤n)→-((p.length*n:Nat):Int)≤lws p∧lws p≤0
 | [],_=>by show -((0*n:Nat):Int)≤0∧(0:Int)≤0;omega
 | c :: p,h=>by
  have h1:=lws_b p fun d hd=>h d(List.mem_cons_of_mem _ hd)
  have h2:=h c List.mem_cons_self
  show -(((p.length+1)*n:Nat):Int)≤-(c.natAbs:Int)+lws p∧-(c.natAbs:Int)+lws p≤0
  rw [Nat.succ_mul];omega
theorem Zsm {x:Rat} (h0:0≤x)(h1:x≤1):∀p:List Int,((lws p:Int):Rat)≤rev p x
 | []=>by show((0:Int):Rat)≤0;exact Rat.le_refl
 | c :: p=>by
  have ih:=Zsm h0 h1 p
  have hb:=(lws_b(n:=p.foldl(fun m c=>max m c.natAbs)0)p(fun c hc=>by
   have:∀(l:List Int)(a:Nat),(a≤l.foldl(fun m c=>max m c.natAbs)a)∧∀c∈l,c.natAbs≤l.foldl(fun m c=>max m c.natAbs)a:=fun l=>by
    induction l with
    | nil=>intro a;exact⟨Nat.le_refl _,fun c hc=>absurd hc(by simp)⟩
    | cons d l ih=>
     intro a
     obtain⟨i1,i2⟩:=ih(max a d.natAbs)
     refine⟨Nat.le_trans(Nat.le_max_left _ _)i1,fun c hc=>?_⟩
     rcases List.mem_cons.1 hc with rfl | hc
     ·exact Nat.le_trans(Nat.le_max_right _ _)i1
     ·exact i2 c hc
   exact(this p 0).2 c hc)).2
  have hb':((lws p:Int):Rat)≤0:=by exact_mod_cast hb
  have hc:((-(c.natAbs:Int):Int):Rat)≤(c:Rat):=by exact_mod_cast(show -(c.natAbs:Int)≤c by omega)
  have hm:=Rat.mul_nonneg(show 0≤1-x by grind)(show 0≤-((lws p:Int):Rat)by grind)
  have hm2:=Rat.mul_nonneg h0(show 0≤rev p x-((lws p:Int):Rat)by grind)
  show((-(c.natAbs:Int)+lws p:Int):Rat)≤(c:Rat)+x*rev p x
  push_cast at hc ⊢
  grind
theorem Zw8(xs:List Int):¬An xs(lws xs):=by
 rintro⟨x,a,b,c⟩
 have:=Zsm a b xs;grind
theorem rev_at0(xs:List Int):rev xs 0=((cf xs 0:Int):Rat):=by
 cases xs with
 | nil=>rfl
 | cons c p=>show(c:Rat)+0*rev p 0=(c:Rat);grind
theorem Zsp(xs:List Int):An xs(cf xs 0+1):=by
 refine⟨0,by grind,by decide,?_⟩
 rw [rev_at0]
 push_cast;grind
theorem Zlt {xs:List Int} {l h:Int} (h1:¬An xs l)(h2:An xs h):l<h:=by
 rcases Int.lt_or_le l h with q | q
 ·exact q
 ·exact absurd(Zso h2 q)h1
theorem Zp9 {c:Int} (h:c≠0):wv(-(c.natAbs:Int))= .agg#[.bool true,.string(Xd c.natAbs)]:=by
 unfold wv
 rw [decide_eq_true(by omega),Int.natAbs_neg,Int.natAbs_natCast]
theorem tzl_one {x:Int} (h:x≠0):tzl [x]=[x]:=by
 unfold tzl
 simp [List.dropWhile,h]
theorem Zbd {z:Int} (h:z.natAbs≤17592186044416):bl z.natAbs≤45:=(Mi 45 _).2(Nat.lt_of_le_of_lt h(by decide))
theorem Zny:¬An [] 0∧An [](0+1):=⟨fun⟨x,a,b,c⟩=>absurd c(by show ¬(0:Rat)<((0:Int):Rat);decide),⟨0,by decide,by decide,by show(0:Rat)<(((0:Int)+1:Int):Rat);decide⟩⟩
theorem Zc3 {xs:List Int} (hs:Sz 40 xs)(i:Nat):(cf xs i).natAbs<1099511627776:=(Mi 40 _).1(hs i)
theorem Zat {xs:List Int} (hs:Sz 40 xs)(hl:xs.length≤7)(i:Nat):-7696581394432≤lws(xs.take i)∧lws(xs.take i)≤0:=by
 obtain⟨h1,h2⟩:=lws_b(n:=1099511627776)(xs.take i)fun c hc=>by
  obtain⟨k,hk,rfl⟩:=List.mem_iff_getElem.1 hc
  have h9:=Zc3 hs k
  rw [List.length_take]at hk
  have e:(xs.take i)[k]=cf xs k:=by rw [List.getElem_take];unfold cf;rw [List.getD_eq_getElem?_getD,List.getElem?_eq_getElem(by omega)];rfl
  rw [e];omega
 have h3:(xs.take i).length*1099511627776≤7*1099511627776:=Nat.mul_le_mul_right _(by rw [List.length_take];omega)
 exact⟨by omega,h2⟩
structure FlI(xs:List Int)(lo hi:Int):Prop where
 l:¬An xs lo
 h:An xs hi
 b1:-8796093022208≤lo
 b2:hi≤8796093022208
theorem FlI.lt {xs:List Int} {lo hi:Int} (h:FlI xs lo hi):lo<hi:=Zlt h.l h.h
theorem FlI.start {xs:List Int} (hs:Sz 40 xs)(hl:xs.length≤7) {i:Nat} (hi:xs.length≤i):FlI xs(lws(xs.take i))(cf xs 0+1):=by
 have h1:=Zat hs hl i
 have h2:=Zc3 hs 0
 refine⟨by rw [List.take_of_length_le hi];exact Zw8 xs,Zsp xs,by omega,by omega⟩
theorem Zwh:qv(0,1)=0∧qv(1,1)=1:=by unfold qv;exact⟨by decide +kernel,by decide +kernel⟩
theorem Cw {xs:List Int} {m:Int} (h:Cvd(Fz xs m)):ngb(Nq(Fz xs m))(chx(Fz xs m))(0,1)(1,1)=true↔An xs m:=by
 have:=Zlo h(a:=(0,1))(b:=(1,1))(by decide)(by decide)(by rw [Zwh.1,Zwh.2];decide)
 rw [Zwh.1,Zwh.2]at this
 exact this.trans(Zw7 xs m)
theorem bstr_0 {n:Nat} (h:(Xd n).size=0):n=0:=by
 rw [Mv]at h
 have:=(Ph(by omega:2≤256)n).1 h;omega
theorem Zum {c:Int} (h:¬(Xd c.natAbs).size=0):c≠0:=fun e=>h(by rw [e,Mv];exact(Ph(by omega:2≤256)0).2 rfl)
theorem Zq1 {a b:Int} (h:(a-b).sign≤0):a≤b:=by
 rcases Int.lt_or_le b a with q | q
 ·rw [Int.sign_eq_one_of_pos(by omega)]at h;omega
 ·exact q
theorem Zq2 {a b:Int} (h:¬(a-b).sign≤0):b<a:=by
 rcases Int.lt_or_le b a with q | q
 ·exact q
 ·exfalso
  rcases Int.lt_or_eq_of_le q with w | w
  ·rw [Int.sign_eq_neg_one_of_neg(by omega)]at h;omega
  ·rw [w,Int.sub_self]at h;exact h(by decide)
end Go.Sky
namespace Go.Sky
open Go.Proofs
set_option maxRecDepth 20000
set_option maxHeartbeats 4000000
set_option linter.unusedVariables false
set_option linter.unusedSimpArgs false
theorem Zdv(x:Int)(hx:bl x.natAbs≤65536):Cal Tryz.prog 83#[wv x,.int .i64(-1)] []false(G:=Unit)(fun _=>True)(fun _=>Zcs(x/2))(fun _=>[]):=by
 refine Yc Tryz.func83 J Tryz.ntmps83 J trivial ?_
 intro w0 sc hw hsc
 simp only [Zo,Zn]
 have hb2:=Ziq x 2
 have hxx:okW(decide(x<0))(Xd x.natAbs)=true:=Zao hx
 refine Zb<|Zg<|tt(Xh(i:=1)J J J J J J hw)J fun bx _=>tt(Zq(i:=2)J J J Tryz.zeroValue31 J J hw)J fun bx_2 _=>as_ J J<|Zf<|Za<|Zb<|Zb<|Zg<|dt(Yb(i:=1)J J J Qq Yl J J)J<|tt(Zh(n:=2)(Fl _ _)J J J K1 Zfq Ze J hw)J fun _ _=>dt(Ye(r':= .bool false)(Xr J J)(congrArg Value.bool(by rw [hxx];rfl)))J<|Zf<|Za<|Yf J<|Zk<|Za<|Zb<|Zb<|Zg<|mv J J<|dt(Ye(r':= .bool false)(Xw J J J)(congrArg Value.bool(by decide)))J<|mv J J<|gdt(Ym J J)J J J J<|gdt(Ye(r':= .bool false)(Ot J J J)(congrArg Value.bool(by decide)))J J J J<|dt(Yh J J J)J<|Zf<|Za<|Yf J<|Zk<|Za<|Zb<|Zg<|dt(Yb(i:=1)J J J Qq Yl J J)J<|tt(Zh(n:=3)(Pb _ _(Xm _)(by omega))J J J K1 Li Ze J hw)J fun g hg=>tt(Zq(i:=4)J J J Tryz.zeroValue154 J J hw)J fun bx_3 _=>tt(Zm(i:=4)J J J J J(by decide)J Yz J J⟨Zc J,Zr(i:=3)J Zi,trivial⟩J hw trivial)J fun _ _=>Zf<|Za<|Zb<|Zb<|Zg<|mv J J<|dt(Ye(r':= .bool false)(Lq J J J)(congrArg Value.bool(by decide)))J<|Zf<|Za<|Yf J<|Zk<|Za ?_
 refine Dc [(4,_)] [(0,_),(1,_),(2,_),(3,_),(4,_)](fun(q:Bool×Value×Value×Nat×Nat)=>[(7,.pointer(some⟨q.2.2.2.1,0,none⟩)),(8,.pointer(some⟨q.2.2.2.2,0,none⟩))])(fun(q:Bool×Value×Value×Nat×Nat)=>[(84,dgp q.2.1(x/2).natAbs),(85,dgp q.2.2.1(x%2).natAbs),(86,box q.2.2.2.1 154#[.bool q.1,q.2.1]),(87,box q.2.2.2.2 154#[.bool false,q.2.2.1])])(fun(q:Bool×Value×Value×Nat×Nat)=>sg q.1(x/2))K1 K5 ?_ ?_
 ·refine On [4] [13](by kernel_rfl)<|Zz(n:=11) [(0,0),(2,0),(3,0)](by kernel_rfl)<|r0' J J J J(stf(Yb(i:=4)J J J Lp Yz J J)K1)<|r0' J J J J(stf(Ym J J)K1)<|r0' J J J J(stf(Ye(r':= .int .i64((1:Nat):Int))(d_negi J J⟨by omega,by omega⟩)J)K1)<|Yp<|Zbh(n:=10)1 10 11(by kernel_rfl) ?_ ?_ ?_
  ·refine Yq J J(Pr(i:=81)(ivs:=[(0,_)])(enc:=Iw)(dg U 1)J J J K2 Xu Tryz.ti149 J J J J J J pU.cells J J hw)fun v _=>Zbh(n:=9)4 10 11(by kernel_rfl) ?_ ?_ ?_
   ·refine Yq J J(Zh(n:=82)(Ia _ 1 1(show bl 1≤4294967296 by decide)(by decide))J J J K2 Zba(Xv 81 J J pU Ze)J hw)fun v_2 _=>Zko(Om 82 J Zi)(fun sw hsw=>?_)
    subst hsw
    refine Zz(n:=8) [(5,0)](by kernel_rfl)<|r0' J J J J(stf(Oo(ivs:=[(0,_),(1,_)])J K4(fun a w hs=>Na((Zc J)a w hs)((Zc J)a w hs)))K1)<|Yp<|Zbh(n:=7)6 10 11(by kernel_rfl) ?_ ?_ ?_
    ·refine Yq J J(Zh(n:=84)(Qu _ _ _ _ x 2(by assumption)(Xm(2:Int))(by omega)(show bl(2:Int).natAbs≤3000000000 by decide)(by decide))J J J K2 Mh(Zd 3 J J J(Zd 82 J J J Ze))J hw)fun g_2 hg_2=>Zz(n:=4) [(7,0),(8,0),(9,0)](by kernel_rfl)<|r0' J J J J(stf(Ym J J)K1)<|r0' J J J J(stf(Yg J J J)K1)<|r0' J J J J(stf(Yg J J J)K1)<|Yp<|Pw(n:=3)10 11(by kernel_rfl) ?_ ?_
     ·exact Yq J J(Zv(i:=86)J J J Tryz.zeroValue154 J J hw K1)fun bx_4 hoff=>Zz(n:=0) [(11,1),(12,1),(13,3)](by kernel_rfl)<|r1' J J(Zv(i:=87)J J J Tryz.zeroValue154 J J hw K1)fun bx_5 hoff_2=>r1' J J(Zm(i:=86)J J J J J(by decide)J Yz J J⟨Zc J,Zr(i:=84)J Zi,trivial⟩J hw hoff)fun _ _=>r3' J J(Zm(i:=87)J J J J J(by decide)J Yz J J⟨Zc J,Zr(i:=85)J Zi,trivial⟩J hw trivial)fun _ _=>Yp<|Yj(by kernel_rfl)<|Qy(_,_,_,_,_)(by assumption)K3 K9
     ·exact Yq J J(Zv(i:=87)J J J Tryz.zeroValue154 J J hw K1)fun bx_6 hoff_3=>Zz(n:=0) [(10,1),(12,1),(13,3)](by kernel_rfl)<|r1' J J(Zv(i:=86)J J J Tryz.zeroValue154 J J hw K1)fun bx_7 hoff_4=>r1' J J(Zm(i:=86)J J J J J(by decide)J Yz J J⟨Zc J,Zr(i:=84)J Zi,trivial⟩J hw hoff_4)fun _ _=>r3' J J(Zm(i:=87)J J J J J(by decide)J Yz J J⟨Zc J,Zr(i:=85)J Zi,trivial⟩J hw trivial)fun _ _=>Yp<|Yj(by kernel_rfl)<|Qy(_,_,_,_,_)(by assumption)K3 K9
    ·refine Yq J J(Zv(i:=86)J J J Tryz.zeroValue154 J J hw K1)fun bx_8 hoff_5=>Pw(n:=6)6 11(by kernel_rfl) ?_ ?_
     ·exact Yq J J(Zh(n:=84)(Qu _ _ _ _ x 2(by assumption)(Xm(2:Int))(by omega)(show bl(2:Int).natAbs≤3000000000 by decide)(by decide))J J J K2 Mh(Zd 3 J J J(Zd 82 J J J Ze))J hw)fun g_3 hg_3=>Zz(n:=0) [(7,0),(8,0),(9,0),(11,1),(12,1),(13,3)](by kernel_rfl)<|r0' J J J J(stf(Ym J J)K1)<|r0' J J J J(stf(Yg J J J)K1)<|r0' J J J J(stf(Yg J J J)K1)<|r1' J J(Zv(i:=87)J J J Tryz.zeroValue154 J J hw K1)fun bx_9 hoff_6=>r1' J J(Zm(i:=86)J J J J J(by decide)J Yz J J⟨Zc J,Zr(i:=84)J Zi,trivial⟩J hw hoff_5)fun _ _=>r3' J J(Zm(i:=87)J J J J J(by decide)J Yz J J⟨Zc J,Zr(i:=85)J Zi,trivial⟩J hw trivial)fun _ _=>Yp<|Yj(by kernel_rfl)<|Qy(_,_,_,_,_)(by assumption)K3 K9
     ·exact Yq J J(Zv(i:=87)J J J Tryz.zeroValue154 J J hw K1)fun bx_10 hoff_7=>Zz(n:=0) [(6,1),(7,0),(8,0),(9,0),(12,1),(13,3)](by kernel_rfl)<|r1' J J(Zh(n:=84)(Qu _ _ _ _ x 2(by assumption)(Xm(2:Int))(by omega)(show bl(2:Int).natAbs≤3000000000 by decide)(by decide))J J J K2 Mh(Zd 3 J J J(Zd 82 J J J Ze))J hw)fun g_4 hg_4=>r0' J J J J(stf(Ym J J)K1)<|r0' J J J J(stf(Yg J J J)K1)<|r0' J J J J(stf(Yg J J J)K1)<|r1' J J(Zm(i:=86)J J J J J(by decide)J Yz J J⟨Zc J,Zr(i:=84)J Zi,trivial⟩J hw hoff_5)fun _ _=>r3' J J(Zm(i:=87)J J J J J(by decide)J Yz J J⟨Zc J,Zr(i:=85)J Zi,trivial⟩J hw trivial)fun _ _=>Yp<|Yj(by kernel_rfl)<|Qy(_,_,_,_,_)(by assumption)K3 K9
    ·refine Yq J J(Zv(i:=87)J J J Tryz.zeroValue154 J J hw K1)fun bx_11 hoff_8=>Pw(n:=6)6 10(by kernel_rfl) ?_ ?_
     ·exact Yq J J(Zh(n:=84)(Qu _ _ _ _ x 2(by assumption)(Xm(2:Int))(by omega)(show bl(2:Int).natAbs≤3000000000 by decide)(by decide))J J J K2 Mh(Zd 3 J J J(Zd 82 J J J Ze))J hw)fun g_5 hg_5=>Zz(n:=0) [(7,0),(8,0),(9,0),(10,1),(12,1),(13,3)](by kernel_rfl)<|r0' J J J J(stf(Ym J J)K1)<|r0' J J J J(stf(Yg J J J)K1)<|r0' J J J J(stf(Yg J J J)K1)<|r1' J J(Zv(i:=86)J J J Tryz.zeroValue154 J J hw K1)fun bx_12 hoff_9=>r1' J J(Zm(i:=86)J J J J J(by decide)J Yz J J⟨Zc J,Zr(i:=84)J Zi,trivial⟩J hw hoff_9)fun _ _=>r3' J J(Zm(i:=87)J J J J J(by decide)J Yz J J⟨Zc J,Zr(i:=85)J Zi,trivial⟩J hw trivial)fun _ _=>Yp<|Yj(by kernel_rfl)<|Qy(_,_,_,_,_)(by assumption)K3 K9
     ·exact Yq J J(Zv(i:=86)J J J Tryz.zeroValue154 J J hw K1)fun bx_13 hoff_10=>Zz(n:=0) [(6,1),(7,0),(8,0),(9,0),(12,1),(13,3)](by kernel_rfl)<|r1' J J(Zh(n:=84)(Qu _ _ _ _ x 2(by assumption)(Xm(2:Int))(by omega)(show bl(2:Int).natAbs≤3000000000 by decide)(by decide))J J J K2 Mh(Zd 3 J J J(Zd 82 J J J Ze))J hw)fun g_6 hg_6=>r0' J J J J(stf(Ym J J)K1)<|r0' J J J J(stf(Yg J J J)K1)<|r0' J J J J(stf(Yg J J J)K1)<|r1' J J(Zm(i:=86)J J J J J(by decide)J Yz J J⟨Zc J,Zr(i:=84)J Zi,trivial⟩J hw hoff_10)fun _ _=>r3' J J(Zm(i:=87)J J J J J(by decide)J Yz J J⟨Zc J,Zr(i:=85)J Zi,trivial⟩J hw trivial)fun _ _=>Yp<|Yj(by kernel_rfl)<|Qy(_,_,_,_,_)(by assumption)K3 K9
   ·refine Yq J J(Zv(i:=86)J J J Tryz.zeroValue154 J J hw K1)fun bx_14 hoff_11=>Pw(n:=8)4 11(by kernel_rfl) ?_ ?_
    ·refine Yq J J(Zh(n:=82)(Ia _ 1 1(show bl 1≤4294967296 by decide)(by decide))J J J K2 Zba(Xv 81 J J pU Ze)J hw)fun v_3 _=>Zko(Om 82 J Zi)(fun sw hsw=>?_)
     subst hsw
     refine Zz(n:=7) [(5,0)](by kernel_rfl)<|r0' J J J J(stf(Oo(ivs:=[(0,_),(1,_)])J K4(fun a w hs=>Na((Zc J)a w hs)((Zc J)a w hs)))K1)<|Yp<|Pw(n:=6)6 11(by kernel_rfl) ?_ ?_
     ·exact Yq J J(Zh(n:=84)(Qu _ _ _ _ x 2(by assumption)(Xm(2:Int))(by omega)(show bl(2:Int).natAbs≤3000000000 by decide)(by decide))J J J K2 Mh(Zd 3 J J J(Zd 82 J J J Ze))J hw)fun g_7 hg_7=>Zz(n:=0) [(7,0),(8,0),(9,0),(11,1),(12,1),(13,3)](by kernel_rfl)<|r0' J J J J(stf(Ym J J)K1)<|r0' J J J J(stf(Yg J J J)K1)<|r0' J J J J(stf(Yg J J J)K1)<|r1' J J(Zv(i:=87)J J J Tryz.zeroValue154 J J hw K1)fun bx_15 hoff_12=>r1' J J(Zm(i:=86)J J J J J(by decide)J Yz J J⟨Zc J,Zr(i:=84)J Zi,trivial⟩J hw hoff_11)fun _ _=>r3' J J(Zm(i:=87)J J J J J(by decide)J Yz J J⟨Zc J,Zr(i:=85)J Zi,trivial⟩J hw trivial)fun _ _=>Yp<|Yj(by kernel_rfl)<|Qy(_,_,_,_,_)(by assumption)K3 K9
     ·exact Yq J J(Zv(i:=87)J J J Tryz.zeroValue154 J J hw K1)fun bx_16 hoff_13=>Zz(n:=0) [(6,1),(7,0),(8,0),(9,0),(12,1),(13,3)](by kernel_rfl)<|r1' J J(Zh(n:=84)(Qu _ _ _ _ x 2(by assumption)(Xm(2:Int))(by omega)(show bl(2:Int).natAbs≤3000000000 by decide)(by decide))J J J K2 Mh(Zd 3 J J J(Zd 82 J J J Ze))J hw)fun g_8 hg_8=>r0' J J J J(stf(Ym J J)K1)<|r0' J J J J(stf(Yg J J J)K1)<|r0' J J J J(stf(Yg J J J)K1)<|r1' J J(Zm(i:=86)J J J J J(by decide)J Yz J J⟨Zc J,Zr(i:=84)J Zi,trivial⟩J hw hoff_11)fun _ _=>r3' J J(Zm(i:=87)J J J J J(by decide)J Yz J J⟨Zc J,Zr(i:=85)J Zi,trivial⟩J hw trivial)fun _ _=>Yp<|Yj(by kernel_rfl)<|Qy(_,_,_,_,_)(by assumption)K3 K9
    ·refine Yq J J(Zv(i:=87)J J J Tryz.zeroValue154 J J hw K1)fun bx_17 hoff_14=>Zz(n:=7) [(4,1)](by kernel_rfl)<|r1' J J(Zh(n:=82)(Ia _ 1 1(show bl 1≤4294967296 by decide)(by decide))J J J K2 Zba(Xv 81 J J pU Ze)J hw)fun v_4 _=>Yp<|Zko(Om 82 J Zi)(fun sw hsw=>?_)
     subst hsw
     exact Zz(n:=0) [(5,0),(6,1),(7,0),(8,0),(9,0),(12,1),(13,3)](by kernel_rfl)<|r0' J J J J(stf(Oo(ivs:=[(0,_),(1,_)])J K4(fun a w hs=>Na((Zc J)a w hs)((Zc J)a w hs)))K1)<|r1' J J(Zh(n:=84)(Qu _ _ _ _ x 2(by assumption)(Xm(2:Int))(by omega)(show bl(2:Int).natAbs≤3000000000 by decide)(by decide))J J J K2 Mh(Zd 3 J J J(Zd 82 J J J Ze))J hw)fun g_9 hg_9=>r0' J J J J(stf(Ym J J)K1)<|r0' J J J J(stf(Yg J J J)K1)<|r0' J J J J(stf(Yg J J J)K1)<|r1' J J(Zm(i:=86)J J J J J(by decide)J Yz J J⟨Zc J,Zr(i:=84)J Zi,trivial⟩J hw hoff_11)fun _ _=>r3' J J(Zm(i:=87)J J J J J(by decide)J Yz J J⟨Zc J,Zr(i:=85)J Zi,trivial⟩J hw trivial)fun _ _=>Yp<|Yj(by kernel_rfl)<|Qy(_,_,_,_,_)(by assumption)K3 K9
   ·refine Yq J J(Zv(i:=87)J J J Tryz.zeroValue154 J J hw K1)fun bx_18 hoff_15=>Pw(n:=8)4 10(by kernel_rfl) ?_ ?_
    ·refine Yq J J(Zh(n:=82)(Ia _ 1 1(show bl 1≤4294967296 by decide)(by decide))J J J K2 Zba(Xv 81 J J pU Ze)J hw)fun v_5 _=>Zko(Om 82 J Zi)(fun sw hsw=>?_)
     subst hsw
     refine Zz(n:=7) [(5,0)](by kernel_rfl)<|r0' J J J J(stf(Oo(ivs:=[(0,_),(1,_)])J K4(fun a w hs=>Na((Zc J)a w hs)((Zc J)a w hs)))K1)<|Yp<|Pw(n:=6)6 10(by kernel_rfl) ?_ ?_
     ·exact Yq J J(Zh(n:=84)(Qu _ _ _ _ x 2(by assumption)(Xm(2:Int))(by omega)(show bl(2:Int).natAbs≤3000000000 by decide)(by decide))J J J K2 Mh(Zd 3 J J J(Zd 82 J J J Ze))J hw)fun g_10 hg_10=>Zz(n:=0) [(7,0),(8,0),(9,0),(10,1),(12,1),(13,3)](by kernel_rfl)<|r0' J J J J(stf(Ym J J)K1)<|r0' J J J J(stf(Yg J J J)K1)<|r0' J J J J(stf(Yg J J J)K1)<|r1' J J(Zv(i:=86)J J J Tryz.zeroValue154 J J hw K1)fun bx_19 hoff_16=>r1' J J(Zm(i:=86)J J J J J(by decide)J Yz J J⟨Zc J,Zr(i:=84)J Zi,trivial⟩J hw hoff_16)fun _ _=>r3' J J(Zm(i:=87)J J J J J(by decide)J Yz J J⟨Zc J,Zr(i:=85)J Zi,trivial⟩J hw trivial)fun _ _=>Yp<|Yj(by kernel_rfl)<|Qy(_,_,_,_,_)(by assumption)K3 K9
     ·exact Yq J J(Zv(i:=86)J J J Tryz.zeroValue154 J J hw K1)fun bx_20 hoff_17=>Zz(n:=0) [(6,1),(7,0),(8,0),(9,0),(12,1),(13,3)](by kernel_rfl)<|r1' J J(Zh(n:=84)(Qu _ _ _ _ x 2(by assumption)(Xm(2:Int))(by omega)(show bl(2:Int).natAbs≤3000000000 by decide)(by decide))J J J K2 Mh(Zd 3 J J J(Zd 82 J J J Ze))J hw)fun g_11 hg_11=>r0' J J J J(stf(Ym J J)K1)<|r0' J J J J(stf(Yg J J J)K1)<|r0' J J J J(stf(Yg J J J)K1)<|r1' J J(Zm(i:=86)J J J J J(by decide)J Yz J J⟨Zc J,Zr(i:=84)J Zi,trivial⟩J hw hoff_17)fun _ _=>r3' J J(Zm(i:=87)J J J J J(by decide)J Yz J J⟨Zc J,Zr(i:=85)J Zi,trivial⟩J hw trivial)fun _ _=>Yp<|Yj(by kernel_rfl)<|Qy(_,_,_,_,_)(by assumption)K3 K9
    ·refine Yq J J(Zv(i:=86)J J J Tryz.zeroValue154 J J hw K1)fun bx_21 hoff_18=>Zz(n:=7) [(4,1)](by kernel_rfl)<|r1' J J(Zh(n:=82)(Ia _ 1 1(show bl 1≤4294967296 by decide)(by decide))J J J K2 Zba(Xv 81 J J pU Ze)J hw)fun v_6 _=>Yp<|Zko(Om 82 J Zi)(fun sw hsw=>?_)
     subst hsw
     exact Zz(n:=0) [(5,0),(6,1),(7,0),(8,0),(9,0),(12,1),(13,3)](by kernel_rfl)<|r0' J J J J(stf(Oo(ivs:=[(0,_),(1,_)])J K4(fun a w hs=>Na((Zc J)a w hs)((Zc J)a w hs)))K1)<|r1' J J(Zh(n:=84)(Qu _ _ _ _ x 2(by assumption)(Xm(2:Int))(by omega)(show bl(2:Int).natAbs≤3000000000 by decide)(by decide))J J J K2 Mh(Zd 3 J J J(Zd 82 J J J Ze))J hw)fun g_12 hg_12=>r0' J J J J(stf(Ym J J)K1)<|r0' J J J J(stf(Yg J J J)K1)<|r0' J J J J(stf(Yg J J J)K1)<|r1' J J(Zm(i:=86)J J J J J(by decide)J Yz J J⟨Zc J,Zr(i:=84)J Zi,trivial⟩J hw hoff_18)fun _ _=>r3' J J(Zm(i:=87)J J J J J(by decide)J Yz J J⟨Zc J,Zr(i:=85)J Zi,trivial⟩J hw trivial)fun _ _=>Yp<|Yj(by kernel_rfl)<|Qy(_,_,_,_,_)(by assumption)K3 K9
  ·refine Yq J J(Zv(i:=86)J J J Tryz.zeroValue154 J J hw K1)fun bx_22 hoff_19=>Pw(n:=9)1 11(by kernel_rfl) ?_ ?_
   ·refine Yq J J(Pr(i:=81)(ivs:=[(0,_)])(enc:=Iw)(dg U 1)J J J K2 Xu Tryz.ti149 J J J J J J pU.cells J J hw)fun v_7 _=>Pw(n:=8)4 11(by kernel_rfl) ?_ ?_
    ·refine Yq J J(Zh(n:=82)(Ia _ 1 1(show bl 1≤4294967296 by decide)(by decide))J J J K2 Zba(Xv 81 J J pU Ze)J hw)fun v_8 _=>Zko(Om 82 J Zi)(fun sw hsw=>?_)
     subst hsw
     refine Zz(n:=7) [(5,0)](by kernel_rfl)<|r0' J J J J(stf(Oo(ivs:=[(0,_),(1,_)])J K4(fun a w hs=>Na((Zc J)a w hs)((Zc J)a w hs)))K1)<|Yp<|Pw(n:=6)6 11(by kernel_rfl) ?_ ?_
     ·exact Yq J J(Zh(n:=84)(Qu _ _ _ _ x 2(by assumption)(Xm(2:Int))(by omega)(show bl(2:Int).natAbs≤3000000000 by decide)(by decide))J J J K2 Mh(Zd 3 J J J(Zd 82 J J J Ze))J hw)fun g_13 hg_13=>Zz(n:=0) [(7,0),(8,0),(9,0),(11,1),(12,1),(13,3)](by kernel_rfl)<|r0' J J J J(stf(Ym J J)K1)<|r0' J J J J(stf(Yg J J J)K1)<|r0' J J J J(stf(Yg J J J)K1)<|r1' J J(Zv(i:=87)J J J Tryz.zeroValue154 J J hw K1)fun bx_23 hoff_20=>r1' J J(Zm(i:=86)J J J J J(by decide)J Yz J J⟨Zc J,Zr(i:=84)J Zi,trivial⟩J hw hoff_19)fun _ _=>r3' J J(Zm(i:=87)J J J J J(by decide)J Yz J J⟨Zc J,Zr(i:=85)J Zi,trivial⟩J hw trivial)fun _ _=>Yp<|Yj(by kernel_rfl)<|Qy(_,_,_,_,_)(by assumption)K3 K9
     ·exact Yq J J(Zv(i:=87)J J J Tryz.zeroValue154 J J hw K1)fun bx_24 hoff_21=>Zz(n:=0) [(6,1),(7,0),(8,0),(9,0),(12,1),(13,3)](by kernel_rfl)<|r1' J J(Zh(n:=84)(Qu _ _ _ _ x 2(by assumption)(Xm(2:Int))(by omega)(show bl(2:Int).natAbs≤3000000000 by decide)(by decide))J J J K2 Mh(Zd 3 J J J(Zd 82 J J J Ze))J hw)fun g_14 hg_14=>r0' J J J J(stf(Ym J J)K1)<|r0' J J J J(stf(Yg J J J)K1)<|r0' J J J J(stf(Yg J J J)K1)<|r1' J J(Zm(i:=86)J J J J J(by decide)J Yz J J⟨Zc J,Zr(i:=84)J Zi,trivial⟩J hw hoff_19)fun _ _=>r3' J J(Zm(i:=87)J J J J J(by decide)J Yz J J⟨Zc J,Zr(i:=85)J Zi,trivial⟩J hw trivial)fun _ _=>Yp<|Yj(by kernel_rfl)<|Qy(_,_,_,_,_)(by assumption)K3 K9
    ·refine Yq J J(Zv(i:=87)J J J Tryz.zeroValue154 J J hw K1)fun bx_25 hoff_22=>Zz(n:=7) [(4,1)](by kernel_rfl)<|r1' J J(Zh(n:=82)(Ia _ 1 1(show bl 1≤4294967296 by decide)(by decide))J J J K2 Zba(Xv 81 J J pU Ze)J hw)fun v_9 _=>Yp<|Zko(Om 82 J Zi)(fun sw hsw=>?_)
     subst hsw
     exact Zz(n:=0) [(5,0),(6,1),(7,0),(8,0),(9,0),(12,1),(13,3)](by kernel_rfl)<|r0' J J J J(stf(Oo(ivs:=[(0,_),(1,_)])J K4(fun a w hs=>Na((Zc J)a w hs)((Zc J)a w hs)))K1)<|r1' J J(Zh(n:=84)(Qu _ _ _ _ x 2(by assumption)(Xm(2:Int))(by omega)(show bl(2:Int).natAbs≤3000000000 by decide)(by decide))J J J K2 Mh(Zd 3 J J J(Zd 82 J J J Ze))J hw)fun g_15 hg_15=>r0' J J J J(stf(Ym J J)K1)<|r0' J J J J(stf(Yg J J J)K1)<|r0' J J J J(stf(Yg J J J)K1)<|r1' J J(Zm(i:=86)J J J J J(by decide)J Yz J J⟨Zc J,Zr(i:=84)J Zi,trivial⟩J hw hoff_19)fun _ _=>r3' J J(Zm(i:=87)J J J J J(by decide)J Yz J J⟨Zc J,Zr(i:=85)J Zi,trivial⟩J hw trivial)fun _ _=>Yp<|Yj(by kernel_rfl)<|Qy(_,_,_,_,_)(by assumption)K3 K9
   ·refine Yq J J(Zv(i:=87)J J J Tryz.zeroValue154 J J hw K1)fun bx_26 hoff_23=>Zz(n:=7) [(1,1),(4,1)](by kernel_rfl)<|r1' J J(Pr(i:=81)(ivs:=[(0,_)])(enc:=Iw)(dg U 1)J J J K2 Xu Tryz.ti149 J J J J J J pU.cells J J hw)fun v_10 _=>r1' J J(Zh(n:=82)(Ia _ 1 1(show bl 1≤4294967296 by decide)(by decide))J J J K2 Zba(Xv 81 J J pU Ze)J hw)fun v_11 _=>Yp<|Zko(Om 82 J Zi)(fun sw hsw=>?_)
    subst hsw
    exact Zz(n:=0) [(5,0),(6,1),(7,0),(8,0),(9,0),(12,1),(13,3)](by kernel_rfl)<|r0' J J J J(stf(Oo(ivs:=[(0,_),(1,_)])J K4(fun a w hs=>Na((Zc J)a w hs)((Zc J)a w hs)))K1)<|r1' J J(Zh(n:=84)(Qu _ _ _ _ x 2(by assumption)(Xm(2:Int))(by omega)(show bl(2:Int).natAbs≤3000000000 by decide)(by decide))J J J K2 Mh(Zd 3 J J J(Zd 82 J J J Ze))J hw)fun g_16 hg_16=>r0' J J J J(stf(Ym J J)K1)<|r0' J J J J(stf(Yg J J J)K1)<|r0' J J J J(stf(Yg J J J)K1)<|r1' J J(Zm(i:=86)J J J J J(by decide)J Yz J J⟨Zc J,Zr(i:=84)J Zi,trivial⟩J hw hoff_19)fun _ _=>r3' J J(Zm(i:=87)J J J J J(by decide)J Yz J J⟨Zc J,Zr(i:=85)J Zi,trivial⟩J hw trivial)fun _ _=>Yp<|Yj(by kernel_rfl)<|Qy(_,_,_,_,_)(by assumption)K3 K9
  ·refine Yq J J(Zv(i:=87)J J J Tryz.zeroValue154 J J hw K1)fun bx_27 hoff_24=>Pw(n:=9)1 10(by kernel_rfl) ?_ ?_
   ·refine Yq J J(Pr(i:=81)(ivs:=[(0,_)])(enc:=Iw)(dg U 1)J J J K2 Xu Tryz.ti149 J J J J J J pU.cells J J hw)fun v_12 _=>Pw(n:=8)4 10(by kernel_rfl) ?_ ?_
    ·refine Yq J J(Zh(n:=82)(Ia _ 1 1(show bl 1≤4294967296 by decide)(by decide))J J J K2 Zba(Xv 81 J J pU Ze)J hw)fun v_13 _=>Zko(Om 82 J Zi)(fun sw hsw=>?_)
     subst hsw
     refine Zz(n:=7) [(5,0)](by kernel_rfl)<|r0' J J J J(stf(Oo(ivs:=[(0,_),(1,_)])J K4(fun a w hs=>Na((Zc J)a w hs)((Zc J)a w hs)))K1)<|Yp<|Pw(n:=6)6 10(by kernel_rfl) ?_ ?_
     ·exact Yq J J(Zh(n:=84)(Qu _ _ _ _ x 2(by assumption)(Xm(2:Int))(by omega)(show bl(2:Int).natAbs≤3000000000 by decide)(by decide))J J J K2 Mh(Zd 3 J J J(Zd 82 J J J Ze))J hw)fun g_17 hg_17=>Zz(n:=0) [(7,0),(8,0),(9,0),(10,1),(12,1),(13,3)](by kernel_rfl)<|r0' J J J J(stf(Ym J J)K1)<|r0' J J J J(stf(Yg J J J)K1)<|r0' J J J J(stf(Yg J J J)K1)<|r1' J J(Zv(i:=86)J J J Tryz.zeroValue154 J J hw K1)fun bx_28 hoff_25=>r1' J J(Zm(i:=86)J J J J J(by decide)J Yz J J⟨Zc J,Zr(i:=84)J Zi,trivial⟩J hw hoff_25)fun _ _=>r3' J J(Zm(i:=87)J J J J J(by decide)J Yz J J⟨Zc J,Zr(i:=85)J Zi,trivial⟩J hw trivial)fun _ _=>Yp<|Yj(by kernel_rfl)<|Qy(_,_,_,_,_)(by assumption)K3 K9
     ·exact Yq J J(Zv(i:=86)J J J Tryz.zeroValue154 J J hw K1)fun bx_29 hoff_26=>Zz(n:=0) [(6,1),(7,0),(8,0),(9,0),(12,1),(13,3)](by kernel_rfl)<|r1' J J(Zh(n:=84)(Qu _ _ _ _ x 2(by assumption)(Xm(2:Int))(by omega)(show bl(2:Int).natAbs≤3000000000 by decide)(by decide))J J J K2 Mh(Zd 3 J J J(Zd 82 J J J Ze))J hw)fun g_18 hg_18=>r0' J J J J(stf(Ym J J)K1)<|r0' J J J J(stf(Yg J J J)K1)<|r0' J J J J(stf(Yg J J J)K1)<|r1' J J(Zm(i:=86)J J J J J(by decide)J Yz J J⟨Zc J,Zr(i:=84)J Zi,trivial⟩J hw hoff_26)fun _ _=>r3' J J(Zm(i:=87)J J J J J(by decide)J Yz J J⟨Zc J,Zr(i:=85)J Zi,trivial⟩J hw trivial)fun _ _=>Yp<|Yj(by kernel_rfl)<|Qy(_,_,_,_,_)(by assumption)K3 K9
    ·refine Yq J J(Zv(i:=86)J J J Tryz.zeroValue154 J J hw K1)fun bx_30 hoff_27=>Zz(n:=7) [(4,1)](by kernel_rfl)<|r1' J J(Zh(n:=82)(Ia _ 1 1(show bl 1≤4294967296 by decide)(by decide))J J J K2 Zba(Xv 81 J J pU Ze)J hw)fun v_14 _=>Yp<|Zko(Om 82 J Zi)(fun sw hsw=>?_)
     subst hsw
     exact Zz(n:=0) [(5,0),(6,1),(7,0),(8,0),(9,0),(12,1),(13,3)](by kernel_rfl)<|r0' J J J J(stf(Oo(ivs:=[(0,_),(1,_)])J K4(fun a w hs=>Na((Zc J)a w hs)((Zc J)a w hs)))K1)<|r1' J J(Zh(n:=84)(Qu _ _ _ _ x 2(by assumption)(Xm(2:Int))(by omega)(show bl(2:Int).natAbs≤3000000000 by decide)(by decide))J J J K2 Mh(Zd 3 J J J(Zd 82 J J J Ze))J hw)fun g_19 hg_19=>r0' J J J J(stf(Ym J J)K1)<|r0' J J J J(stf(Yg J J J)K1)<|r0' J J J J(stf(Yg J J J)K1)<|r1' J J(Zm(i:=86)J J J J J(by decide)J Yz J J⟨Zc J,Zr(i:=84)J Zi,trivial⟩J hw hoff_27)fun _ _=>r3' J J(Zm(i:=87)J J J J J(by decide)J Yz J J⟨Zc J,Zr(i:=85)J Zi,trivial⟩J hw trivial)fun _ _=>Yp<|Yj(by kernel_rfl)<|Qy(_,_,_,_,_)(by assumption)K3 K9
   ·refine Yq J J(Zv(i:=86)J J J Tryz.zeroValue154 J J hw K1)fun bx_31 hoff_28=>Zz(n:=7) [(1,1),(4,1)](by kernel_rfl)<|r1' J J(Pr(i:=81)(ivs:=[(0,_)])(enc:=Iw)(dg U 1)J J J K2 Xu Tryz.ti149 J J J J J J pU.cells J J hw)fun v_15 _=>r1' J J(Zh(n:=82)(Ia _ 1 1(show bl 1≤4294967296 by decide)(by decide))J J J K2 Zba(Xv 81 J J pU Ze)J hw)fun v_16 _=>Yp<|Zko(Om 82 J Zi)(fun sw hsw=>?_)
    subst hsw
    exact Zz(n:=0) [(5,0),(6,1),(7,0),(8,0),(9,0),(12,1),(13,3)](by kernel_rfl)<|r0' J J J J(stf(Oo(ivs:=[(0,_),(1,_)])J K4(fun a w hs=>Na((Zc J)a w hs)((Zc J)a w hs)))K1)<|r1' J J(Zh(n:=84)(Qu _ _ _ _ x 2(by assumption)(Xm(2:Int))(by omega)(show bl(2:Int).natAbs≤3000000000 by decide)(by decide))J J J K2 Mh(Zd 3 J J J(Zd 82 J J J Ze))J hw)fun g_20 hg_20=>r0' J J J J(stf(Ym J J)K1)<|r0' J J J J(stf(Yg J J J)K1)<|r0' J J J J(stf(Yg J J J)K1)<|r1' J J(Zm(i:=86)J J J J J(by decide)J Yz J J⟨Zc J,Zr(i:=84)J Zi,trivial⟩J hw hoff_28)fun _ _=>r3' J J(Zm(i:=87)J J J J J(by decide)J Yz J J⟨Zc J,Zr(i:=85)J Zi,trivial⟩J hw trivial)fun _ _=>Yp<|Yj(by kernel_rfl)<|Qy(_,_,_,_,_)(by assumption)K3 K9
 ·rintro⟨qb,qv,rv,b7,b8⟩hq
  dsimp only at hq
  simp only [List.cons_append,List.nil_append]
  exact Zb<|Zg<|dt(Yb(i:=86)J J J Lp Yz J J)J<|tt(Zh(n:=4)(Kj _ _(x/2)(by assumption)(by omega))J J J K1 Zcz(Zd 84 J J J Ze)J hw)J fun _ _=>dt(Yg J J J)J<|dt(Yg J J J)J<|tt(Zm(i:=2)J J J J J(by decide)J Yl J J⟨Zc J,Zc J,trivial⟩J hw trivial)J fun _ _=>as_ J J<|Zf<|Za<|Zw<|Zy(.inl J)hsc()_(fun a w hs=>No hs Tryz.results83(Yr(i:=2)J J Qq Yl J)J)J trivial J Zj
theorem Zq3(x:Int)(hx:bl x.natAbs≤65536):Cal Tryz.prog 86#[wv x] []true(G:=Value)(fun r=>True)(fun r=>r)(fun r=>[slp 2 wv r(tzl [x])]):=by
 refine Yc Tryz.func86 J Tryz.ntmps86 J trivial ?_
 intro w0 sc hw hsc
 simp only [Zo,Zn]
 refine Zb<|Zg<|tt(Xh(i:=1)J J J J J J hw)J fun bx _=>as_ J J<|Zf<|Za<|Zb<|Zb<|Zg<|dt(Yb(i:=1)J J J Qq Yl J J)J<|tt(Zh(n:=1)(Ml _ hx)J J J K1 Zcc Ze J hw)J fun _ _=>dt(Pm J J J)J<|Zf<|Za<|Zp J(fun h358=>?_)(fun h358=>?_)
 ·exact Zb<|Zg<|as_ J J<|Zf<|Za<|Zw<|Xe<|Zy(.inl J)hsc _ _(fun a w hs=>Qi hs Tryz.results86 J)J trivial J(Lg(by rw [show x=0 from Int.sign_eq_zero_iff_zero.1(by assumption)]<;>rfl)Zj)
 ·exact Zk<|Za<|Zb<|Zg<|dt(Yb(i:=1)J J J Qq Yl J J)J<|tt(Pr(i:=2)(ivs:=[(0,_)])(enc:=wv) [x]J J J K2 Qp Tryz.ti31 J J J J J J pV.cells J J hw)J fun v _=>as_ J J<|Zf<|Za<|Zw<|Zy(.inl J)hsc _ _(fun a w hs=>Qi hs Tryz.results86 J)J trivial J(Pv 2 J J pV(by rw [tzl_one(fun e=>(show ¬x.sign=0 by assumption)(by rw [e];rfl))])Zj)
end Go.Sky

