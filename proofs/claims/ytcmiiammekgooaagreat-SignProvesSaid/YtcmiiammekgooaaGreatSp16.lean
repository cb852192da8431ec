/- Rules, arithmetic and contracts: part 17. No conditions but those that each theorem names. -/
import Derived.Test.YtcmiiammekgooaaGreatSp15
set_option linter.all false
set_option maxHeartbeats 4000000
namespace Go.Sky
open Go.Proofs.Tryz
open Go.Proofs
set_option maxRecDepth 20000
set_option maxHeartbeats 4000000
set_option linter.unusedSimpArgs false
theorem Yec(bf bc bs:Nat)(v1 v2 c0 c1 c2 c3:Value)(ls cs:List (SL×List Int))(a b m:R2)(hx:bl m.1.natAbs≤65536)(hy:bl m.2.natAbs≤65536)(hp:0<m.2)(hlsv:∀z∈ls,Vp z.2)(hlsE:∀z∈ls,¬Iv z.2 m.1 m.2):Zp8 prog 64 #[.agg #[.bool (decide (a.1<0)),.string (Xk a.1.natAbs),.bool (decide (a.2<0)),.string (Xk a.2.natAbs),.bool (decide (b.1<0)),.string (Xk b.1.natAbs),.bool (decide (b.2<0)),.string (Xk b.2.natAbs)],rX m.1 m.2,.pointer (some ⟨bf,0,none⟩),.pointer (some ⟨bc,0,none⟩),.pointer (some ⟨bs,0,none⟩)] [Df bs 102 #[.int .i64 0],Df bc 98 #[v1,v2],Ek 1 Gx qZ v1 ls,Ek 1 Gx qZ v2 cs] (box bf 41 #[c0,c1,c2,c3]) (G:=Unit) (fun _=>True) (fun _=> .bool (decide (vlu (ls.map Prod.snd) (m.1,m.2)<0))) (fun _=>box bf 41 #[.bool (decide (m.1<0)),.string (Xk m.1.natAbs),.bool (decide (m.2<0)),.string (Xk m.2.natAbs)]):=by
 refine Zhb func64 J ntmps64 J K4 fun w0 sc hw hsc=>?_
 simp only [Zs,Zq]
 exact Zb<|Zf<|tt (Xp (i:=6) K5 hw) fun bx _=>tt (Xp (i:=7) K5 hw) fun bx_2 _=>Zo J<|Zd<|Za<|Zb<|Zf<|dt (Pj (i:=7) K3 Xf Ym K4)<|tt (Zt (i:=1) K6 Ym K2 ⟨Zc J,Zc J,Zc J,Zc J,trivial⟩ J hw trivial) fun _ _=>Zd<|Za<|Zb<|Zf<|dt (d_lr2 (i:=3) J J J Bf Gu J J)<|dt (Pj (i:=7) K3 Xf Ym K4)<|tt (Xv (n:=7) (Zc2 _ _ _ _ _ _ _ hp hlsv hlsE hx hy) J J J K3 call62 (Zi 4 K3 (Zi 5 K3 (Zi 2 K3 Ze))) J hw) fun _ _=>dt (Pa K3)<|Zo J<|Zd<|Za<|Zp<|Zhg (.inl J) hsc () _ (fun a w hs=>Nr hs results64 J) J trivial 1 J J J J (Zi 2 K3 (Zi 3 K3 (Zi 4 K3 (Zi 5 K3 Ze))))
theorem Yee(bf:Nat)(k:Int)(a b m:R2)(hk:-1000≤k∧k≤1000):Zp8 prog 79 #[.agg #[.bool (decide (a.1<0)),.string (Xk a.1.natAbs),.bool (decide (a.2<0)),.string (Xk a.2.natAbs),.bool (decide (b.1<0)),.string (Xk b.1.natAbs),.bool (decide (b.2<0)),.string (Xk b.2.natAbs)],rX m.1 m.2,.pointer (some ⟨bf,0,none⟩)] [] (box bf 3 #[.int .i64 k]) (G:=Unit) (fun _=>True) (fun _=> .bool (decide (k-1<0))) (fun _=>box bf 3 #[.int .i64 (k-1)]):=by
 refine Zhb func79 J ntmps79 J trivial fun w0 sc hw hsc=>?_
 simp only [Zs,Zq]
 exact Zb<|Zf<|tt (Xp (i:=2) K5 hw) fun bx _=>tt (Xp (i:=3) K5 hw) fun bx_2 _=>Zo J<|Zd<|Za<|Zb<|Zf<|dt (Mc (i:=1) K3 isAgg3 J)<|dt (Pq K3)<|tt (Zt (i:=1) K6 zT3 K2 ⟨Zc J,trivial⟩ J hw trivial) fun _ _=>Zd<|Za<|Zb<|Zf<|dt (Mc (i:=1) K3 isAgg3 J)<|dt (Pa K3)<|Zo J<|Zd<|Za<|Zp<|Zhg (.inl J) hsc () _ (fun a w hs=>Nr hs results79 J) J trivial 1 J J J J Ze
theorem Zl3(bf bc bs:Nat)(v1 v2:Value)(ls cs:List (SL×List Int))(xs:List Int)(a0 b0:R2)(s t:Rat)(c0 c1 c2 c3:Value)(hd:Cvd xs)(h0:xs≠[])(hgl:ls.map Prod.snd=Qq xs)(hgc:cs.map Prod.snd=Gz xs)(hI0:NIn xs s t 0 a0 b0):Zp8 prog 63 #[.agg #[v1,v2],.pointer (some ⟨bs,0,none⟩),.agg #[.bool (decide (a0.1<0)),.string (Xk a0.1.natAbs),.bool (decide (a0.2<0)),.string (Xk a0.2.natAbs),.bool (decide (b0.1<0)),.string (Xk b0.1.natAbs),.bool (decide (b0.2<0)),.string (Xk b0.2.natAbs)],.func (.func 64) #[] #[.pointer (some ⟨bf,0,none⟩),.pointer (some ⟨bc,0,none⟩),.pointer (some ⟨bs,0,none⟩)]] [Df bs 102 #[.int .i64 0],Df bc 98 #[v1,v2],Ek 1 Gx qZ v1 ls,Ek 1 Gx qZ v2 cs] (box bf 41 #[c0,c1,c2,c3]) (G:=R2×R2×R2) (fun r=>Fnd xs s t r.1) (fun r=> .agg #[.bool (decide (r.2.1.1<0)),.string (Xk r.2.1.1.natAbs),.bool (decide (r.2.1.2<0)),.string (Xk r.2.1.2.natAbs),.bool (decide (r.2.2.1<0)),.string (Xk r.2.2.1.natAbs),.bool (decide (r.2.2.2<0)),.string (Xk r.2.2.2.natAbs)]) (fun r=>box bf 41 #[.bool (decide (r.1.1<0)),.string (Xk r.1.1.natAbs),.bool (decide (r.1.2<0)),.string (Xk r.1.2.natAbs)]):=by
 refine Zhb func63 J ntmps63 J K4 fun w0 sc hw hsc=>?_
 simp only [Zs,Zq]
 refine Zb<|Zf<|tt (Xp (i:=6) K5 hw) fun bx _=>tt (Xp (i:=7) K5 hw) fun bx_2 _=>tt (Xi (i:=8) K2 zeroValue62 K2 hw) fun bx_3 _=>Zd<|Za<|Zb<|Zn<|Px [(1,_),(3,_),(4,_),(6,_),(8,_)] [(0,_),(2,_),(3,_),(4,_),(5,_),(6,_),(8,_)] (fun(q:R2×R2×Nat×Value×Value×Value×Value)=>[]) (fun(q:R2×R2×Nat×Value×Value×Value×Value)=>[(7,box bx_2 62 #[.bool (decide (q.1.1<0)),.string (Xk q.1.1.natAbs),.bool (decide (q.1.2<0)),.string (Xk q.1.2.natAbs),.bool (decide (q.2.1.1<0)),.string (Xk q.2.1.1.natAbs),.bool (decide (q.2.1.2<0)),.string (Xk q.2.1.2.natAbs)]),(1,box bf 41 #[q.2.2.2.1,q.2.2.2.2.1,q.2.2.2.2.2.1,q.2.2.2.2.2.2])]) (fun(q:R2×R2×Nat×Value×Value×Value×Value)=>NIn xs s t q.2.2.1 q.1 q.2.1) (fun(q:R2×R2×Nat×Value×Value×Value×Value)=>2736-q.2.2.1) (a0,b0,0,c0,c1,c2,c3) (hI0) K5 K9 ?_
 rintro⟨a,b,j,c0,c1,c2,c3⟩ hI
 dsimp only at hI
 simp only [CA,NA]
 obtain⟨r1,r2,r3,r4,r5,r6,r7⟩:=hI.round hd h0
 rw [←hgl]at r5 r6 r7
 rw [←hgc]at r6 r7
 refine Zb<|Zb<|Zf<|mv J<|dt (Zay J J)<|dt (Qy K2 Ks J Ie K2)<|dt (Zix (i:=2) J J J Ee J)<|dt (dT (Hf K3) (vB (by decide)))<|Zd<|Za<|Of J<|Zl<|Za<|Zn<|Zb<|Zf<|mv J<|dt (Qy K2 Zin J Ym K2)<|dt (Pj (i:=7) K3 Xf Ym K4)<|dt (Qy K2 Zin J Ym K2)<|dt (Pj (i:=7) K3 Xf Ym K4)<|tt (Xv (n:=8) (Zhp _ a.1 a.2 b.1 b.2 r3.2.2 r4.2.2 r1) J J J K3 call94 (Zi 2 K3 Ze) J hw) fun _ _=>tt (Xi (i:=9) K2 zeroValue41 K2 hw) fun bx_4 _=>tt (Zt (i:=9) K6 Ym K2 ⟨Zc J,Zc J,Zc J,Zc J,trivial⟩ J hw trivial) fun _ _=>Zd<|Za<|Zb<|Zb<|Zf<|mv J<|dt (Zew (i:=7) J J J Zct Fe J J J J J J J J)<|dt (Pj (i:=9) K3 Xf Ym K4)<|tt (Bn (i:=1) (fs:=[]) (vs:=[_,_]) (us:=[_,_,_]) (Yec _ _ _ _ _ _ _ _ _ _ _ a b (Pe a b) (by omega) (by omega) r2.2.2 (Qo hgl (fun q hq=>(Lm hd q hq).1)) (Qo hgl (Ky hd (m:=(Pe a b)) (by omega) (by omega)).1)) J J J J K2 call64 J J (by decide) (Zi 2 K3 (Zi 3 K3 (Zi 4 K3 (Zi 5 K3 Ze)))) J hw (fun _ _=>trivial)) fun _ _=>Zd<|Za<|Zr J (fun h228=>?_) (fun h228=>?_)
 ·exact Yt<|Zv<|Zhh<|Zv<|Pd<|Za<|Zb<|Zf<|dt (Zew (i:=7) J J J Zct Fe J J J J J J J J)<|tt (Zt (i:=8) K6 Fe K2 ⟨Zc J,Zc J,Zc J,Zc J,Zc J,Zc J,Zc J,Zc J,trivial⟩ J hw trivial) fun _ _=>Zd<|Za<|Zp<|Zhg (.inl J) hsc (Pe a b,a,b) _ (fun a w hs=>Nr hs results63 (Yw (i:=8) J J Zct Fe J)) J (r5 ‹_›) 1 J J J J (Zi 2 K3 (Zi 3 K3 (Zi 4 K3 (Zi 5 K3 Ze))))
 ·refine Zl<|Za<|Zb<|Zf<|dt (Qm (i:=6) K3 Bf Gu K2)<|mv J<|dt (Qy K2 Zin J Ym K2)<|dt (Pj (i:=7) K3 Xf Ym K4)<|dt (Pj (i:=9) K3 Xf Ym K4)<|tt (Xv (n:=9) (Hj _ _ _ _ _ a.1 a.2 (Pe a b).1 (Pe a b).2 r3.2.2 r2.2.2 (Qo hgl (fun q hq=>(Lm hd q hq).1)) (Qo hgl (Ky hd (m:=a) (by omega) (by omega)).1) (Qo hgc (fun q hq=>(Dl hd q hq).1)) (Qo hgc (Ky hd (m:=a) (by omega) (by omega)).2) (Qo hgc (Ky hd (m:=(Pe a b)) (by omega) (by omega)).2) (by have h7:=congrArg List.length hgc;rw [List.length_map]at h7;have:=Cm xs;omega)) J J J K4 call61 (Zi 4 K3 (Zi 5 K3 (Zi 2 K3 Ze))) J hw) fun _ _=>Zd<|Za<|Mx J (fun h231=>?_) (fun h231=>?_)
  ·exact Zf<|dt (Pj (i:=9) K3 Xf Ym K4)<|dt (Qy K2 Zin J Ym K2)<|tt (Zj2 (cs':=#[]) (i:=7) J J J J J J Ym J J ⟨Zc J,Zc J,Zc J,Zc J,trivial⟩ J hw trivial) fun _ _=>Zd<|Qh<|Xg (a,Pe a b,j+1,_,_,_,_) (r6 ‹_› ‹_›) (by have:=hI.j hd h0;dsimp only;omega) K5 K9
  ·exact Zf<|dt (Pj (i:=9) K3 Xf Ym K4)<|dt (Qy K2 Zin J Ym K2)<|tt (Zj2 (cs':=#[]) (i:=7) J J J J J J Ym J J ⟨Zc J,Zc J,Zc J,Zc J,trivial⟩ J hw trivial) fun _ _=>Zd<|Qh<|Xg (Pe a b,b,j+1,_,_,_,_) (r7 ‹_› ‹_›) (by have:=hI.j hd h0;dsimp only;omega) K5 K9
theorem Zar(bf bs:Nat)(v1 v2:Value)(ls cs:List (SL×List Int))(xs:List Int)(a0 b0:R2)(hq:Nat)(hh:hq≤100)(hd:Cvd xs)(hgl:ls.map Prod.snd=Qq xs)(hgc:cs.map Prod.snd=Gz xs)(hI0:FIn xs 0 a0 b0):Zp8 prog 63 #[.agg #[v1,v2],.pointer (some ⟨bs,0,none⟩),.agg #[.bool (decide (a0.1<0)),.string (Xk a0.1.natAbs),.bool (decide (a0.2<0)),.string (Xk a0.2.natAbs),.bool (decide (b0.1<0)),.string (Xk b0.1.natAbs),.bool (decide (b0.2<0)),.string (Xk b0.2.natAbs)],.func (.func 79) #[] #[.pointer (some ⟨bf,0,none⟩)]] [Df bs 102 #[.int .i64 0],Ek 1 Gx qZ v1 ls,Ek 1 Gx qZ v2 cs] (box bf 3 #[.int .i64 (hq:Int)]) (G:=Unit) (fun _=>True) (fun _=> .agg #[.bool (decide ((frs xs hq a0 b0).1.1<0)),.string (Xk (frs xs hq a0 b0).1.1.natAbs),.bool (decide ((frs xs hq a0 b0).1.2<0)),.string (Xk (frs xs hq a0 b0).1.2.natAbs),.bool (decide ((frs xs hq a0 b0).2.1<0)),.string (Xk (frs xs hq a0 b0).2.1.natAbs),.bool (decide ((frs xs hq a0 b0).2.2<0)),.string (Xk (frs xs hq a0 b0).2.2.natAbs)]) (fun _=>box bf 3 #[.int .i64 (-1)]):=by
 refine Zhb func63 J ntmps63 J K3 fun w0 sc hw hsc=>?_
 simp only [Zs,Zq]
 refine Zb<|Zf<|tt (Xp (i:=5) K5 hw) fun bx _=>tt (Xp (i:=6) K5 hw) fun bx_2 _=>tt (Xi (i:=7) K2 zeroValue62 K2 hw) fun bx_3 _=>Zd<|Za<|Zb<|Zn<|Px [(1,_),(3,_),(4,_),(6,_),(8,_)] [(0,_),(2,_),(3,_),(4,_),(5,_),(7,_)] (fun(q:R2×R2×Nat)=>[]) (fun(q:R2×R2×Nat)=>[(6,box bx_2 62 #[.bool (decide (q.1.1<0)),.string (Xk q.1.1.natAbs),.bool (decide (q.1.2<0)),.string (Xk q.1.2.natAbs),.bool (decide (q.2.1.1<0)),.string (Xk q.2.1.1.natAbs),.bool (decide (q.2.1.2<0)),.string (Xk q.2.1.2.natAbs)]),(1,box bf 3 #[.int .i64 ((hq:Int)-(q.2.2:Int))])]) (fun(q:R2×R2×Nat)=>(FIn xs q.2.2 q.1 q.2.1)∧(q.2.2≤hq)∧(frs xs (hq-q.2.2) q.1 q.2.1=frs xs hq a0 b0)) (fun(q:R2×R2×Nat)=>hq+1-q.2.2) (a0,b0,0) ⟨hI0,by first | omega | (dsimp only<;>omega),rfl⟩ K5 ⟨J,(by rw [show((hq:Int)-((0:Nat):Int))=(hq:Int) by omega]<;>rfl),J,J,J,J,J,J,trivial⟩ ?_
 rintro⟨a,b,j⟩ ⟨hI,hj,hF⟩
 dsimp only at hI hj hF
 simp only [CA,NA]
 obtain⟨r1,r2,r3,r4,r5⟩:=hI.round
 refine Zb<|Zb<|Zf<|mv J<|dt (Zay J J)<|dt (Qy K2 Ks J Ie K2)<|dt (Zix (i:=2) J J J Ee J)<|dt (dT (Hf K3) (vB (by decide)))<|Zd<|Za<|Of J<|Zl<|Za<|Zn<|Zb<|Zf<|mv J<|dt (Qy K2 Zin J Ym K2)<|dt (Pj (i:=6) K3 Xf Ym K4)<|dt (Qy K2 Zin J Ym K2)<|dt (Pj (i:=6) K3 Xf Ym K4)<|tt (Xv (n:=7) (Zhp _ a.1 a.2 b.1 b.2 r3.2.2 r4.2.2 r1) J J J K3 call94 (Zi 2 K3 Ze) J hw) fun _ _=>tt (Xi (i:=8) K2 zeroValue41 K2 hw) fun bx_4 _=>tt (Zt (i:=8) K6 Ym K2 ⟨Zc J,Zc J,Zc J,Zc J,trivial⟩ J hw trivial) fun _ _=>Zd<|Za<|Zb<|Zb<|Zf<|mv J<|dt (Zew (i:=6) J J J Zct Fe J J J J J J J J)<|dt (Pj (i:=8) K3 Xf Ym K4)<|tt (Bn (i:=1) (fs:=[]) (vs:=[_,_]) (us:=[_]) (Yee _ _ a b (Pe a b) ⟨by omega,by omega⟩) J J J J K2 call79 J J (by decide) Ze J hw (fun _ _=>trivial)) fun _ _=>Zd<|Za<|Zr J (fun h228=>?_) (fun h228=>?_)
 ·exact Yt<|Zv<|Zhh<|Zv<|Pd<|Za<|Zb<|Zf<|dt (Zew (i:=6) J J J Zct Fe J J J J J J J J)<|tt (Zt (i:=7) K6 Fe K2 ⟨Zc J,Zc J,Zc J,Zc J,Zc J,Zc J,Zc J,Zc J,trivial⟩ J hw trivial) fun _ _=>Zd<|Za<|Zp<|Zhg (.inl J) hsc () _ (fun a w hs=>Nr hs results63 (Yw (i:=7) J J Zct Fe J)) (by rw [←hF,show hq-j=0 by omega]<;>rfl) trivial 1 (by rw [show(-1:Int)=(hq:Int)-(j:Int)-1 by omega]<;>rfl) J J J (Zi 2 K3 (Zi 3 K3 (Zi 4 K3 Ze)))
 ·refine Zl<|Za<|Zb<|Zf<|dt (Qm (i:=5) K3 Bf Gu K2)<|mv J<|dt (Qy K2 Zin J Ym K2)<|dt (Pj (i:=6) K3 Xf Ym K4)<|dt (Pj (i:=8) K3 Xf Ym K4)<|tt (Xv (n:=8) (Hj _ _ _ _ _ a.1 a.2 (Pe a b).1 (Pe a b).2 r3.2.2 r2.2.2 (Qo hgl (fun q hq=>(Lm hd q hq).1)) (Qo hgl (Ky hd (m:=a) (by omega) (by omega)).1) (Qo hgc (fun q hq=>(Dl hd q hq).1)) (Qo hgc (Ky hd (m:=a) (by omega) (by omega)).2) (Qo hgc (Ky hd (m:=(Pe a b)) (by omega) (by omega)).2) (by have h7:=congrArg List.length hgc;rw [List.length_map]at h7;have:=Cm xs;omega)) J J J K4 call61 (Zi 3 K3 (Zi 4 K3 (Zi 2 K3 Ze))) J hw) fun _ _=>Zd<|Za<|Mx J (fun h231=>?_) (fun h231=>?_)
  ·exact Zf<|dt (Pj (i:=8) K3 Xf Ym K4)<|dt (Qy K2 Zin J Ym K2)<|tt (Zj2 (cs':=#[]) (i:=6) J J J J J J Ym J J ⟨Zc J,Zc J,Zc J,Zc J,trivial⟩ J hw trivial) fun _ _=>Zd<|Qh<|Xg (a,Pe a b,j+1) ⟨(r5 (by omega)).1,by first | omega | (dsimp only<;>omega),by dsimp only;rw [←hF,show hq-j=(hq-(j+1))+1 by omega,Zr4,←hgl,←hgc,if_pos ‹_›]⟩ (by dsimp only;omega) K5 ⟨J,(by rw [show((hq:Int)-((j+1:Nat):Int))=(hq:Int)-(j:Int)-1 by omega]<;>rfl),J,J,J,J,J,J,trivial⟩
  ·exact Zf<|dt (Pj (i:=8) K3 Xf Ym K4)<|dt (Qy K2 Zin J Ym K2)<|tt (Zj2 (cs':=#[]) (i:=6) J J J J J J Ym J J ⟨Zc J,Zc J,Zc J,Zc J,trivial⟩ J hw trivial) fun _ _=>Zd<|Qh<|Xg (Pe a b,b,j+1) ⟨(r5 (by omega)).2,by first | omega | (dsimp only<;>omega),by dsimp only;rw [←hF,show hq-j=(hq-(j+1))+1 by omega,Zr4,←hgl,←hgc,if_neg (by rw [show Bj _ _ a (Pe a b)=false by assumption];decide)]⟩ (by dsimp only;omega) K5 ⟨J,(by rw [show((hq:Int)-((j+1:Nat):Int))=(hq:Int)-(j:Int)-1 by omega]<;>rfl),J,J,J,J,J,J,trivial⟩
theorem Zcp(v:Value)(xs:List Int)(a b:R2)(hd:Cvd xs)(ha:E32 a)(hb:E32 b)(hc:¬0<Iz a b)(hn:Bj (Qq xs) (Gz xs) a b=true):Cal prog 21 #[v,rX a.1 a.2,rX b.1 b.2] [Pw 2 wv v xs] false (G:=R2) (fun r=>Fnd xs (qv a) (qv b) r) (fun r=> .tuple #[rX r.1 r.2,.bool true,.int .i64 0]) (fun r=>[]):=by
 refine Yg func21 J ntmps21 J K1 fun w0 sc hw hsc=>?_
 simp only [Zs,Zq]
 have ha1:=ha.b1
 have ha2:=ha.b2
 have hap:=ha.p
 have hb1:=hb.b1
 have hb2:=hb.b2
 have hbp:=hb.p
 have hle:=Zw1 ha hb hc
 have h0:=ngb_ne hn
 have hE2:=Yft ha hb
 have hLl:([slow a,slow b]:List R2).length=2:=rfl
 refine Yl (Nc 999 2 31 wv)<|Yl (Qw 999 J J pV)<|Zb<|Zf<|tt (Xp (i:=2) K5 hw) fun bx _=>tt (Xp (i:=3) K5 hw) fun bx_2 _=>tt (Xi (i:=4) K2 zeroValue41 K2 hw) fun bx_3 _=>Zo J<|Zo J<|Zd<|Za<|Zb<|Zb<|Zf<|mv J<|dt (Pj (i:=2) K3 Xf Ym K4)<|dt (Pj (i:=3) K3 Xf Ym K4)<|tt (Xv (n:=4) (Zc3 _ _ a.1 a.2 b.1 b.2 hap hbp hd.v (Ba hd (by omega)) ha.efit hb.efit) J J J K4 call58 (Zi 1 K3 Ze) J hw) fun _ _=>Zo J<|Zd<|Za<|Zb<|Zf<|mv J<|dt (dF (Pk K3) (vB (decide_eq_false (fun h=>h (if_neg hc)))))<|Zd<|Za<|Yk J<|Zl<|Za<|Zb<|Zf<|mv J<|tt (Zy (n:=5) (Zj6 _ _ hd) K4 call59 (Zi 1 K3 Ze) J hw) (fun g hg=>?_)
 obtain⟨hgl,hgc⟩:=hg
 refine mv J<|dt (Xa K3)<|dt (Xa K3)<|tt (Xi (i:=7) K2 zeroValue98 K2 hw) fun bx_4 _=>tt (Zt (i:=7) K6 Gu K2 ⟨Zj (i:=5) J Ye,Zj (i:=6) J Ye,trivial⟩ J hw trivial) fun _ _=>Zo J<|Zd<|Za<|Zb<|Zb<|Zf<|mv J<|dt (dF (Pk K3) (vB (by decide)))<|Zd<|Za<|Yk J<|Zl<|Za<|Zb<|Zf<|tt (Xi (i:=8) K2 zeroValue102 K2 hw) fun bx_5 _=>Zd<|Za<|Zb<|Zf<|dt (Pj (i:=2) K3 Xf Ym K4)<|dt (Pj (i:=3) K3 Xf Ym K4)<|tt (Yf (n:=8) (Zd0 a.1 a.2 b.1 b.2 hap hbp) K5 call60 Ze J hw) fun _ _=>tt (Xi (i:=9) K2 zeroValue62 K2 hw) fun bx_6 _=>tt (Zt (i:=9) K6 Fe K2 ⟨Zc J,Zc J,Zc J,Zc J,Zc J,Zc J,Zc J,Zc J,trivial⟩ J hw trivial) fun _ _=>Zd<|Za<|Zb<|Zf<|dt (Qm (i:=7) K3 Bf Gu K2)<|dt (Pj (i:=2) K3 Xf Ym K4)<|dt (Pj (i:=3) K3 Xf Ym K4) ?_
 refine tt (Xv (n:=9) (Hj _ _ _ _ _ a.1 a.2 b.1 b.2 hap hbp (Qo hgl (fun q hq=>(Lm hd q hq).1)) (Qo hgl (Ky hd (m:=a) (by omega) (by omega)).1) (Qo hgc (fun q hq=>(Dl hd q hq).1)) (Qo hgc (Ky hd (m:=a) (by omega) (by omega)).2) (Qo hgc (Ky hd (m:=b) (by omega) (by omega)).2) (by have h7:=congrArg List.length hgc;rw [List.length_map]at h7;have:=Cm xs;omega)) J J J K4 call61 (Zi 5 K3 (Zi 6 K3 (Ny 8 J J Ze))) J hw) fun _ _=>Zo J<|Zd<|Za<|Zb<|Zb<|Zf<|dt (Qy K2 Ks J Ie K2)<|dt (Mc (i:=8) K3 Ee J)<|dt (dF (Pk K3) (vB (by decide)))<|mv J<|Zx (Ya K2) K2<|Zx (dF (Xh J J) (vB (by rw [hgl,hgc];show(!Bj (Qq xs) (Gz xs) a b)=false;rw [hn];rfl))) K2<|dt (Ql K3)<|Zd<|Za<|Yk J<|Zl<|Za<|Zb<|Zb<|Zf<|dt (Qy K2 Zin J Ym K2)<|dt (Pj (i:=9) K3 Xf Ym K4)<|dt (Qy K2 Zin J Ym K2)<|dt (Pj (i:=9) K3 Xf Ym K4)<|tt (Ic (i:=10) (ivs:=[(0,_),(1,_)]) (enc:=rq) ([slow a,slow b]:List R2) J J K4 Zlz ti41 J J (Zpa _ _ _ _ _ _ _ _ _ _ _ _) J J pQ.cells J J hw) fun v _=>dt (Yc J J (i:=10) J (Yu pQ) Zlz)<|mv J<|Zd<|Za<|Zn ?_
 refine Px [(6,_),(10,_),(12,_),(13,_),(56,_),(57,_)] [(0,_),(1,_),(999,_),(2,_),(3,_),(4,_),(5,_),(6,_),(7,_),(8,_),(9,_),(10,_)] (fun(i:Nat)=>[(58,.int .i64 (i:Int))]) (fun(i:Nat)=>[]) (fun(i:Nat)=>(i≤2)∧(∀k,k<i→¬vlu (g.2.1.map Prod.snd) ([slow a,slow b].getD k (0,0))<0)) (fun(i:Nat)=>2-i) 0 ⟨by first | omega | (dsimp only<;>omega),fun k hk=>absurd hk (Nat.not_lt_zero k)⟩ K7 K12 ?_
 rintro i ⟨hi,hz⟩
 simp only [CA,NA]
 refine Zb<|Zf<|dt (Pa K3)<|Zd<|Za<|Zb<|Zr J (fun h262=>?_) (fun h262=>?_)
 ·refine Zl<|Za<|Zb<|Zn<|Zb<|Zf<|dt (Nj (ii:=10) K4 (Yu pQ) Zlz Ym J (by first | omega | (simp only [List.length_set];omega)))<|dt (Ms (ii:=10) (0,0) K3 (Yu pQ) pQ (by first | omega | (simp only [List.length_set];omega)))<|tt (Xi (i:=11) K2 zeroValue41 K2 hw) fun bx_7 _=>tt (Zt (i:=11) K6 Ym K2 ⟨Zc J,Zc J,Zc J,Zc J,trivial⟩ J hw trivial) fun _ _=>Zd<|Za<|Zb ?_
  have hEi:=hE2 i (by omega)
  have hEb1:=hEi.b1
  have hEb2:=hEi.b2
  refine Zf<|dt (Qm (i:=7) K3 Bf Gu K2)<|dt (Pj (i:=11) K3 Xf Ym K4)<|tt (Xv (n:=11) (Zc2 _ _ _ _ _ ([slow a,slow b].getD i (0,0)).1 ([slow a,slow b].getD i (0,0)).2 hEi.p (Qo hgl (fun q hq=>(Lm hd q hq).1)) (Qo hgl (Ky hd (m:=([slow a,slow b].getD i (0,0))) (by omega) (by omega)).1)) J J J K3 call62 (Zi 5 K3 (Zi 6 K3 (Ny 8 J J Ze))) J hw) fun _ _=>dt (Pa K3)<|Zd<|Za<|Zr J (fun h263=>?_) (fun h263=>?_)
  ·exact Zb<|Ni [8,11] [5]<|Zw (n:=0) [(0,0),(1,0),(2,0),(3,1),(4,0),(5,3)]<|Zh K2 (Yy (Pj (i:=11) K3 Xf Ym K4) K2)<|Zh K2 (Yy (Qy K2 Ks J Ie K2) K2)<|Zh K2 (Yy (Mc (i:=8) K3 Ee J) K2)<|Yq J (Zcz 4 J J K2 (fun ob=>Zt (i:=4) K6 Ym K2 ⟨Zc J,Zc J,Zc J,Zc J,trivial⟩ J hw ob)) fun _ _=>Zh K2 (Yy (Ok J J) K2)<|Qs J (Pu (Ok J J) J) fun _ _=>Yi<|Yh<|Za<|Zp<|Md<|Yp<|Yp<|Md<|Yp<|Yr (.inl J) hsc ([slow a,slow b].getD i (0,0)) _ (fun a w hs=>Ztg hs results21 (Yw (i:=4) J J Xf Ym J) J J) J (Ye7 ha hb hle (by omega) (by rw [←hgl];assumption)) J Zm
  ·exact Zl<|Qh<|Za<|Zf<|dt (Ov K3)<|mv J<|Zd<|Xg (i+1) ⟨by first | omega | (dsimp only<;>omega),fun k hk2=>by rcases Nat.lt_succ_iff_lt_or_eq.1 hk2 with h9 | h9;exact hz k h9;subst h9;assumption⟩ (by first | omega | (dsimp only<;>omega)) K7 K12
 ·refine Yt<|Zv<|Zv<|Pd<|Za<|Zb ?_
  have hI0:=Zye hd ha hb hle (by have h9:=hz 0 (by omega);rw [hgl]at h9;exact h9) (by have h9:=hz 1 (by omega);rw [hgl]at h9;exact h9) hn
  exact Zf<|tt (Xi (i:=12) K2 zeroValue41 K2 hw) fun bx_8 _=>Zd<|Za<|Zb<|Zf<|dt (Qm (i:=7) K3 Bf Gu K2)<|dt (Zew (i:=9) J J J Zct Fe J J J J J J J J)<|dt (Yc3 (vs:=[]) (us:=[_,_,_]) J trivial K3)<|tt (Bn (i:=12) (fs:=[]) (vs:=[_,_,_,_]) (us:=[]) (Zl3 _ _ _ _ _ _ _ xs (slow a) (slow b) (qv a) (qv b) _ _ _ _ hd h0 hgl hgc hI0) J J J J K4 call63 J J (by decide) (Ny 8 J J (Ny 7 J J (Zi 5 K3 (Zi 6 K3 Ze)))) J hw (fun _ _=>trivial)) fun g_2 hg_2=>Zd<|Za<|Zb<|Zb<|Zf<|dt (Qy K2 Ks J Ie K2)<|dt (Mc (i:=8) K3 Ee J)<|dt (dF (Pk K3) (vB (by decide)))<|Zd<|Za<|Yk J<|Zl<|Za<|Zb<|Zf<|dt (Pj (i:=12) K3 Xf Ym K4)<|tt (Zt (i:=4) K6 Ym K2 ⟨Zc J,Zc J,Zc J,Zc J,trivial⟩ J hw trivial) fun _ _=>Zo J<|Zo J<|Zd<|Za<|Zp<|Yr (.inl J) hsc (g_2.1) _ (fun a w hs=>Ztg hs results21 (Yw (i:=4) J J Xf Ym J) J J) J hg_2 J Zm
theorem Af(v:Value)(xs:List Int)(a b:R2)(hd:Cvd xs)(ha:E32 a)(hb:E32 b)(hc:¬0<Iz a b)(hn:Bj (Qq xs) (Gz xs) a b=false):Od prog 21 #[v,rX a.1 a.2,rX b.1 b.2] [Pw 2 wv v xs] (.tuple #[.agg #[.bool false,.string ⟨#[]⟩,.bool false,.string ⟨#[]⟩],.bool false,.int .i64 0]):=by
 refine Yg func21 J ntmps21 J K1 fun w0 sc hw hsc=>?_
 simp only [Zs,Zq]
 have ha1:=ha.b1
 have ha2:=ha.b2
 have hap:=ha.p
 have hb1:=hb.b1
 have hb2:=hb.b2
 have hbp:=hb.p
 refine Yl (Nc 999 2 31 wv)<|Yl (Qw 999 J J pV)<|Zb<|Zf<|tt (Xp (i:=2) K5 hw) fun bx _=>tt (Xp (i:=3) K5 hw) fun bx_2 _=>tt (Xi (i:=4) K2 zeroValue41 K2 hw) fun bx_3 _=>Zo J<|Zo J<|Zd<|Za<|Zb<|Zb<|Zf<|mv J<|dt (Pj (i:=2) K3 Xf Ym K4)<|dt (Pj (i:=3) K3 Xf Ym K4)<|tt (Xv (n:=4) (Zc3 _ _ a.1 a.2 b.1 b.2 hap hbp hd.v (Ba hd (by omega)) ha.efit hb.efit) J J J K4 call58 (Zi 1 K3 Ze) J hw) fun _ _=>Zo J<|Zd<|Za<|Zb<|Zf<|mv J<|dt (dF (Pk K3) (vB (decide_eq_false (fun h=>h (if_neg hc)))))<|Zd<|Za<|Yk J<|Zl<|Za<|Zb<|Zf<|mv J<|tt (Zy (n:=5) (Zj6 _ _ hd) K4 call59 (Zi 1 K3 Ze) J hw) (fun g hg=>?_)
 obtain⟨hgl,hgc⟩:=hg
 refine mv J<|dt (Xa K3)<|dt (Xa K3)<|tt (Xi (i:=7) K2 zeroValue98 K2 hw) fun bx_4 _=>tt (Zt (i:=7) K6 Gu K2 ⟨Zj (i:=5) J Ye,Zj (i:=6) J Ye,trivial⟩ J hw trivial) fun _ _=>Zo J<|Zd<|Za<|Zb<|Zb<|Zf<|mv J<|dt (dF (Pk K3) (vB (by decide)))<|Zd<|Za<|Yk J<|Zl<|Za<|Zb<|Zf<|tt (Xi (i:=8) K2 zeroValue102 K2 hw) fun bx_5 _=>Zd<|Za<|Zb<|Zf<|dt (Pj (i:=2) K3 Xf Ym K4)<|dt (Pj (i:=3) K3 Xf Ym K4)<|tt (Yf (n:=8) (Zd0 a.1 a.2 b.1 b.2 hap hbp) K5 call60 Ze J hw) fun _ _=>tt (Xi (i:=9) K2 zeroValue62 K2 hw) fun bx_6 _=>tt (Zt (i:=9) K6 Fe K2 ⟨Zc J,Zc J,Zc J,Zc J,Zc J,Zc J,Zc J,Zc J,trivial⟩ J hw trivial) fun _ _=>Zd<|Za<|Zb<|Zf<|dt (Qm (i:=7) K3 Bf Gu K2)<|dt (Pj (i:=2) K3 Xf Ym K4)<|dt (Pj (i:=3) K3 Xf Ym K4) ?_
 refine tt (Xv (n:=9) (Hj _ _ _ _ _ a.1 a.2 b.1 b.2 hap hbp (Qo hgl (fun q hq=>(Lm hd q hq).1)) (Qo hgl (Ky hd (m:=a) (by omega) (by omega)).1) (Qo hgc (fun q hq=>(Dl hd q hq).1)) (Qo hgc (Ky hd (m:=a) (by omega) (by omega)).2) (Qo hgc (Ky hd (m:=b) (by omega) (by omega)).2) (by have h7:=congrArg List.length hgc;rw [List.length_map]at h7;have:=Cm xs;omega)) J J J K4 call61 (Zi 5 K3 (Zi 6 K3 (Ny 8 J J Ze))) J hw) fun _ _=>Zo J<|Zd<|Za<|Zb<|Zb<|Zf<|dt (Qy K2 Ks J Ie K2)<|dt (Mc (i:=8) K3 Ee J)<|dt (dF (Pk K3) (vB (by decide)))<|mv J<|Zx (Ya K2) K2<|Zx (dT (Xh J J) (vB (by rw [hgl,hgc];show(!Bj (Qq xs) (Gz xs) a b)=true;rw [hn];rfl))) K2<|dt (Ql K3)<|Zd<|Za<|Of J<|Zb<|Ni [8] [5]<|Zw (n:=0) [(0,0),(1,0),(2,0),(3,1),(4,0),(5,3)]<|Zh K2 (Yy (Oi (ivs:=[]) J trivial (fun a w hs=>Zug)) K1)<|Zh K2 (Yy (Qy K2 Ks J Ie K2) K1)<|Zh K2 (Yy (Mc (i:=8) K3 Ee J) K1)<|Yq J (Zcz 4 J J K1 (fun ob=>Zt (i:=4) K6 Ym K2 ⟨Zc J,Zc J,Zc J,Zc J,trivial⟩ J hw ob)) (fun _ _=>?_)
 exact Zh K2 (Yy (Ok J J) K1)<|Qs J (Pu (Ok J J) J) fun _ _=>Yi<|Yh<|Za<|Zp<|Yp<|Yr (.inl J) hsc () _ (fun a w hs=>Ztg hs results21 (Yw (i:=4) J J Xf Ym J) J J) J trivial J Zm
theorem Ziq(v:Value)(xs:List Int)(a b:R2)(hd:Cvd xs)(ha:E32 a)(hb:E32 b)(hc:0<Iz a b):Od prog 21 #[v,rX a.1 a.2,rX b.1 b.2] [Pw 2 wv v xs] (.tuple #[.agg #[.bool false,.string ⟨#[]⟩,.bool false,.string ⟨#[]⟩],.bool false,.int .i64 3]):=by
 refine Yg func21 J ntmps21 J K1 fun w0 sc hw hsc=>?_
 simp only [Zs,Zq]
 have ha1:=ha.b1
 have ha2:=ha.b2
 have hap:=ha.p
 have hb1:=hb.b1
 have hb2:=hb.b2
 have hbp:=hb.p
 exact Yl (Nc 999 2 31 wv)<|Yl (Qw 999 J J pV)<|Zb<|Zf<|tt (Xp (i:=2) K5 hw) fun bx _=>tt (Xp (i:=3) K5 hw) fun bx_2 _=>tt (Xi (i:=4) K2 zeroValue41 K2 hw) fun bx_3 _=>Zo J<|Zo J<|Zd<|Za<|Zb<|Zb<|Zf<|mv J<|dt (Pj (i:=2) K3 Xf Ym K4)<|dt (Pj (i:=3) K3 Xf Ym K4)<|tt (Xv (n:=4) (Zc3 _ _ a.1 a.2 b.1 b.2 hap hbp hd.v (Ba hd (by omega)) ha.efit hb.efit) J J J K4 call58 (Zi 1 K3 Ze) J hw) fun _ _=>Zo J<|Zd<|Za<|Zb<|Zf<|mv J<|dt (dT (Pk K3) (vB (decide_eq_true (by rw [if_pos hc];decide))))<|Zd<|Za<|Of J<|Zb<|Zf<|dt (Oi (ivs:=[]) J trivial (fun a w hs=>Zug))<|mv J<|tt (Zt (i:=4) K6 Ym K2 ⟨Zc J,Zc J,Zc J,Zc J,trivial⟩ J hw trivial) fun _ _=>Zo J<|Zo J<|Zd<|Za<|Zp<|Yp<|Yr (.inl J) hsc () _ (fun a w hs=>Ztg hs results21 (Yw (i:=4) J J Xf Ym J) J J) (by rw [if_pos hc]<;>rfl) trivial J Zm
theorem Zir(v:Value)(r:List (Bool×ByteArray))(z1 z2:RZ)(hbad:(okP r && qOK z1 && qOK z2)=false):Od prog 21 #[v,.agg #[.bool z1.1.1,.string z1.1.2,.bool z1.2.1,.string z1.2.2],.agg #[.bool z2.1.1,.string z2.1.2,.bool z2.2.1,.string z2.2.2]] [Pw 2 Zax v r] (.tuple #[.agg #[.bool false,.string ⟨#[]⟩,.bool false,.string ⟨#[]⟩],.bool false,.int .i64 2]):=by
 refine Yg func21 J ntmps21 J K1 fun w0 sc hw hsc=>?_
 simp only [Zs,Zq]
 exact Yl (Nc 999 2 31 wv)<|Yl (Qw 999 J J pV)<|Zb<|Zf<|tt (Xp (i:=2) K5 hw) fun bx _=>tt (Xp (i:=3) K5 hw) fun bx_2 _=>tt (Xi (i:=4) K2 zeroValue41 K2 hw) fun bx_3 _=>Zo J<|Zo J<|Zd<|Za<|Zb<|Zb<|Zf<|mv J<|dt (Pj (i:=2) K3 Xf Ym K4)<|dt (Pj (i:=3) K3 Xf Ym K4)<|tt (Xv (n:=4) (Zn4 _ _ z1 z2 hbad) J J J K4 call58 (Zi 1 K3 Ze) J hw) fun _ _=>Zo J<|Zd<|Za<|Zb<|Zf<|mv J<|dt (dT (Pk K3) (vB (by decide)))<|Zd<|Za<|Of J<|Zb<|Zf<|dt (Oi (ivs:=[]) J trivial (fun a w hs=>Zug))<|mv J<|tt (Zt (i:=4) K6 Ym K2 ⟨Zc J,Zc J,Zc J,Zc J,trivial⟩ J hw trivial) fun _ _=>Zo J<|Zo J<|Zd<|Za<|Zp<|Yp<|Yr (.inl J) hsc () _ (fun a w hs=>Ztg hs results21 (Yw (i:=4) J J Xf Ym J) J J) J trivial J Zm
theorem Zic(v:Value)(xs:List Int)(a b:R2)(hd:Cvd xs)(ha:E32 a)(hb:E32 b)(hq:Nat)(hc:¬0<Iz a b)(hn:Bj (Qq xs) (Gz xs) a b=true)(hh:hq≤100:=by decide):Od prog 31 #[v,rX a.1 a.2,rX b.1 b.2,.int .i64 (hq:Int)] [Pw 2 wv v xs] (.tuple #[.agg #[.bool (decide ((frs xs hq (slow a) (slow b)).1.1<0)),.string (Xk (frs xs hq (slow a) (slow b)).1.1.natAbs),.bool (decide ((frs xs hq (slow a) (slow b)).1.2<0)),.string (Xk (frs xs hq (slow a) (slow b)).1.2.natAbs),.bool (decide ((frs xs hq (slow a) (slow b)).2.1<0)),.string (Xk (frs xs hq (slow a) (slow b)).2.1.natAbs),.bool (decide ((frs xs hq (slow a) (slow b)).2.2<0)),.string (Xk (frs xs hq (slow a) (slow b)).2.2.natAbs)],.int .i64 0]):=by
 refine Yg func31 J ntmps31 J K1 fun w0 sc hw hsc=>?_
 simp only [Zs,Zq]
 have ha1:=ha.b1
 have ha2:=ha.b2
 have hap:=ha.p
 have hb1:=hb.b1
 have hb2:=hb.b2
 have hbp:=hb.p
 have hle:=Zw1 ha hb hc
 have hI0:=FIn.start (xs:=xs) ha hb hle
 refine Yl (Nc 999 2 31 wv)<|Yl (Qw 999 J J pV)<|Zb<|Zf<|tt (Xp (i:=2) K5 hw) fun bx _=>tt (Xp (i:=3) K5 hw) fun bx_2 _=>tt (Xi (i:=4) K2 zeroValue62 K2 hw) fun bx_3 _=>Zo J<|Zd<|Za<|Zb<|Zb<|Zf<|mv J<|dt (dF (Pa K3) (vB (decide_eq_false (by omega))))<|mv J<|Zx (Ya K2) K2<|Zx (dF (Fd K3) (vB (decide_eq_false (by omega)))) K2<|dt (Ql K3)<|Zd<|Za<|Yk J<|Zl<|Za<|Zb<|Zb<|Zf<|mv J<|dt (Pj (i:=2) K3 Xf Ym K4)<|dt (Pj (i:=3) K3 Xf Ym K4)<|tt (Xv (n:=4) (Zc3 _ _ a.1 a.2 b.1 b.2 hap hbp hd.v (Ba hd (by omega)) ha.efit hb.efit) J J J K4 call58 (Zi 1 K3 Ze) J hw) fun _ _=>Zo J<|Zd<|Za<|Zb<|Zf<|mv J<|dt (dF (Pk K3) (vB (decide_eq_false (fun h=>h (if_neg hc)))))<|Zd<|Za<|Yk J<|Zl<|Za<|Zb<|Zf<|mv J<|tt (Zy (n:=5) (Zj6 _ _ hd) K4 call59 (Zi 1 K3 Ze) J hw) (fun g hg=>?_)
 obtain⟨hgl,hgc⟩:=hg
 refine mv J<|dt (Xa K3)<|dt (Xa K3)<|tt (Xi (i:=7) K2 zeroValue98 K2 hw) fun bx_4 _=>tt (Zt (i:=7) K6 Gu K2 ⟨Zj (i:=5) J Ye,Zj (i:=6) J Ye,trivial⟩ J hw trivial) fun _ _=>Zo J<|Zd<|Za<|Zb<|Zb<|Zf<|mv J<|dt (dF (Pk K3) (vB (by decide)))<|Zd<|Za<|Yk J<|Zl<|Za<|Zb<|Zf<|tt (Xi (i:=8) K2 zeroValue102 K2 hw) fun bx_5 _=>Zd<|Za<|Zb<|Zb<|Zf<|dt (Qm (i:=7) K3 Bf Gu K2)<|dt (Pj (i:=2) K3 Xf Ym K4)<|dt (Pj (i:=3) K3 Xf Ym K4)<|tt (Xv (n:=8) (Hj _ _ _ _ _ a.1 a.2 b.1 b.2 hap hbp (Qo hgl (fun q hq=>(Lm hd q hq).1)) (Qo hgl (Ky hd (m:=a) (by omega) (by omega)).1) (Qo hgc (fun q hq=>(Dl hd q hq).1)) (Qo hgc (Ky hd (m:=a) (by omega) (by omega)).2) (Qo hgc (Ky hd (m:=b) (by omega) (by omega)).2) (by have h7:=congrArg List.length hgc;rw [List.length_map]at h7;have:=Cm xs;omega)) J J J K4 call61 (Zi 5 K3 (Zi 6 K3 (Ny 8 J J Ze))) J hw) fun _ _=>dt (dF (Xh J J) (vB (by rw [hgl,hgc];show(!Bj (Qq xs) (Gz xs) a b)=false;rw [hn];rfl)))<|Zd<|Za<|Yk J<|Zl<|Za<|Zb<|Zf<|mv J ?_
 refine tt (Xi (i:=9) K2 zeroValue3 K2 hw) fun bx_6 _=>tt (Zt (i:=9) K6 zT3 K2 ⟨Zc J,trivial⟩ J hw trivial) fun _ _=>Zd<|Za<|Zb<|Fy (fun x=>x=bx_6) [7]<|Zw (n:=4) [(0,0),(1,0),(2,0),(4,0)]<|Zh K2 (Ka 9 J (Qm (i:=7) K3 Bf Gu K2))<|Zh K2 (Ka 9 J (Pj (i:=2) K3 Xf Ym K4))<|Zh K2 (Ka 9 J (Pj (i:=3) K3 Xf Ym K4))<|Zh K2 (Ka 9 J (Yc3 (vs:=[]) (us:=[_]) J trivial K1))<|Yi<|Qg (n:=3) 3 6 ?_ ?_
 ·refine Yd J (Yf (n:=9) (Zd0 a.1 a.2 b.1 b.2 hap hbp) K5 call60 Ze J hw) fun _ _=>Qg (n:=2) 5 6 ?_ ?_
  ·exact Yd J (Bn (i:=9) (fs:=[]) (vs:=[_,_,_,_]) (us:=[]) (Zar _ _ _ _ _ _ xs (slow a) (slow b) hq hh hd hgl hgc hI0) J J J J K4 call63 J J (by decide) (Ny 8 J J (Zi 5 K3 (Zi 6 K3 Ze))) J hw (fun _ h=>h)) fun _ _=>Zw (n:=0) [(6,1),(7,3)]<|Yq J (Xi (i:=10) K2 zeroValue62 K2 hw) fun bx_7 _=>Qs J (Zt (i:=10) K6 Fe K2 ⟨Zc J,Zc J,Zc J,Zc J,Zc J,Zc J,Zc J,Zc J,trivial⟩ J hw trivial) fun _ _=>Yi<|Yh<|Za<|Zb<|Zb<|Zf<|dt (Qy K2 Ks J Ie K2)<|dt (Mc (i:=8) K3 Ee J)<|dt (dF (Pk K3) (vB (by decide)))<|Zd<|Za<|Yk J<|Zl<|Za<|Zb<|Zf<|dt (Zew (i:=10) J J J Zct Fe J J J J J J J J)<|tt (Zt (i:=4) K6 Fe K2 ⟨Zc J,Zc J,Zc J,Zc J,Zc J,Zc J,Zc J,Zc J,trivial⟩ J hw trivial) fun _ _=>Zo J<|Zd<|Za<|Zp<|Yr (.inl J) hsc () _ (fun a w hs=>Pz hs results31 (Yw (i:=4) J J Zct Fe J) J) J trivial J Zm
  ·exact Yd J (Xi (i:=11) K2 zeroValue62 K2 hw) fun bx_8 _=>Zw (n:=0) [(5,1),(7,3)]<|Yq J (Bn (i:=9) (fs:=[]) (vs:=[_,_,_,_]) (us:=[]) (Zar _ _ _ _ _ _ xs (slow a) (slow b) hq hh hd hgl hgc hI0) J J J J K4 call63 J J (by decide) (Ny 8 J J (Zi 5 K3 (Zi 6 K3 Ze))) J hw (fun _ h=>h)) fun _ _=>Qs J (Zt (i:=11) K6 Fe K2 ⟨Zc J,Zc J,Zc J,Zc J,Zc J,Zc J,Zc J,Zc J,trivial⟩ J hw trivial) fun _ _=>Yi<|Yh<|Za<|Zb<|Zb<|Zf<|dt (Qy K2 Ks J Ie K2)<|dt (Mc (i:=8) K3 Ee J)<|dt (dF (Pk K3) (vB (by decide)))<|Zd<|Za<|Yk J<|Zl<|Za<|Zb<|Zf<|dt (Zew (i:=11) J J J Zct Fe J J J J J J J J)<|tt (Zt (i:=4) K6 Fe K2 ⟨Zc J,Zc J,Zc J,Zc J,Zc J,Zc J,Zc J,Zc J,trivial⟩ J hw trivial) fun _ _=>Zo J<|Zd<|Za<|Zp<|Yr (.inl J) hsc () _ (fun a w hs=>Pz hs results31 (Yw (i:=4) J J Zct Fe J) J) J trivial J Zm
 ·exact Yd J (Xi (i:=12) K2 zeroValue62 K2 hw) fun bx_9 _=>Zw (n:=0) [(3,1),(5,1),(7,3)]<|Yq J (Yf (n:=12) (Zd0 a.1 a.2 b.1 b.2 hap hbp) K5 call60 Ze J hw) fun _ _=>Yq J (Bn (i:=9) (fs:=[]) (vs:=[_,_,_,_]) (us:=[]) (Zar _ _ _ _ _ _ xs (slow a) (slow b) hq hh hd hgl hgc hI0) J J J J K4 call63 J J (by decide) (Ny 8 J J (Zi 5 K3 (Zi 6 K3 Ze))) J hw (fun _ h=>h)) fun _ _=>Qs J (Zt (i:=12) K6 Fe K2 ⟨Zc J,Zc J,Zc J,Zc J,Zc J,Zc J,Zc J,Zc J,trivial⟩ J hw trivial) fun _ _=>Yi<|Yh<|Za<|Zb<|Zb<|Zf<|dt (Qy K2 Ks J Ie K2)<|dt (Mc (i:=8) K3 Ee J)<|dt (dF (Pk K3) (vB (by decide)))<|Zd<|Za<|Yk J<|Zl<|Za<|Zb<|Zf<|dt (Zew (i:=12) J J J Zct Fe J J J J J J J J)<|tt (Zt (i:=4) K6 Fe K2 ⟨Zc J,Zc J,Zc J,Zc J,Zc J,Zc J,Zc J,Zc J,trivial⟩ J hw trivial) fun _ _=>Zo J<|Zd<|Za<|Zp<|Yr (.inl J) hsc () _ (fun a w hs=>Pz hs results31 (Yw (i:=4) J J Zct Fe J) J) J trivial J Zm
theorem Zl4(v:Value)(xs:List Int)(a b:R2)(hd:Cvd xs)(ha:E32 a)(hb:E32 b)(hq:Nat)(hh:hq≤100)(hc:¬0<Iz a b)(hn:Bj (Qq xs) (Gz xs) a b=false):Od prog 31 #[v,rX a.1 a.2,rX b.1 b.2,.int .i64 (hq:Int)] [Pw 2 wv v xs] (.tuple #[.agg #[.bool false,.string ⟨#[]⟩,.bool false,.string ⟨#[]⟩,.bool false,.string ⟨#[]⟩,.bool false,.string ⟨#[]⟩],.int .i64 9]):=by
 refine Yg func31 J ntmps31 J K1 fun w0 sc hw hsc=>?_
 simp only [Zs,Zq]
 have ha1:=ha.b1
 have ha2:=ha.b2
 have hap:=ha.p
 have hb1:=hb.b1
 have hb2:=hb.b2
 have hbp:=hb.p
 refine Yl (Nc 999 2 31 wv)<|Yl (Qw 999 J J pV)<|Zb<|Zf<|tt (Xp (i:=2) K5 hw) fun bx _=>tt (Xp (i:=3) K5 hw) fun bx_2 _=>tt (Xi (i:=4) K2 zeroValue62 K2 hw) fun bx_3 _=>Zo J<|Zd<|Za<|Zb<|Zb<|Zf<|mv J<|dt (dF (Pa K3) (vB (decide_eq_false (by omega))))<|mv J<|Zx (Ya K2) K2<|Zx (dF (Fd K3) (vB (decide_eq_false (by omega)))) K2<|dt (Ql K3)<|Zd<|Za<|Yk J<|Zl<|Za<|Zb<|Zb<|Zf<|mv J<|dt (Pj (i:=2) K3 Xf Ym K4)<|dt (Pj (i:=3) K3 Xf Ym K4)<|tt (Xv (n:=4) (Zc3 _ _ a.1 a.2 b.1 b.2 hap hbp hd.v (Ba hd (by omega)) ha.efit hb.efit) J J J K4 call58 (Zi 1 K3 Ze) J hw) fun _ _=>Zo J<|Zd<|Za<|Zb<|Zf<|mv J<|dt (dF (Pk K3) (vB (decide_eq_false (fun h=>h (if_neg hc)))))<|Zd<|Za<|Yk J<|Zl<|Za<|Zb<|Zf<|mv J<|tt (Zy (n:=5) (Zj6 _ _ hd) K4 call59 (Zi 1 K3 Ze) J hw) (fun g hg=>?_)
 obtain⟨hgl,hgc⟩:=hg
 refine mv J<|dt (Xa K3)<|dt (Xa K3)<|tt (Xi (i:=7) K2 zeroValue98 K2 hw) fun bx_4 _=>tt (Zt (i:=7) K6 Gu K2 ⟨Zj (i:=5) J Ye,Zj (i:=6) J Ye,trivial⟩ J hw trivial) fun _ _=>Zo J<|Zd<|Za<|Zb<|Zb<|Zf<|mv J<|dt (dF (Pk K3) (vB (by decide)))<|Zd<|Za<|Yk J<|Zl<|Za<|Zb<|Zf<|tt (Xi (i:=8) K2 zeroValue102 K2 hw) fun bx_5 _=>Zd<|Za<|Zb<|Zb<|Zf<|dt (Qm (i:=7) K3 Bf Gu K2)<|dt (Pj (i:=2) K3 Xf Ym K4)<|dt (Pj (i:=3) K3 Xf Ym K4)<|tt (Xv (n:=8) (Hj _ _ _ _ _ a.1 a.2 b.1 b.2 hap hbp (Qo hgl (fun q hq=>(Lm hd q hq).1)) (Qo hgl (Ky hd (m:=a) (by omega) (by omega)).1) (Qo hgc (fun q hq=>(Dl hd q hq).1)) (Qo hgc (Ky hd (m:=a) (by omega) (by omega)).2) (Qo hgc (Ky hd (m:=b) (by omega) (by omega)).2) (by have h7:=congrArg List.length hgc;rw [List.length_map]at h7;have:=Cm xs;omega)) J J J K4 call61 (Zi 5 K3 (Zi 6 K3 (Ny 8 J J Ze))) J hw) fun _ _=>dt (dT (Xh J J) (vB (by rw [hgl,hgc];show(!Bj (Qq xs) (Gz xs) a b)=true;rw [hn];rfl)))<|Zd<|Za<|Of J<|Zb<|Zb<|Zf<|dt (Qy K2 Ks J Ie K2) ?_
 exact dt (Mc (i:=8) K3 Ee J)<|dt (dF (Pk K3) (vB (by decide)))<|Zd<|Za<|Yk J<|Zl<|Za<|Zb<|Zf<|dt (Oi (ivs:=[]) J trivial (fun a w hs=>b62_))<|tt (Zt (i:=4) K6 Fe K2 ⟨Zc J,Zc J,Zc J,Zc J,Zc J,Zc J,Zc J,Zc J,trivial⟩ J hw trivial) fun _ _=>Zo J<|Zd<|Za<|Zp<|Yp<|Yr (.inl J) hsc () _ (fun a w hs=>Pz hs results31 (Yw (i:=4) J J Zct Fe J) J) J trivial J Zm
def Er(xs:List Int)(m:Int):List Int:=Zat xs (tzl [m])
theorem Zmy(xs:List Int)(m:Int)(x:Rat):Zu (Er xs m) x=Zu xs x-m:=by
 have h:Zu (Er xs m) x=Zu (Ko xs ([m].map fun a=>-1*a)) x:=Kd x _ _ fun i=>by
  unfold Er
  rw [Hy,Hb,Ki]
  match i with
  | 0=>show cf xs 0-m=cf xs 0 + -1*m;omega
  | i+1=>show cf xs (i+1)-cf [m] (i+1)=cf xs (i+1)+cf [-1*m] (i+1);rw [show cf [m] (i+1)=0 from rfl,show cf [-1*m] (i+1)=0 from rfl];omega
 rw [h,Qz,Yn,Nn];push_cast;grind
theorem Zm9{xs:List Int}{m:Int}(hd:Cvd xs)(hs:Sz 40 xs)(hm:bl m.natAbs≤50):Cvd (Er xs m)∧(∀i,bl (cf xs i-cf (tzl [m]) i).natAbs≤65536)∧Vp (tzl [m]):=by
 have hl:=hd.l
 have hc:∀i,bl (cf [m] i).natAbs≤50:=fun i=>by
  match i with
  | 0=>exact hm
  | i+1=>rw [show cf [m] (i+1)=0 from rfl];simp [Lu]
 have hz:∀i,bl (cf xs i-cf (tzl [m]) i).natAbs≤51:=fun i=>by
  have h1:=hs i
  have h2:=hc i
  rw [Ki,Int.sub_eq_add_neg]
  have h3:=Ia (cf xs i) (-cf [m] i)
  rw [Int.natAbs_neg]at h3
  omega
 have ht:(tzl [m]).length≤1:=Hc [m]
 have hv:Vp (tzl [m]):=⟨fun i=>by rw [Ki];have:=hc i;omega,Nk _,by omega⟩
 have hsz:Sz 51 (Er xs m):=fun i=>by unfold Er;rw [Hy];exact hz i
 have hlen:(Er xs m).length≤7:=by
  unfold Er Zat
  refine Nat.le_trans (Hc _) ?_
  rw [Qe];omega
 exact⟨⟨⟨hsz.mono (by omega),Nk _,by omega⟩,hsz.mono (by omega),hlen⟩,fun i=>Nat.le_trans (hz i) (by omega),hv⟩
def Ey(xs:List Int)(m:Int):Prop:=∃x:Rat,0≤x∧x≤1∧Zu xs x<(m:Rat)
theorem Yb5(xs:List Int)(m:Int):Ziz (Er xs m) 0 1↔Ey xs m:=by
 constructor
 ·rintro⟨x,a,b,c⟩;rw [Zmy]at c;exact⟨x,a,b,by grind⟩
 ·rintro⟨x,a,b,c⟩;exact⟨x,a,b,by rw [Zmy];grind⟩
theorem Zyl{xs:List Int}{m n:Int}(h:Ey xs m)(hmn:m≤n):Ey xs n:=by
 obtain⟨x,a,b,c⟩:=h
 have:(m:Rat)≤(n:Rat):=by exact_mod_cast hmn
 exact⟨x,a,b,by grind⟩
def lws:List Int→Int
 | []=>0
 | c :: p=>-(c.natAbs:Int)+lws p
theorem Zv8:∀p q:List Int,lws (p ++ q)=lws p+lws q
 | [],q=>by show lws q=0+lws q;omega
 | c :: p,q=>by show -(c.natAbs:Int)+lws (p ++ q)=-(c.natAbs:Int)+lws p+lws q;rw [Zv8 p q];omega
theorem Zbe{xs:List Int}{i:Nat}(h:i<xs.length):lws (xs.take (i+1))=lws (xs.take i) + -((cf xs i).natAbs:Int):=by
 rw [Nw 0 xs i h,Zv8];show lws (xs.take i)+(-((cf xs i).natAbs:Int)+0)=_;omega
theorem Yb2{n:Nat} : ∀p:List Int,(∀c∈p,c.natAbs≤n)→-((p.length*n:Nat):Int)≤lws p∧lws p≤0
 | [],_=>by show -((0*n:Nat):Int)≤0∧(0:Int)≤0;omega
 | c :: p,h=>by
  have h1:=Yb2 p fun d hd=>h d (List.mem_cons_of_mem _ hd)
  have h2:=h c List.mem_cons_self
  show -(((p.length+1)*n:Nat):Int)≤-(c.natAbs:Int)+lws p∧-(c.natAbs:Int)+lws p≤0
  rw [Nat.succ_mul];omega
theorem Zv7{x:Rat}(h0:0≤x)(h1:x≤1):∀p:List Int,((lws p:Int):Rat)≤Zu p x
 | []=>by show((0:Int):Rat)≤0;exact Rat.le_refl
 | c :: p=>by
  have ih:=Zv7 h0 h1 p
  have hb:=(Yb2 (n:=p.foldl (fun m c=>max m c.natAbs) 0) p (fun c hc=>by
   have:∀(l:List Int) (a:Nat),(a≤l.foldl (fun m c=>max m c.natAbs) a)∧∀c∈l,c.natAbs≤l.foldl (fun m c=>max m c.natAbs) a:=fun l=>by
    induction l with
    | nil=>intro a;exact⟨Nat.le_refl _,fun c hc=>absurd hc (by simp)⟩
    | cons d l ih=>
     intro a
     obtain⟨i1,i2⟩:=ih (max a d.natAbs)
     refine⟨Nat.le_trans (Nat.le_max_left _ _) i1,fun c hc=>?_⟩
     rcases List.mem_cons.1 hc with rfl | hc
     ·exact Nat.le_trans (Nat.le_max_right _ _) i1
     ·exact i2 c hc
   exact(this p 0).2 c hc)).2
  have hb':((lws p:Int):Rat)≤0:=by exact_mod_cast hb
  have hc:((-(c.natAbs:Int):Int):Rat)≤(c:Rat):=by exact_mod_cast (show -(c.natAbs:Int)≤c by omega)
  have hm:=Rat.mul_nonneg (show 0≤1-x by grind) (show 0≤-((lws p:Int):Rat) by grind)
  have hm2:=Rat.mul_nonneg h0 (show 0≤Zu p x-((lws p:Int):Rat) by grind)
  show((-(c.natAbs:Int)+lws p:Int):Rat)≤(c:Rat)+x*Zu p x
  push_cast at hc ⊢
  grind
theorem Yb6(xs:List Int):¬Ey xs (lws xs):=by
 rintro⟨x,a,b,c⟩
 have:=Zv7 a b xs;grind
theorem Yen(xs:List Int):Zu xs 0=((cf xs 0:Int):Rat):=by
 cases xs with
 | nil=>rfl
 | cons c p=>show(c:Rat)+0*Zu p 0=(c:Rat);grind
theorem Zym(xs:List Int):Ey xs (cf xs 0+1):=by
 refine⟨0,by grind,by decide,?_⟩
 rw [Yen]
 push_cast;grind
theorem Zo4{xs:List Int}{l h:Int}(h1:¬Ey xs l)(h2:Ey xs h):l<h:=by
 rcases Int.lt_or_le l h with q | q
 ·exact q
 ·exact absurd (Zyl h2 q) h1
theorem Zuk{c:Int}(h:c≠0):wv (-(c.natAbs:Int))= .agg #[.bool true,.string (Xk c.natAbs)]:=by
 unfold wv
 rw [decide_eq_true (by omega),Int.natAbs_neg,Int.natAbs_natCast]
theorem Ydw{x:Int}(h:x≠0):tzl [x]=[x]:=by
 unfold tzl
 simp [List.dropWhile,h]
theorem Zan{z:Int}(h:z.natAbs≤17592186044416):bl z.natAbs≤45:=(Mj 45 _).2 (Nat.lt_of_le_of_lt h (by decide))
theorem Zro:¬Ey [] 0∧Ey [] (0+1):=⟨fun⟨x,a,b,c⟩=>absurd c (by show ¬(0:Rat)<((0:Int):Rat);decide),⟨0,by decide,by decide,by show(0:Rat)<(((0:Int)+1:Int):Rat);decide⟩⟩
theorem Zfz{xs:List Int}(hs:Sz 40 xs)(i:Nat):(cf xs i).natAbs<1099511627776:=(Mj 40 _).1 (hs i)
theorem Zdc{xs:List Int}(hs:Sz 40 xs)(hl:xs.length≤7)(i:Nat):-7696581394432≤lws (xs.take i)∧lws (xs.take i)≤0:=by
 obtain⟨h1,h2⟩:=Yb2 (n:=1099511627776) (xs.take i) fun c hc=>by
  obtain⟨k,hk,rfl⟩:=List.mem_iff_getElem.1 hc
  have h9:=Zfz hs k
  rw [List.length_take]at hk
  have e:(xs.take i)[k]=cf xs k:=by rw [List.getElem_take];unfold cf;rw [List.getD_eq_getElem?_getD,List.getElem?_eq_getElem (by omega)];rfl
  rw [e];omega
 have h3:(xs.take i).length*1099511627776≤7*1099511627776:=Nat.mul_le_mul_right _ (by rw [List.length_take];omega)
 exact⟨by omega,h2⟩
structure FlI (xs:List Int) (lo hi:Int):Prop where
 l:¬Ey xs lo
 h:Ey xs hi
 b1:-8796093022208≤lo
 b2:hi≤8796093022208
theorem FlI.lt{xs:List Int}{lo hi:Int}(h:FlI xs lo hi):lo<hi:=Zo4 h.l h.h
theorem FlI.start{xs:List Int}(hs:Sz 40 xs)(hl:xs.length≤7){i:Nat}(hi:xs.length≤i):FlI xs (lws (xs.take i)) (cf xs 0+1):=by
 have h1:=Zdc hs hl i
 have h2:=Zfz hs 0
 refine⟨by rw [List.take_of_length_le hi];exact Yb6 xs,Zym xs,by omega,by omega⟩
theorem Zvm:qv (0,1)=0∧qv (1,1)=1:=by unfold qv;exact⟨by decide +kernel,by decide +kernel⟩
theorem Zbf{xs:List Int}{m:Int}(h:Cvd (Er xs m)):Bj (Qq (Er xs m)) (Gz (Er xs m)) (0,1) (1,1)=true↔Ey xs m:=by
 have:=Zca h (a:=(0,1)) (b:=(1,1)) (by decide) (by decide) (by rw [Zvm.1,Zvm.2];decide)
 rw [Zvm.1,Zvm.2]at this
 exact this.trans (Yb5 xs m)
theorem Ydd{n:Nat}(h:(Xk n).size=0):n=0:=by
 rw [Kr]at h
 have:=(Ox (by omega:2≤256) n).1 h;omega
theorem Zxe{c:Int}(h:¬(Xk c.natAbs).size=0):c≠0:=fun e=>h (by rw [e,Kr];exact(Ox (by omega:2≤256) 0).2 rfl)
theorem Zu0{a b:Int}(h:(a-b).sign≤0):a≤b:=by
 rcases Int.lt_or_le b a with q | q
 ·rw [Int.sign_eq_one_of_pos (by omega)]at h;omega
 ·exact q
theorem Zu1{a b:Int}(h:¬(a-b).sign≤0):b<a:=by
 rcases Int.lt_or_le b a with q | q
 ·exact q
 ·exfalso
  rcases Int.lt_or_eq_of_le q with w | w
  ·rw [Int.sign_eq_neg_one_of_neg (by omega)]at h;omega
  ·rw [w,Int.sub_self]at h;exact h (by decide)
theorem Zh6(x:Int)(hx:bl x.natAbs≤65536:=by omega):Od prog 83 #[wv x,.int .i64 (-1)] [] (Zcl (x/2)):=by
 refine Yg func83 J ntmps83 J trivial fun w0 sc hw hsc=>?_
 simp only [Zs,Zq]
 have hb2:=Zjp x 2
 have hxx:okW (decide (x<0)) (Xk x.natAbs)=true:=Zb8 hx
 refine Zb<|Zf<|tt (Xp (i:=1) K5 hw) fun bx _=>tt (Xi (i:=2) K2 zeroValue31 K2 hw) fun bx_2 _=>Zo J<|Zd<|Za<|Zb<|Zb<|Zf<|dt (Qm (i:=1) K3 Xl Yb K2)<|tt (Zy (n:=2) (Aa _ _) K4 Zey Ze J hw) fun _ _=>dt (dF (Xh J J) (vB (by rw [hxx];rfl)))<|Zd<|Za<|Yk J<|Zl<|Za<|Zb<|Zb<|Zf<|mv J<|dt (dF (Pa K3) (vB (by decide)))<|mv J<|Zx (Ya K2) K2<|Zx (dF (Fd K3) (vB (by decide))) K2<|dt (Ql K3)<|Zd<|Za<|Yk J<|Zl<|Za<|Zb<|Zf<|dt (Qm (i:=1) K3 Xl Yb K2)<|tt (Zy (n:=3) (Oe _ _ (Xs _)) K4 Ld Ze J hw) fun g hg=>tt (Xi (i:=4) K2 zeroValue154 K2 hw) fun bx_3 _=>tt (Zt (i:=4) K6 Xb K2 ⟨Zc J,Zj (i:=3) J Zg,trivial⟩ J hw trivial) fun _ _=>Zd<|Za<|Zb<|Zb<|Zf<|mv J<|dt (dF (Lh J J J) (vB (by decide)))<|Zd<|Za<|Yk J<|Zl<|Za ?_
 refine Iy [(4,_)] [(0,_),(1,_),(2,_),(3,_),(4,_)] (fun(q:Bool×Value×Value×Nat×Nat)=>[(7,.pointer (some ⟨q.2.2.2.1,0,none⟩)),(8,.pointer (some ⟨q.2.2.2.2,0,none⟩))]) (fun(q:Bool×Value×Value×Nat×Nat)=>[(84,Dj q.2.1 (x/2).natAbs),(85,Dj q.2.2.1 (x%2).natAbs),(86,box q.2.2.2.1 154 #[.bool q.1,q.2.1]),(87,box q.2.2.2.2 154 #[.bool false,q.2.2.1])]) (fun(q:Bool×Value×Value×Nat×Nat)=>sg q.1 (x/2)) K1 K5 ?_ ?_
 ·refine Ni [4] [13]<|Zw (n:=11) [(0,0),(2,0),(3,0)]<|Zh K2 (Yy (Qm (i:=4) K3 Ln Xb K2) K1)<|Zh K2 (Yy (Ya K2) K1)<|Zh K2 (Yy (Ej (r':= .int .i64 ((1:Nat):Int)) (d_negi J J ⟨by omega,by omega⟩) J) K1)<|Yi<|Fu (n:=10) 1 10 11 ?_ ?_ ?_
  ·refine Yd J (Kp (i:=81) (ivs:=[(0,_)]) (enc:=Lk) (dg U 1) K4 Xr ti149 K5 pU.cells K2 hw) fun v _=>Fu (n:=9) 4 10 11 ?_ ?_ ?_
   ·refine Yd J (Yf (n:=82) (Gj _ 1 1 (show bl 1≤4294967296 by decide)) K5 call132 (Qk 81 J J pU Ze) J hw) fun v_2 _=>Zdq (Na 82 J Zg) (fun sw hsw=>?_)
    subst hsw
    refine Zw (n:=8) [(5,0)]<|Zh K2 (Yy (Oi (ivs:=[(0,_),(1,_)]) J K4 (fun a w hs=>Mb ((Zc J) a w hs) ((Zc J) a w hs))) K1)<|Yi<|Fu (n:=7) 6 10 11 ?_ ?_ ?_
    ·refine Yd J (Yf (n:=84) (Pt _ _ _ _ x 2 ‹_› (Xs (2:Int)) (by omega) (show bl (2:Int).natAbs≤3000000000 by decide)) K5 Ml (Zi 3 K3 (Zi 82 K3 Ze)) J hw) fun g_2 hg_2=>Zw (n:=4) [(7,0),(8,0),(9,0)]<|Zh K2 (Yy (Ya K2) K1)<|Zh K2 (Yy (Xa K3) K1)<|Zh K2 (Yy (Xa K3) K1)<|Yi<|Qg (n:=3) 10 11 ?_ ?_
     ·exact Yd J (Xj (i:=86) K2 zeroValue154 K2 hw K1) fun bx_4 ho=>Zw (n:=0) [(11,1),(12,1),(13,3)]<|Yq J (Xj (i:=87) K2 zeroValue154 K2 hw K1) fun bx_5 ho2=>Yq J (Zt (i:=86) K6 Xb K2 ⟨Zc J,Zj (i:=84) J Zg,trivial⟩ J hw ho) fun _ _=>Qs J (Zt (i:=87) K6 Xb K2 ⟨Zc J,Zj (i:=85) J Zg,trivial⟩ J hw trivial) fun _ _=>Yi<|Yh<|Xd (_,_,_,_,_) ‹_› K3 K9
     ·exact Yd J (Xj (i:=87) K2 zeroValue154 K2 hw K1) fun bx_6 ho3=>Zw (n:=0) [(10,1),(12,1),(13,3)]<|Yq J (Xj (i:=86) K2 zeroValue154 K2 hw K1) fun bx_7 ho4=>Yq J (Zt (i:=86) K6 Xb K2 ⟨Zc J,Zj (i:=84) J Zg,trivial⟩ J hw ho4) fun _ _=>Qs J (Zt (i:=87) K6 Xb K2 ⟨Zc J,Zj (i:=85) J Zg,trivial⟩ J hw trivial) fun _ _=>Yi<|Yh<|Xd (_,_,_,_,_) ‹_› K3 K9
    ·refine Yd J (Xj (i:=86) K2 zeroValue154 K2 hw K1) fun bx_8 ho5=>Qg (n:=6) 6 11 ?_ ?_
     ·exact Yd J (Yf (n:=84) (Pt _ _ _ _ x 2 ‹_› (Xs (2:Int)) (by omega) (show bl (2:Int).natAbs≤3000000000 by decide)) K5 Ml (Zi 3 K3 (Zi 82 K3 Ze)) J hw) fun g_3 hg_3=>Zw (n:=0) [(7,0),(8,0),(9,0),(11,1),(12,1),(13,3)]<|Zh K2 (Yy (Ya K2) K1)<|Zh K2 (Yy (Xa K3) K1)<|Zh K2 (Yy (Xa K3) K1)<|Yq J (Xj (i:=87) K2 zeroValue154 K2 hw K1) fun bx_9 ho6=>Yq J (Zt (i:=86) K6 Xb K2 ⟨Zc J,Zj (i:=84) J Zg,trivial⟩ J hw ho5) fun _ _=>Qs J (Zt (i:=87) K6 Xb K2 ⟨Zc J,Zj (i:=85) J Zg,trivial⟩ J hw trivial) fun _ _=>Yi<|Yh<|Xd (_,_,_,_,_) ‹_› K3 K9
     ·exact Yd J (Xj (i:=87) K2 zeroValue154 K2 hw K1) fun bx_10 ho7=>Zw (n:=0) [(6,1),(7,0),(8,0),(9,0),(12,1),(13,3)]<|Yq J (Yf (n:=84) (Pt _ _ _ _ x 2 ‹_› (Xs (2:Int)) (by omega) (show bl (2:Int).natAbs≤3000000000 by decide)) K5 Ml (Zi 3 K3 (Zi 82 K3 Ze)) J hw) fun g_4 hg_4=>Zh K2 (Yy (Ya K2) K1)<|Zh K2 (Yy (Xa K3) K1)<|Zh K2 (Yy (Xa K3) K1)<|Yq J (Zt (i:=86) K6 Xb K2 ⟨Zc J,Zj (i:=84) J Zg,trivial⟩ J hw ho5) fun _ _=>Qs J (Zt (i:=87) K6 Xb K2 ⟨Zc J,Zj (i:=85) J Zg,trivial⟩ J hw trivial) fun _ _=>Yi<|Yh<|Xd (_,_,_,_,_) ‹_› K3 K9
    ·refine Yd J (Xj (i:=87) K2 zeroValue154 K2 hw K1) fun bx_11 ho8=>Qg (n:=6) 6 10 ?_ ?_
     ·exact Yd J (Yf (n:=84) (Pt _ _ _ _ x 2 ‹_› (Xs (2:Int)) (by omega) (show bl (2:Int).natAbs≤3000000000 by decide)) K5 Ml (Zi 3 K3 (Zi 82 K3 Ze)) J hw) fun g_5 hg_5=>Zw (n:=0) [(7,0),(8,0),(9,0),(10,1),(12,1),(13,3)]<|Zh K2 (Yy (Ya K2) K1)<|Zh K2 (Yy (Xa K3) K1)<|Zh K2 (Yy (Xa K3) K1)<|Yq J (Xj (i:=86) K2 zeroValue154 K2 hw K1) fun bx_12 ho9=>Yq J (Zt (i:=86) K6 Xb K2 ⟨Zc J,Zj (i:=84) J Zg,trivial⟩ J hw ho9) fun _ _=>Qs J (Zt (i:=87) K6 Xb K2 ⟨Zc J,Zj (i:=85) J Zg,trivial⟩ J hw trivial) fun _ _=>Yi<|Yh<|Xd (_,_,_,_,_) ‹_› K3 K9
     ·exact Yd J (Xj (i:=86) K2 zeroValue154 K2 hw K1) fun bx_13 ho10=>Zw (n:=0) [(6,1),(7,0),(8,0),(9,0),(12,1),(13,3)]<|Yq J (Yf (n:=84) (Pt _ _ _ _ x 2 ‹_› (Xs (2:Int)) (by omega) (show bl (2:Int).natAbs≤3000000000 by decide)) K5 Ml (Zi 3 K3 (Zi 82 K3 Ze)) J hw) fun g_6 hg_6=>Zh K2 (Yy (Ya K2) K1)<|Zh K2 (Yy (Xa K3) K1)<|Zh K2 (Yy (Xa K3) K1)<|Yq J (Zt (i:=86) K6 Xb K2 ⟨Zc J,Zj (i:=84) J Zg,trivial⟩ J hw ho10) fun _ _=>Qs J (Zt (i:=87) K6 Xb K2 ⟨Zc J,Zj (i:=85) J Zg,trivial⟩ J hw trivial) fun _ _=>Yi<|Yh<|Xd (_,_,_,_,_) ‹_› K3 K9
   ·refine Yd J (Xj (i:=86) K2 zeroValue154 K2 hw K1) fun bx_14 ho11=>Qg (n:=8) 4 11 ?_ ?_
    ·refine Yd J (Yf (n:=82) (Gj _ 1 1 (show bl 1≤4294967296 by decide)) K5 call132 (Qk 81 J J pU Ze) J hw) fun v_3 _=>Zdq (Na 82 J Zg) (fun sw hsw=>?_)
     subst hsw
     refine Zw (n:=7) [(5,0)]<|Zh K2 (Yy (Oi (ivs:=[(0,_),(1,_)]) J K4 (fun a w hs=>Mb ((Zc J) a w hs) ((Zc J) a w hs))) K1)<|Yi<|Qg (n:=6) 6 11 ?_ ?_
     ·exact Yd J (Yf (n:=84) (Pt _ _ _ _ x 2 ‹_› (Xs (2:Int)) (by omega) (show bl (2:Int).natAbs≤3000000000 by decide)) K5 Ml (Zi 3 K3 (Zi 82 K3 Ze)) J hw) fun g_7 hg_7=>Zw (n:=0) [(7,0),(8,0),(9,0),(11,1),(12,1),(13,3)]<|Zh K2 (Yy (Ya K2) K1)<|Zh K2 (Yy (Xa K3) K1)<|Zh K2 (Yy (Xa K3) K1)<|Yq J (Xj (i:=87) K2 zeroValue154 K2 hw K1) fun bx_15 ho12=>Yq J (Zt (i:=86) K6 Xb K2 ⟨Zc J,Zj (i:=84) J Zg,trivial⟩ J hw ho11) fun _ _=>Qs J (Zt (i:=87) K6 Xb K2 ⟨Zc J,Zj (i:=85) J Zg,trivial⟩ J hw trivial) fun _ _=>Yi<|Yh<|Xd (_,_,_,_,_) ‹_› K3 K9
     ·exact Yd J (Xj (i:=87) K2 zeroValue154 K2 hw K1) fun bx_16 ho13=>Zw (n:=0) [(6,1),(7,0),(8,0),(9,0),(12,1),(13,3)]<|Yq J (Yf (n:=84) (Pt _ _ _ _ x 2 ‹_› (Xs (2:Int)) (by omega) (show bl (2:Int).natAbs≤3000000000 by decide)) K5 Ml (Zi 3 K3 (Zi 82 K3 Ze)) J hw) fun g_8 hg_8=>Zh K2 (Yy (Ya K2) K1)<|Zh K2 (Yy (Xa K3) K1)<|Zh K2 (Yy (Xa K3) K1)<|Yq J (Zt (i:=86) K6 Xb K2 ⟨Zc J,Zj (i:=84) J Zg,trivial⟩ J hw ho11) fun _ _=>Qs J (Zt (i:=87) K6 Xb K2 ⟨Zc J,Zj (i:=85) J Zg,trivial⟩ J hw trivial) fun _ _=>Yi<|Yh<|Xd (_,_,_,_,_) ‹_› K3 K9
    ·refine Yd J (Xj (i:=87) K2 zeroValue154 K2 hw K1) fun bx_17 ho14=>Zw (n:=7) [(4,1)]<|Yq J (Yf (n:=82) (Gj _ 1 1 (show bl 1≤4294967296 by decide)) K5 call132 (Qk 81 J J pU Ze) J hw) fun v_4 _=>Yi<|Zdq (Na 82 J Zg) (fun sw hsw=>?_)
     subst hsw
     exact Zw (n:=0) [(5,0),(6,1),(7,0),(8,0),(9,0),(12,1),(13,3)]<|Zh K2 (Yy (Oi (ivs:=[(0,_),(1,_)]) J K4 (fun a w hs=>Mb ((Zc J) a w hs) ((Zc J) a w hs))) K1)<|Yq J (Yf (n:=84) (Pt _ _ _ _ x 2 ‹_› (Xs (2:Int)) (by omega) (show bl (2:Int).natAbs≤3000000000 by decide)) K5 Ml (Zi 3 K3 (Zi 82 K3 Ze)) J hw) fun g_9 hg_9=>Zh K2 (Yy (Ya K2) K1)<|Zh K2 (Yy (Xa K3) K1)<|Zh K2 (Yy (Xa K3) K1)<|Yq J (Zt (i:=86) K6 Xb K2 ⟨Zc J,Zj (i:=84) J Zg,trivial⟩ J hw ho11) fun _ _=>Qs J (Zt (i:=87) K6 Xb K2 ⟨Zc J,Zj (i:=85) J Zg,trivial⟩ J hw trivial) fun _ _=>Yi<|Yh<|Xd (_,_,_,_,_) ‹_› K3 K9
   ·refine Yd J (Xj (i:=87) K2 zeroValue154 K2 hw K1) fun bx_18 ho15=>Qg (n:=8) 4 10 ?_ ?_
    ·refine Yd J (Yf (n:=82) (Gj _ 1 1 (show bl 1≤4294967296 by decide)) K5 call132 (Qk 81 J J pU Ze) J hw) fun v_5 _=>Zdq (Na 82 J Zg) (fun sw hsw=>?_)
     subst hsw
     refine Zw (n:=7) [(5,0)]<|Zh K2 (Yy (Oi (ivs:=[(0,_),(1,_)]) J K4 (fun a w hs=>Mb ((Zc J) a w hs) ((Zc J) a w hs))) K1)<|Yi<|Qg (n:=6) 6 10 ?_ ?_
     ·exact Yd J (Yf (n:=84) (Pt _ _ _ _ x 2 ‹_› (Xs (2:Int)) (by omega) (show bl (2:Int).natAbs≤3000000000 by decide)) K5 Ml (Zi 3 K3 (Zi 82 K3 Ze)) J hw) fun g_10 hg_10=>Zw (n:=0) [(7,0),(8,0),(9,0),(10,1),(12,1),(13,3)]<|Zh K2 (Yy (Ya K2) K1)<|Zh K2 (Yy (Xa K3) K1)<|Zh K2 (Yy (Xa K3) K1)<|Yq J (Xj (i:=86) K2 zeroValue154 K2 hw K1) fun bx_19 ho16=>Yq J (Zt (i:=86) K6 Xb K2 ⟨Zc J,Zj (i:=84) J Zg,trivial⟩ J hw ho16) fun _ _=>Qs J (Zt (i:=87) K6 Xb K2 ⟨Zc J,Zj (i:=85) J Zg,trivial⟩ J hw trivial) fun _ _=>Yi<|Yh<|Xd (_,_,_,_,_) ‹_› K3 K9
     ·exact Yd J (Xj (i:=86) K2 zeroValue154 K2 hw K1) fun bx_20 ho17=>Zw (n:=0) [(6,1),(7,0),(8,0),(9,0),(12,1),(13,3)]<|Yq J (Yf (n:=84) (Pt _ _ _ _ x 2 ‹_› (Xs (2:Int)) (by omega) (show bl (2:Int).natAbs≤3000000000 by decide)) K5 Ml (Zi 3 K3 (Zi 82 K3 Ze)) J hw) fun g_11 hg_11=>Zh K2 (Yy (Ya K2) K1)<|Zh K2 (Yy (Xa K3) K1)<|Zh K2 (Yy (Xa K3) K1)<|Yq J (Zt (i:=86) K6 Xb K2 ⟨Zc J,Zj (i:=84) J Zg,trivial⟩ J hw ho17) fun _ _=>Qs J (Zt (i:=87) K6 Xb K2 ⟨Zc J,Zj (i:=85) J Zg,trivial⟩ J hw trivial) fun _ _=>Yi<|Yh<|Xd (_,_,_,_,_) ‹_› K3 K9
    ·refine Yd J (Xj (i:=86) K2 zeroValue154 K2 hw K1) fun bx_21 ho18=>Zw (n:=7) [(4,1)]<|Yq J (Yf (n:=82) (Gj _ 1 1 (show bl 1≤4294967296 by decide)) K5 call132 (Qk 81 J J pU Ze) J hw) fun v_6 _=>Yi<|Zdq (Na 82 J Zg) (fun sw hsw=>?_)
     subst hsw
     exact Zw (n:=0) [(5,0),(6,1),(7,0),(8,0),(9,0),(12,1),(13,3)]<|Zh K2 (Yy (Oi (ivs:=[(0,_),(1,_)]) J K4 (fun a w hs=>Mb ((Zc J) a w hs) ((Zc J) a w hs))) K1)<|Yq J (Yf (n:=84) (Pt _ _ _ _ x 2 ‹_› (Xs (2:Int)) (by omega) (show bl (2:Int).natAbs≤3000000000 by decide)) K5 Ml (Zi 3 K3 (Zi 82 K3 Ze)) J hw) fun g_12 hg_12=>Zh K2 (Yy (Ya K2) K1)<|Zh K2 (Yy (Xa K3) K1)<|Zh K2 (Yy (Xa K3) K1)<|Yq J (Zt (i:=86) K6 Xb K2 ⟨Zc J,Zj (i:=84) J Zg,trivial⟩ J hw ho18) fun _ _=>Qs J (Zt (i:=87) K6 Xb K2 ⟨Zc J,Zj (i:=85) J Zg,trivial⟩ J hw trivial) fun _ _=>Yi<|Yh<|Xd (_,_,_,_,_) ‹_› K3 K9
  ·refine Yd J (Xj (i:=86) K2 zeroValue154 K2 hw K1) fun bx_22 ho19=>Qg (n:=9) 1 11 ?_ ?_
   ·refine Yd J (Kp (i:=81) (ivs:=[(0,_)]) (enc:=Lk) (dg U 1) K4 Xr ti149 K5 pU.cells K2 hw) fun v_7 _=>Qg (n:=8) 4 11 ?_ ?_
    ·refine Yd J (Yf (n:=82) (Gj _ 1 1 (show bl 1≤4294967296 by decide)) K5 call132 (Qk 81 J J pU Ze) J hw) fun v_8 _=>Zdq (Na 82 J Zg) (fun sw hsw=>?_)
     subst hsw
     refine Zw (n:=7) [(5,0)]<|Zh K2 (Yy (Oi (ivs:=[(0,_),(1,_)]) J K4 (fun a w hs=>Mb ((Zc J) a w hs) ((Zc J) a w hs))) K1)<|Yi<|Qg (n:=6) 6 11 ?_ ?_
     ·exact Yd J (Yf (n:=84) (Pt _ _ _ _ x 2 ‹_› (Xs (2:Int)) (by omega) (show bl (2:Int).natAbs≤3000000000 by decide)) K5 Ml (Zi 3 K3 (Zi 82 K3 Ze)) J hw) fun g_13 hg_13=>Zw (n:=0) [(7,0),(8,0),(9,0),(11,1),(12,1),(13,3)]<|Zh K2 (Yy (Ya K2) K1)<|Zh K2 (Yy (Xa K3) K1)<|Zh K2 (Yy (Xa K3) K1)<|Yq J (Xj (i:=87) K2 zeroValue154 K2 hw K1) fun bx_23 ho20=>Yq J (Zt (i:=86) K6 Xb K2 ⟨Zc J,Zj (i:=84) J Zg,trivial⟩ J hw ho19) fun _ _=>Qs J (Zt (i:=87) K6 Xb K2 ⟨Zc J,Zj (i:=85) J Zg,trivial⟩ J hw trivial) fun _ _=>Yi<|Yh<|Xd (_,_,_,_,_) ‹_› K3 K9
     ·exact Yd J (Xj (i:=87) K2 zeroValue154 K2 hw K1) fun bx_24 ho21=>Zw (n:=0) [(6,1),(7,0),(8,0),(9,0),(12,1),(13,3)]<|Yq J (Yf (n:=84) (Pt _ _ _ _ x 2 ‹_› (Xs (2:Int)) (by omega) (show bl (2:Int).natAbs≤3000000000 by decide)) K5 Ml (Zi 3 K3 (Zi 82 K3 Ze)) J hw) fun g_14 hg_14=>Zh K2 (Yy (Ya K2) K1)<|Zh K2 (Yy (Xa K3) K1)<|Zh K2 (Yy (Xa K3) K1)<|Yq J (Zt (i:=86) K6 Xb K2 ⟨Zc J,Zj (i:=84) J Zg,trivial⟩ J hw ho19) fun _ _=>Qs J (Zt (i:=87) K6 Xb K2 ⟨Zc J,Zj (i:=85) J Zg,trivial⟩ J hw trivial) fun _ _=>Yi<|Yh<|Xd (_,_,_,_,_) ‹_› K3 K9
    ·refine Yd J (Xj (i:=87) K2 zeroValue154 K2 hw K1) fun bx_25 ho22=>Zw (n:=7) [(4,1)]<|Yq J (Yf (n:=82) (Gj _ 1 1 (show bl 1≤4294967296 by decide)) K5 call132 (Qk 81 J J pU Ze) J hw) fun v_9 _=>Yi<|Zdq (Na 82 J Zg) (fun sw hsw=>?_)
     subst hsw
     exact Zw (n:=0) [(5,0),(6,1),(7,0),(8,0),(9,0),(12,1),(13,3)]<|Zh K2 (Yy (Oi (ivs:=[(0,_),(1,_)]) J K4 (fun a w hs=>Mb ((Zc J) a w hs) ((Zc J) a w hs))) K1)<|Yq J (Yf (n:=84) (Pt _ _ _ _ x 2 ‹_› (Xs (2:Int)) (by omega) (show bl (2:Int).natAbs≤3000000000 by decide)) K5 Ml (Zi 3 K3 (Zi 82 K3 Ze)) J hw) fun g_15 hg_15=>Zh K2 (Yy (Ya K2) K1)<|Zh K2 (Yy (Xa K3) K1)<|Zh K2 (Yy (Xa K3) K1)<|Yq J (Zt (i:=86) K6 Xb K2 ⟨Zc J,Zj (i:=84) J Zg,trivial⟩ J hw ho19) fun _ _=>Qs J (Zt (i:=87) K6 Xb K2 ⟨Zc J,Zj (i:=85) J Zg,trivial⟩ J hw trivial) fun _ _=>Yi<|Yh<|Xd (_,_,_,_,_) ‹_› K3 K9
   ·refine Yd J (Xj (i:=87) K2 zeroValue154 K2 hw K1) fun bx_26 ho23=>Zw (n:=7) [(1,1),(4,1)]<|Yq J (Kp (i:=81) (ivs:=[(0,_)]) (enc:=Lk) (dg U 1) K4 Xr ti149 K5 pU.cells K2 hw) fun v_10 _=>Yq J (Yf (n:=82) (Gj _ 1 1 (show bl 1≤4294967296 by decide)) K5 call132 (Qk 81 J J pU Ze) J hw) fun v_11 _=>Yi<|Zdq (Na 82 J Zg) (fun sw hsw=>?_)
    subst hsw
    exact Zw (n:=0) [(5,0),(6,1),(7,0),(8,0),(9,0),(12,1),(13,3)]<|Zh K2 (Yy (Oi (ivs:=[(0,_),(1,_)]) J K4 (fun a w hs=>Mb ((Zc J) a w hs) ((Zc J) a w hs))) K1)<|Yq J (Yf (n:=84) (Pt _ _ _ _ x 2 ‹_› (Xs (2:Int)) (by omega) (show bl (2:Int).natAbs≤3000000000 by decide)) K5 Ml (Zi 3 K3 (Zi 82 K3 Ze)) J hw) fun g_16 hg_16=>Zh K2 (Yy (Ya K2) K1)<|Zh K2 (Yy (Xa K3) K1)<|Zh K2 (Yy (Xa K3) K1)<|Yq J (Zt (i:=86) K6 Xb K2 ⟨Zc J,Zj (i:=84) J Zg,trivial⟩ J hw ho19) fun _ _=>Qs J (Zt (i:=87) K6 Xb K2 ⟨Zc J,Zj (i:=85) J Zg,trivial⟩ J hw trivial) fun _ _=>Yi<|Yh<|Xd (_,_,_,_,_) ‹_› K3 K9
  ·refine Yd J (Xj (i:=87) K2 zeroValue154 K2 hw K1) fun bx_27 ho24=>Qg (n:=9) 1 10 ?_ ?_
   ·refine Yd J (Kp (i:=81) (ivs:=[(0,_)]) (enc:=Lk) (dg U 1) K4 Xr ti149 K5 pU.cells K2 hw) fun v_12 _=>Qg (n:=8) 4 10 ?_ ?_
    ·refine Yd J (Yf (n:=82) (Gj _ 1 1 (show bl 1≤4294967296 by decide)) K5 call132 (Qk 81 J J pU Ze) J hw) fun v_13 _=>Zdq (Na 82 J Zg) (fun sw hsw=>?_)
     subst hsw
     refine Zw (n:=7) [(5,0)]<|Zh K2 (Yy (Oi (ivs:=[(0,_),(1,_)]) J K4 (fun a w hs=>Mb ((Zc J) a w hs) ((Zc J) a w hs))) K1)<|Yi<|Qg (n:=6) 6 10 ?_ ?_
     ·exact Yd J (Yf (n:=84) (Pt _ _ _ _ x 2 ‹_› (Xs (2:Int)) (by omega) (show bl (2:Int).natAbs≤3000000000 by decide)) K5 Ml (Zi 3 K3 (Zi 82 K3 Ze)) J hw) fun g_17 hg_17=>Zw (n:=0) [(7,0),(8,0),(9,0),(10,1),(12,1),(13,3)]<|Zh K2 (Yy (Ya K2) K1)<|Zh K2 (Yy (Xa K3) K1)<|Zh K2 (Yy (Xa K3) K1)<|Yq J (Xj (i:=86) K2 zeroValue154 K2 hw K1) fun bx_28 ho25=>Yq J (Zt (i:=86) K6 Xb K2 ⟨Zc J,Zj (i:=84) J Zg,trivial⟩ J hw ho25) fun _ _=>Qs J (Zt (i:=87) K6 Xb K2 ⟨Zc J,Zj (i:=85) J Zg,trivial⟩ J hw trivial) fun _ _=>Yi<|Yh<|Xd (_,_,_,_,_) ‹_› K3 K9
     ·exact Yd J (Xj (i:=86) K2 zeroValue154 K2 hw K1) fun bx_29 ho26=>Zw (n:=0) [(6,1),(7,0),(8,0),(9,0),(12,1),(13,3)]<|Yq J (Yf (n:=84) (Pt _ _ _ _ x 2 ‹_› (Xs (2:Int)) (by omega) (show bl (2:Int).natAbs≤3000000000 by decide)) K5 Ml (Zi 3 K3 (Zi 82 K3 Ze)) J hw) fun g_18 hg_18=>Zh K2 (Yy (Ya K2) K1)<|Zh K2 (Yy (Xa K3) K1)<|Zh K2 (Yy (Xa K3) K1)<|Yq J (Zt (i:=86) K6 Xb K2 ⟨Zc J,Zj (i:=84) J Zg,trivial⟩ J hw ho26) fun _ _=>Qs J (Zt (i:=87) K6 Xb K2 ⟨Zc J,Zj (i:=85) J Zg,trivial⟩ J hw trivial) fun _ _=>Yi<|Yh<|Xd (_,_,_,_,_) ‹_› K3 K9
    ·refine Yd J (Xj (i:=86) K2 zeroValue154 K2 hw K1) fun bx_30 ho27=>Zw (n:=7) [(4,1)]<|Yq J (Yf (n:=82) (Gj _ 1 1 (show bl 1≤4294967296 by decide)) K5 call132 (Qk 81 J J pU Ze) J hw) fun v_14 _=>Yi<|Zdq (Na 82 J Zg) (fun sw hsw=>?_)
     subst hsw
     exact Zw (n:=0) [(5,0),(6,1),(7,0),(8,0),(9,0),(12,1),(13,3)]<|Zh K2 (Yy (Oi (ivs:=[(0,_),(1,_)]) J K4 (fun a w hs=>Mb ((Zc J) a w hs) ((Zc J) a w hs))) K1)<|Yq J (Yf (n:=84) (Pt _ _ _ _ x 2 ‹_› (Xs (2:Int)) (by omega) (show bl (2:Int).natAbs≤3000000000 by decide)) K5 Ml (Zi 3 K3 (Zi 82 K3 Ze)) J hw) fun g_19 hg_19=>Zh K2 (Yy (Ya K2) K1)<|Zh K2 (Yy (Xa K3) K1)<|Zh K2 (Yy (Xa K3) K1)<|Yq J (Zt (i:=86) K6 Xb K2 ⟨Zc J,Zj (i:=84) J Zg,trivial⟩ J hw ho27) fun _ _=>Qs J (Zt (i:=87) K6 Xb K2 ⟨Zc J,Zj (i:=85) J Zg,trivial⟩ J hw trivial) fun _ _=>Yi<|Yh<|Xd (_,_,_,_,_) ‹_› K3 K9
   ·refine Yd J (Xj (i:=86) K2 zeroValue154 K2 hw K1) fun bx_31 ho28=>Zw (n:=7) [(1,1),(4,1)]<|Yq J (Kp (i:=81) (ivs:=[(0,_)]) (enc:=Lk) (dg U 1) K4 Xr ti149 K5 pU.cells K2 hw) fun v_15 _=>Yq J (Yf (n:=82) (Gj _ 1 1 (show bl 1≤4294967296 by decide)) K5 call132 (Qk 81 J J pU Ze) J hw) fun v_16 _=>Yi<|Zdq (Na 82 J Zg) (fun sw hsw=>?_)
    subst hsw
    exact Zw (n:=0) [(5,0),(6,1),(7,0),(8,0),(9,0),(12,1),(13,3)]<|Zh K2 (Yy (Oi (ivs:=[(0,_),(1,_)]) J K4 (fun a w hs=>Mb ((Zc J) a w hs) ((Zc J) a w hs))) K1)<|Yq J (Yf (n:=84) (Pt _ _ _ _ x 2 ‹_› (Xs (2:Int)) (by omega) (show bl (2:Int).natAbs≤3000000000 by decide)) K5 Ml (Zi 3 K3 (Zi 82 K3 Ze)) J hw) fun g_20 hg_20=>Zh K2 (Yy (Ya K2) K1)<|Zh K2 (Yy (Xa K3) K1)<|Zh K2 (Yy (Xa K3) K1)<|Yq J (Zt (i:=86) K6 Xb K2 ⟨Zc J,Zj (i:=84) J Zg,trivial⟩ J hw ho28) fun _ _=>Qs J (Zt (i:=87) K6 Xb K2 ⟨Zc J,Zj (i:=85) J Zg,trivial⟩ J hw trivial) fun _ _=>Yi<|Yh<|Xd (_,_,_,_,_) ‹_› K3 K9
 ·rintro⟨qb,qv,rv,b7,b8⟩ hq
  dsimp only at hq
  simp only [CA,NA]
  exact Zb<|Zf<|dt (Qm (i:=86) K3 Ln Xb K2)<|tt (Zy (n:=4) (Ga _ _ (x/2) ‹_›) K4 call128 (Zi 84 K3 Ze) J hw) fun _ _=>dt (Xa K3)<|dt (Xa K3)<|tt (Zt (i:=2) K6 Yb K2 ⟨Zc J,Zc J,trivial⟩ J hw trivial) fun _ _=>Zo J<|Zd<|Za<|Zp<|Yr (.inl J) hsc () _ (fun a w hs=>Pz hs results83 (Yw (i:=2) J J Xl Yb J) J) J trivial J Zm
theorem Zu5(x:Int)(hx:bl x.natAbs≤65536:=by omega):Cal prog 86 #[wv x] [] true (G:=Value) (fun r=>True) (fun r=>r) (fun r=>[Pw 2 wv r (tzl [x])]):=by
 refine Yg func86 J ntmps86 J trivial fun w0 sc hw hsc=>?_
 simp only [Zs,Zq]
 refine Zb<|Zf<|tt (Xp (i:=1) K5 hw) fun bx _=>Zo J<|Zd<|Za<|Zb<|Zb<|Zf<|dt (Qm (i:=1) K3 Xl Yb K2)<|tt (Zy (n:=1) (Km _ hx) K4 call104 Ze J hw) fun _ _=>dt (Hf K3)<|Zd<|Za<|Zr J (fun h358=>?_) (fun h358=>?_)
 ·exact Zb<|Zf<|Zo J<|Zd<|Za<|Zp<|Yp<|xG hsc _ results86 J J trivial J (Ii (by rw [show x=0 from Int.sign_eq_zero_iff_zero.1 ‹_›]<;>rfl) Zm)
 ·exact Zl<|Za<|Zb<|Zf<|dt (Qm (i:=1) K3 Xl Yb K2)<|tt (Kp (i:=2) (ivs:=[(0,_)]) (enc:=wv) [x] K4 Xn ti31 K5 pV.cells K2 hw) fun v _=>Zo J<|Zd<|Za<|Zp<|xG hsc _ results86 J J trivial J (Ng 2 J J pV (by rw [Ydw (fun e=>(show ¬x.sign=0 by assumption) (by rw [e];rfl))]) Zm)
end Go.Sky

