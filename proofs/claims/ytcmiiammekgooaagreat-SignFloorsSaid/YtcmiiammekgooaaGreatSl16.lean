/- rules, arithmetic and contracts: part 17
   Proved without conditions of its own: each theorem bears its own. -/
import Derived.Test.YtcmiiammekgooaaGreatSl03
import Derived.Test.YtcmiiammekgooaaGreatSl02
import Derived.Test.YtcmiiammekgooaaGreatSl01
import Derived.Test.YtcmiiammekgooaaGreatSl15
set_option linter.all false
namespace Go.Sky
open Go.Proofs.Tryz
open Go.Proofs
set_option maxRecDepth 20000
set_option maxHeartbeats 4000000
set_option linter.unusedSimpArgs false
theorem sg_neg1(bf bc bs:Nat)(v1 v2 c0 c1 c2 c3:Value)(ls cs:List (SL×List Int))(a b m:R2)(hx:bl m.1.natAbs≤65536)(hy:bl m.2.natAbs≤65536)(hp:0<m.2)(hlsv:∀z∈ls,Vp z.2)(hlsE:∀z∈ls,¬Kj z.2 m.1 m.2):CalP prog 64 #[.agg #[.bool (decide (a.1<0)),.string (Qq a.1.natAbs),.bool (decide (a.2<0)),.string (Qq a.2.natAbs),.bool (decide (b.1<0)),.string (Qq b.1.natAbs),.bool (decide (b.2<0)),.string (Qq b.2.natAbs)],rX m.1 m.2,.pointer (some ⟨bf,0,none⟩),.pointer (some ⟨bc,0,none⟩),.pointer (some ⟨bs,0,none⟩)] [Zf5 bs 102 #[.int .i64 0],Zf5 bc 98 #[v1,v2],Au 1 Bh qZ v1 ls,Au 1 Bh qZ v2 cs] (box bf 41 #[c0,c1,c2,c3]) (G:=Unit) (fun _=>True) (fun _=> .bool (decide (vlu (ls.map Prod.snd) (m.1,m.2)<0))) (fun _=>box bf 41 #[.bool (decide (m.1<0)),.string (Qq m.1.natAbs),.bool (decide (m.2<0)),.string (Qq m.2.natAbs)]):=by
 refine Zio func64 J ntmps64 J K4 ?_
 intro w0 sc hw hsc
 simp only [Zp,Zn]
 exact Zc<|Zg<|tt (Xe (i:=6) J J J J J hw) fun bx _=>tt (Xe (i:=7) J J J J J hw) fun bx_2 _=>as_ J<|Zf<|Za<|Zc<|Zg<|dt (Yy (i:=7) J J J Pv Xz J J J J)<|tt (Zm (i:=1) J J J J J (by decide) J Xz J J ⟨Zd J,Zd J,Zd J,Zd J,trivial⟩ J hw trivial) fun _ _=>Zf<|Za<|Zc<|Zg<|dt (d_lr2 (i:=3) J J J Zc1 Ct J J)<|dt (Yy (i:=7) J J J Pv Xz J J J J)<|tt (Zh (n:=7) (Zak _ _ _ _ _ _ _ hp hlsv hlsE hx hy) J J J K3 call62 (Zb 4 J J J (Zb 5 J J J (Zb 2 J J J Ze))) J hw) fun _ _=>dt (Xu J J J)<|as_ J<|Zf<|Za<|Zv<|Zmp (.inl J) hsc () _ (fun a w hs=>Nn hs results64 J) J trivial 1 J J J J (Zb 2 J J J (Zb 3 J J J (Zb 4 J J J (Zb 5 J J J Ze))))
theorem sg_fst1(bf:Nat)(k:Int)(a b m:R2)(hk:-1000≤k∧k≤1000):CalP prog 79 #[.agg #[.bool (decide (a.1<0)),.string (Qq a.1.natAbs),.bool (decide (a.2<0)),.string (Qq a.2.natAbs),.bool (decide (b.1<0)),.string (Qq b.1.natAbs),.bool (decide (b.2<0)),.string (Qq b.2.natAbs)],rX m.1 m.2,.pointer (some ⟨bf,0,none⟩)] [] (box bf 3 #[.int .i64 k]) (G:=Unit) (fun _=>True) (fun _=> .bool (decide (k-1<0))) (fun _=>box bf 3 #[.int .i64 (k-1)]):=by
 refine Zio func79 J ntmps79 J trivial ?_
 intro w0 sc hw hsc
 simp only [Zp,Zn]
 exact Zc<|Zg<|tt (Xe (i:=2) J J J J J hw) fun bx _=>tt (Xe (i:=3) J J J J J hw) fun bx_2 _=>as_ J<|Zf<|Za<|Zc<|Zg<|dt (Ok (i:=1) J J J isAgg3 J)<|dt (Qa J J J ⟨by omega,by omega⟩)<|tt (Zm (i:=1) J J J J J (by decide) J zT3 J J ⟨Zd J,trivial⟩ J hw trivial) fun _ _=>Zf<|Za<|Zc<|Zg<|dt (Ok (i:=1) J J J isAgg3 J)<|dt (Xu J J J)<|as_ J<|Zf<|Za<|Zv<|Zmp (.inl J) hsc () _ (fun a w hs=>Nn hs results79 J) J trivial 1 J J J J Ze
set_option maxHeartbeats 4000000 in
theorem Zhe(bf bc bs:Nat)(v1 v2:Value)(ls cs:List (SL×List Int))(xs:List Int)(a0 b0:R2)(s t:Rat)(c0 c1 c2 c3:Value)(hd:Cvd xs)(h0:xs≠[])(hgl:ls.map Prod.snd=Pw xs)(hgc:cs.map Prod.snd=chx xs)(hI0:NIn xs s t 0 a0 b0):CalP prog 63 #[.agg #[v1,v2],.pointer (some ⟨bs,0,none⟩),.agg #[.bool (decide (a0.1<0)),.string (Qq a0.1.natAbs),.bool (decide (a0.2<0)),.string (Qq a0.2.natAbs),.bool (decide (b0.1<0)),.string (Qq b0.1.natAbs),.bool (decide (b0.2<0)),.string (Qq b0.2.natAbs)],.func (.func 64) #[] #[.pointer (some ⟨bf,0,none⟩),.pointer (some ⟨bc,0,none⟩),.pointer (some ⟨bs,0,none⟩)]] [Zf5 bs 102 #[.int .i64 0],Zf5 bc 98 #[v1,v2],Au 1 Bh qZ v1 ls,Au 1 Bh qZ v2 cs] (box bf 41 #[c0,c1,c2,c3]) (G:=R2×R2×R2) (fun r=>Fnd xs s t r.1) (fun r=> .agg #[.bool (decide (r.2.1.1<0)),.string (Qq r.2.1.1.natAbs),.bool (decide (r.2.1.2<0)),.string (Qq r.2.1.2.natAbs),.bool (decide (r.2.2.1<0)),.string (Qq r.2.2.1.natAbs),.bool (decide (r.2.2.2<0)),.string (Qq r.2.2.2.natAbs)]) (fun r=>box bf 41 #[.bool (decide (r.1.1<0)),.string (Qq r.1.1.natAbs),.bool (decide (r.1.2<0)),.string (Qq r.1.2.natAbs)]):=by
 refine Zio func63 J ntmps63 J K4 ?_
 intro w0 sc hw hsc
 simp only [Zp,Zn]
 refine Zc<|Zg<|tt (Xe (i:=6) J J J J J hw) fun bx _=>tt (Xe (i:=7) J J J J J hw) fun bx_2 _=>tt (Zo (i:=8) J J zeroValue62 J J hw) fun bx_3 _=>Zf<|Za<|Zc<|Zl<|Nt [(1,_),(3,_),(4,_),(6,_),(8,_)] [(0,_),(2,_),(3,_),(4,_),(5,_),(6,_),(8,_)] (fun(q:R2×R2×Nat×Value×Value×Value×Value)=>[]) (fun(q:R2×R2×Nat×Value×Value×Value×Value)=>[(7,box bx_2 62 #[.bool (decide (q.1.1<0)),.string (Qq q.1.1.natAbs),.bool (decide (q.1.2<0)),.string (Qq q.1.2.natAbs),.bool (decide (q.2.1.1<0)),.string (Qq q.2.1.1.natAbs),.bool (decide (q.2.1.2<0)),.string (Qq q.2.1.2.natAbs)]),(1,box bf 41 #[q.2.2.2.1,q.2.2.2.2.1,q.2.2.2.2.2.1,q.2.2.2.2.2.2])]) (fun(q:R2×R2×Nat×Value×Value×Value×Value)=>NIn xs s t q.2.2.1 q.1 q.2.1) (fun(q:R2×R2×Nat×Value×Value×Value×Value)=>2736-q.2.2.1) (a0,b0,0,c0,c1,c2,c3) (hI0) K5 K9 ?_
 rintro⟨a,b,j,c0,c1,c2,c3⟩ hI
 dsimp only at hI
 simp only [CA,NA]
 obtain⟨r1,r2,r3,r4,r5,r6,r7⟩:=hI.round hd h0
 rw [←hgl]at r5 r6 r7
 rw [←hgc]at r6 r7
 refine Zc<|Zc<|Zg<|mv J<|dt (Zfp J J)<|dt (Xx J J Ky J Gr J J)<|dt (Zx4 (i:=2) J J J Ax J)<|dt (Yc (r':= .bool true) (Pm J J J) (congrArg Value.bool (by decide)))<|Zf<|Za<|Ov J<|Zj<|Za<|Zl<|Zc<|Zg<|mv J<|dt (Xx J J Zp7 J Xz J J)<|dt (Yy (i:=7) J J J Pv Xz J J J J)<|dt (Xx J J Zp7 J Xz J J)<|dt (Yy (i:=7) J J J Pv Xz J J J J)<|tt (Zh (n:=8) (Zjc _ a.1 a.2 b.1 b.2 r3.2.2 r4.2.2 r1) J J J K3 call94 (Zb 2 J J J Ze) J hw) fun _ _=>tt (Zo (i:=9) J J zeroValue41 J J hw) fun bx_4 _=>tt (Zm (i:=9) J J J J J (by decide) J Xz J J ⟨Zd J,Zd J,Zd J,Zd J,trivial⟩ J hw trivial) fun _ _=>Zf<|Za<|Zc<|Zc<|Zg<|mv J<|dt (Zfq (i:=7) J J J Ziw Bl J J J J J J J J)<|dt (Yy (i:=9) J J J Pv Xz J J J J)<|tt (Zbv (i:=1) (fs:=[]) (vs:=[_,_]) (us:=[_,_,_]) (sg_neg1 _ _ _ _ _ _ _ _ _ _ _ a b (Mp a b) (by omega) (by omega) r2.2.2 (Xy hgl (fun q hq=>(Nx hd q hq).1)) (Xy hgl (Kp hd (m:=(Mp a b)) (by omega) (by omega)).1)) J J J J K2 call64 J J (by decide) (Zb 2 J J J (Zb 3 J J J (Zb 4 J J J (Zb 5 J J J Ze)))) J hw (fun _ _=>trivial)) fun _ _=>Zf<|Za ?_
 refine Zq J (fun h228=>?_) (fun h228=>?_)
 ·exact Yu<|Zu<|Zo7<|Zu<|Ox<|Za<|Zc<|Zg<|dt (Zfq (i:=7) J J J Ziw Bl J J J J J J J J)<|tt (Zm (i:=8) J J J J J (by decide) J Bl J J ⟨Zd J,Zd J,Zd J,Zd J,Zd J,Zd J,Zd J,Zd J,trivial⟩ J hw trivial) fun _ _=>Zf<|Za<|Zv<|Zmp (.inl J) hsc (Mp a b,a,b) _ (fun a w hs=>Nn hs results63 (Yr (i:=8) J J Ziw Bl J)) J (r5 ‹_›) 1 J J J J (Zb 2 J J J (Zb 3 J J J (Zb 4 J J J (Zb 5 J J J Ze))))
 ·refine Zj<|Za<|Zc<|Zg<|dt (Zz (i:=6) J J J Zc1 Ct J J)<|mv J<|dt (Xx J J Zp7 J Xz J J)<|dt (Yy (i:=7) J J J Pv Xz J J J J)<|dt (Yy (i:=9) J J J Pv Xz J J J J)<|tt (Zh (n:=9) (Lv _ _ _ _ _ a.1 a.2 (Mp a b).1 (Mp a b).2 r3.2.2 r2.2.2 (Xy hgl (fun q hq=>(Nx hd q hq).1)) (Xy hgl (Kp hd (m:=a) (by omega) (by omega)).1) (Xy hgc (fun q hq=>(Gk hd q hq).1)) (Xy hgc (Kp hd (m:=a) (by omega) (by omega)).2) (Xy hgc (Kp hd (m:=(Mp a b)) (by omega) (by omega)).2) (by have h7:=congrArg List.length hgc;rw [List.length_map]at h7;have:=Fm xs;omega)) J J J K4 call61 (Zb 4 J J J (Zb 5 J J J (Zb 2 J J J Ze))) J hw) fun _ _=>Zf<|Za<|Lm J (fun h231=>?_) (fun h231=>?_)
  ·exact Zg<|dt (Yy (i:=9) J J J Pv Xz J J J J)<|dt (Xx J J Zp7 J Xz J J)<|tt (Zk0 (cs':=#[]) (i:=7) J J J J J (by decide) J Xz J J ⟨Zd J,Zd J,Zd J,Zd J,trivial⟩ J hw trivial) fun _ _=>Zf<|Oa<|Xk (a,Mp a b,j+1,_,_,_,_) (r6 ‹_› ‹_›) (by have:=hI.j hd h0;dsimp only;omega) K5 K9
  ·exact Zg<|dt (Yy (i:=9) J J J Pv Xz J J J J)<|dt (Xx J J Zp7 J Xz J J)<|tt (Zk0 (cs':=#[]) (i:=7) J J J J J (by decide) J Xz J J ⟨Zd J,Zd J,Zd J,Zd J,trivial⟩ J hw trivial) fun _ _=>Zf<|Oa<|Xk (Mp a b,b,j+1,_,_,_,_) (r7 ‹_› ‹_›) (by have:=hI.j hd h0;dsimp only;omega) K5 K9
set_option maxHeartbeats 4000000 in
theorem Ev(bf bs:Nat)(v1 v2:Value)(ls cs:List (SL×List Int))(xs:List Int)(a0 b0:R2)(hq:Nat)(hh:hq≤100)(hd:Cvd xs)(hgl:ls.map Prod.snd=Pw xs)(hgc:cs.map Prod.snd=chx xs)(hI0:FIn xs 0 a0 b0):CalP prog 63 #[.agg #[v1,v2],.pointer (some ⟨bs,0,none⟩),.agg #[.bool (decide (a0.1<0)),.string (Qq a0.1.natAbs),.bool (decide (a0.2<0)),.string (Qq a0.2.natAbs),.bool (decide (b0.1<0)),.string (Qq b0.1.natAbs),.bool (decide (b0.2<0)),.string (Qq b0.2.natAbs)],.func (.func 79) #[] #[.pointer (some ⟨bf,0,none⟩)]] [Zf5 bs 102 #[.int .i64 0],Au 1 Bh qZ v1 ls,Au 1 Bh qZ v2 cs] (box bf 3 #[.int .i64 (hq:Int)]) (G:=Unit) (fun _=>True) (fun _=> .agg #[.bool (decide ((frs xs hq a0 b0).1.1<0)),.string (Qq (frs xs hq a0 b0).1.1.natAbs),.bool (decide ((frs xs hq a0 b0).1.2<0)),.string (Qq (frs xs hq a0 b0).1.2.natAbs),.bool (decide ((frs xs hq a0 b0).2.1<0)),.string (Qq (frs xs hq a0 b0).2.1.natAbs),.bool (decide ((frs xs hq a0 b0).2.2<0)),.string (Qq (frs xs hq a0 b0).2.2.natAbs)]) (fun _=>box bf 3 #[.int .i64 (-1)]):=by
 refine Zio func63 J ntmps63 J K3 ?_
 intro w0 sc hw hsc
 simp only [Zp,Zn]
 refine Zc<|Zg<|tt (Xe (i:=5) J J J J J hw) fun bx _=>tt (Xe (i:=6) J J J J J hw) fun bx_2 _=>tt (Zo (i:=7) J J zeroValue62 J J hw) fun bx_3 _=>Zf<|Za<|Zc<|Zl<|Nt [(1,_),(3,_),(4,_),(6,_),(8,_)] [(0,_),(2,_),(3,_),(4,_),(5,_),(7,_)] (fun(q:R2×R2×Nat)=>[]) (fun(q:R2×R2×Nat)=>[(6,box bx_2 62 #[.bool (decide (q.1.1<0)),.string (Qq q.1.1.natAbs),.bool (decide (q.1.2<0)),.string (Qq q.1.2.natAbs),.bool (decide (q.2.1.1<0)),.string (Qq q.2.1.1.natAbs),.bool (decide (q.2.1.2<0)),.string (Qq q.2.1.2.natAbs)]),(1,box bf 3 #[.int .i64 ((hq:Int)-(q.2.2:Int))])]) (fun(q:R2×R2×Nat)=>(FIn xs q.2.2 q.1 q.2.1)∧(q.2.2≤hq)∧(frs xs (hq-q.2.2) q.1 q.2.1=frs xs hq a0 b0)) (fun(q:R2×R2×Nat)=>hq+1-q.2.2) (a0,b0,0) ⟨hI0,by first | omega | (dsimp only<;>omega),rfl⟩ K5 ⟨J,(by rw [show((hq:Int)-((0:Nat):Int))=(hq:Int) by omega]<;>rfl),J,J,J,J,J,J,trivial⟩ ?_
 rintro⟨a,b,j⟩ ⟨hI,hj,hF⟩
 dsimp only at hI hj hF
 simp only [CA,NA]
 obtain⟨r1,r2,r3,r4,r5⟩:=hI.round
 refine Zc<|Zc<|Zg<|mv J<|dt (Zfp J J)<|dt (Xx J J Ky J Gr J J)<|dt (Zx4 (i:=2) J J J Ax J)<|dt (Yc (r':= .bool true) (Pm J J J) (congrArg Value.bool (by decide)))<|Zf<|Za<|Ov J<|Zj<|Za<|Zl<|Zc<|Zg<|mv J<|dt (Xx J J Zp7 J Xz J J)<|dt (Yy (i:=6) J J J Pv Xz J J J J)<|dt (Xx J J Zp7 J Xz J J)<|dt (Yy (i:=6) J J J Pv Xz J J J J)<|tt (Zh (n:=7) (Zjc _ a.1 a.2 b.1 b.2 r3.2.2 r4.2.2 r1) J J J K3 call94 (Zb 2 J J J Ze) J hw) fun _ _=>tt (Zo (i:=8) J J zeroValue41 J J hw) fun bx_4 _=>tt (Zm (i:=8) J J J J J (by decide) J Xz J J ⟨Zd J,Zd J,Zd J,Zd J,trivial⟩ J hw trivial) fun _ _=>Zf<|Za<|Zc<|Zc<|Zg<|mv J<|dt (Zfq (i:=6) J J J Ziw Bl J J J J J J J J)<|dt (Yy (i:=8) J J J Pv Xz J J J J)<|tt (Zbv (i:=1) (fs:=[]) (vs:=[_,_]) (us:=[_]) (sg_fst1 _ _ a b (Mp a b) ⟨by omega,by omega⟩) J J J J K2 call79 J J (by decide) Ze J hw (fun _ _=>trivial)) fun _ _=>Zf<|Za<|Zq J (fun h228=>?_) (fun h228=>?_)
 ·exact Yu<|Zu<|Zo7<|Zu<|Ox<|Za<|Zc<|Zg<|dt (Zfq (i:=6) J J J Ziw Bl J J J J J J J J)<|tt (Zm (i:=7) J J J J J (by decide) J Bl J J ⟨Zd J,Zd J,Zd J,Zd J,Zd J,Zd J,Zd J,Zd J,trivial⟩ J hw trivial) fun _ _=>Zf<|Za<|Zv<|Zmp (.inl J) hsc () _ (fun a w hs=>Nn hs results63 (Yr (i:=7) J J Ziw Bl J)) (by rw [←hF,show hq-j=0 by omega]<;>rfl) trivial 1 (by rw [show(-1:Int)=(hq:Int)-(j:Int)-1 by omega]<;>rfl) J J J (Zb 2 J J J (Zb 3 J J J (Zb 4 J J J Ze)))
 ·refine Zj<|Za<|Zc<|Zg<|dt (Zz (i:=5) J J J Zc1 Ct J J)<|mv J<|dt (Xx J J Zp7 J Xz J J)<|dt (Yy (i:=6) J J J Pv Xz J J J J)<|dt (Yy (i:=8) J J J Pv Xz J J J J)<|tt (Zh (n:=8) (Lv _ _ _ _ _ a.1 a.2 (Mp a b).1 (Mp a b).2 r3.2.2 r2.2.2 (Xy hgl (fun q hq=>(Nx hd q hq).1)) (Xy hgl (Kp hd (m:=a) (by omega) (by omega)).1) (Xy hgc (fun q hq=>(Gk hd q hq).1)) (Xy hgc (Kp hd (m:=a) (by omega) (by omega)).2) (Xy hgc (Kp hd (m:=(Mp a b)) (by omega) (by omega)).2) (by have h7:=congrArg List.length hgc;rw [List.length_map]at h7;have:=Fm xs;omega)) J J J K4 call61 (Zb 3 J J J (Zb 4 J J J (Zb 2 J J J Ze))) J hw) fun _ _=>Zf<|Za<|Lm J (fun h231=>?_) (fun h231=>?_)
  ·exact Zg<|dt (Yy (i:=8) J J J Pv Xz J J J J)<|dt (Xx J J Zp7 J Xz J J)<|tt (Zk0 (cs':=#[]) (i:=6) J J J J J (by decide) J Xz J J ⟨Zd J,Zd J,Zd J,Zd J,trivial⟩ J hw trivial) fun _ _=>Zf<|Oa<|Xk (a,Mp a b,j+1) ⟨(r5 (by omega)).1,by first | omega | (dsimp only<;>omega),by dsimp only;rw [←hF,show hq-j=(hq-(j+1))+1 by omega,Zoc,←hgl,←hgc,if_pos ‹_›]⟩ (by dsimp only;omega) K5 ⟨J,(by rw [show((hq:Int)-((j+1:Nat):Int))=(hq:Int)-(j:Int)-1 by omega]<;>rfl),J,J,J,J,J,J,trivial⟩
  ·exact Zg<|dt (Yy (i:=8) J J J Pv Xz J J J J)<|dt (Xx J J Zp7 J Xz J J)<|tt (Zk0 (cs':=#[]) (i:=6) J J J J J (by decide) J Xz J J ⟨Zd J,Zd J,Zd J,Zd J,trivial⟩ J hw trivial) fun _ _=>Zf<|Oa<|Xk (Mp a b,b,j+1) ⟨(r5 (by omega)).2,by first | omega | (dsimp only<;>omega),by dsimp only;rw [←hF,show hq-j=(hq-(j+1))+1 by omega,Zoc,←hgl,←hgc,if_neg (by rw [show ngb _ _ a (Mp a b)=false by assumption];decide)]⟩ (by dsimp only;omega) K5 ⟨J,(by rw [show((hq:Int)-((j+1:Nat):Int))=(hq:Int)-(j:Int)-1 by omega]<;>rfl),J,J,J,J,J,J,trivial⟩
set_option maxHeartbeats 4000000 in
theorem Dy(v:Value)(xs:List Int)(a b:R2)(hd:Cvd xs)(ha:E32 a)(hb:E32 b)(hc:¬0<cmp a b)(hn:ngb (Pw xs) (chx xs) a b=true):Cal prog 21 #[v,rX a.1 a.2,rX b.1 b.2] [slp 2 wv v xs] false (G:=R2) (fun r=>Fnd xs (qv a) (qv b) r) (fun r=> .tuple #[rX r.1 r.2,.bool true,.int .i64 0]) (fun r=>[]):=by
 refine Ya func21 J ntmps21 J K1 ?_
 intro w0 sc hw hsc
 simp only [Zp,Zn]
 have ha1:=ha.b1
 have ha2:=ha.b2
 have hap:=ha.p
 have hb1:=hb.b1
 have hb2:=hb.b2
 have hbp:=hb.p
 have hle:=Zue ha hb hc
 have h0:=ngb_ne hn
 have hE2:=e32_two ha hb
 have hLl:([slow a,slow b]:List R2).length=2:=rfl
 refine Yl (Nj 999 2 31 wv)<|Yl (Qz 999 J J pV)<|Zc<|Zg<|tt (Xe (i:=2) J J J J J hw) fun bx _=>tt (Xe (i:=3) J J J J J hw) fun bx_2 _=>tt (Zo (i:=4) J J zeroValue41 J J hw) fun bx_3 _=>as_ J<|as_ J<|Zf<|Za<|Zc<|Zc<|Zg<|mv J<|dt (Yy (i:=2) J J J Pv Xz J J J J)<|dt (Yy (i:=3) J J J Pv Xz J J J J)<|tt (Zh (n:=4) (Zc9 _ _ a.1 a.2 b.1 b.2 hap hbp hd.v (Dk hd (by omega)) ha.efit hb.efit) J J J K4 call58 (Zb 1 J J J Ze) J hw) fun _ _=>as_ J<|Zf<|Za<|Zc<|Zg<|mv J<|dt (Yc (r':= .bool false) (Qb J J J) (congrArg Value.bool (decide_eq_false (fun h=>h (if_neg hc)))))<|Zf<|Za<|Ye J<|Zj<|Za<|Zc<|Zg<|mv J<|tt (Zh (n:=5) (Zk4 _ _ hd) J J J K1 call59 (Zb 1 J J J Ze) J hw) (fun g hg=>?_)
 obtain⟨hgl,hgc⟩:=hg
 refine mv J<|dt (Yf J J J)<|dt (Yf J J J)<|tt (Zo (i:=7) J J zeroValue98 J J hw) fun bx_4 _=>tt (Zm (i:=7) J J J J J (by decide) J Ct J J ⟨Zt (i:=5) J Zx,Zt (i:=6) J Zx,trivial⟩ J hw trivial) fun _ _=>as_ J<|Zf<|Za<|Zc<|Zc<|Zg<|mv J<|dt (Yc (r':= .bool false) (Qb J J J) (congrArg Value.bool (by decide)))<|Zf<|Za<|Ye J<|Zj<|Za<|Zc<|Zg<|tt (Zo (i:=8) J J zeroValue102 J J hw) fun bx_5 _=>Zf<|Za<|Zc<|Zg<|dt (Yy (i:=2) J J J Pv Xz J J J J)<|dt (Yy (i:=3) J J J Pv Xz J J J J)<|tt (Zh (n:=8) (Zal a.1 a.2 b.1 b.2 hap hbp) J J J K2 call60 Ze J hw) fun _ _=>tt (Zo (i:=9) J J zeroValue62 J J hw) fun bx_6 _=>tt (Zm (i:=9) J J J J J (by decide) J Bl J J ⟨Zd J,Zd J,Zd J,Zd J,Zd J,Zd J,Zd J,Zd J,trivial⟩ J hw trivial) fun _ _=>Zf<|Za<|Zc<|Zg<|dt (Zz (i:=7) J J J Zc1 Ct J J)<|dt (Yy (i:=2) J J J Pv Xz J J J J)<|dt (Yy (i:=3) J J J Pv Xz J J J J) ?_
 refine tt (Zh (n:=9) (Lv _ _ _ _ _ a.1 a.2 b.1 b.2 hap hbp (Xy hgl (fun q hq=>(Nx hd q hq).1)) (Xy hgl (Kp hd (m:=a) (by omega) (by omega)).1) (Xy hgc (fun q hq=>(Gk hd q hq).1)) (Xy hgc (Kp hd (m:=a) (by omega) (by omega)).2) (Xy hgc (Kp hd (m:=b) (by omega) (by omega)).2) (by have h7:=congrArg List.length hgc;rw [List.length_map]at h7;have:=Fm xs;omega)) J J J K4 call61 (Zb 5 J J J (Zb 6 J J J (No 8 J J Ze))) J hw) fun _ _=>as_ J<|Zf<|Za<|Zc<|Zc<|Zg<|dt (Xx J J Ky J Gr J J)<|dt (Ok (i:=8) J J J Ax J)<|dt (Yc (r':= .bool false) (Qb J J J) (congrArg Value.bool (by decide)))<|mv J<|gdt (Ym J J) J J<|gdt (Yc (r':= .bool false) (Xp J J) (congrArg Value.bool (by rw [hgl,hgc];show(!ngb (Pw xs) (chx xs) a b)=false;rw [hn];rfl))) J J<|dt (Yh J J J)<|Zf<|Za<|Ye J<|Zj<|Za<|Zc<|Zc<|Zg<|dt (Xx J J Zp7 J Xz J J)<|dt (Yy (i:=9) J J J Pv Xz J J J J)<|dt (Xx J J Zp7 J Xz J J)<|dt (Yy (i:=9) J J J Pv Xz J J J J)<|tt (Pn (i:=10) (ivs:=[(0,_),(1,_)]) (enc:=rq) ([slow a,slow b]:List R2) J J K4 uT83 ti41 J J (fill24 _ _ _ _ _ _ _ _ _ _ _ _) J J pQ.cells J J hw) (fun v _=>?_)
 refine dt (Yb J J (i:=10) J (Yq pQ) uT83)<|mv J<|Zf<|Za<|Zl<|Nt [(6,_),(10,_),(12,_),(13,_),(56,_),(57,_)] [(0,_),(1,_),(999,_),(2,_),(3,_),(4,_),(5,_),(6,_),(7,_),(8,_),(9,_),(10,_)] (fun(i:Nat)=>[(58,.int .i64 (i:Int))]) (fun(i:Nat)=>[]) (fun(i:Nat)=>(i≤2)∧(∀k,k<i→¬vlu (g.2.1.map Prod.snd) ([slow a,slow b].getD k (0,0))<0)) (fun(i:Nat)=>2-i) 0 ⟨by first | omega | (dsimp only<;>omega),fun k hk=>absurd hk (Nat.not_lt_zero k)⟩ K7 K12 ?_
 rintro i ⟨hi,hz⟩
 simp only [CA,NA]
 refine Zc<|Zg<|dt (Xu J J J)<|Zf<|Za<|Zc<|Zq J (fun h262=>?_) (fun h262=>?_)
 ·refine Zj<|Za<|Zc<|Zl<|Zc<|Zg<|dt (Yw (ii:=10) J J J J (Yq pQ) uT83 Xz J (by first | omega | (simp only [List.length_set];omega)))<|dt (Xm (ii:=10) (0,0) J J J (Yq pQ) pQ (by first | omega | (simp only [List.length_set];omega)))<|tt (Zo (i:=11) J J zeroValue41 J J hw) fun bx_7 _=>tt (Zm (i:=11) J J J J J (by decide) J Xz J J ⟨Zd J,Zd J,Zd J,Zd J,trivial⟩ J hw trivial) fun _ _=>Zf<|Za<|Zc ?_
  have hEi:=hE2 i (by omega)
  have hEb1:=hEi.b1
  have hEb2:=hEi.b2
  refine Zg<|dt (Zz (i:=7) J J J Zc1 Ct J J)<|dt (Yy (i:=11) J J J Pv Xz J J J J)<|tt (Zh (n:=11) (Zak _ _ _ _ _ ([slow a,slow b].getD i (0,0)).1 ([slow a,slow b].getD i (0,0)).2 hEi.p (Xy hgl (fun q hq=>(Nx hd q hq).1)) (Xy hgl (Kp hd (m:=([slow a,slow b].getD i (0,0))) (by omega) (by omega)).1)) J J J K3 call62 (Zb 5 J J J (Zb 6 J J J (No 8 J J Ze))) J hw) fun _ _=>dt (Xu J J J)<|Zf<|Za<|Zq J (fun h263=>?_) (fun h263=>?_)
  ·exact Zc<|Oo [8,11] [5]<|Zy (n:=0) [(0,0),(1,0),(2,0),(3,1),(4,0),(5,3)]<|r0' J J (stf (Yy (i:=11) J J J Pv Xz J J J J) K2)<|r0' J J (stf (Xx J J Ky J Gr J J) K2)<|r0' J J (stf (Ok (i:=8) J J J Ax J) K2)<|r1' J (Zd4 4 J J K2 (fun ob=>(Zm (i:=4) J J J J J (by decide) J Xz J J ⟨Zd J,Zd J,Zd J,Zd J,trivial⟩ J hw ob))) fun _ _=>r0' J J (stf (Lq J J) K2)<|r3' J (Px (Lq J J) J) fun _ _=>Yo<|Yg<|Za<|Zv<|Hf<|Xc<|Xc<|Hf<|Xc<|Yn (.inl J) hsc ([slow a,slow b].getD i (0,0)) _ (fun a w hs=>res3 hs results21 (Yr (i:=4) J J Pv Xz J) J J) J (neg_two ha hb hle (by omega) (by rw [←hgl];assumption)) J Zk
  ·exact Zj<|Oa<|Za<|Zg<|dt (Ys J J J ⟨by omega,by omega⟩)<|mv J<|Zf<|Xk (i+1) ⟨by first | omega | (dsimp only<;>omega),fun k hk2=>by rcases Nat.lt_succ_iff_lt_or_eq.1 hk2 with h9 | h9;exact hz k h9;subst h9;assumption⟩ (by first | omega | (dsimp only<;>omega)) K7 K12
 ·refine Yu<|Zu<|Zu<|Ox<|Za<|Zc ?_
  have hI0:=Zsj hd ha hb hle (by have h9:=hz 0 (by omega);rw [hgl]at h9;exact h9) (by have h9:=hz 1 (by omega);rw [hgl]at h9;exact h9) hn
  exact Zg<|tt (Zo (i:=12) J J zeroValue41 J J hw) fun bx_8 _=>Zf<|Za<|Zc<|Zg<|dt (Zz (i:=7) J J J Zc1 Ct J J)<|dt (Zfq (i:=9) J J J Ziw Bl J J J J J J J J)<|dt (d_mkc (vs:=[]) (us:=[_,_,_]) J trivial K3)<|tt (Zbv (i:=12) (fs:=[]) (vs:=[_,_,_,_]) (us:=[]) (Zhe _ _ _ _ _ _ _ xs (slow a) (slow b) (qv a) (qv b) _ _ _ _ hd h0 hgl hgc hI0) J J J J K4 call63 J J (by decide) (No 8 J J (No 7 J J (Zb 5 J J J (Zb 6 J J J Ze)))) J hw (fun _ _=>trivial)) fun g_2 hg_2=>Zf<|Za<|Zc<|Zc<|Zg<|dt (Xx J J Ky J Gr J J)<|dt (Ok (i:=8) J J J Ax J)<|dt (Yc (r':= .bool false) (Qb J J J) (congrArg Value.bool (by decide)))<|Zf<|Za<|Ye J<|Zj<|Za<|Zc<|Zg<|dt (Yy (i:=12) J J J Pv Xz J J J J)<|tt (Zm (i:=4) J J J J J (by decide) J Xz J J ⟨Zd J,Zd J,Zd J,Zd J,trivial⟩ J hw trivial) fun _ _=>as_ J<|as_ J<|Zf<|Za<|Zv<|Yn (.inl J) hsc (g_2.1) _ (fun a w hs=>res3 hs results21 (Yr (i:=4) J J Pv Xz J) J J) J hg_2 J Zk
set_option maxHeartbeats 4000000 in
theorem Bu(v:Value)(xs:List Int)(a b:R2)(hd:Cvd xs)(ha:E32 a)(hb:E32 b)(hc:¬0<cmp a b)(hn:ngb (Pw xs) (chx xs) a b=false):Ml prog 21 #[v,rX a.1 a.2,rX b.1 b.2] [slp 2 wv v xs] (.tuple #[.agg #[.bool false,.string ⟨#[]⟩,.bool false,.string ⟨#[]⟩],.bool false,.int .i64 0]):=by
 refine Ya func21 J ntmps21 J K1 ?_
 intro w0 sc hw hsc
 simp only [Zp,Zn]
 have ha1:=ha.b1
 have ha2:=ha.b2
 have hap:=ha.p
 have hb1:=hb.b1
 have hb2:=hb.b2
 have hbp:=hb.p
 refine Yl (Nj 999 2 31 wv)<|Yl (Qz 999 J J pV)<|Zc<|Zg<|tt (Xe (i:=2) J J J J J hw) fun bx _=>tt (Xe (i:=3) J J J J J hw) fun bx_2 _=>tt (Zo (i:=4) J J zeroValue41 J J hw) fun bx_3 _=>as_ J<|as_ J<|Zf<|Za<|Zc<|Zc<|Zg<|mv J<|dt (Yy (i:=2) J J J Pv Xz J J J J)<|dt (Yy (i:=3) J J J Pv Xz J J J J)<|tt (Zh (n:=4) (Zc9 _ _ a.1 a.2 b.1 b.2 hap hbp hd.v (Dk hd (by omega)) ha.efit hb.efit) J J J K4 call58 (Zb 1 J J J Ze) J hw) fun _ _=>as_ J<|Zf<|Za<|Zc<|Zg<|mv J<|dt (Yc (r':= .bool false) (Qb J J J) (congrArg Value.bool (decide_eq_false (fun h=>h (if_neg hc)))))<|Zf<|Za<|Ye J<|Zj<|Za<|Zc<|Zg<|mv J<|tt (Zh (n:=5) (Zk4 _ _ hd) J J J K1 call59 (Zb 1 J J J Ze) J hw) (fun g hg=>?_)
 obtain⟨hgl,hgc⟩:=hg
 refine mv J<|dt (Yf J J J)<|dt (Yf J J J)<|tt (Zo (i:=7) J J zeroValue98 J J hw) fun bx_4 _=>tt (Zm (i:=7) J J J J J (by decide) J Ct J J ⟨Zt (i:=5) J Zx,Zt (i:=6) J Zx,trivial⟩ J hw trivial) fun _ _=>as_ J<|Zf<|Za<|Zc<|Zc<|Zg<|mv J<|dt (Yc (r':= .bool false) (Qb J J J) (congrArg Value.bool (by decide)))<|Zf<|Za<|Ye J<|Zj<|Za<|Zc<|Zg<|tt (Zo (i:=8) J J zeroValue102 J J hw) fun bx_5 _=>Zf<|Za<|Zc<|Zg<|dt (Yy (i:=2) J J J Pv Xz J J J J)<|dt (Yy (i:=3) J J J Pv Xz J J J J)<|tt (Zh (n:=8) (Zal a.1 a.2 b.1 b.2 hap hbp) J J J K2 call60 Ze J hw) fun _ _=>tt (Zo (i:=9) J J zeroValue62 J J hw) fun bx_6 _=>tt (Zm (i:=9) J J J J J (by decide) J Bl J J ⟨Zd J,Zd J,Zd J,Zd J,Zd J,Zd J,Zd J,Zd J,trivial⟩ J hw trivial) fun _ _=>Zf<|Za<|Zc<|Zg<|dt (Zz (i:=7) J J J Zc1 Ct J J)<|dt (Yy (i:=2) J J J Pv Xz J J J J)<|dt (Yy (i:=3) J J J Pv Xz J J J J) ?_
 refine tt (Zh (n:=9) (Lv _ _ _ _ _ a.1 a.2 b.1 b.2 hap hbp (Xy hgl (fun q hq=>(Nx hd q hq).1)) (Xy hgl (Kp hd (m:=a) (by omega) (by omega)).1) (Xy hgc (fun q hq=>(Gk hd q hq).1)) (Xy hgc (Kp hd (m:=a) (by omega) (by omega)).2) (Xy hgc (Kp hd (m:=b) (by omega) (by omega)).2) (by have h7:=congrArg List.length hgc;rw [List.length_map]at h7;have:=Fm xs;omega)) J J J K4 call61 (Zb 5 J J J (Zb 6 J J J (No 8 J J Ze))) J hw) fun _ _=>as_ J<|Zf<|Za<|Zc<|Zc<|Zg<|dt (Xx J J Ky J Gr J J)<|dt (Ok (i:=8) J J J Ax J)<|dt (Yc (r':= .bool false) (Qb J J J) (congrArg Value.bool (by decide)))<|mv J<|gdt (Ym J J) J J<|gdt (Yc (r':= .bool true) (Xp J J) (congrArg Value.bool (by rw [hgl,hgc];show(!ngb (Pw xs) (chx xs) a b)=true;rw [hn];rfl))) J J<|dt (Yh J J J)<|Zf<|Za<|Ov J<|Zc<|Oo [8] [5]<|Zy (n:=0) [(0,0),(1,0),(2,0),(3,1),(4,0),(5,3)]<|r0' J J (stf (Pz (ivs:=[]) J trivial (fun a w hs=>b41_)) K1)<|r0' J J (stf (Xx J J Ky J Gr J J) K1)<|r0' J J (stf (Ok (i:=8) J J J Ax J) K1) ?_
 exact r1' J (Zd4 4 J J K1 (fun ob=>(Zm (i:=4) J J J J J (by decide) J Xz J J ⟨Zd J,Zd J,Zd J,Zd J,trivial⟩ J hw ob))) fun _ _=>r0' J J (stf (Lq J J) K1)<|r3' J (Px (Lq J J) J) fun _ _=>Yo<|Yg<|Za<|Zv<|Xc<|Yn (.inl J) hsc () _ (fun a w hs=>res3 hs results21 (Yr (i:=4) J J Pv Xz J) J J) J trivial J Zk
set_option maxHeartbeats 4000000 in
theorem Zef(v:Value)(xs:List Int)(a b:R2)(hd:Cvd xs)(ha:E32 a)(hb:E32 b)(hq:Nat)(hc:¬0<cmp a b)(hn:ngb (Pw xs) (chx xs) a b=true)(hh:hq≤100:=by decide):Ml prog 31 #[v,rX a.1 a.2,rX b.1 b.2,.int .i64 (hq:Int)] [slp 2 wv v xs] (.tuple #[.agg #[.bool (decide ((frs xs hq (slow a) (slow b)).1.1<0)),.string (Qq (frs xs hq (slow a) (slow b)).1.1.natAbs),.bool (decide ((frs xs hq (slow a) (slow b)).1.2<0)),.string (Qq (frs xs hq (slow a) (slow b)).1.2.natAbs),.bool (decide ((frs xs hq (slow a) (slow b)).2.1<0)),.string (Qq (frs xs hq (slow a) (slow b)).2.1.natAbs),.bool (decide ((frs xs hq (slow a) (slow b)).2.2<0)),.string (Qq (frs xs hq (slow a) (slow b)).2.2.natAbs)],.int .i64 0]):=by
 refine Ya func31 J ntmps31 J K1 ?_
 intro w0 sc hw hsc
 simp only [Zp,Zn]
 have ha1:=ha.b1
 have ha2:=ha.b2
 have hap:=ha.p
 have hb1:=hb.b1
 have hb2:=hb.b2
 have hbp:=hb.p
 have hle:=Zue ha hb hc
 have hI0:=FIn.start (xs:=xs) ha hb hle
 refine Yl (Nj 999 2 31 wv)<|Yl (Qz 999 J J pV)<|Zc<|Zg<|tt (Xe (i:=2) J J J J J hw) fun bx _=>tt (Xe (i:=3) J J J J J hw) fun bx_2 _=>tt (Zo (i:=4) J J zeroValue62 J J hw) fun bx_3 _=>as_ J<|Zf<|Za<|Zc<|Zc<|Zg<|mv J<|dt (Yc (r':= .bool false) (Xu J J J) (congrArg Value.bool (decide_eq_false (by omega))))<|mv J<|gdt (Ym J J) J J<|gdt (Yc (r':= .bool false) (Oq J J J) (congrArg Value.bool (decide_eq_false (by omega)))) J J<|dt (Yh J J J)<|Zf<|Za<|Ye J<|Zj<|Za<|Zc<|Zc<|Zg<|mv J<|dt (Yy (i:=2) J J J Pv Xz J J J J)<|dt (Yy (i:=3) J J J Pv Xz J J J J)<|tt (Zh (n:=4) (Zc9 _ _ a.1 a.2 b.1 b.2 hap hbp hd.v (Dk hd (by omega)) ha.efit hb.efit) J J J K4 call58 (Zb 1 J J J Ze) J hw) fun _ _=>as_ J<|Zf<|Za<|Zc<|Zg<|mv J<|dt (Yc (r':= .bool false) (Qb J J J) (congrArg Value.bool (decide_eq_false (fun h=>h (if_neg hc)))))<|Zf<|Za<|Ye J<|Zj<|Za<|Zc<|Zg<|mv J<|tt (Zh (n:=5) (Zk4 _ _ hd) J J J K1 call59 (Zb 1 J J J Ze) J hw) (fun g hg=>?_)
 obtain⟨hgl,hgc⟩:=hg
 refine mv J<|dt (Yf J J J)<|dt (Yf J J J)<|tt (Zo (i:=7) J J zeroValue98 J J hw) fun bx_4 _=>tt (Zm (i:=7) J J J J J (by decide) J Ct J J ⟨Zt (i:=5) J Zx,Zt (i:=6) J Zx,trivial⟩ J hw trivial) fun _ _=>as_ J<|Zf<|Za<|Zc<|Zc<|Zg<|mv J<|dt (Yc (r':= .bool false) (Qb J J J) (congrArg Value.bool (by decide)))<|Zf<|Za<|Ye J<|Zj<|Za<|Zc<|Zg<|tt (Zo (i:=8) J J zeroValue102 J J hw) fun bx_5 _=>Zf<|Za<|Zc<|Zc<|Zg<|dt (Zz (i:=7) J J J Zc1 Ct J J)<|dt (Yy (i:=2) J J J Pv Xz J J J J)<|dt (Yy (i:=3) J J J Pv Xz J J J J)<|tt (Zh (n:=8) (Lv _ _ _ _ _ a.1 a.2 b.1 b.2 hap hbp (Xy hgl (fun q hq=>(Nx hd q hq).1)) (Xy hgl (Kp hd (m:=a) (by omega) (by omega)).1) (Xy hgc (fun q hq=>(Gk hd q hq).1)) (Xy hgc (Kp hd (m:=a) (by omega) (by omega)).2) (Xy hgc (Kp hd (m:=b) (by omega) (by omega)).2) (by have h7:=congrArg List.length hgc;rw [List.length_map]at h7;have:=Fm xs;omega)) J J J K4 call61 (Zb 5 J J J (Zb 6 J J J (No 8 J J Ze))) J hw) fun _ _=>dt (Yc (r':= .bool false) (Xp J J) (congrArg Value.bool (by rw [hgl,hgc];show(!ngb (Pw xs) (chx xs) a b)=false;rw [hn];rfl)))<|Zf ?_
 refine Za<|Ye J<|Zj<|Za<|Zc<|Zg<|mv J<|tt (Zo (i:=9) J J zeroValue3 J J hw) fun bx_6 _=>tt (Zm (i:=9) J J J J J (by decide) J zT3 J J ⟨Zd J,trivial⟩ J hw trivial) fun _ _=>Zf<|Za<|Zc<|Hb (fun x=>x=bx_6) [7]<|Zy (n:=4) [(0,0),(1,0),(2,0),(4,0)]<|r0' J J (st1 9 J (Zz (i:=7) J J J Zc1 Ct J J))<|r0' J J (st1 9 J (Yy (i:=2) J J J Pv Xz J J J J))<|r0' J J (st1 9 J (Yy (i:=3) J J J Pv Xz J J J J))<|r0' J J (st1 9 J (d_mkc (vs:=[]) (us:=[_]) J trivial K1))<|Yo<|Pu (n:=3) 3 6 ?_ ?_
 ·refine Yp J (Zh (n:=9) (Zal a.1 a.2 b.1 b.2 hap hbp) J J J K2 call60 Ze J hw) fun _ _=>Pu (n:=2) 5 6 ?_ ?_
  ·exact Yp J (Zbv (i:=9) (fs:=[]) (vs:=[_,_,_,_]) (us:=[]) (Ev _ _ _ _ _ _ xs (slow a) (slow b) hq hh hd hgl hgc hI0) J J J J K4 call63 J J (by decide) (No 8 J J (Zb 5 J J J (Zb 6 J J J Ze))) J hw (fun _ h=>h)) fun _ _=>Zy (n:=0) [(6,1),(7,3)]<|r1' J (Zo (i:=10) J J zeroValue62 J J hw) fun bx_7 _=>r3' J (Zm (i:=10) J J J J J (by decide) J Bl J J ⟨Zd J,Zd J,Zd J,Zd J,Zd J,Zd J,Zd J,Zd J,trivial⟩ J hw trivial) fun _ _=>Yo<|Yg<|Za<|Zc<|Zc<|Zg<|dt (Xx J J Ky J Gr J J)<|dt (Ok (i:=8) J J J Ax J)<|dt (Yc (r':= .bool false) (Qb J J J) (congrArg Value.bool (by decide)))<|Zf<|Za<|Ye J<|Zj<|Za<|Zc<|Zg<|dt (Zfq (i:=10) J J J Ziw Bl J J J J J J J J)<|tt (Zm (i:=4) J J J J J (by decide) J Bl J J ⟨Zd J,Zd J,Zd J,Zd J,Zd J,Zd J,Zd J,Zd J,trivial⟩ J hw trivial) fun _ _=>as_ J<|Zf<|Za<|Zv<|Yn (.inl J) hsc () _ (fun a w hs=>Np hs results31 (Yr (i:=4) J J Ziw Bl J) J) J trivial J Zk
  ·exact Yp J (Zo (i:=11) J J zeroValue62 J J hw) fun bx_8 _=>Zy (n:=0) [(5,1),(7,3)]<|r1' J (Zbv (i:=9) (fs:=[]) (vs:=[_,_,_,_]) (us:=[]) (Ev _ _ _ _ _ _ xs (slow a) (slow b) hq hh hd hgl hgc hI0) J J J J K4 call63 J J (by decide) (No 8 J J (Zb 5 J J J (Zb 6 J J J Ze))) J hw (fun _ h=>h)) fun _ _=>r3' J (Zm (i:=11) J J J J J (by decide) J Bl J J ⟨Zd J,Zd J,Zd J,Zd J,Zd J,Zd J,Zd J,Zd J,trivial⟩ J hw trivial) fun _ _=>Yo<|Yg<|Za<|Zc<|Zc<|Zg<|dt (Xx J J Ky J Gr J J)<|dt (Ok (i:=8) J J J Ax J)<|dt (Yc (r':= .bool false) (Qb J J J) (congrArg Value.bool (by decide)))<|Zf<|Za<|Ye J<|Zj<|Za<|Zc<|Zg<|dt (Zfq (i:=11) J J J Ziw Bl J J J J J J J J)<|tt (Zm (i:=4) J J J J J (by decide) J Bl J J ⟨Zd J,Zd J,Zd J,Zd J,Zd J,Zd J,Zd J,Zd J,trivial⟩ J hw trivial) fun _ _=>as_ J<|Zf<|Za<|Zv<|Yn (.inl J) hsc () _ (fun a w hs=>Np hs results31 (Yr (i:=4) J J Ziw Bl J) J) J trivial J Zk
 ·exact Yp J (Zo (i:=12) J J zeroValue62 J J hw) fun bx_9 _=>Zy (n:=0) [(3,1),(5,1),(7,3)]<|r1' J (Zh (n:=12) (Zal a.1 a.2 b.1 b.2 hap hbp) J J J K2 call60 Ze J hw) fun _ _=>r1' J (Zbv (i:=9) (fs:=[]) (vs:=[_,_,_,_]) (us:=[]) (Ev _ _ _ _ _ _ xs (slow a) (slow b) hq hh hd hgl hgc hI0) J J J J K4 call63 J J (by decide) (No 8 J J (Zb 5 J J J (Zb 6 J J J Ze))) J hw (fun _ h=>h)) fun _ _=>r3' J (Zm (i:=12) J J J J J (by decide) J Bl J J ⟨Zd J,Zd J,Zd J,Zd J,Zd J,Zd J,Zd J,Zd J,trivial⟩ J hw trivial) fun _ _=>Yo<|Yg<|Za<|Zc<|Zc<|Zg<|dt (Xx J J Ky J Gr J J)<|dt (Ok (i:=8) J J J Ax J)<|dt (Yc (r':= .bool false) (Qb J J J) (congrArg Value.bool (by decide)))<|Zf<|Za<|Ye J<|Zj<|Za<|Zc<|Zg<|dt (Zfq (i:=12) J J J Ziw Bl J J J J J J J J)<|tt (Zm (i:=4) J J J J J (by decide) J Bl J J ⟨Zd J,Zd J,Zd J,Zd J,Zd J,Zd J,Zd J,Zd J,trivial⟩ J hw trivial) fun _ _=>as_ J<|Zf<|Za<|Zv<|Yn (.inl J) hsc () _ (fun a w hs=>Np hs results31 (Yr (i:=4) J J Ziw Bl J) J) J trivial J Zk
set_option maxHeartbeats 4000000 in
theorem Zhg(v:Value)(xs:List Int)(a b:R2)(hd:Cvd xs)(ha:E32 a)(hb:E32 b)(hq:Nat)(hh:hq≤100)(hc:¬0<cmp a b)(hn:ngb (Pw xs) (chx xs) a b=false):Ml prog 31 #[v,rX a.1 a.2,rX b.1 b.2,.int .i64 (hq:Int)] [slp 2 wv v xs] (.tuple #[.agg #[.bool false,.string ⟨#[]⟩,.bool false,.string ⟨#[]⟩,.bool false,.string ⟨#[]⟩,.bool false,.string ⟨#[]⟩],.int .i64 9]):=by
 refine Ya func31 J ntmps31 J K1 ?_
 intro w0 sc hw hsc
 simp only [Zp,Zn]
 have ha1:=ha.b1
 have ha2:=ha.b2
 have hap:=ha.p
 have hb1:=hb.b1
 have hb2:=hb.b2
 have hbp:=hb.p
 refine Yl (Nj 999 2 31 wv)<|Yl (Qz 999 J J pV)<|Zc<|Zg<|tt (Xe (i:=2) J J J J J hw) fun bx _=>tt (Xe (i:=3) J J J J J hw) fun bx_2 _=>tt (Zo (i:=4) J J zeroValue62 J J hw) fun bx_3 _=>as_ J<|Zf<|Za<|Zc<|Zc<|Zg<|mv J<|dt (Yc (r':= .bool false) (Xu J J J) (congrArg Value.bool (decide_eq_false (by omega))))<|mv J<|gdt (Ym J J) J J<|gdt (Yc (r':= .bool false) (Oq J J J) (congrArg Value.bool (decide_eq_false (by omega)))) J J<|dt (Yh J J J)<|Zf<|Za<|Ye J<|Zj<|Za<|Zc<|Zc<|Zg<|mv J<|dt (Yy (i:=2) J J J Pv Xz J J J J)<|dt (Yy (i:=3) J J J Pv Xz J J J J)<|tt (Zh (n:=4) (Zc9 _ _ a.1 a.2 b.1 b.2 hap hbp hd.v (Dk hd (by omega)) ha.efit hb.efit) J J J K4 call58 (Zb 1 J J J Ze) J hw) fun _ _=>as_ J<|Zf<|Za<|Zc<|Zg<|mv J<|dt (Yc (r':= .bool false) (Qb J J J) (congrArg Value.bool (decide_eq_false (fun h=>h (if_neg hc)))))<|Zf<|Za<|Ye J<|Zj<|Za<|Zc<|Zg<|mv J<|tt (Zh (n:=5) (Zk4 _ _ hd) J J J K1 call59 (Zb 1 J J J Ze) J hw) (fun g hg=>?_)
 obtain⟨hgl,hgc⟩:=hg
 refine mv J<|dt (Yf J J J)<|dt (Yf J J J)<|tt (Zo (i:=7) J J zeroValue98 J J hw) fun bx_4 _=>tt (Zm (i:=7) J J J J J (by decide) J Ct J J ⟨Zt (i:=5) J Zx,Zt (i:=6) J Zx,trivial⟩ J hw trivial) fun _ _=>as_ J<|Zf<|Za<|Zc<|Zc<|Zg<|mv J<|dt (Yc (r':= .bool false) (Qb J J J) (congrArg Value.bool (by decide)))<|Zf<|Za<|Ye J<|Zj<|Za<|Zc<|Zg<|tt (Zo (i:=8) J J zeroValue102 J J hw) fun bx_5 _=>Zf<|Za<|Zc<|Zc<|Zg<|dt (Zz (i:=7) J J J Zc1 Ct J J)<|dt (Yy (i:=2) J J J Pv Xz J J J J)<|dt (Yy (i:=3) J J J Pv Xz J J J J)<|tt (Zh (n:=8) (Lv _ _ _ _ _ a.1 a.2 b.1 b.2 hap hbp (Xy hgl (fun q hq=>(Nx hd q hq).1)) (Xy hgl (Kp hd (m:=a) (by omega) (by omega)).1) (Xy hgc (fun q hq=>(Gk hd q hq).1)) (Xy hgc (Kp hd (m:=a) (by omega) (by omega)).2) (Xy hgc (Kp hd (m:=b) (by omega) (by omega)).2) (by have h7:=congrArg List.length hgc;rw [List.length_map]at h7;have:=Fm xs;omega)) J J J K4 call61 (Zb 5 J J J (Zb 6 J J J (No 8 J J Ze))) J hw) fun _ _=>dt (Yc (r':= .bool true) (Xp J J) (congrArg Value.bool (by rw [hgl,hgc];show(!ngb (Pw xs) (chx xs) a b)=true;rw [hn];rfl)))<|Zf ?_
 exact Za<|Ov J<|Zc<|Zc<|Zg<|dt (Xx J J Ky J Gr J J)<|dt (Ok (i:=8) J J J Ax J)<|dt (Yc (r':= .bool false) (Qb J J J) (congrArg Value.bool (by decide)))<|Zf<|Za<|Ye J<|Zj<|Za<|Zc<|Zg<|dt (Pz (ivs:=[]) J trivial (fun a w hs=>b62_))<|tt (Zm (i:=4) J J J J J (by decide) J Bl J J ⟨Zd J,Zd J,Zd J,Zd J,Zd J,Zd J,Zd J,Zd J,trivial⟩ J hw trivial) fun _ _=>as_ J<|Zf<|Za<|Zv<|Xc<|Yn (.inl J) hsc () _ (fun a w hs=>Np hs results31 (Yr (i:=4) J J Ziw Bl J) J) J trivial J Zk
def Hl(xs:List Int)(m:Int):List Int:=Zfm xs (tzl [m])
theorem Zjj(xs:List Int)(m:Int)(x:Rat):rev (Hl xs m) x=rev xs x-m:=by
 have h:rev (Hl xs m) x=rev (Gf xs ([m].map fun a=>-1*a)) x:=Mr x _ _ fun i=>by
  unfold Hl
  rw [Kq,Ke,Lr]
  match i with
  | 0=>show cf xs 0-m=cf xs 0 + -1*m;omega
  | i+1=>show cf xs (i+1)-cf [m] (i+1)=cf xs (i+1)+cf [-1*m] (i+1);rw [show cf [m] (i+1)=0 from rfl,show cf [-1*m] (i+1)=0 from rfl];omega
 rw [h,Qd,Yd,Ot];push_cast;grind
theorem Za1{xs:List Int}{m:Int}(hd:Cvd xs)(hs:Sz 40 xs)(hm:bl m.natAbs≤50):Cvd (Hl xs m)∧(∀i,bl (cf xs i-cf (tzl [m]) i).natAbs≤65536)∧Vp (tzl [m]):=by
 have hl:=hd.l
 have hc:∀i,bl (cf [m] i).natAbs≤50:=fun i=>by
  match i with
  | 0=>exact hm
  | i+1=>rw [show cf [m] (i+1)=0 from rfl];simp [Le]
 have hz:∀i,bl (cf xs i-cf (tzl [m]) i).natAbs≤51:=fun i=>by
  have h1:=hs i
  have h2:=hc i
  rw [Lr,Int.sub_eq_add_neg]
  have h3:=Kf (cf xs i) (-cf [m] i)
  rw [Int.natAbs_neg]at h3
  omega
 have ht:(tzl [m]).length≤1:=Hu [m]
 have hv:Vp (tzl [m]):=⟨fun i=>by rw [Lr];have:=hc i;omega,Oy _,by omega⟩
 have hsz:Sz 51 (Hl xs m):=fun i=>by unfold Hl;rw [Kq];exact hz i
 have hlen:(Hl xs m).length≤7:=by
  unfold Hl Zfm
  refine Nat.le_trans (Hu _) ?_
  rw [Xr];omega
 exact⟨⟨⟨hsz.mono (by omega),Oy _,by omega⟩,hsz.mono (by omega),hlen⟩,fun i=>Nat.le_trans (hz i) (by omega),hv⟩
def Bs(xs:List Int)(m:Int):Prop:=∃x:Rat,0≤x∧x≤1∧rev xs x<(m:Rat)
theorem Zxj(xs:List Int)(m:Int):NegI (Hl xs m) 0 1↔Bs xs m:=by
 constructor
 ·rintro⟨x,a,b,c⟩;rw [Zjj]at c;exact⟨x,a,b,by grind⟩
 ·rintro⟨x,a,b,c⟩;exact⟨x,a,b,by rw [Zjj];grind⟩
theorem Zsw{xs:List Int}{m n:Int}(h:Bs xs m)(hmn:m≤n):Bs xs n:=by
 obtain⟨x,a,b,c⟩:=h
 have:(m:Rat)≤(n:Rat):=by exact_mod_cast hmn
 exact⟨x,a,b,by grind⟩
def lws:List Int→Int
 | []=>0
 | c :: p=>-(c.natAbs:Int)+lws p
theorem Zsv:∀p q:List Int,lws (p ++ q)=lws p+lws q
 | [],q=>by show lws q=0+lws q;omega
 | c :: p,q=>by show -(c.natAbs:Int)+lws (p ++ q)=-(c.natAbs:Int)+lws p+lws q;rw [Zsv p q];omega
theorem Be{xs:List Int}{i:Nat}(h:i<xs.length):lws (xs.take (i+1))=lws (xs.take i) + -((cf xs i).natAbs:Int):=by
 rw [Of 0 xs i h,Zsv];show lws (xs.take i)+(-((cf xs i).natAbs:Int)+0)=_;omega
theorem lws_b{n:Nat} : ∀p:List Int,(∀c∈p,c.natAbs≤n)→-((p.length*n:Nat):Int)≤lws p∧lws p≤0
 | [],_=>by show -((0*n:Nat):Int)≤0∧(0:Int)≤0;omega
 | c :: p,h=>by
  have h1:=lws_b p fun d hd=>h d (List.mem_cons_of_mem _ hd)
  have h2:=h c List.mem_cons_self
  show -(((p.length+1)*n:Nat):Int)≤-(c.natAbs:Int)+lws p∧-(c.natAbs:Int)+lws p≤0
  rw [Nat.succ_mul];omega
theorem Zsu{x:Rat}(h0:0≤x)(h1:x≤1):∀p:List Int,((lws p:Int):Rat)≤rev p x
 | []=>by show((0:Int):Rat)≤0;exact Rat.le_refl
 | c :: p=>by
  have ih:=Zsu h0 h1 p
  have hb:=(lws_b (n:=p.foldl (fun m c=>max m c.natAbs) 0) p (fun c hc=>by
   have:∀(l:List Int) (a:Nat),(a≤l.foldl (fun m c=>max m c.natAbs) a)∧∀c∈l,c.natAbs≤l.foldl (fun m c=>max m c.natAbs) a:=fun l=>by
    induction l with
    | nil=>intro a;exact⟨Nat.le_refl _,fun c hc=>absurd hc (by simp)⟩
    | cons d l ih=>
     intro a
     obtain⟨i1,i2⟩:=ih (max a d.natAbs)
     refine⟨Nat.le_trans (Nat.le_max_left _ _) i1,fun c hc=>?_⟩
     rcases List.mem_cons.1 hc with rfl | hc
     ·exact Nat.le_trans (Nat.le_max_right _ _) i1
     ·exact i2 c hc
   exact(this p 0).2 c hc)).2
  have hb':((lws p:Int):Rat)≤0:=by exact_mod_cast hb
  have hc:((-(c.natAbs:Int):Int):Rat)≤(c:Rat):=by exact_mod_cast (show -(c.natAbs:Int)≤c by omega)
  have hm:=Rat.mul_nonneg (show 0≤1-x by grind) (show 0≤-((lws p:Int):Rat) by grind)
  have hm2:=Rat.mul_nonneg h0 (show 0≤rev p x-((lws p:Int):Rat) by grind)
  show((-(c.natAbs:Int)+lws p:Int):Rat)≤(c:Rat)+x*rev p x
  push_cast at hc ⊢
  grind
theorem Zxk(xs:List Int):¬Bs xs (lws xs):=by
 rintro⟨x,a,b,c⟩
 have:=Zsu a b xs;grind
theorem rev_at0(xs:List Int):rev xs 0=((cf xs 0:Int):Rat):=by
 cases xs with
 | nil=>rfl
 | cons c p=>show(c:Rat)+0*rev p 0=(c:Rat);grind
theorem Zsx(xs:List Int):Bs xs (cf xs 0+1):=by
 refine⟨0,by grind,by decide,?_⟩
 rw [rev_at0]
 push_cast;grind
theorem Zez{xs:List Int}{l h:Int}(h1:¬Bs xs l)(h2:Bs xs h):l<h:=by
 rcases Int.lt_or_le l h with q | q
 ·exact q
 ·exact absurd (Zsw h2 q) h1
theorem Zqf{c:Int}(h:c≠0):wv (-(c.natAbs:Int))= .agg #[.bool true,.string (Qq c.natAbs)]:=by
 unfold wv
 rw [decide_eq_true (by omega),Int.natAbs_neg,Int.natAbs_natCast]
theorem tzl_one{x:Int}(h:x≠0):tzl [x]=[x]:=by
 unfold tzl
 simp [List.dropWhile,h]
theorem Br{z:Int}(h:z.natAbs≤17592186044416):bl z.natAbs≤45:=(Me 45 _).2 (Nat.lt_of_le_of_lt h (by decide))
theorem Zn2:¬Bs [] 0∧Bs [] (0+1):=⟨fun⟨x,a,b,c⟩=>absurd c (by show ¬(0:Rat)<((0:Int):Rat);decide),⟨0,by decide,by decide,by show(0:Rat)<(((0:Int)+1:Int):Rat);decide⟩⟩
theorem Zc5{xs:List Int}(hs:Sz 40 xs)(i:Nat):(cf xs i).natAbs<1099511627776:=(Me 40 _).1 (hs i)
theorem Zaz{xs:List Int}(hs:Sz 40 xs)(hl:xs.length≤7)(i:Nat):-7696581394432≤lws (xs.take i)∧lws (xs.take i)≤0:=by
 obtain⟨h1,h2⟩:=lws_b (n:=1099511627776) (xs.take i) fun c hc=>by
  obtain⟨k,hk,rfl⟩:=List.mem_iff_getElem.1 hc
  have h9:=Zc5 hs k
  rw [List.length_take]at hk
  have e:(xs.take i)[k]=cf xs k:=by rw [List.getElem_take];unfold cf;rw [List.getD_eq_getElem?_getD,List.getElem?_eq_getElem (by omega)];rfl
  rw [e];omega
 have h3:(xs.take i).length*1099511627776≤7*1099511627776:=Nat.mul_le_mul_right _ (by rw [List.length_take];omega)
 exact⟨by omega,h2⟩
structure FlI (xs:List Int) (lo hi:Int):Prop where
 l:¬Bs xs lo
 h:Bs xs hi
 b1:-8796093022208≤lo
 b2:hi≤8796093022208
theorem FlI.lt{xs:List Int}{lo hi:Int}(h:FlI xs lo hi):lo<hi:=Zez h.l h.h
theorem FlI.start{xs:List Int}(hs:Sz 40 xs)(hl:xs.length≤7){i:Nat}(hi:xs.length≤i):FlI xs (lws (xs.take i)) (cf xs 0+1):=by
 have h1:=Zaz hs hl i
 have h2:=Zc5 hs 0
 refine⟨by rw [List.take_of_length_le hi];exact Zxk xs,Zsx xs,by omega,by omega⟩
theorem Zwn:qv (0,1)=0∧qv (1,1)=1:=by unfold qv;exact⟨by decide +kernel,by decide +kernel⟩
theorem Gz{xs:List Int}{m:Int}(h:Cvd (Hl xs m)):ngb (Pw (Hl xs m)) (chx (Hl xs m)) (0,1) (1,1)=true↔Bs xs m:=by
 have:=Zev h (a:=(0,1)) (b:=(1,1)) (by decide) (by decide) (by rw [Zwn.1,Zwn.2];decide)
 rw [Zwn.1,Zwn.2]at this
 exact this.trans (Zxj xs m)
theorem bstr_0{n:Nat}(h:(Qq n).size=0):n=0:=by
 rw [Mw]at h
 have:=(Ph (by omega:2≤256) n).1 h;omega
theorem Zuu{c:Int}(h:¬(Qq c.natAbs).size=0):c≠0:=fun e=>h (by rw [e,Mw];exact(Ph (by omega:2≤256) 0).2 rfl)
theorem Zq7{a b:Int}(h:(a-b).sign≤0):a≤b:=by
 rcases Int.lt_or_le b a with q | q
 ·rw [Int.sign_eq_one_of_pos (by omega)]at h;omega
 ·exact q
theorem Zq8{a b:Int}(h:¬(a-b).sign≤0):b<a:=by
 rcases Int.lt_or_le b a with q | q
 ·exact q
 ·exfalso
  rcases Int.lt_or_eq_of_le q with w | w
  ·rw [Int.sign_eq_neg_one_of_neg (by omega)]at h;omega
  ·rw [w,Int.sub_self]at h;exact h (by decide)
theorem Zdx(x:Int)(hx:bl x.natAbs≤65536:=by omega):Ml prog 83 #[wv x,.int .i64 (-1)] [] (Zcv (x/2)):=by
 refine Ya func83 J ntmps83 J trivial ?_
 intro w0 sc hw hsc
 simp only [Zp,Zn]
 have hb2:=Zit x 2
 have hxx:okW (decide (x<0)) (Qq x.natAbs)=true:=Bz hx
 refine Zc<|Zg<|tt (Xe (i:=1) J J J J J hw) fun bx _=>tt (Zo (i:=2) J J zeroValue31 J J hw) fun bx_2 _=>as_ J<|Zf<|Za<|Zc<|Zc<|Zg<|dt (Zz (i:=1) J J J Qj Yj J J)<|tt (Zh (n:=2) (Ft _ _) J J J K1 Zft Ze J hw) fun _ _=>dt (Yc (r':= .bool false) (Xp J J) (congrArg Value.bool (by rw [hxx];rfl)))<|Zf<|Za<|Ye J<|Zj<|Za<|Zc<|Zc<|Zg<|mv J<|dt (Yc (r':= .bool false) (Xu J J J) (congrArg Value.bool (by decide)))<|mv J<|gdt (Ym J J) J J<|gdt (Yc (r':= .bool false) (Oq J J J) (congrArg Value.bool (by decide))) J J<|dt (Yh J J J)<|Zf<|Za<|Ye J<|Zj<|Za<|Zc<|Zg<|dt (Zz (i:=1) J J J Qj Yj J J)<|tt (Zh (n:=3) (Pb _ _ (Xl _)) J J J K1 Lj Ze J hw) fun g hg=>tt (Zo (i:=4) J J zeroValue154 J J hw) fun bx_3 _=>tt (Zm (i:=4) J J J J J (by decide) J Xb J J ⟨Zd J,Zt (i:=3) J Zi,trivial⟩ J hw trivial) fun _ _=>Zf<|Za<|Zc<|Zc<|Zg<|mv J<|dt (Yc (r':= .bool false) (Lx J J J) (congrArg Value.bool (by decide)))<|Zf<|Za<|Ye J<|Zj<|Za ?_
 refine Dj [(4,_)] [(0,_),(1,_),(2,_),(3,_),(4,_)] (fun(q:Bool×Value×Value×Nat×Nat)=>[(7,.pointer (some ⟨q.2.2.2.1,0,none⟩)),(8,.pointer (some ⟨q.2.2.2.2,0,none⟩))]) (fun(q:Bool×Value×Value×Nat×Nat)=>[(84,dgp q.2.1 (x/2).natAbs),(85,dgp q.2.2.1 (x%2).natAbs),(86,box q.2.2.2.1 154 #[.bool q.1,q.2.1]),(87,box q.2.2.2.2 154 #[.bool false,q.2.2.1])]) (fun(q:Bool×Value×Value×Nat×Nat)=>sg q.1 (x/2)) K1 K5 ?_ ?_
 ·refine Oo [4] [13]<|Zy (n:=11) [(0,0),(2,0),(3,0)]<|r0' J J (stf (Zz (i:=4) J J J Lt Xb J J) K1)<|r0' J J (stf (Ym J J) K1)<|r0' J J (stf (Yc (r':= .int .i64 ((1:Nat):Int)) (d_negi J J ⟨by omega,by omega⟩) J) K1)<|Yo<|Zbo (n:=10) 1 10 11 ?_ ?_ ?_
  ·refine Yp J (Pn (i:=81) (ivs:=[(0,_)]) (enc:=Iz) (dg U 1) J J K2 Xv ti149 J J J J J pU.cells J J hw) fun v _=>Zbo (n:=9) 4 10 11 ?_ ?_ ?_
   ·refine Yp J (Zh (n:=82) (Ic _ 1 1 (show bl 1≤4294967296 by decide)) J J J K2 call132 (Xw 81 J J pU Ze) J hw) fun v_2 _=>Zks (On 82 J Zi) (fun sw hsw=>?_)
    subst hsw
    refine Zy (n:=8) [(5,0)]<|r0' J J (stf (Pz (ivs:=[(0,_),(1,_)]) J K4 (fun a w hs=>Nb ((Zd J) a w hs) ((Zd J) a w hs))) K1)<|Yo<|Zbo (n:=7) 6 10 11 ?_ ?_ ?_
    ·refine Yp J (Zh (n:=84) (Qt _ _ _ _ x 2 ‹_› (Xl (2:Int)) (by omega) (show bl (2:Int).natAbs≤3000000000 by decide)) J J J K2 Mm (Zb 3 J J J (Zb 82 J J J Ze)) J hw) fun g_2 hg_2=>Zy (n:=4) [(7,0),(8,0),(9,0)]<|r0' J J (stf (Ym J J) K1)<|r0' J J (stf (Yf J J J) K1)<|r0' J J (stf (Yf J J J) K1)<|Yo<|Pu (n:=3) 10 11 ?_ ?_
     ·exact Yp J (Zw (i:=86) J J zeroValue154 J J hw K1) fun bx_4 ho=>Zy (n:=0) [(11,1),(12,1),(13,3)]<|r1' J (Zw (i:=87) J J zeroValue154 J J hw K1) fun bx_5 ho2=>r1' J (Zm (i:=86) J J J J J (by decide) J Xb J J ⟨Zd J,Zt (i:=84) J Zi,trivial⟩ J hw ho) fun _ _=>r3' J (Zm (i:=87) J J J J J (by decide) J Xb J J ⟨Zd J,Zt (i:=85) J Zi,trivial⟩ J hw trivial) fun _ _=>Yo<|Yg<|Qy (_,_,_,_,_) ‹_› K3 K9
     ·exact Yp J (Zw (i:=87) J J zeroValue154 J J hw K1) fun bx_6 ho3=>Zy (n:=0) [(10,1),(12,1),(13,3)]<|r1' J (Zw (i:=86) J J zeroValue154 J J hw K1) fun bx_7 ho4=>r1' J (Zm (i:=86) J J J J J (by decide) J Xb J J ⟨Zd J,Zt (i:=84) J Zi,trivial⟩ J hw ho4) fun _ _=>r3' J (Zm (i:=87) J J J J J (by decide) J Xb J J ⟨Zd J,Zt (i:=85) J Zi,trivial⟩ J hw trivial) fun _ _=>Yo<|Yg<|Qy (_,_,_,_,_) ‹_› K3 K9
    ·refine Yp J (Zw (i:=86) J J zeroValue154 J J hw K1) fun bx_8 ho5=>Pu (n:=6) 6 11 ?_ ?_
     ·exact Yp J (Zh (n:=84) (Qt _ _ _ _ x 2 ‹_› (Xl (2:Int)) (by omega) (show bl (2:Int).natAbs≤3000000000 by decide)) J J J K2 Mm (Zb 3 J J J (Zb 82 J J J Ze)) J hw) fun g_3 hg_3=>Zy (n:=0) [(7,0),(8,0),(9,0),(11,1),(12,1),(13,3)]<|r0' J J (stf (Ym J J) K1)<|r0' J J (stf (Yf J J J) K1)<|r0' J J (stf (Yf J J J) K1)<|r1' J (Zw (i:=87) J J zeroValue154 J J hw K1) fun bx_9 ho6=>r1' J (Zm (i:=86) J J J J J (by decide) J Xb J J ⟨Zd J,Zt (i:=84) J Zi,trivial⟩ J hw ho5) fun _ _=>r3' J (Zm (i:=87) J J J J J (by decide) J Xb J J ⟨Zd J,Zt (i:=85) J Zi,trivial⟩ J hw trivial) fun _ _=>Yo<|Yg<|Qy (_,_,_,_,_) ‹_› K3 K9
     ·exact Yp J (Zw (i:=87) J J zeroValue154 J J hw K1) fun bx_10 ho7=>Zy (n:=0) [(6,1),(7,0),(8,0),(9,0),(12,1),(13,3)]<|r1' J (Zh (n:=84) (Qt _ _ _ _ x 2 ‹_› (Xl (2:Int)) (by omega) (show bl (2:Int).natAbs≤3000000000 by decide)) J J J K2 Mm (Zb 3 J J J (Zb 82 J J J Ze)) J hw) fun g_4 hg_4=>r0' J J (stf (Ym J J) K1)<|r0' J J (stf (Yf J J J) K1)<|r0' J J (stf (Yf J J J) K1)<|r1' J (Zm (i:=86) J J J J J (by decide) J Xb J J ⟨Zd J,Zt (i:=84) J Zi,trivial⟩ J hw ho5) fun _ _=>r3' J (Zm (i:=87) J J J J J (by decide) J Xb J J ⟨Zd J,Zt (i:=85) J Zi,trivial⟩ J hw trivial) fun _ _=>Yo<|Yg<|Qy (_,_,_,_,_) ‹_› K3 K9
    ·refine Yp J (Zw (i:=87) J J zeroValue154 J J hw K1) fun bx_11 ho8=>Pu (n:=6) 6 10 ?_ ?_
     ·exact Yp J (Zh (n:=84) (Qt _ _ _ _ x 2 ‹_› (Xl (2:Int)) (by omega) (show bl (2:Int).natAbs≤3000000000 by decide)) J J J K2 Mm (Zb 3 J J J (Zb 82 J J J Ze)) J hw) fun g_5 hg_5=>Zy (n:=0) [(7,0),(8,0),(9,0),(10,1),(12,1),(13,3)]<|r0' J J (stf (Ym J J) K1)<|r0' J J (stf (Yf J J J) K1)<|r0' J J (stf (Yf J J J) K1)<|r1' J (Zw (i:=86) J J zeroValue154 J J hw K1) fun bx_12 ho9=>r1' J (Zm (i:=86) J J J J J (by decide) J Xb J J ⟨Zd J,Zt (i:=84) J Zi,trivial⟩ J hw ho9) fun _ _=>r3' J (Zm (i:=87) J J J J J (by decide) J Xb J J ⟨Zd J,Zt (i:=85) J Zi,trivial⟩ J hw trivial) fun _ _=>Yo<|Yg<|Qy (_,_,_,_,_) ‹_› K3 K9
     ·exact Yp J (Zw (i:=86) J J zeroValue154 J J hw K1) fun bx_13 ho10=>Zy (n:=0) [(6,1),(7,0),(8,0),(9,0),(12,1),(13,3)]<|r1' J (Zh (n:=84) (Qt _ _ _ _ x 2 ‹_› (Xl (2:Int)) (by omega) (show bl (2:Int).natAbs≤3000000000 by decide)) J J J K2 Mm (Zb 3 J J J (Zb 82 J J J Ze)) J hw) fun g_6 hg_6=>r0' J J (stf (Ym J J) K1)<|r0' J J (stf (Yf J J J) K1)<|r0' J J (stf (Yf J J J) K1)<|r1' J (Zm (i:=86) J J J J J (by decide) J Xb J J ⟨Zd J,Zt (i:=84) J Zi,trivial⟩ J hw ho10) fun _ _=>r3' J (Zm (i:=87) J J J J J (by decide) J Xb J J ⟨Zd J,Zt (i:=85) J Zi,trivial⟩ J hw trivial) fun _ _=>Yo<|Yg<|Qy (_,_,_,_,_) ‹_› K3 K9
   ·refine Yp J (Zw (i:=86) J J zeroValue154 J J hw K1) fun bx_14 ho11=>Pu (n:=8) 4 11 ?_ ?_
    ·refine Yp J (Zh (n:=82) (Ic _ 1 1 (show bl 1≤4294967296 by decide)) J J J K2 call132 (Xw 81 J J pU Ze) J hw) fun v_3 _=>Zks (On 82 J Zi) (fun sw hsw=>?_)
     subst hsw
     refine Zy (n:=7) [(5,0)]<|r0' J J (stf (Pz (ivs:=[(0,_),(1,_)]) J K4 (fun a w hs=>Nb ((Zd J) a w hs) ((Zd J) a w hs))) K1)<|Yo<|Pu (n:=6) 6 11 ?_ ?_
     ·exact Yp J (Zh (n:=84) (Qt _ _ _ _ x 2 ‹_› (Xl (2:Int)) (by omega) (show bl (2:Int).natAbs≤3000000000 by decide)) J J J K2 Mm (Zb 3 J J J (Zb 82 J J J Ze)) J hw) fun g_7 hg_7=>Zy (n:=0) [(7,0),(8,0),(9,0),(11,1),(12,1),(13,3)]<|r0' J J (stf (Ym J J) K1)<|r0' J J (stf (Yf J J J) K1)<|r0' J J (stf (Yf J J J) K1)<|r1' J (Zw (i:=87) J J zeroValue154 J J hw K1) fun bx_15 ho12=>r1' J (Zm (i:=86) J J J J J (by decide) J Xb J J ⟨Zd J,Zt (i:=84) J Zi,trivial⟩ J hw ho11) fun _ _=>r3' J (Zm (i:=87) J J J J J (by decide) J Xb J J ⟨Zd J,Zt (i:=85) J Zi,trivial⟩ J hw trivial) fun _ _=>Yo<|Yg<|Qy (_,_,_,_,_) ‹_› K3 K9
     ·exact Yp J (Zw (i:=87) J J zeroValue154 J J hw K1) fun bx_16 ho13=>Zy (n:=0) [(6,1),(7,0),(8,0),(9,0),(12,1),(13,3)]<|r1' J (Zh (n:=84) (Qt _ _ _ _ x 2 ‹_› (Xl (2:Int)) (by omega) (show bl (2:Int).natAbs≤3000000000 by decide)) J J J K2 Mm (Zb 3 J J J (Zb 82 J J J Ze)) J hw) fun g_8 hg_8=>r0' J J (stf (Ym J J) K1)<|r0' J J (stf (Yf J J J) K1)<|r0' J J (stf (Yf J J J) K1)<|r1' J (Zm (i:=86) J J J J J (by decide) J Xb J J ⟨Zd J,Zt (i:=84) J Zi,trivial⟩ J hw ho11) fun _ _=>r3' J (Zm (i:=87) J J J J J (by decide) J Xb J J ⟨Zd J,Zt (i:=85) J Zi,trivial⟩ J hw trivial) fun _ _=>Yo<|Yg<|Qy (_,_,_,_,_) ‹_› K3 K9
    ·refine Yp J (Zw (i:=87) J J zeroValue154 J J hw K1) fun bx_17 ho14=>Zy (n:=7) [(4,1)]<|r1' J (Zh (n:=82) (Ic _ 1 1 (show bl 1≤4294967296 by decide)) J J J K2 call132 (Xw 81 J J pU Ze) J hw) fun v_4 _=>Yo<|Zks (On 82 J Zi) (fun sw hsw=>?_)
     subst hsw
     exact Zy (n:=0) [(5,0),(6,1),(7,0),(8,0),(9,0),(12,1),(13,3)]<|r0' J J (stf (Pz (ivs:=[(0,_),(1,_)]) J K4 (fun a w hs=>Nb ((Zd J) a w hs) ((Zd J) a w hs))) K1)<|r1' J (Zh (n:=84) (Qt _ _ _ _ x 2 ‹_› (Xl (2:Int)) (by omega) (show bl (2:Int).natAbs≤3000000000 by decide)) J J J K2 Mm (Zb 3 J J J (Zb 82 J J J Ze)) J hw) fun g_9 hg_9=>r0' J J (stf (Ym J J) K1)<|r0' J J (stf (Yf J J J) K1)<|r0' J J (stf (Yf J J J) K1)<|r1' J (Zm (i:=86) J J J J J (by decide) J Xb J J ⟨Zd J,Zt (i:=84) J Zi,trivial⟩ J hw ho11) fun _ _=>r3' J (Zm (i:=87) J J J J J (by decide) J Xb J J ⟨Zd J,Zt (i:=85) J Zi,trivial⟩ J hw trivial) fun _ _=>Yo<|Yg<|Qy (_,_,_,_,_) ‹_› K3 K9
   ·refine Yp J (Zw (i:=87) J J zeroValue154 J J hw K1) fun bx_18 ho15=>Pu (n:=8) 4 10 ?_ ?_
    ·refine Yp J (Zh (n:=82) (Ic _ 1 1 (show bl 1≤4294967296 by decide)) J J J K2 call132 (Xw 81 J J pU Ze) J hw) fun v_5 _=>Zks (On 82 J Zi) (fun sw hsw=>?_)
     subst hsw
     refine Zy (n:=7) [(5,0)]<|r0' J J (stf (Pz (ivs:=[(0,_),(1,_)]) J K4 (fun a w hs=>Nb ((Zd J) a w hs) ((Zd J) a w hs))) K1)<|Yo<|Pu (n:=6) 6 10 ?_ ?_
     ·exact Yp J (Zh (n:=84) (Qt _ _ _ _ x 2 ‹_› (Xl (2:Int)) (by omega) (show bl (2:Int).natAbs≤3000000000 by decide)) J J J K2 Mm (Zb 3 J J J (Zb 82 J J J Ze)) J hw) fun g_10 hg_10=>Zy (n:=0) [(7,0),(8,0),(9,0),(10,1),(12,1),(13,3)]<|r0' J J (stf (Ym J J) K1)<|r0' J J (stf (Yf J J J) K1)<|r0' J J (stf (Yf J J J) K1)<|r1' J (Zw (i:=86) J J zeroValue154 J J hw K1) fun bx_19 ho16=>r1' J (Zm (i:=86) J J J J J (by decide) J Xb J J ⟨Zd J,Zt (i:=84) J Zi,trivial⟩ J hw ho16) fun _ _=>r3' J (Zm (i:=87) J J J J J (by decide) J Xb J J ⟨Zd J,Zt (i:=85) J Zi,trivial⟩ J hw trivial) fun _ _=>Yo<|Yg<|Qy (_,_,_,_,_) ‹_› K3 K9
     ·exact Yp J (Zw (i:=86) J J zeroValue154 J J hw K1) fun bx_20 ho17=>Zy (n:=0) [(6,1),(7,0),(8,0),(9,0),(12,1),(13,3)]<|r1' J (Zh (n:=84) (Qt _ _ _ _ x 2 ‹_› (Xl (2:Int)) (by omega) (show bl (2:Int).natAbs≤3000000000 by decide)) J J J K2 Mm (Zb 3 J J J (Zb 82 J J J Ze)) J hw) fun g_11 hg_11=>r0' J J (stf (Ym J J) K1)<|r0' J J (stf (Yf J J J) K1)<|r0' J J (stf (Yf J J J) K1)<|r1' J (Zm (i:=86) J J J J J (by decide) J Xb J J ⟨Zd J,Zt (i:=84) J Zi,trivial⟩ J hw ho17) fun _ _=>r3' J (Zm (i:=87) J J J J J (by decide) J Xb J J ⟨Zd J,Zt (i:=85) J Zi,trivial⟩ J hw trivial) fun _ _=>Yo<|Yg<|Qy (_,_,_,_,_) ‹_› K3 K9
    ·refine Yp J (Zw (i:=86) J J zeroValue154 J J hw K1) fun bx_21 ho18=>Zy (n:=7) [(4,1)]<|r1' J (Zh (n:=82) (Ic _ 1 1 (show bl 1≤4294967296 by decide)) J J J K2 call132 (Xw 81 J J pU Ze) J hw) fun v_6 _=>Yo<|Zks (On 82 J Zi) (fun sw hsw=>?_)
     subst hsw
     exact Zy (n:=0) [(5,0),(6,1),(7,0),(8,0),(9,0),(12,1),(13,3)]<|r0' J J (stf (Pz (ivs:=[(0,_),(1,_)]) J K4 (fun a w hs=>Nb ((Zd J) a w hs) ((Zd J) a w hs))) K1)<|r1' J (Zh (n:=84) (Qt _ _ _ _ x 2 ‹_› (Xl (2:Int)) (by omega) (show bl (2:Int).natAbs≤3000000000 by decide)) J J J K2 Mm (Zb 3 J J J (Zb 82 J J J Ze)) J hw) fun g_12 hg_12=>r0' J J (stf (Ym J J) K1)<|r0' J J (stf (Yf J J J) K1)<|r0' J J (stf (Yf J J J) K1)<|r1' J (Zm (i:=86) J J J J J (by decide) J Xb J J ⟨Zd J,Zt (i:=84) J Zi,trivial⟩ J hw ho18) fun _ _=>r3' J (Zm (i:=87) J J J J J (by decide) J Xb J J ⟨Zd J,Zt (i:=85) J Zi,trivial⟩ J hw trivial) fun _ _=>Yo<|Yg<|Qy (_,_,_,_,_) ‹_› K3 K9
  ·refine Yp J (Zw (i:=86) J J zeroValue154 J J hw K1) fun bx_22 ho19=>Pu (n:=9) 1 11 ?_ ?_
   ·refine Yp J (Pn (i:=81) (ivs:=[(0,_)]) (enc:=Iz) (dg U 1) J J K2 Xv ti149 J J J J J pU.cells J J hw) fun v_7 _=>Pu (n:=8) 4 11 ?_ ?_
    ·refine Yp J (Zh (n:=82) (Ic _ 1 1 (show bl 1≤4294967296 by decide)) J J J K2 call132 (Xw 81 J J pU Ze) J hw) fun v_8 _=>Zks (On 82 J Zi) (fun sw hsw=>?_)
     subst hsw
     refine Zy (n:=7) [(5,0)]<|r0' J J (stf (Pz (ivs:=[(0,_),(1,_)]) J K4 (fun a w hs=>Nb ((Zd J) a w hs) ((Zd J) a w hs))) K1)<|Yo<|Pu (n:=6) 6 11 ?_ ?_
     ·exact Yp J (Zh (n:=84) (Qt _ _ _ _ x 2 ‹_› (Xl (2:Int)) (by omega) (show bl (2:Int).natAbs≤3000000000 by decide)) J J J K2 Mm (Zb 3 J J J (Zb 82 J J J Ze)) J hw) fun g_13 hg_13=>Zy (n:=0) [(7,0),(8,0),(9,0),(11,1),(12,1),(13,3)]<|r0' J J (stf (Ym J J) K1)<|r0' J J (stf (Yf J J J) K1)<|r0' J J (stf (Yf J J J) K1)<|r1' J (Zw (i:=87) J J zeroValue154 J J hw K1) fun bx_23 ho20=>r1' J (Zm (i:=86) J J J J J (by decide) J Xb J J ⟨Zd J,Zt (i:=84) J Zi,trivial⟩ J hw ho19) fun _ _=>r3' J (Zm (i:=87) J J J J J (by decide) J Xb J J ⟨Zd J,Zt (i:=85) J Zi,trivial⟩ J hw trivial) fun _ _=>Yo<|Yg<|Qy (_,_,_,_,_) ‹_› K3 K9
     ·exact Yp J (Zw (i:=87) J J zeroValue154 J J hw K1) fun bx_24 ho21=>Zy (n:=0) [(6,1),(7,0),(8,0),(9,0),(12,1),(13,3)]<|r1' J (Zh (n:=84) (Qt _ _ _ _ x 2 ‹_› (Xl (2:Int)) (by omega) (show bl (2:Int).natAbs≤3000000000 by decide)) J J J K2 Mm (Zb 3 J J J (Zb 82 J J J Ze)) J hw) fun g_14 hg_14=>r0' J J (stf (Ym J J) K1)<|r0' J J (stf (Yf J J J) K1)<|r0' J J (stf (Yf J J J) K1)<|r1' J (Zm (i:=86) J J J J J (by decide) J Xb J J ⟨Zd J,Zt (i:=84) J Zi,trivial⟩ J hw ho19) fun _ _=>r3' J (Zm (i:=87) J J J J J (by decide) J Xb J J ⟨Zd J,Zt (i:=85) J Zi,trivial⟩ J hw trivial) fun _ _=>Yo<|Yg<|Qy (_,_,_,_,_) ‹_› K3 K9
    ·refine Yp J (Zw (i:=87) J J zeroValue154 J J hw K1) fun bx_25 ho22=>Zy (n:=7) [(4,1)]<|r1' J (Zh (n:=82) (Ic _ 1 1 (show bl 1≤4294967296 by decide)) J J J K2 call132 (Xw 81 J J pU Ze) J hw) fun v_9 _=>Yo<|Zks (On 82 J Zi) (fun sw hsw=>?_)
     subst hsw
     exact Zy (n:=0) [(5,0),(6,1),(7,0),(8,0),(9,0),(12,1),(13,3)]<|r0' J J (stf (Pz (ivs:=[(0,_),(1,_)]) J K4 (fun a w hs=>Nb ((Zd J) a w hs) ((Zd J) a w hs))) K1)<|r1' J (Zh (n:=84) (Qt _ _ _ _ x 2 ‹_› (Xl (2:Int)) (by omega) (show bl (2:Int).natAbs≤3000000000 by decide)) J J J K2 Mm (Zb 3 J J J (Zb 82 J J J Ze)) J hw) fun g_15 hg_15=>r0' J J (stf (Ym J J) K1)<|r0' J J (stf (Yf J J J) K1)<|r0' J J (stf (Yf J J J) K1)<|r1' J (Zm (i:=86) J J J J J (by decide) J Xb J J ⟨Zd J,Zt (i:=84) J Zi,trivial⟩ J hw ho19) fun _ _=>r3' J (Zm (i:=87) J J J J J (by decide) J Xb J J ⟨Zd J,Zt (i:=85) J Zi,trivial⟩ J hw trivial) fun _ _=>Yo<|Yg<|Qy (_,_,_,_,_) ‹_› K3 K9
   ·refine Yp J (Zw (i:=87) J J zeroValue154 J J hw K1) fun bx_26 ho23=>Zy (n:=7) [(1,1),(4,1)]<|r1' J (Pn (i:=81) (ivs:=[(0,_)]) (enc:=Iz) (dg U 1) J J K2 Xv ti149 J J J J J pU.cells J J hw) fun v_10 _=>r1' J (Zh (n:=82) (Ic _ 1 1 (show bl 1≤4294967296 by decide)) J J J K2 call132 (Xw 81 J J pU Ze) J hw) fun v_11 _=>Yo<|Zks (On 82 J Zi) (fun sw hsw=>?_)
    subst hsw
    exact Zy (n:=0) [(5,0),(6,1),(7,0),(8,0),(9,0),(12,1),(13,3)]<|r0' J J (stf (Pz (ivs:=[(0,_),(1,_)]) J K4 (fun a w hs=>Nb ((Zd J) a w hs) ((Zd J) a w hs))) K1)<|r1' J (Zh (n:=84) (Qt _ _ _ _ x 2 ‹_› (Xl (2:Int)) (by omega) (show bl (2:Int).natAbs≤3000000000 by decide)) J J J K2 Mm (Zb 3 J J J (Zb 82 J J J Ze)) J hw) fun g_16 hg_16=>r0' J J (stf (Ym J J) K1)<|r0' J J (stf (Yf J J J) K1)<|r0' J J (stf (Yf J J J) K1)<|r1' J (Zm (i:=86) J J J J J (by decide) J Xb J J ⟨Zd J,Zt (i:=84) J Zi,trivial⟩ J hw ho19) fun _ _=>r3' J (Zm (i:=87) J J J J J (by decide) J Xb J J ⟨Zd J,Zt (i:=85) J Zi,trivial⟩ J hw trivial) fun _ _=>Yo<|Yg<|Qy (_,_,_,_,_) ‹_› K3 K9
  ·refine Yp J (Zw (i:=87) J J zeroValue154 J J hw K1) fun bx_27 ho24=>Pu (n:=9) 1 10 ?_ ?_
   ·refine Yp J (Pn (i:=81) (ivs:=[(0,_)]) (enc:=Iz) (dg U 1) J J K2 Xv ti149 J J J J J pU.cells J J hw) fun v_12 _=>Pu (n:=8) 4 10 ?_ ?_
    ·refine Yp J (Zh (n:=82) (Ic _ 1 1 (show bl 1≤4294967296 by decide)) J J J K2 call132 (Xw 81 J J pU Ze) J hw) fun v_13 _=>Zks (On 82 J Zi) (fun sw hsw=>?_)
     subst hsw
     refine Zy (n:=7) [(5,0)]<|r0' J J (stf (Pz (ivs:=[(0,_),(1,_)]) J K4 (fun a w hs=>Nb ((Zd J) a w hs) ((Zd J) a w hs))) K1)<|Yo<|Pu (n:=6) 6 10 ?_ ?_
     ·exact Yp J (Zh (n:=84) (Qt _ _ _ _ x 2 ‹_› (Xl (2:Int)) (by omega) (show bl (2:Int).natAbs≤3000000000 by decide)) J J J K2 Mm (Zb 3 J J J (Zb 82 J J J Ze)) J hw) fun g_17 hg_17=>Zy (n:=0) [(7,0),(8,0),(9,0),(10,1),(12,1),(13,3)]<|r0' J J (stf (Ym J J) K1)<|r0' J J (stf (Yf J J J) K1)<|r0' J J (stf (Yf J J J) K1)<|r1' J (Zw (i:=86) J J zeroValue154 J J hw K1) fun bx_28 ho25=>r1' J (Zm (i:=86) J J J J J (by decide) J Xb J J ⟨Zd J,Zt (i:=84) J Zi,trivial⟩ J hw ho25) fun _ _=>r3' J (Zm (i:=87) J J J J J (by decide) J Xb J J ⟨Zd J,Zt (i:=85) J Zi,trivial⟩ J hw trivial) fun _ _=>Yo<|Yg<|Qy (_,_,_,_,_) ‹_› K3 K9
     ·exact Yp J (Zw (i:=86) J J zeroValue154 J J hw K1) fun bx_29 ho26=>Zy (n:=0) [(6,1),(7,0),(8,0),(9,0),(12,1),(13,3)]<|r1' J (Zh (n:=84) (Qt _ _ _ _ x 2 ‹_› (Xl (2:Int)) (by omega) (show bl (2:Int).natAbs≤3000000000 by decide)) J J J K2 Mm (Zb 3 J J J (Zb 82 J J J Ze)) J hw) fun g_18 hg_18=>r0' J J (stf (Ym J J) K1)<|r0' J J (stf (Yf J J J) K1)<|r0' J J (stf (Yf J J J) K1)<|r1' J (Zm (i:=86) J J J J J (by decide) J Xb J J ⟨Zd J,Zt (i:=84) J Zi,trivial⟩ J hw ho26) fun _ _=>r3' J (Zm (i:=87) J J J J J (by decide) J Xb J J ⟨Zd J,Zt (i:=85) J Zi,trivial⟩ J hw trivial) fun _ _=>Yo<|Yg<|Qy (_,_,_,_,_) ‹_› K3 K9
    ·refine Yp J (Zw (i:=86) J J zeroValue154 J J hw K1) fun bx_30 ho27=>Zy (n:=7) [(4,1)]<|r1' J (Zh (n:=82) (Ic _ 1 1 (show bl 1≤4294967296 by decide)) J J J K2 call132 (Xw 81 J J pU Ze) J hw) fun v_14 _=>Yo<|Zks (On 82 J Zi) (fun sw hsw=>?_)
     subst hsw
     exact Zy (n:=0) [(5,0),(6,1),(7,0),(8,0),(9,0),(12,1),(13,3)]<|r0' J J (stf (Pz (ivs:=[(0,_),(1,_)]) J K4 (fun a w hs=>Nb ((Zd J) a w hs) ((Zd J) a w hs))) K1)<|r1' J (Zh (n:=84) (Qt _ _ _ _ x 2 ‹_› (Xl (2:Int)) (by omega) (show bl (2:Int).natAbs≤3000000000 by decide)) J J J K2 Mm (Zb 3 J J J (Zb 82 J J J Ze)) J hw) fun g_19 hg_19=>r0' J J (stf (Ym J J) K1)<|r0' J J (stf (Yf J J J) K1)<|r0' J J (stf (Yf J J J) K1)<|r1' J (Zm (i:=86) J J J J J (by decide) J Xb J J ⟨Zd J,Zt (i:=84) J Zi,trivial⟩ J hw ho27) fun _ _=>r3' J (Zm (i:=87) J J J J J (by decide) J Xb J J ⟨Zd J,Zt (i:=85) J Zi,trivial⟩ J hw trivial) fun _ _=>Yo<|Yg<|Qy (_,_,_,_,_) ‹_› K3 K9
   ·refine Yp J (Zw (i:=86) J J zeroValue154 J J hw K1) fun bx_31 ho28=>Zy (n:=7) [(1,1),(4,1)]<|r1' J (Pn (i:=81) (ivs:=[(0,_)]) (enc:=Iz) (dg U 1) J J K2 Xv ti149 J J J J J pU.cells J J hw) fun v_15 _=>r1' J (Zh (n:=82) (Ic _ 1 1 (show bl 1≤4294967296 by decide)) J J J K2 call132 (Xw 81 J J pU Ze) J hw) fun v_16 _=>Yo<|Zks (On 82 J Zi) (fun sw hsw=>?_)
    subst hsw
    exact Zy (n:=0) [(5,0),(6,1),(7,0),(8,0),(9,0),(12,1),(13,3)]<|r0' J J (stf (Pz (ivs:=[(0,_),(1,_)]) J K4 (fun a w hs=>Nb ((Zd J) a w hs) ((Zd J) a w hs))) K1)<|r1' J (Zh (n:=84) (Qt _ _ _ _ x 2 ‹_› (Xl (2:Int)) (by omega) (show bl (2:Int).natAbs≤3000000000 by decide)) J J J K2 Mm (Zb 3 J J J (Zb 82 J J J Ze)) J hw) fun g_20 hg_20=>r0' J J (stf (Ym J J) K1)<|r0' J J (stf (Yf J J J) K1)<|r0' J J (stf (Yf J J J) K1)<|r1' J (Zm (i:=86) J J J J J (by decide) J Xb J J ⟨Zd J,Zt (i:=84) J Zi,trivial⟩ J hw ho28) fun _ _=>r3' J (Zm (i:=87) J J J J J (by decide) J Xb J J ⟨Zd J,Zt (i:=85) J Zi,trivial⟩ J hw trivial) fun _ _=>Yo<|Yg<|Qy (_,_,_,_,_) ‹_› K3 K9
 ·rintro⟨qb,qv,rv,b7,b8⟩ hq
  dsimp only at hq
  simp only [CA,NA]
  exact Zc<|Zg<|dt (Zz (i:=86) J J J Lt Xb J J)<|tt (Zh (n:=4) (Kl _ _ (x/2) ‹_›) J J J K1 call128 (Zb 84 J J J Ze) J hw) fun _ _=>dt (Yf J J J)<|dt (Yf J J J)<|tt (Zm (i:=2) J J J J J (by decide) J Yj J J ⟨Zd J,Zd J,trivial⟩ J hw trivial) fun _ _=>as_ J<|Zf<|Za<|Zv<|Yn (.inl J) hsc () _ (fun a w hs=>Np hs results83 (Yr (i:=2) J J Qj Yj J) J) J trivial J Zk
theorem Zq9(x:Int)(hx:bl x.natAbs≤65536:=by omega):Cal prog 86 #[wv x] [] true (G:=Value) (fun r=>True) (fun r=>r) (fun r=>[slp 2 wv r (tzl [x])]):=by
 refine Ya func86 J ntmps86 J trivial ?_
 intro w0 sc hw hsc
 simp only [Zp,Zn]
 refine Zc<|Zg<|tt (Xe (i:=1) J J J J J hw) fun bx _=>as_ J<|Zf<|Za<|Zc<|Zc<|Zg<|dt (Zz (i:=1) J J J Qj Yj J J)<|tt (Zh (n:=1) (Mo _ hx) J J J K1 call104 Ze J hw) fun _ _=>dt (Pm J J J)<|Zf<|Za<|Zq J (fun h358=>?_) (fun h358=>?_)
 ·exact Zc<|Zg<|as_ J<|Zf<|Za<|Zv<|Xc<|Yn (.inl J) hsc _ _ (fun a w hs=>Nn hs results86 J) J trivial J (Lh (by rw [show x=0 from Int.sign_eq_zero_iff_zero.1 ‹_›]<;>rfl) Zk)
 ·exact Zj<|Za<|Zc<|Zg<|dt (Zz (i:=1) J J J Qj Yj J J)<|tt (Pn (i:=2) (ivs:=[(0,_)]) (enc:=wv) [x] J J K2 Qp ti31 J J J J J pV.cells J J hw) fun v _=>as_ J<|Zf<|Za<|Zv<|Yn (.inl J) hsc _ _ (fun a w hs=>Nn hs results86 J) J trivial J (Py 2 J J pV (by rw [tzl_one (fun e=>(show ¬x.sign=0 by assumption) (by rw [e];rfl))]) Zk)
end Go.Sky

