/- rules, arithmetic and contracts: part 17
   Proved without conditions of its own: each theorem bears its own. -/
import Derived.Test.YtcmiiammekgooaaGreatSn03
import Derived.Test.YtcmiiammekgooaaGreatSn02
import Derived.Test.YtcmiiammekgooaaGreatSn01
import Derived.Test.YtcmiiammekgooaaGreatSn15
set_option linter.all false
namespace Go.Sky
open Go.Proofs.Tryz
open Go.Proofs
set_option maxRecDepth 20000
set_option maxHeartbeats 4000000
set_option linter.unusedSimpArgs false
theorem sg_neg1(bf bc bs:Nat)(v1 v2 c0 c1 c2 c3:Value)(ls cs:List (SL×List Int))(a b m:R2)(hx:bl m.1.natAbs≤65536)(hy:bl m.2.natAbs≤65536)(hp:0<m.2)(hlsv:∀z∈ls,Vp z.2)(hlsE:∀z∈ls,¬Kq z.2 m.1 m.2):CalP prog 64 #[.agg #[.bool (decide (a.1<0)),.string (Xd a.1.natAbs),.bool (decide (a.2<0)),.string (Xd a.2.natAbs),.bool (decide (b.1<0)),.string (Xd b.1.natAbs),.bool (decide (b.2<0)),.string (Xd b.2.natAbs)],.agg #[.bool (decide (m.1<0)),.string (Xd m.1.natAbs),.bool (decide (m.2<0)),.string (Xd m.2.natAbs)],.pointer (some ⟨bf,0,none⟩),.pointer (some ⟨bc,0,none⟩),.pointer (some ⟨bs,0,none⟩)] [Zgj bs 102 #[.int .i64 0],Zgj bc 98 #[v1,v2],Zab 1 Bq qZ v1 ls,Zab 1 Bq qZ v2 cs] (box bf 41 #[c0,c1,c2,c3]) (G:=Unit) (fun _=>True) (fun _=> .bool (decide (vlu (ls.map Prod.snd) (m.1,m.2)<0))) (fun _=>box bf 41 #[.bool (decide (m.1<0)),.string (Xd m.1.natAbs),.bool (decide (m.2<0)),.string (Xd m.2.natAbs)]):=by
 refine Zi1 func64 J ntmps64 J K4 ?_
 intro w0 sc hw hsc
 simp only [Zq,Zp]
 exact Ze<|Zg<|tt (Yz (i:=6) J J J J J hw) fun bx _=>tt (Yz (i:=7) J J J J J hw) fun bx_2 _=>as_ J<|Zf<|Za<|Ze<|Zg<|dt (Ym (i:=7) J J J Qi Xg J J J J)<|tt (Zm (i:=1) J J J J J (by decide) J Xg J J ⟨Zb J,Zb J,Zb J,Zb J,trivial⟩ J hw trivial) fun _ _=>Zf<|Za<|Ze<|Zg<|dt (d_lr2 (i:=3) J J J Zdd Ba J J)<|dt (Ym (i:=7) J J J Qi Xg J J J J)<|tt (Zh (n:=7) (Zas _ _ _ _ _ _ _ hp hlsv hlsE hx hy) J J J K3 call62 (Zc 4 J J J (Zc 5 J J J (Zc 2 J J J Zd))) J hw) fun _ _=>dt (Xv J J J)<|as_ J<|Zf<|Za<|Zw<|Zm9 (.inl J) hsc () _ (fun a w hs=>Xy hs results64 J) J trivial 1 J J J J (Zc 2 J J J (Zc 3 J J J (Zc 4 J J J (Zc 5 J J J Zd))))
theorem sg_fst1(bf:Nat)(k:Int)(a b m:R2)(hk:-1000≤k∧k≤1000):CalP prog 79 #[.agg #[.bool (decide (a.1<0)),.string (Xd a.1.natAbs),.bool (decide (a.2<0)),.string (Xd a.2.natAbs),.bool (decide (b.1<0)),.string (Xd b.1.natAbs),.bool (decide (b.2<0)),.string (Xd b.2.natAbs)],.agg #[.bool (decide (m.1<0)),.string (Xd m.1.natAbs),.bool (decide (m.2<0)),.string (Xd m.2.natAbs)],.pointer (some ⟨bf,0,none⟩)] [] (box bf 3 #[.int .i64 k]) (G:=Unit) (fun _=>True) (fun _=> .bool (decide (k-1<0))) (fun _=>box bf 3 #[.int .i64 (k-1)]):=by
 refine Zi1 func79 J ntmps79 J trivial ?_
 intro w0 sc hw hsc
 simp only [Zq,Zp]
 exact Ze<|Zg<|tt (Yz (i:=2) J J J J J hw) fun bx _=>tt (Yz (i:=3) J J J J J hw) fun bx_2 _=>as_ J<|Zf<|Za<|Ze<|Zg<|dt (Ok (i:=1) J J J isAgg3 J)<|dt (Qf J J J ⟨by omega,by omega⟩)<|tt (Zm (i:=1) J J J J J (by decide) J zT3 J J ⟨Zb J,trivial⟩ J hw trivial) fun _ _=>Zf<|Za<|Ze<|Zg<|dt (Ok (i:=1) J J J isAgg3 J)<|dt (Xv J J J)<|as_ J<|Zf<|Za<|Zw<|Zm9 (.inl J) hsc () _ (fun a w hs=>Xy hs results79 J) J trivial 1 J J J J Zd
set_option maxHeartbeats 4000000 in
theorem Zhu(bf bc bs:Nat)(v1 v2:Value)(ls cs:List (SL×List Int))(xs:List Int)(a0 b0:R2)(s t:Rat)(c0 c1 c2 c3:Value)(hd:Cvd xs)(h0:xs≠[])(hgl:ls.map Prod.snd=Px xs)(hgc:cs.map Prod.snd=chx xs)(hI0:NIn xs s t 0 a0 b0):CalP prog 63 #[.agg #[v1,v2],.pointer (some ⟨bs,0,none⟩),.agg #[.bool (decide (a0.1<0)),.string (Xd a0.1.natAbs),.bool (decide (a0.2<0)),.string (Xd a0.2.natAbs),.bool (decide (b0.1<0)),.string (Xd b0.1.natAbs),.bool (decide (b0.2<0)),.string (Xd b0.2.natAbs)],.func (.func 64) #[] #[.pointer (some ⟨bf,0,none⟩),.pointer (some ⟨bc,0,none⟩),.pointer (some ⟨bs,0,none⟩)]] [Zgj bs 102 #[.int .i64 0],Zgj bc 98 #[v1,v2],Zab 1 Bq qZ v1 ls,Zab 1 Bq qZ v2 cs] (box bf 41 #[c0,c1,c2,c3]) (G:=R2×R2×R2) (fun r=>Fnd xs s t r.1) (fun r=> .agg #[.bool (decide (r.2.1.1<0)),.string (Xd r.2.1.1.natAbs),.bool (decide (r.2.1.2<0)),.string (Xd r.2.1.2.natAbs),.bool (decide (r.2.2.1<0)),.string (Xd r.2.2.1.natAbs),.bool (decide (r.2.2.2<0)),.string (Xd r.2.2.2.natAbs)]) (fun r=>box bf 41 #[.bool (decide (r.1.1<0)),.string (Xd r.1.1.natAbs),.bool (decide (r.1.2<0)),.string (Xd r.1.2.natAbs)]):=by
 refine Zi1 func63 J ntmps63 J K4 ?_
 intro w0 sc hw hsc
 simp only [Zq,Zp]
 refine Ze<|Zg<|tt (Yz (i:=6) J J J J J hw) fun bx _=>tt (Yz (i:=7) J J J J J hw) fun bx_2 _=>tt (Zr (i:=8) J J zeroValue62 J J hw) fun bx_3 _=>Zf<|Za<|Ze<|Zo<|Nw [(1,_),(3,_),(4,_),(6,_),(8,_)] [(0,_),(2,_),(3,_),(4,_),(5,_),(6,_),(8,_)] (fun(q:R2×R2×Nat×Value×Value×Value×Value)=>[]) (fun(q:R2×R2×Nat×Value×Value×Value×Value)=>[(7,box bx_2 62 #[.bool (decide (q.1.1<0)),.string (Xd q.1.1.natAbs),.bool (decide (q.1.2<0)),.string (Xd q.1.2.natAbs),.bool (decide (q.2.1.1<0)),.string (Xd q.2.1.1.natAbs),.bool (decide (q.2.1.2<0)),.string (Xd q.2.1.2.natAbs)]),(1,box bf 41 #[q.2.2.2.1,q.2.2.2.2.1,q.2.2.2.2.2.1,q.2.2.2.2.2.2])]) (fun(q:R2×R2×Nat×Value×Value×Value×Value)=>NIn xs s t q.2.2.1 q.1 q.2.1) (fun(q:R2×R2×Nat×Value×Value×Value×Value)=>2736-q.2.2.1) (a0,b0,0,c0,c1,c2,c3) (hI0) K5 K9 ?_
 rintro⟨a,b,j,c0,c1,c2,c3⟩ hI
 dsimp only at hI
 simp only [CA,NA]
 obtain⟨r1,r2,r3,r4,r5,r6,r7⟩:=hI.round hd h0
 rw [←hgl]at r5 r6 r7
 rw [←hgc]at r6 r7
 refine Ze<|Ze<|Zg<|mv J<|dt (Zf4 J J)<|dt (Xu J J Ih J Gy J J)<|dt (Zyh (i:=2) J J J Zae J)<|dt (Yc (r':= .bool true) (Pv J J J) (congrArg Value.bool (by decide)))<|Zf<|Za<|Pu J<|Zl<|Za<|Zo<|Ze<|Zg<|mv J<|dt (Xu J J Zqn J Xg J J)<|dt (Ym (i:=7) J J J Qi Xg J J J J)<|dt (Xu J J Zqn J Xg J J)<|dt (Ym (i:=7) J J J Qi Xg J J J J)<|tt (Zh (n:=8) (Zjp _ a.1 a.2 b.1 b.2 r3.2.2 r4.2.2 r1) J J J K3 call94 (Zc 2 J J J Zd) J hw) fun _ _=>tt (Zr (i:=9) J J zeroValue41 J J hw) fun bx_4 _=>tt (Zm (i:=9) J J J J J (by decide) J Xg J J ⟨Zb J,Zb J,Zb J,Zb J,trivial⟩ J hw trivial) fun _ _=>Zf<|Za<|Ze<|Ze<|Zg<|mv J<|dt (Zf5 (i:=7) J J J Zi9 Bu J J J J J J J J)<|dt (Ym (i:=9) J J J Qi Xg J J J J)<|tt (Zb4 (i:=1) (fs:=[]) (vs:=[_,_]) (us:=[_,_,_]) (sg_neg1 _ _ _ _ _ _ _ _ _ _ _ a b (Mt a b) (by omega) (by omega) r2.2.2 (Qe hgl (fun q hq=>(Ma hd q hq).1)) (Qe hgl (Kx hd (m:=(Mt a b)) (by omega) (by omega)).1)) J J J J K2 call64 J J (by decide) (Zc 2 J J J (Zc 3 J J J (Zc 4 J J J (Zc 5 J J J Zd)))) J hw (fun _ _=>trivial)) fun _ _=>Zf<|Za ?_
 refine Zs J (fun h228=>?_) (fun h228=>?_)
 ·exact Yw<|Zx<|Zpq<|Zx<|Na<|Za<|Ze<|Zg<|dt (Zf5 (i:=7) J J J Zi9 Bu J J J J J J J J)<|tt (Zm (i:=8) J J J J J (by decide) J Bu J J ⟨Zb J,Zb J,Zb J,Zb J,Zb J,Zb J,Zb J,Zb J,trivial⟩ J hw trivial) fun _ _=>Zf<|Za<|Zw<|Zm9 (.inl J) hsc (Mt a b,a,b) _ (fun a w hs=>Xy hs results63 (Ys (i:=8) J J Zi9 Bu J)) J (r5 ‹_›) 1 J J J J (Zc 2 J J J (Zc 3 J J J (Zc 4 J J J (Zc 5 J J J Zd))))
 ·refine Zl<|Za<|Ze<|Zg<|dt (Ya (i:=6) J J J Zdd Ba J J)<|mv J<|dt (Xu J J Zqn J Xg J J)<|dt (Ym (i:=7) J J J Qi Xg J J J J)<|dt (Ym (i:=9) J J J Qi Xg J J J J)<|tt (Zh (n:=9) (Kd _ _ _ _ _ a.1 a.2 (Mt a b).1 (Mt a b).2 r3.2.2 r2.2.2 (Qe hgl (fun q hq=>(Ma hd q hq).1)) (Qe hgl (Kx hd (m:=a) (by omega) (by omega)).1) (Qe hgc (fun q hq=>(Gt hd q hq).1)) (Qe hgc (Kx hd (m:=a) (by omega) (by omega)).2) (Qe hgc (Kx hd (m:=(Mt a b)) (by omega) (by omega)).2) (by have h7:=congrArg List.length hgc;rw [List.length_map]at h7;have:=Fv xs;omega)) J J J K4 call61 (Zc 4 J J J (Zc 5 J J J (Zc 2 J J J Zd))) J hw) fun _ _=>Zf<|Za<|La J (fun h231=>?_) (fun h231=>?_)
  ·exact Zg<|dt (Ym (i:=9) J J J Qi Xg J J J J)<|dt (Xu J J Zqn J Xg J J)<|tt (Zlj (cs':=#[]) (i:=7) J J J J J (by decide) J Xg J J ⟨Zb J,Zb J,Zb J,Zb J,trivial⟩ J hw trivial) fun _ _=>Zf<|Oe<|Xp (a,Mt a b,j+1,_,_,_,_) (r6 ‹_› ‹_›) (by have:=hI.j hd h0;dsimp only;omega) K5 K9
  ·exact Zg<|dt (Ym (i:=9) J J J Qi Xg J J J J)<|dt (Xu J J Zqn J Xg J J)<|tt (Zlj (cs':=#[]) (i:=7) J J J J J (by decide) J Xg J J ⟨Zb J,Zb J,Zb J,Zb J,trivial⟩ J hw trivial) fun _ _=>Zf<|Oe<|Xp (Mt a b,b,j+1,_,_,_,_) (r7 ‹_› ‹_›) (by have:=hI.j hd h0;dsimp only;omega) K5 K9
set_option maxHeartbeats 4000000 in
theorem Dk(bf bs:Nat)(v1 v2:Value)(ls cs:List (SL×List Int))(xs:List Int)(a0 b0:R2)(hq:Nat)(hh:hq≤100)(hd:Cvd xs)(hgl:ls.map Prod.snd=Px xs)(hgc:cs.map Prod.snd=chx xs)(hI0:FIn xs 0 a0 b0):CalP prog 63 #[.agg #[v1,v2],.pointer (some ⟨bs,0,none⟩),.agg #[.bool (decide (a0.1<0)),.string (Xd a0.1.natAbs),.bool (decide (a0.2<0)),.string (Xd a0.2.natAbs),.bool (decide (b0.1<0)),.string (Xd b0.1.natAbs),.bool (decide (b0.2<0)),.string (Xd b0.2.natAbs)],.func (.func 79) #[] #[.pointer (some ⟨bf,0,none⟩)]] [Zgj bs 102 #[.int .i64 0],Zab 1 Bq qZ v1 ls,Zab 1 Bq qZ v2 cs] (box bf 3 #[.int .i64 (hq:Int)]) (G:=Unit) (fun _=>True) (fun _=> .agg #[.bool (decide ((frs xs hq a0 b0).1.1<0)),.string (Xd (frs xs hq a0 b0).1.1.natAbs),.bool (decide ((frs xs hq a0 b0).1.2<0)),.string (Xd (frs xs hq a0 b0).1.2.natAbs),.bool (decide ((frs xs hq a0 b0).2.1<0)),.string (Xd (frs xs hq a0 b0).2.1.natAbs),.bool (decide ((frs xs hq a0 b0).2.2<0)),.string (Xd (frs xs hq a0 b0).2.2.natAbs)]) (fun _=>box bf 3 #[.int .i64 (-1)]):=by
 refine Zi1 func63 J ntmps63 J K3 ?_
 intro w0 sc hw hsc
 simp only [Zq,Zp]
 refine Ze<|Zg<|tt (Yz (i:=5) J J J J J hw) fun bx _=>tt (Yz (i:=6) J J J J J hw) fun bx_2 _=>tt (Zr (i:=7) J J zeroValue62 J J hw) fun bx_3 _=>Zf<|Za<|Ze<|Zo<|Nw [(1,_),(3,_),(4,_),(6,_),(8,_)] [(0,_),(2,_),(3,_),(4,_),(5,_),(7,_)] (fun(q:R2×R2×Nat)=>[]) (fun(q:R2×R2×Nat)=>[(6,box bx_2 62 #[.bool (decide (q.1.1<0)),.string (Xd q.1.1.natAbs),.bool (decide (q.1.2<0)),.string (Xd q.1.2.natAbs),.bool (decide (q.2.1.1<0)),.string (Xd q.2.1.1.natAbs),.bool (decide (q.2.1.2<0)),.string (Xd q.2.1.2.natAbs)]),(1,box bf 3 #[.int .i64 ((hq:Int)-(q.2.2:Int))])]) (fun(q:R2×R2×Nat)=>(FIn xs q.2.2 q.1 q.2.1)∧(q.2.2≤hq)∧(frs xs (hq-q.2.2) q.1 q.2.1=frs xs hq a0 b0)) (fun(q:R2×R2×Nat)=>hq+1-q.2.2) (a0,b0,0) ⟨hI0,by first | omega | (dsimp only<;>omega),rfl⟩ K5 ⟨J,(by rw [show((hq:Int)-((0:Nat):Int))=(hq:Int) by omega]<;>rfl),J,J,J,J,J,J,trivial⟩ ?_
 rintro⟨a,b,j⟩ ⟨hI,hj,hF⟩
 dsimp only at hI hj hF
 simp only [CA,NA]
 obtain⟨r1,r2,r3,r4,r5⟩:=hI.round
 refine Ze<|Ze<|Zg<|mv J<|dt (Zf4 J J)<|dt (Xu J J Ih J Gy J J)<|dt (Zyh (i:=2) J J J Zae J)<|dt (Yc (r':= .bool true) (Pv J J J) (congrArg Value.bool (by decide)))<|Zf<|Za<|Pu J<|Zl<|Za<|Zo<|Ze<|Zg<|mv J<|dt (Xu J J Zqn J Xg J J)<|dt (Ym (i:=6) J J J Qi Xg J J J J)<|dt (Xu J J Zqn J Xg J J)<|dt (Ym (i:=6) J J J Qi Xg J J J J)<|tt (Zh (n:=7) (Zjp _ a.1 a.2 b.1 b.2 r3.2.2 r4.2.2 r1) J J J K3 call94 (Zc 2 J J J Zd) J hw) fun _ _=>tt (Zr (i:=8) J J zeroValue41 J J hw) fun bx_4 _=>tt (Zm (i:=8) J J J J J (by decide) J Xg J J ⟨Zb J,Zb J,Zb J,Zb J,trivial⟩ J hw trivial) fun _ _=>Zf<|Za<|Ze<|Ze<|Zg<|mv J<|dt (Zf5 (i:=6) J J J Zi9 Bu J J J J J J J J)<|dt (Ym (i:=8) J J J Qi Xg J J J J)<|tt (Zb4 (i:=1) (fs:=[]) (vs:=[_,_]) (us:=[_]) (sg_fst1 _ _ a b (Mt a b) ⟨by omega,by omega⟩) J J J J K2 call79 J J (by decide) Zd J hw (fun _ _=>trivial)) fun _ _=>Zf<|Za<|Zs J (fun h228=>?_) (fun h228=>?_)
 ·exact Yw<|Zx<|Zpq<|Zx<|Na<|Za<|Ze<|Zg<|dt (Zf5 (i:=6) J J J Zi9 Bu J J J J J J J J)<|tt (Zm (i:=7) J J J J J (by decide) J Bu J J ⟨Zb J,Zb J,Zb J,Zb J,Zb J,Zb J,Zb J,Zb J,trivial⟩ J hw trivial) fun _ _=>Zf<|Za<|Zw<|Zm9 (.inl J) hsc () _ (fun a w hs=>Xy hs results63 (Ys (i:=7) J J Zi9 Bu J)) (by rw [←hF,show hq-j=0 by omega]<;>rfl) trivial 1 (by rw [show(-1:Int)=(hq:Int)-(j:Int)-1 by omega]<;>rfl) J J J (Zc 2 J J J (Zc 3 J J J (Zc 4 J J J Zd)))
 ·refine Zl<|Za<|Ze<|Zg<|dt (Ya (i:=5) J J J Zdd Ba J J)<|mv J<|dt (Xu J J Zqn J Xg J J)<|dt (Ym (i:=6) J J J Qi Xg J J J J)<|dt (Ym (i:=8) J J J Qi Xg J J J J)<|tt (Zh (n:=8) (Kd _ _ _ _ _ a.1 a.2 (Mt a b).1 (Mt a b).2 r3.2.2 r2.2.2 (Qe hgl (fun q hq=>(Ma hd q hq).1)) (Qe hgl (Kx hd (m:=a) (by omega) (by omega)).1) (Qe hgc (fun q hq=>(Gt hd q hq).1)) (Qe hgc (Kx hd (m:=a) (by omega) (by omega)).2) (Qe hgc (Kx hd (m:=(Mt a b)) (by omega) (by omega)).2) (by have h7:=congrArg List.length hgc;rw [List.length_map]at h7;have:=Fv xs;omega)) J J J K4 call61 (Zc 3 J J J (Zc 4 J J J (Zc 2 J J J Zd))) J hw) fun _ _=>Zf<|Za<|La J (fun h231=>?_) (fun h231=>?_)
  ·exact Zg<|dt (Ym (i:=8) J J J Qi Xg J J J J)<|dt (Xu J J Zqn J Xg J J)<|tt (Zlj (cs':=#[]) (i:=6) J J J J J (by decide) J Xg J J ⟨Zb J,Zb J,Zb J,Zb J,trivial⟩ J hw trivial) fun _ _=>Zf<|Oe<|Xp (a,Mt a b,j+1) ⟨(r5 (by omega)).1,by first | omega | (dsimp only<;>omega),by dsimp only;rw [←hF,show hq-j=(hq-(j+1))+1 by omega,Zou,←hgl,←hgc,if_pos ‹_›]⟩ (by dsimp only;omega) K5 ⟨J,(by rw [show((hq:Int)-((j+1:Nat):Int))=(hq:Int)-(j:Int)-1 by omega]<;>rfl),J,J,J,J,J,J,trivial⟩
  ·exact Zg<|dt (Ym (i:=8) J J J Qi Xg J J J J)<|dt (Xu J J Zqn J Xg J J)<|tt (Zlj (cs':=#[]) (i:=6) J J J J J (by decide) J Xg J J ⟨Zb J,Zb J,Zb J,Zb J,trivial⟩ J hw trivial) fun _ _=>Zf<|Oe<|Xp (Mt a b,b,j+1) ⟨(r5 (by omega)).2,by first | omega | (dsimp only<;>omega),by dsimp only;rw [←hF,show hq-j=(hq-(j+1))+1 by omega,Zou,←hgl,←hgc,if_neg (by rw [show ngb _ _ a (Mt a b)=false by assumption];decide)]⟩ (by dsimp only;omega) K5 ⟨J,(by rw [show((hq:Int)-((j+1:Nat):Int))=(hq:Int)-(j:Int)-1 by omega]<;>rfl),J,J,J,J,J,J,trivial⟩
set_option maxHeartbeats 4000000 in
theorem Gq(v:Value)(xs:List Int)(a b:R2)(hd:Cvd xs)(ha:E32 a)(hb:E32 b)(hc:¬0<cmp a b)(hn:ngb (Px xs) (chx xs) a b=true):Cal prog 21 #[v,.agg #[.bool (decide (a.1<0)),.string (Xd a.1.natAbs),.bool (decide (a.2<0)),.string (Xd a.2.natAbs)],.agg #[.bool (decide (b.1<0)),.string (Xd b.1.natAbs),.bool (decide (b.2<0)),.string (Xd b.2.natAbs)]] [slp 2 wv v xs] false (G:=R2) (fun r=>Fnd xs (qv a) (qv b) r) (fun r=> .tuple #[.agg #[.bool (decide (r.1<0)),.string (Xd r.1.natAbs),.bool (decide (r.2<0)),.string (Xd r.2.natAbs)],.bool true,.int .i64 0]) (fun r=>[]):=by
 refine Yd func21 J ntmps21 J K1 ?_
 intro w0 sc hw hsc
 simp only [Zq,Zp]
 have ha1:=ha.b1
 have ha2:=ha.b2
 have hap:=ha.p
 have hb1:=hb.b1
 have hb2:=hb.b2
 have hbp:=hb.p
 have hle:=Zuu ha hb hc
 have h0:=ngb_ne hn
 have hE2:=e32_two ha hb
 have hLl:([slow a,slow b]:List R2).length=2:=rfl
 refine Yq (Nh 999 2 31 wv)<|Yq (Pe 999 J J pV)<|Ze<|Zg<|tt (Yz (i:=2) J J J J J hw) fun bx _=>tt (Yz (i:=3) J J J J J hw) fun bx_2 _=>tt (Zr (i:=4) J J zeroValue41 J J hw) fun bx_3 _=>as_ J<|as_ J<|Zf<|Za<|Ze<|Ze<|Zg<|mv J<|dt (Ym (i:=2) J J J Qi Xg J J J J)<|dt (Ym (i:=3) J J J Qi Xg J J J J)<|tt (Zh (n:=4) (Zau _ _ a.1 a.2 b.1 b.2 hap hbp hd.v (Fm hd (by omega)) ha.efit hb.efit) J J J K4 call58 (Zc 1 J J J Zd) J hw) fun _ _=>as_ J<|Zf<|Za<|Ze<|Zg<|mv J<|dt (Yc (r':= .bool false) (Qc J J J) (congrArg Value.bool (decide_eq_false (fun h=>h (if_neg hc)))))<|Zf<|Za<|Yi J<|Zl<|Za<|Ze<|Zg<|mv J<|tt (Zh (n:=5) (Zln _ _ hd) J J J K1 call59 (Zc 1 J J J Zd) J hw) (fun g hg=>?_)
 obtain⟨hgl,hgc⟩:=hg
 refine mv J<|dt (Yl J J J)<|dt (Yl J J J)<|tt (Zr (i:=7) J J zeroValue98 J J hw) fun bx_4 _=>tt (Zm (i:=7) J J J J J (by decide) J Ba J J ⟨Zk (i:=5) J Zz,Zk (i:=6) J Zz,trivial⟩ J hw trivial) fun _ _=>as_ J<|Zf<|Za<|Ze<|Ze<|Zg<|mv J<|dt (Yc (r':= .bool false) (Qc J J J) (congrArg Value.bool (by decide)))<|Zf<|Za<|Yi J<|Zl<|Za<|Ze<|Zg<|tt (Zr (i:=8) J J zeroValue102 J J hw) fun bx_5 _=>Zf<|Za<|Ze<|Zg<|dt (Ym (i:=2) J J J Qi Xg J J J J)<|dt (Ym (i:=3) J J J Qi Xg J J J J)<|tt (Zh (n:=8) (Zat a.1 a.2 b.1 b.2 hap hbp) J J J K2 call60 Zd J hw) fun _ _=>tt (Zr (i:=9) J J zeroValue62 J J hw) fun bx_6 _=>tt (Zm (i:=9) J J J J J (by decide) J Bu J J ⟨Zb J,Zb J,Zb J,Zb J,Zb J,Zb J,Zb J,Zb J,trivial⟩ J hw trivial) fun _ _=>Zf<|Za<|Ze<|Zg<|dt (Ya (i:=7) J J J Zdd Ba J J)<|dt (Ym (i:=2) J J J Qi Xg J J J J)<|dt (Ym (i:=3) J J J Qi Xg J J J J) ?_
 refine tt (Zh (n:=9) (Kd _ _ _ _ _ a.1 a.2 b.1 b.2 hap hbp (Qe hgl (fun q hq=>(Ma hd q hq).1)) (Qe hgl (Kx hd (m:=a) (by omega) (by omega)).1) (Qe hgc (fun q hq=>(Gt hd q hq).1)) (Qe hgc (Kx hd (m:=a) (by omega) (by omega)).2) (Qe hgc (Kx hd (m:=b) (by omega) (by omega)).2) (by have h7:=congrArg List.length hgc;rw [List.length_map]at h7;have:=Fv xs;omega)) J J J K4 call61 (Zc 5 J J J (Zc 6 J J J (Ns 8 J J Zd))) J hw) fun _ _=>as_ J<|Zf<|Za<|Ze<|Ze<|Zg<|dt (Xu J J Ih J Gy J J)<|dt (Ok (i:=8) J J J Zae J)<|dt (Yc (r':= .bool false) (Qc J J J) (congrArg Value.bool (by decide)))<|mv J<|gdt (Yr J J) J J<|gdt (Yc (r':= .bool false) (Xh J J) (congrArg Value.bool (by rw [hgl,hgc];show(!ngb (Px xs) (chx xs) a b)=false;rw [hn];rfl))) J J<|dt (Yg J J J)<|Zf<|Za<|Yi J<|Zl<|Za<|Ze<|Ze<|Zg<|dt (Xu J J Zqn J Xg J J)<|dt (Ym (i:=9) J J J Qi Xg J J J J)<|dt (Xu J J Zqn J Xg J J)<|dt (Ym (i:=9) J J J Qi Xg J J J J)<|tt (Pm (i:=10) (ivs:=[(0,_),(1,_)]) (enc:=rq) ([slow a,slow b]:List R2) J J K4 Zqm ti41 J J (Zgz _ _ _ _ _ _ _ _ _ _ _ _) J J pQ.cells J J hw) (fun v _=>?_)
 refine dt (Yh J J (i:=10) J (Yt pQ) Zqm)<|mv J<|Zf<|Za<|Zo<|Nw [(6,_),(10,_),(12,_),(13,_),(56,_),(57,_)] [(0,_),(1,_),(999,_),(2,_),(3,_),(4,_),(5,_),(6,_),(7,_),(8,_),(9,_),(10,_)] (fun(i:Nat)=>[(58,.int .i64 (i:Int))]) (fun(i:Nat)=>[]) (fun(i:Nat)=>(i≤2)∧(∀k,k<i→¬vlu (g.2.1.map Prod.snd) ([slow a,slow b].getD k (0,0))<0)) (fun(i:Nat)=>2-i) 0 ⟨by first | omega | (dsimp only<;>omega),fun k hk=>absurd hk (Nat.not_lt_zero k)⟩ K7 K12 ?_
 rintro i ⟨hi,hz⟩
 simp only [CA,NA]
 refine Ze<|Zg<|dt (Xv J J J)<|Zf<|Za<|Ze<|Zs J (fun h262=>?_) (fun h262=>?_)
 ·refine Zl<|Za<|Ze<|Zo<|Ze<|Zg<|dt (Xc (ii:=10) J J J J (Yt pQ) Zqm Xg J (by first | omega | (simp only [List.length_set];omega)))<|dt (Xs (ii:=10) (0,0) J J J (Yt pQ) pQ (by first | omega | (simp only [List.length_set];omega)))<|tt (Zr (i:=11) J J zeroValue41 J J hw) fun bx_7 _=>tt (Zm (i:=11) J J J J J (by decide) J Xg J J ⟨Zb J,Zb J,Zb J,Zb J,trivial⟩ J hw trivial) fun _ _=>Zf<|Za<|Ze ?_
  have hEi:=hE2 i (by omega)
  have hEb1:=hEi.b1
  have hEb2:=hEi.b2
  refine Zg<|dt (Ya (i:=7) J J J Zdd Ba J J)<|dt (Ym (i:=11) J J J Qi Xg J J J J)<|tt (Zh (n:=11) (Zas _ _ _ _ _ ([slow a,slow b].getD i (0,0)).1 ([slow a,slow b].getD i (0,0)).2 hEi.p (Qe hgl (fun q hq=>(Ma hd q hq).1)) (Qe hgl (Kx hd (m:=([slow a,slow b].getD i (0,0))) (by omega) (by omega)).1)) J J J K3 call62 (Zc 5 J J J (Zc 6 J J J (Ns 8 J J Zd))) J hw) fun _ _=>dt (Xv J J J)<|Zf<|Za<|Zs J (fun h263=>?_) (fun h263=>?_)
  ·exact Ze<|Oj [8,11] [5]<|Zu (n:=0) [(0,0),(1,0),(2,0),(3,1),(4,0),(5,3)]<|r0' J J (stf (Ym (i:=11) J J J Qi Xg J J J J) K2)<|r0' J J (stf (Xu J J Ih J Gy J J) K2)<|r0' J J (stf (Ok (i:=8) J J J Zae J) K2)<|r1' J (Zee 4 J J K2 (fun ob=>(Zm (i:=4) J J J J J (by decide) J Xg J J ⟨Zb J,Zb J,Zb J,Zb J,trivial⟩ J hw ob))) fun _ _=>r0' J J (stf (Oy J J) K2)<|r3' J (Pt (Oy J J) J) fun _ _=>Yk<|Yb<|Za<|Zw<|Iw<|Xa<|Xa<|Iw<|Xa<|Zy (.inl J) hsc ([slow a,slow b].getD i (0,0)) _ (fun a w hs=>res3 hs results21 (Ys (i:=4) J J Qi Xg J) J J) J (neg_two ha hb hle (by omega) (by rw [←hgl];assumption)) J Zj
  ·exact Zl<|Oe<|Za<|Zg<|dt (Yy J J J ⟨by omega,by omega⟩)<|mv J<|Zf<|Xp (i+1) ⟨by first | omega | (dsimp only<;>omega),fun k hk2=>by rcases Nat.lt_succ_iff_lt_or_eq.1 hk2 with h9 | h9;exact hz k h9;subst h9;assumption⟩ (by first | omega | (dsimp only<;>omega)) K7 K12
 ·refine Yw<|Zx<|Zx<|Na<|Za<|Ze ?_
  have hI0:=Zsy hd ha hb hle (by have h9:=hz 0 (by omega);rw [hgl]at h9;exact h9) (by have h9:=hz 1 (by omega);rw [hgl]at h9;exact h9) hn
  exact Zg<|tt (Zr (i:=12) J J zeroValue41 J J hw) fun bx_8 _=>Zf<|Za<|Ze<|Zg<|dt (Ya (i:=7) J J J Zdd Ba J J)<|dt (Zf5 (i:=9) J J J Zi9 Bu J J J J J J J J)<|dt (d_mkc (vs:=[]) (us:=[_,_,_]) J trivial K3)<|tt (Zb4 (i:=12) (fs:=[]) (vs:=[_,_,_,_]) (us:=[]) (Zhu _ _ _ _ _ _ _ xs (slow a) (slow b) (qv a) (qv b) _ _ _ _ hd h0 hgl hgc hI0) J J J J K4 call63 J J (by decide) (Ns 8 J J (Ns 7 J J (Zc 5 J J J (Zc 6 J J J Zd)))) J hw (fun _ _=>trivial)) fun g_2 hg_2=>Zf<|Za<|Ze<|Ze<|Zg<|dt (Xu J J Ih J Gy J J)<|dt (Ok (i:=8) J J J Zae J)<|dt (Yc (r':= .bool false) (Qc J J J) (congrArg Value.bool (by decide)))<|Zf<|Za<|Yi J<|Zl<|Za<|Ze<|Zg<|dt (Ym (i:=12) J J J Qi Xg J J J J)<|tt (Zm (i:=4) J J J J J (by decide) J Xg J J ⟨Zb J,Zb J,Zb J,Zb J,trivial⟩ J hw trivial) fun _ _=>as_ J<|as_ J<|Zf<|Za<|Zw<|Zy (.inl J) hsc (g_2.1) _ (fun a w hs=>res3 hs results21 (Ys (i:=4) J J Qi Xg J) J J) J hg_2 J Zj
set_option maxHeartbeats 4000000 in
theorem Fr(v:Value)(xs:List Int)(a b:R2)(hd:Cvd xs)(ha:E32 a)(hb:E32 b)(hc:¬0<cmp a b)(hn:ngb (Px xs) (chx xs) a b=false):Mb prog 21 #[v,.agg #[.bool (decide (a.1<0)),.string (Xd a.1.natAbs),.bool (decide (a.2<0)),.string (Xd a.2.natAbs)],.agg #[.bool (decide (b.1<0)),.string (Xd b.1.natAbs),.bool (decide (b.2<0)),.string (Xd b.2.natAbs)]] [slp 2 wv v xs] (.tuple #[.agg #[.bool false,.string ⟨#[]⟩,.bool false,.string ⟨#[]⟩],.bool false,.int .i64 0]):=by
 refine Yd func21 J ntmps21 J K1 ?_
 intro w0 sc hw hsc
 simp only [Zq,Zp]
 have ha1:=ha.b1
 have ha2:=ha.b2
 have hap:=ha.p
 have hb1:=hb.b1
 have hb2:=hb.b2
 have hbp:=hb.p
 refine Yq (Nh 999 2 31 wv)<|Yq (Pe 999 J J pV)<|Ze<|Zg<|tt (Yz (i:=2) J J J J J hw) fun bx _=>tt (Yz (i:=3) J J J J J hw) fun bx_2 _=>tt (Zr (i:=4) J J zeroValue41 J J hw) fun bx_3 _=>as_ J<|as_ J<|Zf<|Za<|Ze<|Ze<|Zg<|mv J<|dt (Ym (i:=2) J J J Qi Xg J J J J)<|dt (Ym (i:=3) J J J Qi Xg J J J J)<|tt (Zh (n:=4) (Zau _ _ a.1 a.2 b.1 b.2 hap hbp hd.v (Fm hd (by omega)) ha.efit hb.efit) J J J K4 call58 (Zc 1 J J J Zd) J hw) fun _ _=>as_ J<|Zf<|Za<|Ze<|Zg<|mv J<|dt (Yc (r':= .bool false) (Qc J J J) (congrArg Value.bool (decide_eq_false (fun h=>h (if_neg hc)))))<|Zf<|Za<|Yi J<|Zl<|Za<|Ze<|Zg<|mv J<|tt (Zh (n:=5) (Zln _ _ hd) J J J K1 call59 (Zc 1 J J J Zd) J hw) (fun g hg=>?_)
 obtain⟨hgl,hgc⟩:=hg
 refine mv J<|dt (Yl J J J)<|dt (Yl J J J)<|tt (Zr (i:=7) J J zeroValue98 J J hw) fun bx_4 _=>tt (Zm (i:=7) J J J J J (by decide) J Ba J J ⟨Zk (i:=5) J Zz,Zk (i:=6) J Zz,trivial⟩ J hw trivial) fun _ _=>as_ J<|Zf<|Za<|Ze<|Ze<|Zg<|mv J<|dt (Yc (r':= .bool false) (Qc J J J) (congrArg Value.bool (by decide)))<|Zf<|Za<|Yi J<|Zl<|Za<|Ze<|Zg<|tt (Zr (i:=8) J J zeroValue102 J J hw) fun bx_5 _=>Zf<|Za<|Ze<|Zg<|dt (Ym (i:=2) J J J Qi Xg J J J J)<|dt (Ym (i:=3) J J J Qi Xg J J J J)<|tt (Zh (n:=8) (Zat a.1 a.2 b.1 b.2 hap hbp) J J J K2 call60 Zd J hw) fun _ _=>tt (Zr (i:=9) J J zeroValue62 J J hw) fun bx_6 _=>tt (Zm (i:=9) J J J J J (by decide) J Bu J J ⟨Zb J,Zb J,Zb J,Zb J,Zb J,Zb J,Zb J,Zb J,trivial⟩ J hw trivial) fun _ _=>Zf<|Za<|Ze<|Zg<|dt (Ya (i:=7) J J J Zdd Ba J J)<|dt (Ym (i:=2) J J J Qi Xg J J J J)<|dt (Ym (i:=3) J J J Qi Xg J J J J) ?_
 refine tt (Zh (n:=9) (Kd _ _ _ _ _ a.1 a.2 b.1 b.2 hap hbp (Qe hgl (fun q hq=>(Ma hd q hq).1)) (Qe hgl (Kx hd (m:=a) (by omega) (by omega)).1) (Qe hgc (fun q hq=>(Gt hd q hq).1)) (Qe hgc (Kx hd (m:=a) (by omega) (by omega)).2) (Qe hgc (Kx hd (m:=b) (by omega) (by omega)).2) (by have h7:=congrArg List.length hgc;rw [List.length_map]at h7;have:=Fv xs;omega)) J J J K4 call61 (Zc 5 J J J (Zc 6 J J J (Ns 8 J J Zd))) J hw) fun _ _=>as_ J<|Zf<|Za<|Ze<|Ze<|Zg<|dt (Xu J J Ih J Gy J J)<|dt (Ok (i:=8) J J J Zae J)<|dt (Yc (r':= .bool false) (Qc J J J) (congrArg Value.bool (by decide)))<|mv J<|gdt (Yr J J) J J<|gdt (Yc (r':= .bool true) (Xh J J) (congrArg Value.bool (by rw [hgl,hgc];show(!ngb (Px xs) (chx xs) a b)=true;rw [hn];rfl))) J J<|dt (Yg J J J)<|Zf<|Za<|Pu J<|Ze<|Oj [8] [5]<|Zu (n:=0) [(0,0),(1,0),(2,0),(3,1),(4,0),(5,3)]<|r0' J J (stf (Oc (ivs:=[]) J trivial (fun a w hs=>Zqs)) K1)<|r0' J J (stf (Xu J J Ih J Gy J J) K1)<|r0' J J (stf (Ok (i:=8) J J J Zae J) K1) ?_
 exact r1' J (Zee 4 J J K1 (fun ob=>(Zm (i:=4) J J J J J (by decide) J Xg J J ⟨Zb J,Zb J,Zb J,Zb J,trivial⟩ J hw ob))) fun _ _=>r0' J J (stf (Oy J J) K1)<|r3' J (Pt (Oy J J) J) fun _ _=>Yk<|Yb<|Za<|Zw<|Xa<|Zy (.inl J) hsc () _ (fun a w hs=>res3 hs results21 (Ys (i:=4) J J Qi Xg J) J J) J trivial J Zj
set_option maxHeartbeats 4000000 in
theorem Zep(v:Value)(xs:List Int)(a b:R2)(hd:Cvd xs)(ha:E32 a)(hb:E32 b)(hc:0<cmp a b):Mb prog 21 #[v,.agg #[.bool (decide (a.1<0)),.string (Xd a.1.natAbs),.bool (decide (a.2<0)),.string (Xd a.2.natAbs)],.agg #[.bool (decide (b.1<0)),.string (Xd b.1.natAbs),.bool (decide (b.2<0)),.string (Xd b.2.natAbs)]] [slp 2 wv v xs] (.tuple #[.agg #[.bool false,.string ⟨#[]⟩,.bool false,.string ⟨#[]⟩],.bool false,.int .i64 3]):=by
 refine Yd func21 J ntmps21 J K1 ?_
 intro w0 sc hw hsc
 simp only [Zq,Zp]
 have ha1:=ha.b1
 have ha2:=ha.b2
 have hap:=ha.p
 have hb1:=hb.b1
 have hb2:=hb.b2
 have hbp:=hb.p
 exact Yq (Nh 999 2 31 wv)<|Yq (Pe 999 J J pV)<|Ze<|Zg<|tt (Yz (i:=2) J J J J J hw) fun bx _=>tt (Yz (i:=3) J J J J J hw) fun bx_2 _=>tt (Zr (i:=4) J J zeroValue41 J J hw) fun bx_3 _=>as_ J<|as_ J<|Zf<|Za<|Ze<|Ze<|Zg<|mv J<|dt (Ym (i:=2) J J J Qi Xg J J J J)<|dt (Ym (i:=3) J J J Qi Xg J J J J)<|tt (Zh (n:=4) (Zau _ _ a.1 a.2 b.1 b.2 hap hbp hd.v (Fm hd (by omega)) ha.efit hb.efit) J J J K4 call58 (Zc 1 J J J Zd) J hw) fun _ _=>as_ J<|Zf<|Za<|Ze<|Zg<|mv J<|dt (Yc (r':= .bool true) (Qc J J J) (congrArg Value.bool (decide_eq_true (by rw [if_pos hc];decide))))<|Zf<|Za<|Pu J<|Ze<|Zg<|dt (Oc (ivs:=[]) J trivial (fun a w hs=>Zqs))<|mv J<|tt (Zm (i:=4) J J J J J (by decide) J Xg J J ⟨Zb J,Zb J,Zb J,Zb J,trivial⟩ J hw trivial) fun _ _=>as_ J<|as_ J<|Zf<|Za<|Zw<|Xa<|Zy (.inl J) hsc () _ (fun a w hs=>res3 hs results21 (Ys (i:=4) J J Qi Xg J) J J) (by rw [if_pos hc]<;>rfl) trivial J Zj
set_option maxHeartbeats 4000000 in
theorem Zeq(v:Value)(r:List (Bool×ByteArray))(z1 z2:RZ)(hbad:(okP r && qOK z1 && qOK z2)=false):Mb prog 21 #[v,.agg #[.bool z1.1.1,.string z1.1.2,.bool z1.2.1,.string z1.2.2],.agg #[.bool z2.1.1,.string z2.1.2,.bool z2.2.1,.string z2.2.2]] [slp 2 Zft v r] (.tuple #[.agg #[.bool false,.string ⟨#[]⟩,.bool false,.string ⟨#[]⟩],.bool false,.int .i64 2]):=by
 refine Yd func21 J ntmps21 J K1 ?_
 intro w0 sc hw hsc
 simp only [Zq,Zp]
 exact Yq (Nh 999 2 31 wv)<|Yq (Pe 999 J J pV)<|Ze<|Zg<|tt (Yz (i:=2) J J J J J hw) fun bx _=>tt (Yz (i:=3) J J J J J hw) fun bx_2 _=>tt (Zr (i:=4) J J zeroValue41 J J hw) fun bx_3 _=>as_ J<|as_ J<|Zf<|Za<|Ze<|Ze<|Zg<|mv J<|dt (Ym (i:=2) J J J Qi Xg J J J J)<|dt (Ym (i:=3) J J J Qi Xg J J J J)<|tt (Zh (n:=4) (Zjq _ _ z1 z2 hbad) J J J K4 call58 (Zc 1 J J J Zd) J hw) fun _ _=>as_ J<|Zf<|Za<|Ze<|Zg<|mv J<|dt (Yc (r':= .bool true) (Qc J J J) (congrArg Value.bool (by decide)))<|Zf<|Za<|Pu J<|Ze<|Zg<|dt (Oc (ivs:=[]) J trivial (fun a w hs=>Zqs))<|mv J<|tt (Zm (i:=4) J J J J J (by decide) J Xg J J ⟨Zb J,Zb J,Zb J,Zb J,trivial⟩ J hw trivial) fun _ _=>as_ J<|as_ J<|Zf<|Za<|Zw<|Xa<|Zy (.inl J) hsc () _ (fun a w hs=>res3 hs results21 (Ys (i:=4) J J Qi Xg J) J J) J trivial J Zj
set_option maxHeartbeats 4000000 in
theorem Zer(v:Value)(xs:List Int)(a b:R2)(hd:Cvd xs)(ha:E32 a)(hb:E32 b)(hq:Nat)(hc:¬0<cmp a b)(hn:ngb (Px xs) (chx xs) a b=true)(hh:hq≤100:=by decide):Mb prog 31 #[v,.agg #[.bool (decide (a.1<0)),.string (Xd a.1.natAbs),.bool (decide (a.2<0)),.string (Xd a.2.natAbs)],.agg #[.bool (decide (b.1<0)),.string (Xd b.1.natAbs),.bool (decide (b.2<0)),.string (Xd b.2.natAbs)],.int .i64 (hq:Int)] [slp 2 wv v xs] (.tuple #[.agg #[.bool (decide ((frs xs hq (slow a) (slow b)).1.1<0)),.string (Xd (frs xs hq (slow a) (slow b)).1.1.natAbs),.bool (decide ((frs xs hq (slow a) (slow b)).1.2<0)),.string (Xd (frs xs hq (slow a) (slow b)).1.2.natAbs),.bool (decide ((frs xs hq (slow a) (slow b)).2.1<0)),.string (Xd (frs xs hq (slow a) (slow b)).2.1.natAbs),.bool (decide ((frs xs hq (slow a) (slow b)).2.2<0)),.string (Xd (frs xs hq (slow a) (slow b)).2.2.natAbs)],.int .i64 0]):=by
 refine Yd func31 J ntmps31 J K1 ?_
 intro w0 sc hw hsc
 simp only [Zq,Zp]
 have ha1:=ha.b1
 have ha2:=ha.b2
 have hap:=ha.p
 have hb1:=hb.b1
 have hb2:=hb.b2
 have hbp:=hb.p
 have hle:=Zuu ha hb hc
 have hI0:=FIn.start (xs:=xs) ha hb hle
 refine Yq (Nh 999 2 31 wv)<|Yq (Pe 999 J J pV)<|Ze<|Zg<|tt (Yz (i:=2) J J J J J hw) fun bx _=>tt (Yz (i:=3) J J J J J hw) fun bx_2 _=>tt (Zr (i:=4) J J zeroValue62 J J hw) fun bx_3 _=>as_ J<|Zf<|Za<|Ze<|Ze<|Zg<|mv J<|dt (Yc (r':= .bool false) (Xv J J J) (congrArg Value.bool (decide_eq_false (by omega))))<|mv J<|gdt (Yr J J) J J<|gdt (Yc (r':= .bool false) (Of J J J) (congrArg Value.bool (decide_eq_false (by omega)))) J J<|dt (Yg J J J)<|Zf<|Za<|Yi J<|Zl<|Za<|Ze<|Ze<|Zg<|mv J<|dt (Ym (i:=2) J J J Qi Xg J J J J)<|dt (Ym (i:=3) J J J Qi Xg J J J J)<|tt (Zh (n:=4) (Zau _ _ a.1 a.2 b.1 b.2 hap hbp hd.v (Fm hd (by omega)) ha.efit hb.efit) J J J K4 call58 (Zc 1 J J J Zd) J hw) fun _ _=>as_ J<|Zf<|Za<|Ze<|Zg<|mv J<|dt (Yc (r':= .bool false) (Qc J J J) (congrArg Value.bool (decide_eq_false (fun h=>h (if_neg hc)))))<|Zf<|Za<|Yi J<|Zl<|Za<|Ze<|Zg<|mv J<|tt (Zh (n:=5) (Zln _ _ hd) J J J K1 call59 (Zc 1 J J J Zd) J hw) (fun g hg=>?_)
 obtain⟨hgl,hgc⟩:=hg
 refine mv J<|dt (Yl J J J)<|dt (Yl J J J)<|tt (Zr (i:=7) J J zeroValue98 J J hw) fun bx_4 _=>tt (Zm (i:=7) J J J J J (by decide) J Ba J J ⟨Zk (i:=5) J Zz,Zk (i:=6) J Zz,trivial⟩ J hw trivial) fun _ _=>as_ J<|Zf<|Za<|Ze<|Ze<|Zg<|mv J<|dt (Yc (r':= .bool false) (Qc J J J) (congrArg Value.bool (by decide)))<|Zf<|Za<|Yi J<|Zl<|Za<|Ze<|Zg<|tt (Zr (i:=8) J J zeroValue102 J J hw) fun bx_5 _=>Zf<|Za<|Ze<|Ze<|Zg<|dt (Ya (i:=7) J J J Zdd Ba J J)<|dt (Ym (i:=2) J J J Qi Xg J J J J)<|dt (Ym (i:=3) J J J Qi Xg J J J J)<|tt (Zh (n:=8) (Kd _ _ _ _ _ a.1 a.2 b.1 b.2 hap hbp (Qe hgl (fun q hq=>(Ma hd q hq).1)) (Qe hgl (Kx hd (m:=a) (by omega) (by omega)).1) (Qe hgc (fun q hq=>(Gt hd q hq).1)) (Qe hgc (Kx hd (m:=a) (by omega) (by omega)).2) (Qe hgc (Kx hd (m:=b) (by omega) (by omega)).2) (by have h7:=congrArg List.length hgc;rw [List.length_map]at h7;have:=Fv xs;omega)) J J J K4 call61 (Zc 5 J J J (Zc 6 J J J (Ns 8 J J Zd))) J hw) fun _ _=>dt (Yc (r':= .bool false) (Xh J J) (congrArg Value.bool (by rw [hgl,hgc];show(!ngb (Px xs) (chx xs) a b)=false;rw [hn];rfl)))<|Zf ?_
 refine Za<|Yi J<|Zl<|Za<|Ze<|Zg<|mv J<|tt (Zr (i:=9) J J zeroValue3 J J hw) fun bx_6 _=>tt (Zm (i:=9) J J J J J (by decide) J zT3 J J ⟨Zb J,trivial⟩ J hw trivial) fun _ _=>Zf<|Za<|Ze<|Gb (fun x=>x=bx_6) [7]<|Zu (n:=4) [(0,0),(1,0),(2,0),(4,0)]<|r0' J J (st1 9 J (Ya (i:=7) J J J Zdd Ba J J))<|r0' J J (st1 9 J (Ym (i:=2) J J J Qi Xg J J J J))<|r0' J J (st1 9 J (Ym (i:=3) J J J Qi Xg J J J J))<|r0' J J (st1 9 J (d_mkc (vs:=[]) (us:=[_]) J trivial K1))<|Yk<|Qp (n:=3) 3 6 ?_ ?_
 ·refine Yf J (Zh (n:=9) (Zat a.1 a.2 b.1 b.2 hap hbp) J J J K2 call60 Zd J hw) fun _ _=>Qp (n:=2) 5 6 ?_ ?_
  ·exact Yf J (Zb4 (i:=9) (fs:=[]) (vs:=[_,_,_,_]) (us:=[]) (Dk _ _ _ _ _ _ xs (slow a) (slow b) hq hh hd hgl hgc hI0) J J J J K4 call63 J J (by decide) (Ns 8 J J (Zc 5 J J J (Zc 6 J J J Zd))) J hw (fun _ h=>h)) fun _ _=>Zu (n:=0) [(6,1),(7,3)]<|r1' J (Zr (i:=10) J J zeroValue62 J J hw) fun bx_7 _=>r3' J (Zm (i:=10) J J J J J (by decide) J Bu J J ⟨Zb J,Zb J,Zb J,Zb J,Zb J,Zb J,Zb J,Zb J,trivial⟩ J hw trivial) fun _ _=>Yk<|Yb<|Za<|Ze<|Ze<|Zg<|dt (Xu J J Ih J Gy J J)<|dt (Ok (i:=8) J J J Zae J)<|dt (Yc (r':= .bool false) (Qc J J J) (congrArg Value.bool (by decide)))<|Zf<|Za<|Yi J<|Zl<|Za<|Ze<|Zg<|dt (Zf5 (i:=10) J J J Zi9 Bu J J J J J J J J)<|tt (Zm (i:=4) J J J J J (by decide) J Bu J J ⟨Zb J,Zb J,Zb J,Zb J,Zb J,Zb J,Zb J,Zb J,trivial⟩ J hw trivial) fun _ _=>as_ J<|Zf<|Za<|Zw<|Zy (.inl J) hsc () _ (fun a w hs=>Nr hs results31 (Ys (i:=4) J J Zi9 Bu J) J) J trivial J Zj
  ·exact Yf J (Zr (i:=11) J J zeroValue62 J J hw) fun bx_8 _=>Zu (n:=0) [(5,1),(7,3)]<|r1' J (Zb4 (i:=9) (fs:=[]) (vs:=[_,_,_,_]) (us:=[]) (Dk _ _ _ _ _ _ xs (slow a) (slow b) hq hh hd hgl hgc hI0) J J J J K4 call63 J J (by decide) (Ns 8 J J (Zc 5 J J J (Zc 6 J J J Zd))) J hw (fun _ h=>h)) fun _ _=>r3' J (Zm (i:=11) J J J J J (by decide) J Bu J J ⟨Zb J,Zb J,Zb J,Zb J,Zb J,Zb J,Zb J,Zb J,trivial⟩ J hw trivial) fun _ _=>Yk<|Yb<|Za<|Ze<|Ze<|Zg<|dt (Xu J J Ih J Gy J J)<|dt (Ok (i:=8) J J J Zae J)<|dt (Yc (r':= .bool false) (Qc J J J) (congrArg Value.bool (by decide)))<|Zf<|Za<|Yi J<|Zl<|Za<|Ze<|Zg<|dt (Zf5 (i:=11) J J J Zi9 Bu J J J J J J J J)<|tt (Zm (i:=4) J J J J J (by decide) J Bu J J ⟨Zb J,Zb J,Zb J,Zb J,Zb J,Zb J,Zb J,Zb J,trivial⟩ J hw trivial) fun _ _=>as_ J<|Zf<|Za<|Zw<|Zy (.inl J) hsc () _ (fun a w hs=>Nr hs results31 (Ys (i:=4) J J Zi9 Bu J) J) J trivial J Zj
 ·exact Yf J (Zr (i:=12) J J zeroValue62 J J hw) fun bx_9 _=>Zu (n:=0) [(3,1),(5,1),(7,3)]<|r1' J (Zh (n:=12) (Zat a.1 a.2 b.1 b.2 hap hbp) J J J K2 call60 Zd J hw) fun _ _=>r1' J (Zb4 (i:=9) (fs:=[]) (vs:=[_,_,_,_]) (us:=[]) (Dk _ _ _ _ _ _ xs (slow a) (slow b) hq hh hd hgl hgc hI0) J J J J K4 call63 J J (by decide) (Ns 8 J J (Zc 5 J J J (Zc 6 J J J Zd))) J hw (fun _ h=>h)) fun _ _=>r3' J (Zm (i:=12) J J J J J (by decide) J Bu J J ⟨Zb J,Zb J,Zb J,Zb J,Zb J,Zb J,Zb J,Zb J,trivial⟩ J hw trivial) fun _ _=>Yk<|Yb<|Za<|Ze<|Ze<|Zg<|dt (Xu J J Ih J Gy J J)<|dt (Ok (i:=8) J J J Zae J)<|dt (Yc (r':= .bool false) (Qc J J J) (congrArg Value.bool (by decide)))<|Zf<|Za<|Yi J<|Zl<|Za<|Ze<|Zg<|dt (Zf5 (i:=12) J J J Zi9 Bu J J J J J J J J)<|tt (Zm (i:=4) J J J J J (by decide) J Bu J J ⟨Zb J,Zb J,Zb J,Zb J,Zb J,Zb J,Zb J,Zb J,trivial⟩ J hw trivial) fun _ _=>as_ J<|Zf<|Za<|Zw<|Zy (.inl J) hsc () _ (fun a w hs=>Nr hs results31 (Ys (i:=4) J J Zi9 Bu J) J) J trivial J Zj
set_option maxHeartbeats 4000000 in
theorem Zhw(v:Value)(xs:List Int)(a b:R2)(hd:Cvd xs)(ha:E32 a)(hb:E32 b)(hq:Nat)(hh:hq≤100)(hc:¬0<cmp a b)(hn:ngb (Px xs) (chx xs) a b=false):Mb prog 31 #[v,.agg #[.bool (decide (a.1<0)),.string (Xd a.1.natAbs),.bool (decide (a.2<0)),.string (Xd a.2.natAbs)],.agg #[.bool (decide (b.1<0)),.string (Xd b.1.natAbs),.bool (decide (b.2<0)),.string (Xd b.2.natAbs)],.int .i64 (hq:Int)] [slp 2 wv v xs] (.tuple #[.agg #[.bool false,.string ⟨#[]⟩,.bool false,.string ⟨#[]⟩,.bool false,.string ⟨#[]⟩,.bool false,.string ⟨#[]⟩],.int .i64 9]):=by
 refine Yd func31 J ntmps31 J K1 ?_
 intro w0 sc hw hsc
 simp only [Zq,Zp]
 have ha1:=ha.b1
 have ha2:=ha.b2
 have hap:=ha.p
 have hb1:=hb.b1
 have hb2:=hb.b2
 have hbp:=hb.p
 refine Yq (Nh 999 2 31 wv)<|Yq (Pe 999 J J pV)<|Ze<|Zg<|tt (Yz (i:=2) J J J J J hw) fun bx _=>tt (Yz (i:=3) J J J J J hw) fun bx_2 _=>tt (Zr (i:=4) J J zeroValue62 J J hw) fun bx_3 _=>as_ J<|Zf<|Za<|Ze<|Ze<|Zg<|mv J<|dt (Yc (r':= .bool false) (Xv J J J) (congrArg Value.bool (decide_eq_false (by omega))))<|mv J<|gdt (Yr J J) J J<|gdt (Yc (r':= .bool false) (Of J J J) (congrArg Value.bool (decide_eq_false (by omega)))) J J<|dt (Yg J J J)<|Zf<|Za<|Yi J<|Zl<|Za<|Ze<|Ze<|Zg<|mv J<|dt (Ym (i:=2) J J J Qi Xg J J J J)<|dt (Ym (i:=3) J J J Qi Xg J J J J)<|tt (Zh (n:=4) (Zau _ _ a.1 a.2 b.1 b.2 hap hbp hd.v (Fm hd (by omega)) ha.efit hb.efit) J J J K4 call58 (Zc 1 J J J Zd) J hw) fun _ _=>as_ J<|Zf<|Za<|Ze<|Zg<|mv J<|dt (Yc (r':= .bool false) (Qc J J J) (congrArg Value.bool (decide_eq_false (fun h=>h (if_neg hc)))))<|Zf<|Za<|Yi J<|Zl<|Za<|Ze<|Zg<|mv J<|tt (Zh (n:=5) (Zln _ _ hd) J J J K1 call59 (Zc 1 J J J Zd) J hw) (fun g hg=>?_)
 obtain⟨hgl,hgc⟩:=hg
 refine mv J<|dt (Yl J J J)<|dt (Yl J J J)<|tt (Zr (i:=7) J J zeroValue98 J J hw) fun bx_4 _=>tt (Zm (i:=7) J J J J J (by decide) J Ba J J ⟨Zk (i:=5) J Zz,Zk (i:=6) J Zz,trivial⟩ J hw trivial) fun _ _=>as_ J<|Zf<|Za<|Ze<|Ze<|Zg<|mv J<|dt (Yc (r':= .bool false) (Qc J J J) (congrArg Value.bool (by decide)))<|Zf<|Za<|Yi J<|Zl<|Za<|Ze<|Zg<|tt (Zr (i:=8) J J zeroValue102 J J hw) fun bx_5 _=>Zf<|Za<|Ze<|Ze<|Zg<|dt (Ya (i:=7) J J J Zdd Ba J J)<|dt (Ym (i:=2) J J J Qi Xg J J J J)<|dt (Ym (i:=3) J J J Qi Xg J J J J)<|tt (Zh (n:=8) (Kd _ _ _ _ _ a.1 a.2 b.1 b.2 hap hbp (Qe hgl (fun q hq=>(Ma hd q hq).1)) (Qe hgl (Kx hd (m:=a) (by omega) (by omega)).1) (Qe hgc (fun q hq=>(Gt hd q hq).1)) (Qe hgc (Kx hd (m:=a) (by omega) (by omega)).2) (Qe hgc (Kx hd (m:=b) (by omega) (by omega)).2) (by have h7:=congrArg List.length hgc;rw [List.length_map]at h7;have:=Fv xs;omega)) J J J K4 call61 (Zc 5 J J J (Zc 6 J J J (Ns 8 J J Zd))) J hw) fun _ _=>dt (Yc (r':= .bool true) (Xh J J) (congrArg Value.bool (by rw [hgl,hgc];show(!ngb (Px xs) (chx xs) a b)=true;rw [hn];rfl)))<|Zf ?_
 exact Za<|Pu J<|Ze<|Ze<|Zg<|dt (Xu J J Ih J Gy J J)<|dt (Ok (i:=8) J J J Zae J)<|dt (Yc (r':= .bool false) (Qc J J J) (congrArg Value.bool (by decide)))<|Zf<|Za<|Yi J<|Zl<|Za<|Ze<|Zg<|dt (Oc (ivs:=[]) J trivial (fun a w hs=>b62_))<|tt (Zm (i:=4) J J J J J (by decide) J Bu J J ⟨Zb J,Zb J,Zb J,Zb J,Zb J,Zb J,Zb J,Zb J,trivial⟩ J hw trivial) fun _ _=>as_ J<|Zf<|Za<|Zw<|Xa<|Zy (.inl J) hsc () _ (fun a w hs=>Nr hs results31 (Ys (i:=4) J J Zi9 Bu J) J) J trivial J Zj
def Ev(xs:List Int)(m:Int):List Int:=Zf0 xs (tzl [m])
theorem Zjv(xs:List Int)(m:Int)(x:Rat):rev (Ev xs m) x=rev xs x-m:=by
 have h:rev (Ev xs m) x=rev (Gm xs ([m].map fun a=>-1*a)) x:=Mw x _ _ fun i=>by
  unfold Ev
  rw [Ky,Kl,Ka]
  match i with
  | 0=>show cf xs 0-m=cf xs 0 + -1*m;omega
  | i+1=>show cf xs (i+1)-cf [m] (i+1)=cf xs (i+1)+cf [-1*m] (i+1);rw [show cf [m] (i+1)=0 from rfl,show cf [-1*m] (i+1)=0 from rfl];omega
 rw [h,Qj,Yj,Ot];push_cast;grind
theorem Zkc{xs:List Int}{m:Int}(hd:Cvd xs)(hs:Sz 40 xs)(hm:bl m.natAbs≤50):Cvd (Ev xs m)∧(∀i,bl (cf xs i-cf (tzl [m]) i).natAbs≤65536)∧Vp (tzl [m]):=by
 have hl:=hd.l
 have hc:∀i,bl (cf [m] i).natAbs≤50:=fun i=>by
  match i with
  | 0=>exact hm
  | i+1=>rw [show cf [m] (i+1)=0 from rfl];simp [Ll]
 have hz:∀i,bl (cf xs i-cf (tzl [m]) i).natAbs≤51:=fun i=>by
  have h1:=hs i
  have h2:=hc i
  rw [Ka,Int.sub_eq_add_neg]
  have h3:=Km (cf xs i) (-cf [m] i)
  rw [Int.natAbs_neg]at h3
  omega
 have ht:(tzl [m]).length≤1:=Gp [m]
 have hv:Vp (tzl [m]):=⟨fun i=>by rw [Ka];have:=hc i;omega,Nb _,by omega⟩
 have hsz:Sz 51 (Ev xs m):=fun i=>by unfold Ev;rw [Ky];exact hz i
 have hlen:(Ev xs m).length≤7:=by
  unfold Ev Zf0
  refine Nat.le_trans (Gp _) ?_
  rw [Xt];omega
 exact⟨⟨⟨hsz.mono (by omega),Nb _,by omega⟩,hsz.mono (by omega),hlen⟩,fun i=>Nat.le_trans (hz i) (by omega),hv⟩
def Zag(xs:List Int)(m:Int):Prop:=∃x:Rat,0≤x∧x≤1∧rev xs x<(m:Rat)
theorem Zxw(xs:List Int)(m:Int):NegI (Ev xs m) 0 1↔Zag xs m:=by
 constructor
 ·rintro⟨x,a,b,c⟩;rw [Zjv]at c;exact⟨x,a,b,by grind⟩
 ·rintro⟨x,a,b,c⟩;exact⟨x,a,b,by rw [Zjv];grind⟩
theorem Ztb{xs:List Int}{m n:Int}(h:Zag xs m)(hmn:m≤n):Zag xs n:=by
 obtain⟨x,a,b,c⟩:=h
 have:(m:Rat)≤(n:Rat):=by exact_mod_cast hmn
 exact⟨x,a,b,by grind⟩
def lws:List Int→Int
 | []=>0
 | c :: p=>-(c.natAbs:Int)+lws p
theorem Zta:∀p q:List Int,lws (p ++ q)=lws p+lws q
 | [],q=>by show lws q=0+lws q;omega
 | c :: p,q=>by show -(c.natAbs:Int)+lws (p ++ q)=-(c.natAbs:Int)+lws p+lws q;rw [Zta p q];omega
theorem Bm{xs:List Int}{i:Nat}(h:i<xs.length):lws (xs.take (i+1))=lws (xs.take i) + -((cf xs i).natAbs:Int):=by
 rw [Oq 0 xs i h,Zta];show lws (xs.take i)+(-((cf xs i).natAbs:Int)+0)=_;omega
theorem lws_b{n:Nat} : ∀p:List Int,(∀c∈p,c.natAbs≤n)→-((p.length*n:Nat):Int)≤lws p∧lws p≤0
 | [],_=>by show -((0*n:Nat):Int)≤0∧(0:Int)≤0;omega
 | c :: p,h=>by
  have h1:=lws_b p fun d hd=>h d (List.mem_cons_of_mem _ hd)
  have h2:=h c List.mem_cons_self
  show -(((p.length+1)*n:Nat):Int)≤-(c.natAbs:Int)+lws p∧-(c.natAbs:Int)+lws p≤0
  rw [Nat.succ_mul];omega
theorem Zs9{x:Rat}(h0:0≤x)(h1:x≤1):∀p:List Int,((lws p:Int):Rat)≤rev p x
 | []=>by show((0:Int):Rat)≤0;exact Rat.le_refl
 | c :: p=>by
  have ih:=Zs9 h0 h1 p
  have hb:=(lws_b (n:=p.foldl (fun m c=>max m c.natAbs) 0) p (fun c hc=>by
   have:∀(l:List Int) (a:Nat),(a≤l.foldl (fun m c=>max m c.natAbs) a)∧∀c∈l,c.natAbs≤l.foldl (fun m c=>max m c.natAbs) a:=fun l=>by
    induction l with
    | nil=>intro a;exact⟨Nat.le_refl _,fun c hc=>absurd hc (by simp)⟩
    | cons d l ih=>
     intro a
     obtain⟨i1,i2⟩:=ih (max a d.natAbs)
     refine⟨Nat.le_trans (Nat.le_max_left _ _) i1,fun c hc=>?_⟩
     rcases List.mem_cons.1 hc with rfl | hc
     ·exact Nat.le_trans (Nat.le_max_right _ _) i1
     ·exact i2 c hc
   exact(this p 0).2 c hc)).2
  have hb':((lws p:Int):Rat)≤0:=by exact_mod_cast hb
  have hc:((-(c.natAbs:Int):Int):Rat)≤(c:Rat):=by exact_mod_cast (show -(c.natAbs:Int)≤c by omega)
  have hm:=Rat.mul_nonneg (show 0≤1-x by grind) (show 0≤-((lws p:Int):Rat) by grind)
  have hm2:=Rat.mul_nonneg h0 (show 0≤rev p x-((lws p:Int):Rat) by grind)
  show((-(c.natAbs:Int)+lws p:Int):Rat)≤(c:Rat)+x*rev p x
  push_cast at hc ⊢
  grind
theorem Zxx(xs:List Int):¬Zag xs (lws xs):=by
 rintro⟨x,a,b,c⟩
 have:=Zs9 a b xs;grind
theorem rev_at0(xs:List Int):rev xs 0=((cf xs 0:Int):Rat):=by
 cases xs with
 | nil=>rfl
 | cons c p=>show(c:Rat)+0*rev p 0=(c:Rat);grind
theorem Ztc(xs:List Int):Zag xs (cf xs 0+1):=by
 refine⟨0,by grind,by decide,?_⟩
 rw [rev_at0]
 push_cast;grind
theorem Zmf{xs:List Int}{l h:Int}(h1:¬Zag xs l)(h2:Zag xs h):l<h:=by
 rcases Int.lt_or_le l h with q | q
 ·exact q
 ·exact absurd (Ztb h2 q) h1
theorem Zqw{c:Int}(h:c≠0):wv (-(c.natAbs:Int))= .agg #[.bool true,.string (Xd c.natAbs)]:=by
 unfold wv
 rw [decide_eq_true (by omega),Int.natAbs_neg,Int.natAbs_natCast]
theorem tzl_one{x:Int}(h:x≠0):tzl [x]=[x]:=by
 unfold tzl
 simp [List.dropWhile,h]
theorem Zbt{z:Int}(h:z.natAbs≤17592186044416):bl z.natAbs≤45:=(Mp 45 _).2 (Nat.lt_of_le_of_lt h (by decide))
theorem Zok:¬Zag [] 0∧Zag [] (0+1):=⟨fun⟨x,a,b,c⟩=>absurd c (by show ¬(0:Rat)<((0:Int):Rat);decide),⟨0,by decide,by decide,by show(0:Rat)<(((0:Int)+1:Int):Rat);decide⟩⟩
theorem Zdh{xs:List Int}(hs:Sz 40 xs)(i:Nat):(cf xs i).natAbs<1099511627776:=(Mp 40 _).1 (hs i)
theorem Za8{xs:List Int}(hs:Sz 40 xs)(hl:xs.length≤7)(i:Nat):-7696581394432≤lws (xs.take i)∧lws (xs.take i)≤0:=by
 obtain⟨h1,h2⟩:=lws_b (n:=1099511627776) (xs.take i) fun c hc=>by
  obtain⟨k,hk,rfl⟩:=List.mem_iff_getElem.1 hc
  have h9:=Zdh hs k
  rw [List.length_take]at hk
  have e:(xs.take i)[k]=cf xs k:=by rw [List.getElem_take];unfold cf;rw [List.getD_eq_getElem?_getD,List.getElem?_eq_getElem (by omega)];rfl
  rw [e];omega
 have h3:(xs.take i).length*1099511627776≤7*1099511627776:=Nat.mul_le_mul_right _ (by rw [List.length_take];omega)
 exact⟨by omega,h2⟩
structure FlI (xs:List Int) (lo hi:Int):Prop where
 l:¬Zag xs lo
 h:Zag xs hi
 b1:-8796093022208≤lo
 b2:hi≤8796093022208
theorem FlI.lt{xs:List Int}{lo hi:Int}(h:FlI xs lo hi):lo<hi:=Zmf h.l h.h
theorem FlI.start{xs:List Int}(hs:Sz 40 xs)(hl:xs.length≤7){i:Nat}(hi:xs.length≤i):FlI xs (lws (xs.take i)) (cf xs 0+1):=by
 have h1:=Za8 hs hl i
 have h2:=Zdh hs 0
 refine⟨by rw [List.take_of_length_le hi];exact Zxx xs,Ztc xs,by omega,by omega⟩
theorem Zw2:qv (0,1)=0∧qv (1,1)=1:=by unfold qv;exact⟨by decide +kernel,by decide +kernel⟩
theorem Bo{xs:List Int}{m:Int}(h:Cvd (Ev xs m)):ngb (Px (Ev xs m)) (chx (Ev xs m)) (0,1) (1,1)=true↔Zag xs m:=by
 have:=Ze7 h (a:=(0,1)) (b:=(1,1)) (by decide) (by decide) (by rw [Zw2.1,Zw2.2];decide)
 rw [Zw2.1,Zw2.2]at this
 exact this.trans (Zxw xs m)
theorem bstr_0{n:Nat}(h:(Xd n).size=0):n=0:=by
 rw [Lc]at h
 have:=(Pn (by omega:2≤256) n).1 h;omega
theorem Zu9{c:Int}(h:¬(Xd c.natAbs).size=0):c≠0:=fun e=>h (by rw [e,Lc];exact(Pn (by omega:2≤256) 0).2 rfl)
theorem Zrp{a b:Int}(h:(a-b).sign≤0):a≤b:=by
 rcases Int.lt_or_le b a with q | q
 ·rw [Int.sign_eq_one_of_pos (by omega)]at h;omega
 ·exact q
theorem Zrq{a b:Int}(h:¬(a-b).sign≤0):b<a:=by
 rcases Int.lt_or_le b a with q | q
 ·exact q
 ·exfalso
  rcases Int.lt_or_eq_of_le q with w | w
  ·rw [Int.sign_eq_neg_one_of_neg (by omega)]at h;omega
  ·rw [w,Int.sub_self]at h;exact h (by decide)
theorem Zd6(x:Int)(hx:bl x.natAbs≤65536:=by omega):Mb prog 83 #[wv x,.int .i64 (-1)] [] (Zc9 (x/2)):=by
 refine Yd func83 J ntmps83 J trivial ?_
 intro w0 sc hw hsc
 simp only [Zq,Zp]
 have hb2:=Zi6 x 2
 have hxx:okW (decide (x<0)) (Xd x.natAbs)=true:=Za3 hx
 refine Ze<|Zg<|tt (Yz (i:=1) J J J J J hw) fun bx _=>tt (Zr (i:=2) J J zeroValue31 J J hw) fun bx_2 _=>as_ J<|Zf<|Za<|Ze<|Ze<|Zg<|dt (Ya (i:=1) J J J Qr Yo J J)<|tt (Zh (n:=2) (Ec _ _) J J J K1 Zf7 Zd J hw) fun _ _=>dt (Yc (r':= .bool false) (Xh J J) (congrArg Value.bool (by rw [hxx];rfl)))<|Zf<|Za<|Yi J<|Zl<|Za<|Ze<|Ze<|Zg<|mv J<|dt (Yc (r':= .bool false) (Xv J J J) (congrArg Value.bool (by decide)))<|mv J<|gdt (Yr J J) J J<|gdt (Yc (r':= .bool false) (Of J J J) (congrArg Value.bool (by decide))) J J<|dt (Yg J J J)<|Zf<|Za<|Yi J<|Zl<|Za<|Ze<|Zg<|dt (Ya (i:=1) J J J Qr Yo J J)<|tt (Zh (n:=3) (Pg _ _ (Xo _)) J J J K1 Lp Zd J hw) fun g hg=>tt (Zr (i:=4) J J zeroValue154 J J hw) fun bx_3 _=>tt (Zm (i:=4) J J J J J (by decide) J Xi J J ⟨Zb J,Zk (i:=3) J Zi,trivial⟩ J hw trivial) fun _ _=>Zf<|Za<|Ze<|Ze<|Zg<|mv J<|dt (Yc (r':= .bool false) (Ke J J J) (congrArg Value.bool (by decide)))<|Zf<|Za<|Yi J<|Zl<|Za ?_
 refine Da [(4,_)] [(0,_),(1,_),(2,_),(3,_),(4,_)] (fun(q:Bool×Value×Value×Nat×Nat)=>[(7,.pointer (some ⟨q.2.2.2.1,0,none⟩)),(8,.pointer (some ⟨q.2.2.2.2,0,none⟩))]) (fun(q:Bool×Value×Value×Nat×Nat)=>[(84,dgp q.2.1 (x/2).natAbs),(85,dgp q.2.2.1 (x%2).natAbs),(86,box q.2.2.2.1 154 #[.bool q.1,q.2.1]),(87,box q.2.2.2.2 154 #[.bool false,q.2.2.1])]) (fun(q:Bool×Value×Value×Nat×Nat)=>sg q.1 (x/2)) K1 K5 ?_ ?_
 ·refine Oj [4] [13]<|Zu (n:=11) [(0,0),(2,0),(3,0)]<|r0' J J (stf (Ya (i:=4) J J J Kb Xi J J) K1)<|r0' J J (stf (Yr J J) K1)<|r0' J J (stf (Yc (r':= .int .i64 ((1:Nat):Int)) (d_negi J J ⟨by omega,by omega⟩) J) K1)<|Yk<|Dg (n:=10) 1 10 11 ?_ ?_ ?_
  ·refine Yf J (Pm (i:=81) (ivs:=[(0,_)]) (enc:=Hg) (dg U 1) J J K2 Qb ti149 J J J J J pU.cells J J hw) fun v _=>Dg (n:=9) 4 10 11 ?_ ?_ ?_
   ·refine Yf J (Zh (n:=82) (Il _ 1 1 (show bl 1≤4294967296 by decide)) J J J K2 call132 (Xr 81 J J pU Zd) J hw) fun v_2 _=>Zlc (Ow 82 J Zi) (fun sw hsw=>?_)
    subst hsw
    refine Zu (n:=8) [(5,0)]<|r0' J J (stf (Oc (ivs:=[(0,_),(1,_)]) J K4 (fun a w hs=>Nd ((Zb J) a w hs) ((Zb J) a w hs))) K1)<|Yk<|Dg (n:=7) 6 10 11 ?_ ?_ ?_
    ·refine Yf J (Zh (n:=84) (Qz _ _ _ _ x 2 ‹_› (Xo (2:Int)) (by omega) (show bl (2:Int).natAbs≤3000000000 by decide)) J J J K2 Mo (Zc 3 J J J (Zc 82 J J J Zd)) J hw) fun g_2 hg_2=>Zu (n:=4) [(7,0),(8,0),(9,0)]<|r0' J J (stf (Yr J J) K1)<|r0' J J (stf (Yl J J J) K1)<|r0' J J (stf (Yl J J J) K1)<|Yk<|Qp (n:=3) 10 11 ?_ ?_
     ·exact Yf J (Zn (i:=86) J J zeroValue154 J J hw K1) fun bx_4 ho=>Zu (n:=0) [(11,1),(12,1),(13,3)]<|r1' J (Zn (i:=87) J J zeroValue154 J J hw K1) fun bx_5 ho2=>r1' J (Zm (i:=86) J J J J J (by decide) J Xi J J ⟨Zb J,Zk (i:=84) J Zi,trivial⟩ J hw ho) fun _ _=>r3' J (Zm (i:=87) J J J J J (by decide) J Xi J J ⟨Zb J,Zk (i:=85) J Zi,trivial⟩ J hw trivial) fun _ _=>Yk<|Yb<|Ql (_,_,_,_,_) ‹_› K3 K9
     ·exact Yf J (Zn (i:=87) J J zeroValue154 J J hw K1) fun bx_6 ho3=>Zu (n:=0) [(10,1),(12,1),(13,3)]<|r1' J (Zn (i:=86) J J zeroValue154 J J hw K1) fun bx_7 ho4=>r1' J (Zm (i:=86) J J J J J (by decide) J Xi J J ⟨Zb J,Zk (i:=84) J Zi,trivial⟩ J hw ho4) fun _ _=>r3' J (Zm (i:=87) J J J J J (by decide) J Xi J J ⟨Zb J,Zk (i:=85) J Zi,trivial⟩ J hw trivial) fun _ _=>Yk<|Yb<|Ql (_,_,_,_,_) ‹_› K3 K9
    ·refine Yf J (Zn (i:=86) J J zeroValue154 J J hw K1) fun bx_8 ho5=>Qp (n:=6) 6 11 ?_ ?_
     ·exact Yf J (Zh (n:=84) (Qz _ _ _ _ x 2 ‹_› (Xo (2:Int)) (by omega) (show bl (2:Int).natAbs≤3000000000 by decide)) J J J K2 Mo (Zc 3 J J J (Zc 82 J J J Zd)) J hw) fun g_3 hg_3=>Zu (n:=0) [(7,0),(8,0),(9,0),(11,1),(12,1),(13,3)]<|r0' J J (stf (Yr J J) K1)<|r0' J J (stf (Yl J J J) K1)<|r0' J J (stf (Yl J J J) K1)<|r1' J (Zn (i:=87) J J zeroValue154 J J hw K1) fun bx_9 ho6=>r1' J (Zm (i:=86) J J J J J (by decide) J Xi J J ⟨Zb J,Zk (i:=84) J Zi,trivial⟩ J hw ho5) fun _ _=>r3' J (Zm (i:=87) J J J J J (by decide) J Xi J J ⟨Zb J,Zk (i:=85) J Zi,trivial⟩ J hw trivial) fun _ _=>Yk<|Yb<|Ql (_,_,_,_,_) ‹_› K3 K9
     ·exact Yf J (Zn (i:=87) J J zeroValue154 J J hw K1) fun bx_10 ho7=>Zu (n:=0) [(6,1),(7,0),(8,0),(9,0),(12,1),(13,3)]<|r1' J (Zh (n:=84) (Qz _ _ _ _ x 2 ‹_› (Xo (2:Int)) (by omega) (show bl (2:Int).natAbs≤3000000000 by decide)) J J J K2 Mo (Zc 3 J J J (Zc 82 J J J Zd)) J hw) fun g_4 hg_4=>r0' J J (stf (Yr J J) K1)<|r0' J J (stf (Yl J J J) K1)<|r0' J J (stf (Yl J J J) K1)<|r1' J (Zm (i:=86) J J J J J (by decide) J Xi J J ⟨Zb J,Zk (i:=84) J Zi,trivial⟩ J hw ho5) fun _ _=>r3' J (Zm (i:=87) J J J J J (by decide) J Xi J J ⟨Zb J,Zk (i:=85) J Zi,trivial⟩ J hw trivial) fun _ _=>Yk<|Yb<|Ql (_,_,_,_,_) ‹_› K3 K9
    ·refine Yf J (Zn (i:=87) J J zeroValue154 J J hw K1) fun bx_11 ho8=>Qp (n:=6) 6 10 ?_ ?_
     ·exact Yf J (Zh (n:=84) (Qz _ _ _ _ x 2 ‹_› (Xo (2:Int)) (by omega) (show bl (2:Int).natAbs≤3000000000 by decide)) J J J K2 Mo (Zc 3 J J J (Zc 82 J J J Zd)) J hw) fun g_5 hg_5=>Zu (n:=0) [(7,0),(8,0),(9,0),(10,1),(12,1),(13,3)]<|r0' J J (stf (Yr J J) K1)<|r0' J J (stf (Yl J J J) K1)<|r0' J J (stf (Yl J J J) K1)<|r1' J (Zn (i:=86) J J zeroValue154 J J hw K1) fun bx_12 ho9=>r1' J (Zm (i:=86) J J J J J (by decide) J Xi J J ⟨Zb J,Zk (i:=84) J Zi,trivial⟩ J hw ho9) fun _ _=>r3' J (Zm (i:=87) J J J J J (by decide) J Xi J J ⟨Zb J,Zk (i:=85) J Zi,trivial⟩ J hw trivial) fun _ _=>Yk<|Yb<|Ql (_,_,_,_,_) ‹_› K3 K9
     ·exact Yf J (Zn (i:=86) J J zeroValue154 J J hw K1) fun bx_13 ho10=>Zu (n:=0) [(6,1),(7,0),(8,0),(9,0),(12,1),(13,3)]<|r1' J (Zh (n:=84) (Qz _ _ _ _ x 2 ‹_› (Xo (2:Int)) (by omega) (show bl (2:Int).natAbs≤3000000000 by decide)) J J J K2 Mo (Zc 3 J J J (Zc 82 J J J Zd)) J hw) fun g_6 hg_6=>r0' J J (stf (Yr J J) K1)<|r0' J J (stf (Yl J J J) K1)<|r0' J J (stf (Yl J J J) K1)<|r1' J (Zm (i:=86) J J J J J (by decide) J Xi J J ⟨Zb J,Zk (i:=84) J Zi,trivial⟩ J hw ho10) fun _ _=>r3' J (Zm (i:=87) J J J J J (by decide) J Xi J J ⟨Zb J,Zk (i:=85) J Zi,trivial⟩ J hw trivial) fun _ _=>Yk<|Yb<|Ql (_,_,_,_,_) ‹_› K3 K9
   ·refine Yf J (Zn (i:=86) J J zeroValue154 J J hw K1) fun bx_14 ho11=>Qp (n:=8) 4 11 ?_ ?_
    ·refine Yf J (Zh (n:=82) (Il _ 1 1 (show bl 1≤4294967296 by decide)) J J J K2 call132 (Xr 81 J J pU Zd) J hw) fun v_3 _=>Zlc (Ow 82 J Zi) (fun sw hsw=>?_)
     subst hsw
     refine Zu (n:=7) [(5,0)]<|r0' J J (stf (Oc (ivs:=[(0,_),(1,_)]) J K4 (fun a w hs=>Nd ((Zb J) a w hs) ((Zb J) a w hs))) K1)<|Yk<|Qp (n:=6) 6 11 ?_ ?_
     ·exact Yf J (Zh (n:=84) (Qz _ _ _ _ x 2 ‹_› (Xo (2:Int)) (by omega) (show bl (2:Int).natAbs≤3000000000 by decide)) J J J K2 Mo (Zc 3 J J J (Zc 82 J J J Zd)) J hw) fun g_7 hg_7=>Zu (n:=0) [(7,0),(8,0),(9,0),(11,1),(12,1),(13,3)]<|r0' J J (stf (Yr J J) K1)<|r0' J J (stf (Yl J J J) K1)<|r0' J J (stf (Yl J J J) K1)<|r1' J (Zn (i:=87) J J zeroValue154 J J hw K1) fun bx_15 ho12=>r1' J (Zm (i:=86) J J J J J (by decide) J Xi J J ⟨Zb J,Zk (i:=84) J Zi,trivial⟩ J hw ho11) fun _ _=>r3' J (Zm (i:=87) J J J J J (by decide) J Xi J J ⟨Zb J,Zk (i:=85) J Zi,trivial⟩ J hw trivial) fun _ _=>Yk<|Yb<|Ql (_,_,_,_,_) ‹_› K3 K9
     ·exact Yf J (Zn (i:=87) J J zeroValue154 J J hw K1) fun bx_16 ho13=>Zu (n:=0) [(6,1),(7,0),(8,0),(9,0),(12,1),(13,3)]<|r1' J (Zh (n:=84) (Qz _ _ _ _ x 2 ‹_› (Xo (2:Int)) (by omega) (show bl (2:Int).natAbs≤3000000000 by decide)) J J J K2 Mo (Zc 3 J J J (Zc 82 J J J Zd)) J hw) fun g_8 hg_8=>r0' J J (stf (Yr J J) K1)<|r0' J J (stf (Yl J J J) K1)<|r0' J J (stf (Yl J J J) K1)<|r1' J (Zm (i:=86) J J J J J (by decide) J Xi J J ⟨Zb J,Zk (i:=84) J Zi,trivial⟩ J hw ho11) fun _ _=>r3' J (Zm (i:=87) J J J J J (by decide) J Xi J J ⟨Zb J,Zk (i:=85) J Zi,trivial⟩ J hw trivial) fun _ _=>Yk<|Yb<|Ql (_,_,_,_,_) ‹_› K3 K9
    ·refine Yf J (Zn (i:=87) J J zeroValue154 J J hw K1) fun bx_17 ho14=>Zu (n:=7) [(4,1)]<|r1' J (Zh (n:=82) (Il _ 1 1 (show bl 1≤4294967296 by decide)) J J J K2 call132 (Xr 81 J J pU Zd) J hw) fun v_4 _=>Yk<|Zlc (Ow 82 J Zi) (fun sw hsw=>?_)
     subst hsw
     exact Zu (n:=0) [(5,0),(6,1),(7,0),(8,0),(9,0),(12,1),(13,3)]<|r0' J J (stf (Oc (ivs:=[(0,_),(1,_)]) J K4 (fun a w hs=>Nd ((Zb J) a w hs) ((Zb J) a w hs))) K1)<|r1' J (Zh (n:=84) (Qz _ _ _ _ x 2 ‹_› (Xo (2:Int)) (by omega) (show bl (2:Int).natAbs≤3000000000 by decide)) J J J K2 Mo (Zc 3 J J J (Zc 82 J J J Zd)) J hw) fun g_9 hg_9=>r0' J J (stf (Yr J J) K1)<|r0' J J (stf (Yl J J J) K1)<|r0' J J (stf (Yl J J J) K1)<|r1' J (Zm (i:=86) J J J J J (by decide) J Xi J J ⟨Zb J,Zk (i:=84) J Zi,trivial⟩ J hw ho11) fun _ _=>r3' J (Zm (i:=87) J J J J J (by decide) J Xi J J ⟨Zb J,Zk (i:=85) J Zi,trivial⟩ J hw trivial) fun _ _=>Yk<|Yb<|Ql (_,_,_,_,_) ‹_› K3 K9
   ·refine Yf J (Zn (i:=87) J J zeroValue154 J J hw K1) fun bx_18 ho15=>Qp (n:=8) 4 10 ?_ ?_
    ·refine Yf J (Zh (n:=82) (Il _ 1 1 (show bl 1≤4294967296 by decide)) J J J K2 call132 (Xr 81 J J pU Zd) J hw) fun v_5 _=>Zlc (Ow 82 J Zi) (fun sw hsw=>?_)
     subst hsw
     refine Zu (n:=7) [(5,0)]<|r0' J J (stf (Oc (ivs:=[(0,_),(1,_)]) J K4 (fun a w hs=>Nd ((Zb J) a w hs) ((Zb J) a w hs))) K1)<|Yk<|Qp (n:=6) 6 10 ?_ ?_
     ·exact Yf J (Zh (n:=84) (Qz _ _ _ _ x 2 ‹_› (Xo (2:Int)) (by omega) (show bl (2:Int).natAbs≤3000000000 by decide)) J J J K2 Mo (Zc 3 J J J (Zc 82 J J J Zd)) J hw) fun g_10 hg_10=>Zu (n:=0) [(7,0),(8,0),(9,0),(10,1),(12,1),(13,3)]<|r0' J J (stf (Yr J J) K1)<|r0' J J (stf (Yl J J J) K1)<|r0' J J (stf (Yl J J J) K1)<|r1' J (Zn (i:=86) J J zeroValue154 J J hw K1) fun bx_19 ho16=>r1' J (Zm (i:=86) J J J J J (by decide) J Xi J J ⟨Zb J,Zk (i:=84) J Zi,trivial⟩ J hw ho16) fun _ _=>r3' J (Zm (i:=87) J J J J J (by decide) J Xi J J ⟨Zb J,Zk (i:=85) J Zi,trivial⟩ J hw trivial) fun _ _=>Yk<|Yb<|Ql (_,_,_,_,_) ‹_› K3 K9
     ·exact Yf J (Zn (i:=86) J J zeroValue154 J J hw K1) fun bx_20 ho17=>Zu (n:=0) [(6,1),(7,0),(8,0),(9,0),(12,1),(13,3)]<|r1' J (Zh (n:=84) (Qz _ _ _ _ x 2 ‹_› (Xo (2:Int)) (by omega) (show bl (2:Int).natAbs≤3000000000 by decide)) J J J K2 Mo (Zc 3 J J J (Zc 82 J J J Zd)) J hw) fun g_11 hg_11=>r0' J J (stf (Yr J J) K1)<|r0' J J (stf (Yl J J J) K1)<|r0' J J (stf (Yl J J J) K1)<|r1' J (Zm (i:=86) J J J J J (by decide) J Xi J J ⟨Zb J,Zk (i:=84) J Zi,trivial⟩ J hw ho17) fun _ _=>r3' J (Zm (i:=87) J J J J J (by decide) J Xi J J ⟨Zb J,Zk (i:=85) J Zi,trivial⟩ J hw trivial) fun _ _=>Yk<|Yb<|Ql (_,_,_,_,_) ‹_› K3 K9
    ·refine Yf J (Zn (i:=86) J J zeroValue154 J J hw K1) fun bx_21 ho18=>Zu (n:=7) [(4,1)]<|r1' J (Zh (n:=82) (Il _ 1 1 (show bl 1≤4294967296 by decide)) J J J K2 call132 (Xr 81 J J pU Zd) J hw) fun v_6 _=>Yk<|Zlc (Ow 82 J Zi) (fun sw hsw=>?_)
     subst hsw
     exact Zu (n:=0) [(5,0),(6,1),(7,0),(8,0),(9,0),(12,1),(13,3)]<|r0' J J (stf (Oc (ivs:=[(0,_),(1,_)]) J K4 (fun a w hs=>Nd ((Zb J) a w hs) ((Zb J) a w hs))) K1)<|r1' J (Zh (n:=84) (Qz _ _ _ _ x 2 ‹_› (Xo (2:Int)) (by omega) (show bl (2:Int).natAbs≤3000000000 by decide)) J J J K2 Mo (Zc 3 J J J (Zc 82 J J J Zd)) J hw) fun g_12 hg_12=>r0' J J (stf (Yr J J) K1)<|r0' J J (stf (Yl J J J) K1)<|r0' J J (stf (Yl J J J) K1)<|r1' J (Zm (i:=86) J J J J J (by decide) J Xi J J ⟨Zb J,Zk (i:=84) J Zi,trivial⟩ J hw ho18) fun _ _=>r3' J (Zm (i:=87) J J J J J (by decide) J Xi J J ⟨Zb J,Zk (i:=85) J Zi,trivial⟩ J hw trivial) fun _ _=>Yk<|Yb<|Ql (_,_,_,_,_) ‹_› K3 K9
  ·refine Yf J (Zn (i:=86) J J zeroValue154 J J hw K1) fun bx_22 ho19=>Qp (n:=9) 1 11 ?_ ?_
   ·refine Yf J (Pm (i:=81) (ivs:=[(0,_)]) (enc:=Hg) (dg U 1) J J K2 Qb ti149 J J J J J pU.cells J J hw) fun v_7 _=>Qp (n:=8) 4 11 ?_ ?_
    ·refine Yf J (Zh (n:=82) (Il _ 1 1 (show bl 1≤4294967296 by decide)) J J J K2 call132 (Xr 81 J J pU Zd) J hw) fun v_8 _=>Zlc (Ow 82 J Zi) (fun sw hsw=>?_)
     subst hsw
     refine Zu (n:=7) [(5,0)]<|r0' J J (stf (Oc (ivs:=[(0,_),(1,_)]) J K4 (fun a w hs=>Nd ((Zb J) a w hs) ((Zb J) a w hs))) K1)<|Yk<|Qp (n:=6) 6 11 ?_ ?_
     ·exact Yf J (Zh (n:=84) (Qz _ _ _ _ x 2 ‹_› (Xo (2:Int)) (by omega) (show bl (2:Int).natAbs≤3000000000 by decide)) J J J K2 Mo (Zc 3 J J J (Zc 82 J J J Zd)) J hw) fun g_13 hg_13=>Zu (n:=0) [(7,0),(8,0),(9,0),(11,1),(12,1),(13,3)]<|r0' J J (stf (Yr J J) K1)<|r0' J J (stf (Yl J J J) K1)<|r0' J J (stf (Yl J J J) K1)<|r1' J (Zn (i:=87) J J zeroValue154 J J hw K1) fun bx_23 ho20=>r1' J (Zm (i:=86) J J J J J (by decide) J Xi J J ⟨Zb J,Zk (i:=84) J Zi,trivial⟩ J hw ho19) fun _ _=>r3' J (Zm (i:=87) J J J J J (by decide) J Xi J J ⟨Zb J,Zk (i:=85) J Zi,trivial⟩ J hw trivial) fun _ _=>Yk<|Yb<|Ql (_,_,_,_,_) ‹_› K3 K9
     ·exact Yf J (Zn (i:=87) J J zeroValue154 J J hw K1) fun bx_24 ho21=>Zu (n:=0) [(6,1),(7,0),(8,0),(9,0),(12,1),(13,3)]<|r1' J (Zh (n:=84) (Qz _ _ _ _ x 2 ‹_› (Xo (2:Int)) (by omega) (show bl (2:Int).natAbs≤3000000000 by decide)) J J J K2 Mo (Zc 3 J J J (Zc 82 J J J Zd)) J hw) fun g_14 hg_14=>r0' J J (stf (Yr J J) K1)<|r0' J J (stf (Yl J J J) K1)<|r0' J J (stf (Yl J J J) K1)<|r1' J (Zm (i:=86) J J J J J (by decide) J Xi J J ⟨Zb J,Zk (i:=84) J Zi,trivial⟩ J hw ho19) fun _ _=>r3' J (Zm (i:=87) J J J J J (by decide) J Xi J J ⟨Zb J,Zk (i:=85) J Zi,trivial⟩ J hw trivial) fun _ _=>Yk<|Yb<|Ql (_,_,_,_,_) ‹_› K3 K9
    ·refine Yf J (Zn (i:=87) J J zeroValue154 J J hw K1) fun bx_25 ho22=>Zu (n:=7) [(4,1)]<|r1' J (Zh (n:=82) (Il _ 1 1 (show bl 1≤4294967296 by decide)) J J J K2 call132 (Xr 81 J J pU Zd) J hw) fun v_9 _=>Yk<|Zlc (Ow 82 J Zi) (fun sw hsw=>?_)
     subst hsw
     exact Zu (n:=0) [(5,0),(6,1),(7,0),(8,0),(9,0),(12,1),(13,3)]<|r0' J J (stf (Oc (ivs:=[(0,_),(1,_)]) J K4 (fun a w hs=>Nd ((Zb J) a w hs) ((Zb J) a w hs))) K1)<|r1' J (Zh (n:=84) (Qz _ _ _ _ x 2 ‹_› (Xo (2:Int)) (by omega) (show bl (2:Int).natAbs≤3000000000 by decide)) J J J K2 Mo (Zc 3 J J J (Zc 82 J J J Zd)) J hw) fun g_15 hg_15=>r0' J J (stf (Yr J J) K1)<|r0' J J (stf (Yl J J J) K1)<|r0' J J (stf (Yl J J J) K1)<|r1' J (Zm (i:=86) J J J J J (by decide) J Xi J J ⟨Zb J,Zk (i:=84) J Zi,trivial⟩ J hw ho19) fun _ _=>r3' J (Zm (i:=87) J J J J J (by decide) J Xi J J ⟨Zb J,Zk (i:=85) J Zi,trivial⟩ J hw trivial) fun _ _=>Yk<|Yb<|Ql (_,_,_,_,_) ‹_› K3 K9
   ·refine Yf J (Zn (i:=87) J J zeroValue154 J J hw K1) fun bx_26 ho23=>Zu (n:=7) [(1,1),(4,1)]<|r1' J (Pm (i:=81) (ivs:=[(0,_)]) (enc:=Hg) (dg U 1) J J K2 Qb ti149 J J J J J pU.cells J J hw) fun v_10 _=>r1' J (Zh (n:=82) (Il _ 1 1 (show bl 1≤4294967296 by decide)) J J J K2 call132 (Xr 81 J J pU Zd) J hw) fun v_11 _=>Yk<|Zlc (Ow 82 J Zi) (fun sw hsw=>?_)
    subst hsw
    exact Zu (n:=0) [(5,0),(6,1),(7,0),(8,0),(9,0),(12,1),(13,3)]<|r0' J J (stf (Oc (ivs:=[(0,_),(1,_)]) J K4 (fun a w hs=>Nd ((Zb J) a w hs) ((Zb J) a w hs))) K1)<|r1' J (Zh (n:=84) (Qz _ _ _ _ x 2 ‹_› (Xo (2:Int)) (by omega) (show bl (2:Int).natAbs≤3000000000 by decide)) J J J K2 Mo (Zc 3 J J J (Zc 82 J J J Zd)) J hw) fun g_16 hg_16=>r0' J J (stf (Yr J J) K1)<|r0' J J (stf (Yl J J J) K1)<|r0' J J (stf (Yl J J J) K1)<|r1' J (Zm (i:=86) J J J J J (by decide) J Xi J J ⟨Zb J,Zk (i:=84) J Zi,trivial⟩ J hw ho19) fun _ _=>r3' J (Zm (i:=87) J J J J J (by decide) J Xi J J ⟨Zb J,Zk (i:=85) J Zi,trivial⟩ J hw trivial) fun _ _=>Yk<|Yb<|Ql (_,_,_,_,_) ‹_› K3 K9
  ·refine Yf J (Zn (i:=87) J J zeroValue154 J J hw K1) fun bx_27 ho24=>Qp (n:=9) 1 10 ?_ ?_
   ·refine Yf J (Pm (i:=81) (ivs:=[(0,_)]) (enc:=Hg) (dg U 1) J J K2 Qb ti149 J J J J J pU.cells J J hw) fun v_12 _=>Qp (n:=8) 4 10 ?_ ?_
    ·refine Yf J (Zh (n:=82) (Il _ 1 1 (show bl 1≤4294967296 by decide)) J J J K2 call132 (Xr 81 J J pU Zd) J hw) fun v_13 _=>Zlc (Ow 82 J Zi) (fun sw hsw=>?_)
     subst hsw
     refine Zu (n:=7) [(5,0)]<|r0' J J (stf (Oc (ivs:=[(0,_),(1,_)]) J K4 (fun a w hs=>Nd ((Zb J) a w hs) ((Zb J) a w hs))) K1)<|Yk<|Qp (n:=6) 6 10 ?_ ?_
     ·exact Yf J (Zh (n:=84) (Qz _ _ _ _ x 2 ‹_› (Xo (2:Int)) (by omega) (show bl (2:Int).natAbs≤3000000000 by decide)) J J J K2 Mo (Zc 3 J J J (Zc 82 J J J Zd)) J hw) fun g_17 hg_17=>Zu (n:=0) [(7,0),(8,0),(9,0),(10,1),(12,1),(13,3)]<|r0' J J (stf (Yr J J) K1)<|r0' J J (stf (Yl J J J) K1)<|r0' J J (stf (Yl J J J) K1)<|r1' J (Zn (i:=86) J J zeroValue154 J J hw K1) fun bx_28 ho25=>r1' J (Zm (i:=86) J J J J J (by decide) J Xi J J ⟨Zb J,Zk (i:=84) J Zi,trivial⟩ J hw ho25) fun _ _=>r3' J (Zm (i:=87) J J J J J (by decide) J Xi J J ⟨Zb J,Zk (i:=85) J Zi,trivial⟩ J hw trivial) fun _ _=>Yk<|Yb<|Ql (_,_,_,_,_) ‹_› K3 K9
     ·exact Yf J (Zn (i:=86) J J zeroValue154 J J hw K1) fun bx_29 ho26=>Zu (n:=0) [(6,1),(7,0),(8,0),(9,0),(12,1),(13,3)]<|r1' J (Zh (n:=84) (Qz _ _ _ _ x 2 ‹_› (Xo (2:Int)) (by omega) (show bl (2:Int).natAbs≤3000000000 by decide)) J J J K2 Mo (Zc 3 J J J (Zc 82 J J J Zd)) J hw) fun g_18 hg_18=>r0' J J (stf (Yr J J) K1)<|r0' J J (stf (Yl J J J) K1)<|r0' J J (stf (Yl J J J) K1)<|r1' J (Zm (i:=86) J J J J J (by decide) J Xi J J ⟨Zb J,Zk (i:=84) J Zi,trivial⟩ J hw ho26) fun _ _=>r3' J (Zm (i:=87) J J J J J (by decide) J Xi J J ⟨Zb J,Zk (i:=85) J Zi,trivial⟩ J hw trivial) fun _ _=>Yk<|Yb<|Ql (_,_,_,_,_) ‹_› K3 K9
    ·refine Yf J (Zn (i:=86) J J zeroValue154 J J hw K1) fun bx_30 ho27=>Zu (n:=7) [(4,1)]<|r1' J (Zh (n:=82) (Il _ 1 1 (show bl 1≤4294967296 by decide)) J J J K2 call132 (Xr 81 J J pU Zd) J hw) fun v_14 _=>Yk<|Zlc (Ow 82 J Zi) (fun sw hsw=>?_)
     subst hsw
     exact Zu (n:=0) [(5,0),(6,1),(7,0),(8,0),(9,0),(12,1),(13,3)]<|r0' J J (stf (Oc (ivs:=[(0,_),(1,_)]) J K4 (fun a w hs=>Nd ((Zb J) a w hs) ((Zb J) a w hs))) K1)<|r1' J (Zh (n:=84) (Qz _ _ _ _ x 2 ‹_› (Xo (2:Int)) (by omega) (show bl (2:Int).natAbs≤3000000000 by decide)) J J J K2 Mo (Zc 3 J J J (Zc 82 J J J Zd)) J hw) fun g_19 hg_19=>r0' J J (stf (Yr J J) K1)<|r0' J J (stf (Yl J J J) K1)<|r0' J J (stf (Yl J J J) K1)<|r1' J (Zm (i:=86) J J J J J (by decide) J Xi J J ⟨Zb J,Zk (i:=84) J Zi,trivial⟩ J hw ho27) fun _ _=>r3' J (Zm (i:=87) J J J J J (by decide) J Xi J J ⟨Zb J,Zk (i:=85) J Zi,trivial⟩ J hw trivial) fun _ _=>Yk<|Yb<|Ql (_,_,_,_,_) ‹_› K3 K9
   ·refine Yf J (Zn (i:=86) J J zeroValue154 J J hw K1) fun bx_31 ho28=>Zu (n:=7) [(1,1),(4,1)]<|r1' J (Pm (i:=81) (ivs:=[(0,_)]) (enc:=Hg) (dg U 1) J J K2 Qb ti149 J J J J J pU.cells J J hw) fun v_15 _=>r1' J (Zh (n:=82) (Il _ 1 1 (show bl 1≤4294967296 by decide)) J J J K2 call132 (Xr 81 J J pU Zd) J hw) fun v_16 _=>Yk<|Zlc (Ow 82 J Zi) (fun sw hsw=>?_)
    subst hsw
    exact Zu (n:=0) [(5,0),(6,1),(7,0),(8,0),(9,0),(12,1),(13,3)]<|r0' J J (stf (Oc (ivs:=[(0,_),(1,_)]) J K4 (fun a w hs=>Nd ((Zb J) a w hs) ((Zb J) a w hs))) K1)<|r1' J (Zh (n:=84) (Qz _ _ _ _ x 2 ‹_› (Xo (2:Int)) (by omega) (show bl (2:Int).natAbs≤3000000000 by decide)) J J J K2 Mo (Zc 3 J J J (Zc 82 J J J Zd)) J hw) fun g_20 hg_20=>r0' J J (stf (Yr J J) K1)<|r0' J J (stf (Yl J J J) K1)<|r0' J J (stf (Yl J J J) K1)<|r1' J (Zm (i:=86) J J J J J (by decide) J Xi J J ⟨Zb J,Zk (i:=84) J Zi,trivial⟩ J hw ho28) fun _ _=>r3' J (Zm (i:=87) J J J J J (by decide) J Xi J J ⟨Zb J,Zk (i:=85) J Zi,trivial⟩ J hw trivial) fun _ _=>Yk<|Yb<|Ql (_,_,_,_,_) ‹_› K3 K9
 ·rintro⟨qb,qv,rv,b7,b8⟩ hq
  dsimp only at hq
  simp only [CA,NA]
  exact Ze<|Zg<|dt (Ya (i:=86) J J J Kb Xi J J)<|tt (Zh (n:=4) (Kt _ _ (x/2) ‹_›) J J J K1 call128 (Zc 84 J J J Zd) J hw) fun _ _=>dt (Yl J J J)<|dt (Yl J J J)<|tt (Zm (i:=2) J J J J J (by decide) J Yo J J ⟨Zb J,Zb J,trivial⟩ J hw trivial) fun _ _=>as_ J<|Zf<|Za<|Zw<|Zy (.inl J) hsc () _ (fun a w hs=>Nr hs results83 (Ys (i:=2) J J Qr Yo J) J) J trivial J Zj
theorem Zrr(x:Int)(hx:bl x.natAbs≤65536:=by omega):Cal prog 86 #[wv x] [] true (G:=Value) (fun r=>True) (fun r=>r) (fun r=>[slp 2 wv r (tzl [x])]):=by
 refine Yd func86 J ntmps86 J trivial ?_
 intro w0 sc hw hsc
 simp only [Zq,Zp]
 refine Ze<|Zg<|tt (Yz (i:=1) J J J J J hw) fun bx _=>as_ J<|Zf<|Za<|Ze<|Ze<|Zg<|dt (Ya (i:=1) J J J Qr Yo J J)<|tt (Zh (n:=1) (Ms _ hx) J J J K1 call104 Zd J hw) fun _ _=>dt (Pv J J J)<|Zf<|Za<|Zs J (fun h358=>?_) (fun h358=>?_)
 ·exact Ze<|Zg<|as_ J<|Zf<|Za<|Zw<|Xa<|Zy (.inl J) hsc _ _ (fun a w hs=>Xy hs results86 J) J trivial J (Ln (by rw [show x=0 from Int.sign_eq_zero_iff_zero.1 ‹_›]<;>rfl) Zj)
 ·exact Zl<|Za<|Ze<|Zg<|dt (Ya (i:=1) J J J Qr Yo J J)<|tt (Pm (i:=2) (ivs:=[(0,_)]) (enc:=wv) [x] J J K2 Qx ti31 J J J J J pV.cells J J hw) fun v _=>as_ J<|Zf<|Za<|Zw<|Zy (.inl J) hsc _ _ (fun a w hs=>Xy hs results86 J) J trivial J (Ob 2 J J pV (by rw [tzl_one (fun e=>(show ¬x.sign=0 by assumption) (by rw [e];rfl))]) Zj)
end Go.Sky

