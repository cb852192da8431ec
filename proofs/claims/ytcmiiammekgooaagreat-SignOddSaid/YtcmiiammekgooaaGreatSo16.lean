/- rules, arithmetic and contracts: part 17
   Proved without conditions of its own: each theorem bears its own. -/
import Derived.Test.YtcmiiammekgooaaGreatSo03
import Derived.Test.YtcmiiammekgooaaGreatSo02
import Derived.Test.YtcmiiammekgooaaGreatSo01
import Derived.Test.YtcmiiammekgooaaGreatSo15
set_option linter.all false
namespace Go.Sky
open Go.Proofs
set_option maxRecDepth 20000
set_option maxHeartbeats 4000000
set_option linter.unusedSimpArgs false
theorem sg_neg1(bf bc bs:Nat)(v1 v2 c0 c1 c2 c3:Value)(ls cs:List (SL×List Int))(a b m:R2)(hx:bl m.1.natAbs≤65536)(hy:bl m.2.natAbs≤65536)(hp:0<m.2)(hlsv:∀z∈ls,Vp z.2)(hlsE:∀z∈ls,¬Ke z.2 m.1 m.2):CalP Tryz.prog 64 #[.agg #[.bool (decide (a.1<0)),.string (Xd a.1.natAbs),.bool (decide (a.2<0)),.string (Xd a.2.natAbs),.bool (decide (b.1<0)),.string (Xd b.1.natAbs),.bool (decide (b.2<0)),.string (Xd b.2.natAbs)],.agg #[.bool (decide (m.1<0)),.string (Xd m.1.natAbs),.bool (decide (m.2<0)),.string (Xd m.2.natAbs)],.pointer (some ⟨bf,0,none⟩),.pointer (some ⟨bc,0,none⟩),.pointer (some ⟨bs,0,none⟩)] [Zfj bs 102 #[.int .i64 0],Zfj bc 98 #[v1,v2],Zam 1 Zaz qZ v1 ls,Zam 1 Zaz qZ v2 cs] (box bf 41 #[c0,c1,c2,c3]) (G:=Unit) (fun _=>True) (fun _=> .bool (decide (vlu (ls.map Prod.snd) (m.1,m.2)<0))) (fun _=>box bf 41 #[.bool (decide (m.1<0)),.string (Xd m.1.natAbs),.bool (decide (m.2<0)),.string (Xd m.2.natAbs)]):=by
 refine Zh6 Tryz.func64 J Tryz.ntmps64 J K4 ?_
 intro w0 sc hw hsc
 simp only [Zp,Zn]
 exact Zb<|Zg<|tt (Xl (i:=6) J J J J J J hw) J fun bx _=>tt (Xl (i:=7) J J J J J J hw) J fun bx_2 _=>as_ J J<|Zf<|Za<|Zb<|Zg<|dt (Xi (i:=7) J J J Pp Xx J J J J) J<|tt (Zm (i:=1) J J J J J (by decide) J Xx J J ⟨Zc J,Zc J,Zc J,Zc J,trivial⟩ J hw trivial) J fun _ _=>Zf<|Za<|Zb<|Zg<|dt (d_lr2 (i:=3) J J J Zce Ce J J) J<|dt (Xi (i:=7) J J J Pp Xx J J J J) J<|tt (Zh (n:=7) (Ah _ _ _ _ _ _ _ hx hy hp hlsv hlsE) J J J K3 cF62 (Zd 4 J J J (Zd 5 J J J (Zd 2 J J J Ze))) J hw) J fun _ _=>dt (Qb J J J) J<|as_ J J<|Zf<|Za<|Zu<|Zl9 (.inl J) hsc () _ (fun a w hs=>Qj hs Tryz.results64 J) J trivial 1 J J J J (Zd 2 J J J (Zd 3 J J J (Zd 4 J J J (Zd 5 J J J Ze))))
theorem sg_fst1(bf:Nat)(k:Int)(a b m:R2)(hk:-1000≤k∧k≤1000):CalP Tryz.prog 79 #[.agg #[.bool (decide (a.1<0)),.string (Xd a.1.natAbs),.bool (decide (a.2<0)),.string (Xd a.2.natAbs),.bool (decide (b.1<0)),.string (Xd b.1.natAbs),.bool (decide (b.2<0)),.string (Xd b.2.natAbs)],.agg #[.bool (decide (m.1<0)),.string (Xd m.1.natAbs),.bool (decide (m.2<0)),.string (Xd m.2.natAbs)],.pointer (some ⟨bf,0,none⟩)] [] (box bf 3 #[.int .i64 k]) (G:=Unit) (fun _=>True) (fun _=> .bool (decide (k-1<0))) (fun _=>box bf 3 #[.int .i64 (k-1)]):=by
 refine Zh6 Tryz.func79 J Tryz.ntmps79 J trivial ?_
 intro w0 sc hw hsc
 simp only [Zp,Zn]
 exact Zb<|Zg<|tt (Xl (i:=2) J J J J J J hw) J fun bx _=>tt (Xl (i:=3) J J J J J J hw) J fun bx_2 _=>as_ J J<|Zf<|Za<|Zb<|Zg<|dt (Oa (i:=1) J J J iA3 J) J<|dt (Qg J J J ⟨by omega,by omega⟩) J<|tt (Zm (i:=1) J J J J J (by decide) J zT3 J J ⟨Zc J,trivial⟩ J hw trivial) J fun _ _=>Zf<|Za<|Zb<|Zg<|dt (Oa (i:=1) J J J iA3 J) J<|dt (Qb J J J) J<|as_ J J<|Zf<|Za<|Zu<|Zl9 (.inl J) hsc () _ (fun a w hs=>Qj hs Tryz.results79 J) J trivial 1 J J J J Ze
set_option maxHeartbeats 4000000 in
theorem Zgw(bf bc bs:Nat)(v1 v2:Value)(ls cs:List (SL×List Int))(xs:List Int)(a0 b0:R2)(s t:Rat)(c0 c1 c2 c3:Value)(hd:Cvd xs)(h0:xs≠[])(hgl:ls.map Prod.snd=Nm xs)(hgc:cs.map Prod.snd=chx xs)(hI0:NIn xs s t 0 a0 b0):CalP Tryz.prog 63 #[.agg #[v1,v2],.pointer (some ⟨bs,0,none⟩),.agg #[.bool (decide (a0.1<0)),.string (Xd a0.1.natAbs),.bool (decide (a0.2<0)),.string (Xd a0.2.natAbs),.bool (decide (b0.1<0)),.string (Xd b0.1.natAbs),.bool (decide (b0.2<0)),.string (Xd b0.2.natAbs)],.func (.func 64) #[] #[.pointer (some ⟨bf,0,none⟩),.pointer (some ⟨bc,0,none⟩),.pointer (some ⟨bs,0,none⟩)]] [Zfj bs 102 #[.int .i64 0],Zfj bc 98 #[v1,v2],Zam 1 Zaz qZ v1 ls,Zam 1 Zaz qZ v2 cs] (box bf 41 #[c0,c1,c2,c3]) (G:=R2×R2×R2) (fun r=>Fnd xs s t r.1) (fun r=> .agg #[.bool (decide (r.2.1.1<0)),.string (Xd r.2.1.1.natAbs),.bool (decide (r.2.1.2<0)),.string (Xd r.2.1.2.natAbs),.bool (decide (r.2.2.1<0)),.string (Xd r.2.2.1.natAbs),.bool (decide (r.2.2.2<0)),.string (Xd r.2.2.2.natAbs)]) (fun r=>box bf 41 #[.bool (decide (r.1.1<0)),.string (Xd r.1.1.natAbs),.bool (decide (r.1.2<0)),.string (Xd r.1.2.natAbs)]):=by
 refine Zh6 Tryz.func63 J Tryz.ntmps63 J K4 ?_
 intro w0 sc hw hsc
 simp only [Zp,Zn]
 refine Zb<|Zg<|tt (Xl (i:=6) J J J J J J hw) J fun bx _=>tt (Xl (i:=7) J J J J J J hw) J fun bx_2 _=>tt (Zo (i:=8) J J J Tryz.zeroValue62 J J hw) J fun bx_3 _=>Zf<|Za<|Zb<|Zl<|Nt [(1,_),(3,_),(4,_),(6,_),(8,_)] [(0,_),(2,_),(3,_),(4,_),(5,_),(6,_),(8,_)] (fun(q:R2×R2×Nat×Value×Value×Value×Value)=>[]) (fun(q:R2×R2×Nat×Value×Value×Value×Value)=>[(7,box bx_2 62 #[.bool (decide (q.1.1<0)),.string (Xd q.1.1.natAbs),.bool (decide (q.1.2<0)),.string (Xd q.1.2.natAbs),.bool (decide (q.2.1.1<0)),.string (Xd q.2.1.1.natAbs),.bool (decide (q.2.1.2<0)),.string (Xd q.2.1.2.natAbs)]),(1,box bf 41 #[q.2.2.2.1,q.2.2.2.2.1,q.2.2.2.2.2.1,q.2.2.2.2.2.2])]) (fun(q:R2×R2×Nat×Value×Value×Value×Value)=>NIn xs s t q.2.2.1 q.1 q.2.1) (fun(q:R2×R2×Nat×Value×Value×Value×Value)=>2736-q.2.2.1) (a0,b0,0,c0,c1,c2,c3) (hI0) K5 K9 ?_
 rintro⟨a,b,j,c0,c1,c2,c3⟩ hI
 dsimp only at hI
 simp only [List.cons_append,List.nil_append]
 obtain⟨r1,r2,r3,r4,r5,r6,r7⟩:=hI.round hd h0
 rw [←hgl]at r5 r6 r7
 rw [←hgc]at r6 r7
 refine Zb<|Zb<|Zg<|mv J J<|dt (Ze3 J J) J<|dt (Xy J J Kq J Gg J J) J<|dt (Zw2 (i:=2) J J J Bv J) J<|dt (Ye (r':= .bool true) (Pi J J J) (congrArg Value.bool (by decide))) J<|Zf<|Za<|Nf J<|Zk<|Za<|Zl<|Zb<|Zg<|mv J J<|dt (Xy J J Zpj J Xx J J) J<|dt (Xi (i:=7) J J J Pp Xx J J J J) J<|dt (Xy J J Zpj J Xx J J) J<|dt (Xi (i:=7) J J J Pp Xx J J J J) J<|tt (Zh (n:=8) (Zit _ a.1 a.2 b.1 b.2 (by omega) (by omega) (by omega) (by omega) r3.2.2 r4.2.2 r1) J J J K3 cF94 (Zd 2 J J J Ze) J hw) J fun _ _=>tt (Zo (i:=9) J J J Tryz.zeroValue41 J J hw) J fun bx_4 _=>tt (Zm (i:=9) J J J J J (by decide) J Xx J J ⟨Zc J,Zc J,Zc J,Zc J,trivial⟩ J hw trivial) J fun _ _=>Zf<|Za<|Zb<|Zb<|Zg<|mv J J<|dt (Ze4 (i:=7) J J J Zif Cw J J J J J J J J) J<|dt (Xi (i:=9) J J J Pp Xx J J J J) J ?_
 refine tt (Za4 (i:=1) (fs:=[]) (vs:=[_,_]) (us:=[_,_,_]) (sg_neg1 _ _ _ _ _ _ _ _ _ _ _ a b (Mk a b) (by omega) (by omega) r2.2.2 (Xw hgl (fun q hq=>(Ns hd q hq).1)) (Xw hgl (Kl hd (m:=(Mk a b)) (by omega) (by omega)).1)) J J J J K2 cF64 J J (by decide) (Zd 2 J J J (Zd 3 J J J (Zd 4 J J J (Zd 5 J J J Ze)))) J hw (fun _ _=>trivial)) J fun _ _=>Zf<|Za<|Zq J (fun h228=>?_) (fun h228=>?_)
 ·exact Yu<|Zs<|Zoj (by decide)<|Zs<|Ox<|Za<|Zb<|Zg<|dt (Ze4 (i:=7) J J J Zif Cw J J J J J J J J) J<|tt (Zm (i:=8) J J J J J (by decide) J Cw J J ⟨Zc J,Zc J,Zc J,Zc J,Zc J,Zc J,Zc J,Zc J,trivial⟩ J hw trivial) J fun _ _=>Zf<|Za<|Zu<|Zl9 (.inl J) hsc (Mk a b,a,b) _ (fun a w hs=>Qj hs Tryz.results63 (Yp (i:=8) J J Zif Cw J)) J (r5 (by assumption)) 1 J J J J (Zd 2 J J J (Zd 3 J J J (Zd 4 J J J (Zd 5 J J J Ze))))
 ·refine Zk<|Za<|Zb<|Zg<|dt (Yc (i:=6) J J J Zce Ce J J) J<|mv J J<|dt (Xy J J Zpj J Xx J J) J<|dt (Xi (i:=7) J J J Pp Xx J J J J) J<|dt (Xi (i:=9) J J J Pp Xx J J J J) J<|tt (Zh (n:=9) (Lp _ _ _ _ _ a.1 a.2 (Mk a b).1 (Mk a b).2 (by omega) (by omega) (by omega) (by omega) r3.2.2 r2.2.2 (Xw hgl (fun q hq=>(Ns hd q hq).1)) (Xw hgl (Kl hd (m:=a) (by omega) (by omega)).1) (Xw hgc (fun q hq=>(Gb hd q hq).1)) (Xw hgc (Kl hd (m:=a) (by omega) (by omega)).2) (Xw hgc (Kl hd (m:=(Mk a b)) (by omega) (by omega)).2) (by have h7:=congrArg List.length hgc;rw [List.length_map]at h7;have:=Ey xs;omega)) J J J K4 cF61 (Zd 4 J J J (Zd 5 J J J (Zd 2 J J J Ze))) J hw) J fun _ _=>Zf<|Za<|Mq J (fun h231=>?_) (fun h231=>?_)
  ·exact Zg<|dt (Xi (i:=9) J J J Pp Xx J J J J) J<|dt (Xy J J Zpj J Xx J J) J<|tt (Zkd (cs':=#[]) (i:=7) J J J J J (by decide) J Xx J J ⟨Zc J,Zc J,Zc J,Zc J,trivial⟩ J hw trivial) J fun _ _=>Zf<|Ob<|Xq (a,Mk a b,j+1,_,_,_,_) (r6 (by assumption) (by assumption)) (by have:=hI.j hd h0;dsimp only;omega) K5 K9
  ·exact Zg<|dt (Xi (i:=9) J J J Pp Xx J J J J) J<|dt (Xy J J Zpj J Xx J J) J<|tt (Zkd (cs':=#[]) (i:=7) J J J J J (by decide) J Xx J J ⟨Zc J,Zc J,Zc J,Zc J,trivial⟩ J hw trivial) J fun _ _=>Zf<|Ob<|Xq (Mk a b,b,j+1,_,_,_,_) (r7 (by assumption) (by assumption)) (by have:=hI.j hd h0;dsimp only;omega) K5 K9
set_option maxHeartbeats 4000000 in
theorem Ei(bf bs:Nat)(v1 v2:Value)(ls cs:List (SL×List Int))(xs:List Int)(a0 b0:R2)(hq:Nat)(hh:hq≤100)(hd:Cvd xs)(hgl:ls.map Prod.snd=Nm xs)(hgc:cs.map Prod.snd=chx xs)(hI0:FIn xs 0 a0 b0):CalP Tryz.prog 63 #[.agg #[v1,v2],.pointer (some ⟨bs,0,none⟩),.agg #[.bool (decide (a0.1<0)),.string (Xd a0.1.natAbs),.bool (decide (a0.2<0)),.string (Xd a0.2.natAbs),.bool (decide (b0.1<0)),.string (Xd b0.1.natAbs),.bool (decide (b0.2<0)),.string (Xd b0.2.natAbs)],.func (.func 79) #[] #[.pointer (some ⟨bf,0,none⟩)]] [Zfj bs 102 #[.int .i64 0],Zam 1 Zaz qZ v1 ls,Zam 1 Zaz qZ v2 cs] (box bf 3 #[.int .i64 (hq:Int)]) (G:=Unit) (fun _=>True) (fun _=> .agg #[.bool (decide ((frs xs hq a0 b0).1.1<0)),.string (Xd (frs xs hq a0 b0).1.1.natAbs),.bool (decide ((frs xs hq a0 b0).1.2<0)),.string (Xd (frs xs hq a0 b0).1.2.natAbs),.bool (decide ((frs xs hq a0 b0).2.1<0)),.string (Xd (frs xs hq a0 b0).2.1.natAbs),.bool (decide ((frs xs hq a0 b0).2.2<0)),.string (Xd (frs xs hq a0 b0).2.2.natAbs)]) (fun _=>box bf 3 #[.int .i64 (-1)]):=by
 refine Zh6 Tryz.func63 J Tryz.ntmps63 J K3 ?_
 intro w0 sc hw hsc
 simp only [Zp,Zn]
 refine Zb<|Zg<|tt (Xl (i:=5) J J J J J J hw) J fun bx _=>tt (Xl (i:=6) J J J J J J hw) J fun bx_2 _=>tt (Zo (i:=7) J J J Tryz.zeroValue62 J J hw) J fun bx_3 _=>Zf<|Za<|Zb<|Zl<|Nt [(1,_),(3,_),(4,_),(6,_),(8,_)] [(0,_),(2,_),(3,_),(4,_),(5,_),(7,_)] (fun(q:R2×R2×Nat)=>[]) (fun(q:R2×R2×Nat)=>[(6,box bx_2 62 #[.bool (decide (q.1.1<0)),.string (Xd q.1.1.natAbs),.bool (decide (q.1.2<0)),.string (Xd q.1.2.natAbs),.bool (decide (q.2.1.1<0)),.string (Xd q.2.1.1.natAbs),.bool (decide (q.2.1.2<0)),.string (Xd q.2.1.2.natAbs)]),(1,box bf 3 #[.int .i64 ((hq:Int)-(q.2.2:Int))])]) (fun(q:R2×R2×Nat)=>(FIn xs q.2.2 q.1 q.2.1)∧(q.2.2≤hq)∧(frs xs (hq-q.2.2) q.1 q.2.1=frs xs hq a0 b0)) (fun(q:R2×R2×Nat)=>hq+1-q.2.2) (a0,b0,0) ⟨hI0,by first | omega | (dsimp only<;>omega),rfl⟩ K5 ⟨J,(by rw [show((hq:Int)-((0:Nat):Int))=(hq:Int) by omega]<;>rfl),J,J,J,J,J,J,trivial⟩ ?_
 rintro⟨a,b,j⟩ ⟨hI,hj,hF⟩
 dsimp only at hI hj hF
 simp only [List.cons_append,List.nil_append]
 obtain⟨r1,r2,r3,r4,r5⟩:=hI.round
 refine Zb<|Zb<|Zg<|mv J J<|dt (Ze3 J J) J<|dt (Xy J J Kq J Gg J J) J<|dt (Zw2 (i:=2) J J J Bv J) J<|dt (Ye (r':= .bool true) (Pi J J J) (congrArg Value.bool (by decide))) J<|Zf<|Za<|Nf J<|Zk<|Za<|Zl<|Zb<|Zg<|mv J J<|dt (Xy J J Zpj J Xx J J) J<|dt (Xi (i:=6) J J J Pp Xx J J J J) J<|dt (Xy J J Zpj J Xx J J) J<|dt (Xi (i:=6) J J J Pp Xx J J J J) J<|tt (Zh (n:=7) (Zit _ a.1 a.2 b.1 b.2 (by omega) (by omega) (by omega) (by omega) r3.2.2 r4.2.2 r1) J J J K3 cF94 (Zd 2 J J J Ze) J hw) J fun _ _=>tt (Zo (i:=8) J J J Tryz.zeroValue41 J J hw) J fun bx_4 _=>tt (Zm (i:=8) J J J J J (by decide) J Xx J J ⟨Zc J,Zc J,Zc J,Zc J,trivial⟩ J hw trivial) J fun _ _=>Zf<|Za<|Zb<|Zb<|Zg<|mv J J<|dt (Ze4 (i:=6) J J J Zif Cw J J J J J J J J) J<|dt (Xi (i:=8) J J J Pp Xx J J J J) J<|tt (Za4 (i:=1) (fs:=[]) (vs:=[_,_]) (us:=[_]) (sg_fst1 _ _ a b (Mk a b) ⟨by omega,by omega⟩) J J J J K2 cF79 J J (by decide) Ze J hw (fun _ _=>trivial)) J fun _ _=>Zf<|Za<|Zq J (fun h228=>?_) (fun h228=>?_)
 ·exact Yu<|Zs<|Zoj (by decide)<|Zs<|Ox<|Za<|Zb<|Zg<|dt (Ze4 (i:=6) J J J Zif Cw J J J J J J J J) J<|tt (Zm (i:=7) J J J J J (by decide) J Cw J J ⟨Zc J,Zc J,Zc J,Zc J,Zc J,Zc J,Zc J,Zc J,trivial⟩ J hw trivial) J fun _ _=>Zf<|Za<|Zu<|Zl9 (.inl J) hsc () _ (fun a w hs=>Qj hs Tryz.results63 (Yp (i:=7) J J Zif Cw J)) (by rw [←hF,show hq-j=0 by omega]<;>rfl) trivial 1 (by rw [show(-1:Int)=(hq:Int)-(j:Int)-1 by omega]<;>rfl) J J J (Zd 2 J J J (Zd 3 J J J (Zd 4 J J J Ze)))
 ·refine Zk<|Za<|Zb<|Zg<|dt (Yc (i:=5) J J J Zce Ce J J) J<|mv J J<|dt (Xy J J Zpj J Xx J J) J<|dt (Xi (i:=6) J J J Pp Xx J J J J) J<|dt (Xi (i:=8) J J J Pp Xx J J J J) J<|tt (Zh (n:=8) (Lp _ _ _ _ _ a.1 a.2 (Mk a b).1 (Mk a b).2 (by omega) (by omega) (by omega) (by omega) r3.2.2 r2.2.2 (Xw hgl (fun q hq=>(Ns hd q hq).1)) (Xw hgl (Kl hd (m:=a) (by omega) (by omega)).1) (Xw hgc (fun q hq=>(Gb hd q hq).1)) (Xw hgc (Kl hd (m:=a) (by omega) (by omega)).2) (Xw hgc (Kl hd (m:=(Mk a b)) (by omega) (by omega)).2) (by have h7:=congrArg List.length hgc;rw [List.length_map]at h7;have:=Ey xs;omega)) J J J K4 cF61 (Zd 3 J J J (Zd 4 J J J (Zd 2 J J J Ze))) J hw) J fun _ _=>Zf<|Za<|Mq J (fun h231=>?_) (fun h231=>?_)
  ·exact Zg<|dt (Xi (i:=8) J J J Pp Xx J J J J) J<|dt (Xy J J Zpj J Xx J J) J<|tt (Zkd (cs':=#[]) (i:=6) J J J J J (by decide) J Xx J J ⟨Zc J,Zc J,Zc J,Zc J,trivial⟩ J hw trivial) J fun _ _=>Zf<|Ob<|Xq (a,Mk a b,j+1) ⟨(r5 (by omega)).1,by first | omega | (dsimp only<;>omega),by dsimp only;rw [←hF,show hq-j=(hq-(j+1))+1 by omega,Zns,←hgl,←hgc,if_pos (by assumption)]⟩ (by dsimp only;omega) K5 ⟨J,(by rw [show((hq:Int)-((j+1:Nat):Int))=(hq:Int)-(j:Int)-1 by omega]<;>rfl),J,J,J,J,J,J,trivial⟩
  ·exact Zg<|dt (Xi (i:=8) J J J Pp Xx J J J J) J<|dt (Xy J J Zpj J Xx J J) J<|tt (Zkd (cs':=#[]) (i:=6) J J J J J (by decide) J Xx J J ⟨Zc J,Zc J,Zc J,Zc J,trivial⟩ J hw trivial) J fun _ _=>Zf<|Ob<|Xq (Mk a b,b,j+1) ⟨(r5 (by omega)).2,by first | omega | (dsimp only<;>omega),by dsimp only;rw [←hF,show hq-j=(hq-(j+1))+1 by omega,Zns,←hgl,←hgc,if_neg (by rw [show ngb _ _ a (Mk a b)=false by assumption];decide)]⟩ (by dsimp only;omega) K5 ⟨J,(by rw [show((hq:Int)-((j+1:Nat):Int))=(hq:Int)-(j:Int)-1 by omega]<;>rfl),J,J,J,J,J,J,trivial⟩
end Go.Sky
namespace Go.Sky
open Go.Proofs
set_option maxRecDepth 20000
set_option maxHeartbeats 4000000
set_option linter.unusedSimpArgs false
set_option maxHeartbeats 4000000 in
theorem Di(v:Value)(xs:List Int)(a b:R2)(hd:Cvd xs)(ha:E32 a)(hb:E32 b)(hc:¬0<cmp a b)(hn:ngb (Nm xs) (chx xs) a b=true):Cal Tryz.prog 21 #[v,.agg #[.bool (decide (a.1<0)),.string (Xd a.1.natAbs),.bool (decide (a.2<0)),.string (Xd a.2.natAbs)],.agg #[.bool (decide (b.1<0)),.string (Xd b.1.natAbs),.bool (decide (b.2<0)),.string (Xd b.2.natAbs)]] [slp 2 wv v xs] false (G:=R2) (fun r=>Fnd xs (qv a) (qv b) r) (fun r=> .tuple #[.agg #[.bool (decide (r.1<0)),.string (Xd r.1.natAbs),.bool (decide (r.2<0)),.string (Xd r.2.natAbs)],.bool true,.int .i64 0]) (fun r=>[]):=by
 refine Yd Tryz.func21 J Tryz.ntmps21 J K1 ?_
 intro w0 sc hw hsc
 simp only [Zp,Zn]
 have ha1:=ha.b1
 have ha2:=ha.b2
 have hap:=ha.p
 have hb1:=hb.b1
 have hb2:=hb.b2
 have hbp:=hb.p
 have hle:=Ztl ha hb hc
 have h0:=ngb_ne hn
 have hE2:=e32_two ha hb
 have hLl:([slow a,slow b]:List R2).length=2:=rfl
 refine Ys (Nj 999 2 31 wv)<|Ys (Po 999 J J pV)<|Zb<|Zg<|tt (Xl (i:=2) J J J J J J hw) J fun bx _=>tt (Xl (i:=3) J J J J J J hw) J fun bx_2 _=>tt (Zo (i:=4) J J J Tryz.zeroValue41 J J hw) J fun bx_3 _=>as_ J J<|as_ J J<|Zf<|Za<|Zb<|Zb<|Zg<|mv J J<|dt (Xi (i:=2) J J J Pp Xx J J J J) J<|dt (Xi (i:=3) J J J Pp Xx J J J J) J<|tt (Zh (n:=4) (Zcl _ _ a.1 a.2 b.1 b.2 (by omega) (by omega) (by omega) (by omega) hap hbp hd.v (Ev hd (by omega)) ha.efit hb.efit) J J J K4 cF58 (Zd 1 J J J Ze) J hw) J fun _ _=>as_ J J<|Zf<|Za<|Zb<|Zg<|mv J J<|dt (Ye (r':= .bool false) (Qd J J J) (congrArg Value.bool (decide_eq_false (fun h=>h (if_neg hc))))) J<|Zf<|Za<|Yf J<|Zk<|Za<|Zb<|Zg<|mv J J<|tt (Zh (n:=5) (Zki _ _ hd) J J J K1 cF59 (Zd 1 J J J Ze) J hw) J (fun g hg=>?_)
 obtain⟨hgl,hgc⟩:=hg
 refine mv J J<|dt (Yg J J J) J<|dt (Yg J J J) J<|tt (Zo (i:=7) J J J Tryz.zeroValue98 J J hw) J fun bx_4 _=>tt (Zm (i:=7) J J J J J (by decide) J Ce J J ⟨Zr (i:=5) J Zz,Zr (i:=6) J Zz,trivial⟩ J hw trivial) J fun _ _=>as_ J J<|Zf<|Za<|Zb<|Zb<|Zg<|mv J J<|dt (Ye (r':= .bool false) (Qd J J J) (congrArg Value.bool (by decide))) J<|Zf<|Za<|Yf J<|Zk<|Za<|Zb<|Zg<|tt (Zo (i:=8) J J J Tryz.zeroValue102 J J hw) J fun bx_5 _=>Zf<|Za<|Zb<|Zg<|dt (Xi (i:=2) J J J Pp Xx J J J J) J<|dt (Xi (i:=3) J J J Pp Xx J J J J) J<|tt (Zh (n:=8) (Ai a.1 a.2 b.1 b.2 (by omega) (by omega) (by omega) (by omega) hap hbp) J J J K2 cF60 Ze J hw) J fun _ _=>tt (Zo (i:=9) J J J Tryz.zeroValue62 J J hw) J fun bx_6 _=>tt (Zm (i:=9) J J J J J (by decide) J Cw J J ⟨Zc J,Zc J,Zc J,Zc J,Zc J,Zc J,Zc J,Zc J,trivial⟩ J hw trivial) J fun _ _=>Zf<|Za<|Zb<|Zg<|dt (Yc (i:=7) J J J Zce Ce J J) J<|dt (Xi (i:=2) J J J Pp Xx J J J J) J<|dt (Xi (i:=3) J J J Pp Xx J J J J) J ?_
 refine tt (Zh (n:=9) (Lp _ _ _ _ _ a.1 a.2 b.1 b.2 (by omega) (by omega) (by omega) (by omega) hap hbp (Xw hgl (fun q hq=>(Ns hd q hq).1)) (Xw hgl (Kl hd (m:=a) (by omega) (by omega)).1) (Xw hgc (fun q hq=>(Gb hd q hq).1)) (Xw hgc (Kl hd (m:=a) (by omega) (by omega)).2) (Xw hgc (Kl hd (m:=b) (by omega) (by omega)).2) (by have h7:=congrArg List.length hgc;rw [List.length_map]at h7;have:=Ey xs;omega)) J J J K4 cF61 (Zd 5 J J J (Zd 6 J J J (Ng 8 J J Ze))) J hw) J fun _ _=>as_ J J<|Zf<|Za<|Zb<|Zb<|Zg<|dt (Xy J J Kq J Gg J J) J<|dt (Oa (i:=8) J J J Bv J) J<|dt (Ye (r':= .bool false) (Qd J J J) (congrArg Value.bool (by decide))) J<|mv J J<|gdt (Ym J J) J J J J<|gdt (Ye (r':= .bool false) (Xo J J) (congrArg Value.bool (by rw [hgl,hgc];show(!ngb (Nm xs) (chx xs) a b)=false;rw [hn];rfl))) J J J J<|dt (Yh J J J) J<|Zf<|Za<|Yf J<|Zk<|Za<|Zb<|Zb<|Zg<|dt (Xy J J Zpj J Xx J J) J<|dt (Xi (i:=9) J J J Pp Xx J J J J) J<|dt (Xy J J Zpj J Xx J J) J<|dt (Xi (i:=9) J J J Pp Xx J J J J) J ?_
 refine tt (Pt (i:=10) (ivs:=[(0,_),(1,_)]) (enc:=rq) ([slow a,slow b]:List R2) J J J K4 uT83 Tryz.ti41 J J J (fill24 _ _ _ _ _ _ _ _ _ _ _ _) J J pQ.cells J J hw) J fun v _=>dt (Zy J J (i:=10) J (Yn pQ) uT83) J<|mv J J<|Zf<|Za<|Zl<|Nt [(6,_),(10,_),(12,_),(13,_),(56,_),(57,_)] [(0,_),(1,_),(999,_),(2,_),(3,_),(4,_),(5,_),(6,_),(7,_),(8,_),(9,_),(10,_)] (fun(i:Nat)=>[(58,.int .i64 (i:Int))]) (fun(i:Nat)=>[]) (fun(i:Nat)=>(i≤2)∧(∀k,k<i→¬vlu (g.2.1.map Prod.snd) ([slow a,slow b].getD k (0,0))<0)) (fun(i:Nat)=>2-i) 0 ⟨by first | omega | (dsimp only<;>omega),fun k hk=>absurd hk (Nat.not_lt_zero k)⟩ K7 K12 ?_
 rintro i ⟨hi,hz⟩
 simp only [List.cons_append,List.nil_append]
 refine Zb<|Zg<|dt (Qb J J J) J<|Zf<|Za<|Zb<|Zq J (fun h262=>?_) (fun h262=>?_)
 ·refine Zk<|Za<|Zb<|Zl<|Zb<|Zg<|dt (Yz (ii:=10) J J J J (Yn pQ) uT83 Xx J (by first | omega | (simp only [List.length_set];omega))) J<|dt (Xs (ii:=10) (0,0) J J J (Yn pQ) pQ (by first | omega | (simp only [List.length_set];omega))) J<|tt (Zo (i:=11) J J J Tryz.zeroValue41 J J hw) J fun bx_7 _=>tt (Zm (i:=11) J J J J J (by decide) J Xx J J ⟨Zc J,Zc J,Zc J,Zc J,trivial⟩ J hw trivial) J fun _ _=>Zf<|Za<|Zb ?_
  have hEi:=hE2 i (by omega)
  have hEb1:=hEi.b1
  have hEb2:=hEi.b2
  refine Zg<|dt (Yc (i:=7) J J J Zce Ce J J) J<|dt (Xi (i:=11) J J J Pp Xx J J J J) J<|tt (Zh (n:=11) (Ah _ _ _ _ _ ([slow a,slow b].getD i (0,0)).1 ([slow a,slow b].getD i (0,0)).2 (by omega) (by omega) hEi.p (Xw hgl (fun q hq=>(Ns hd q hq).1)) (Xw hgl (Kl hd (m:=([slow a,slow b].getD i (0,0))) (by omega) (by omega)).1)) J J J K3 cF62 (Zd 5 J J J (Zd 6 J J J (Ng 8 J J Ze))) J hw) J fun _ _=>dt (Qb J J J) J<|Zf<|Za<|Zq J (fun h263=>?_) (fun h263=>?_)
  ·exact Zb<|Nr [8,11] [5] (by kernel_rfl)<|Zx (n:=0) [(0,0),(1,0),(2,0),(3,1),(4,0),(5,3)] (by kernel_rfl)<|r0' J J J J (stf (Xi (i:=11) J J J Pp Xx J J J J) K2)<|r0' J J J J (stf (Xy J J Kq J Gg J J) K2)<|r0' J J J J (stf (Oa (i:=8) J J J Bv J) K2)<|r1' J J (Zgl 4 J J K2 (fun ob=>(Zm (i:=4) J J J J J (by decide) J Xx J J ⟨Zc J,Zc J,Zc J,Zc J,trivial⟩ J hw ob))) fun _ _=>r0' J J J J (stf (Kk J J) K2)<|r3' J J (Od (Kk J J) J J) fun _ _=>Yr<|Yl (by kernel_rfl)<|Za<|Zu<|Iw<|Xe<|Xe<|Iw<|Xe<|Zv (.inl J) hsc ([slow a,slow b].getD i (0,0)) _ (fun a w hs=>res3 hs Tryz.results21 (Yp (i:=4) J J Pp Xx J) J J) J (neg_two ha hb hle (by omega) (by rw [←hgl];assumption)) J Zj
  ·exact Zk<|Ob<|Za<|Zg<|dt (Yt J J J ⟨by omega,by omega⟩) J<|mv J J<|Zf<|Xq (i+1) ⟨by first | omega | (dsimp only<;>omega),fun k hk2=>by rcases Nat.lt_succ_iff_lt_or_eq.1 hk2 with h9 | h9;exact hz k h9;subst h9;assumption⟩ (by first | omega | (dsimp only<;>omega)) K7 K12
 ·refine Yu<|Zs<|Zs<|Ox<|Za<|Zb ?_
  have hI0:=Zrt hd ha hb hle (by have h9:=hz 0 (by omega);rw [hgl]at h9;exact h9) (by have h9:=hz 1 (by omega);rw [hgl]at h9;exact h9) hn
  exact Zg<|tt (Zo (i:=12) J J J Tryz.zeroValue41 J J hw) J fun bx_8 _=>Zf<|Za<|Zb<|Zg<|dt (Yc (i:=7) J J J Zce Ce J J) J<|dt (Ze4 (i:=9) J J J Zif Cw J J J J J J J J) J<|dt (d_mkc (vs:=[]) (us:=[_,_,_]) J trivial K3) J<|tt (Za4 (i:=12) (fs:=[]) (vs:=[_,_,_,_]) (us:=[]) (Zgw _ _ _ _ _ _ _ xs (slow a) (slow b) (qv a) (qv b) _ _ _ _ hd h0 hgl hgc hI0) J J J J K4 cF63 J J (by decide) (Ng 8 J J (Ng 7 J J (Zd 5 J J J (Zd 6 J J J Ze)))) J hw (fun _ _=>trivial)) J fun g_2 hg_2=>Zf<|Za<|Zb<|Zb<|Zg<|dt (Xy J J Kq J Gg J J) J<|dt (Oa (i:=8) J J J Bv J) J<|dt (Ye (r':= .bool false) (Qd J J J) (congrArg Value.bool (by decide))) J<|Zf<|Za<|Yf J<|Zk<|Za<|Zb<|Zg<|dt (Xi (i:=12) J J J Pp Xx J J J J) J<|tt (Zm (i:=4) J J J J J (by decide) J Xx J J ⟨Zc J,Zc J,Zc J,Zc J,trivial⟩ J hw trivial) J fun _ _=>as_ J J<|as_ J J<|Zf<|Za<|Zu<|Zv (.inl J) hsc (g_2.1) _ (fun a w hs=>res3 hs Tryz.results21 (Yp (i:=4) J J Pp Xx J) J J) J hg_2 J Zj
set_option maxHeartbeats 4000000 in
theorem Bc(v:Value)(xs:List Int)(a b:R2)(hd:Cvd xs)(ha:E32 a)(hb:E32 b)(hc:¬0<cmp a b)(hn:ngb (Nm xs) (chx xs) a b=false):Cal Tryz.prog 21 #[v,.agg #[.bool (decide (a.1<0)),.string (Xd a.1.natAbs),.bool (decide (a.2<0)),.string (Xd a.2.natAbs)],.agg #[.bool (decide (b.1<0)),.string (Xd b.1.natAbs),.bool (decide (b.2<0)),.string (Xd b.2.natAbs)]] [slp 2 wv v xs] false (G:=Unit) (fun _=>True) (fun _=> .tuple #[.agg #[.bool false,.string ⟨#[]⟩,.bool false,.string ⟨#[]⟩],.bool false,.int .i64 0]) (fun _=>[]):=by
 refine Yd Tryz.func21 J Tryz.ntmps21 J K1 ?_
 intro w0 sc hw hsc
 simp only [Zp,Zn]
 have ha1:=ha.b1
 have ha2:=ha.b2
 have hap:=ha.p
 have hb1:=hb.b1
 have hb2:=hb.b2
 have hbp:=hb.p
 refine Ys (Nj 999 2 31 wv)<|Ys (Po 999 J J pV)<|Zb<|Zg<|tt (Xl (i:=2) J J J J J J hw) J fun bx _=>tt (Xl (i:=3) J J J J J J hw) J fun bx_2 _=>tt (Zo (i:=4) J J J Tryz.zeroValue41 J J hw) J fun bx_3 _=>as_ J J<|as_ J J<|Zf<|Za<|Zb<|Zb<|Zg<|mv J J<|dt (Xi (i:=2) J J J Pp Xx J J J J) J<|dt (Xi (i:=3) J J J Pp Xx J J J J) J<|tt (Zh (n:=4) (Zcl _ _ a.1 a.2 b.1 b.2 (by omega) (by omega) (by omega) (by omega) hap hbp hd.v (Ev hd (by omega)) ha.efit hb.efit) J J J K4 cF58 (Zd 1 J J J Ze) J hw) J fun _ _=>as_ J J<|Zf<|Za<|Zb<|Zg<|mv J J<|dt (Ye (r':= .bool false) (Qd J J J) (congrArg Value.bool (decide_eq_false (fun h=>h (if_neg hc))))) J<|Zf<|Za<|Yf J<|Zk<|Za<|Zb<|Zg<|mv J J<|tt (Zh (n:=5) (Zki _ _ hd) J J J K1 cF59 (Zd 1 J J J Ze) J hw) J (fun g hg=>?_)
 obtain⟨hgl,hgc⟩:=hg
 refine mv J J<|dt (Yg J J J) J<|dt (Yg J J J) J<|tt (Zo (i:=7) J J J Tryz.zeroValue98 J J hw) J fun bx_4 _=>tt (Zm (i:=7) J J J J J (by decide) J Ce J J ⟨Zr (i:=5) J Zz,Zr (i:=6) J Zz,trivial⟩ J hw trivial) J fun _ _=>as_ J J<|Zf<|Za<|Zb<|Zb<|Zg<|mv J J<|dt (Ye (r':= .bool false) (Qd J J J) (congrArg Value.bool (by decide))) J<|Zf<|Za<|Yf J<|Zk<|Za<|Zb<|Zg<|tt (Zo (i:=8) J J J Tryz.zeroValue102 J J hw) J fun bx_5 _=>Zf<|Za<|Zb<|Zg<|dt (Xi (i:=2) J J J Pp Xx J J J J) J<|dt (Xi (i:=3) J J J Pp Xx J J J J) J<|tt (Zh (n:=8) (Ai a.1 a.2 b.1 b.2 (by omega) (by omega) (by omega) (by omega) hap hbp) J J J K2 cF60 Ze J hw) J fun _ _=>tt (Zo (i:=9) J J J Tryz.zeroValue62 J J hw) J fun bx_6 _=>tt (Zm (i:=9) J J J J J (by decide) J Cw J J ⟨Zc J,Zc J,Zc J,Zc J,Zc J,Zc J,Zc J,Zc J,trivial⟩ J hw trivial) J fun _ _=>Zf<|Za<|Zb<|Zg<|dt (Yc (i:=7) J J J Zce Ce J J) J<|dt (Xi (i:=2) J J J Pp Xx J J J J) J<|dt (Xi (i:=3) J J J Pp Xx J J J J) J ?_
 refine tt (Zh (n:=9) (Lp _ _ _ _ _ a.1 a.2 b.1 b.2 (by omega) (by omega) (by omega) (by omega) hap hbp (Xw hgl (fun q hq=>(Ns hd q hq).1)) (Xw hgl (Kl hd (m:=a) (by omega) (by omega)).1) (Xw hgc (fun q hq=>(Gb hd q hq).1)) (Xw hgc (Kl hd (m:=a) (by omega) (by omega)).2) (Xw hgc (Kl hd (m:=b) (by omega) (by omega)).2) (by have h7:=congrArg List.length hgc;rw [List.length_map]at h7;have:=Ey xs;omega)) J J J K4 cF61 (Zd 5 J J J (Zd 6 J J J (Ng 8 J J Ze))) J hw) J fun _ _=>as_ J J<|Zf<|Za<|Zb<|Zb<|Zg<|dt (Xy J J Kq J Gg J J) J<|dt (Oa (i:=8) J J J Bv J) J<|dt (Ye (r':= .bool false) (Qd J J J) (congrArg Value.bool (by decide))) J<|mv J J<|gdt (Ym J J) J J J J<|gdt (Ye (r':= .bool true) (Xo J J) (congrArg Value.bool (by rw [hgl,hgc];show(!ngb (Nm xs) (chx xs) a b)=true;rw [hn];rfl))) J J J J<|dt (Yh J J J) J<|Zf<|Za<|Nf J<|Zb<|Nr [8] [5] (by kernel_rfl)<|Zx (n:=0) [(0,0),(1,0),(2,0),(3,1),(4,0),(5,3)] (by kernel_rfl)<|r0' J J J J (stf (Oh (ivs:=[]) J trivial (fun a w hs=>b41_)) K1)<|r0' J J J J (stf (Xy J J Kq J Gg J J) K1)<|r0' J J J J (stf (Oa (i:=8) J J J Bv J) K1) ?_
 exact r1' J J (Zgl 4 J J K1 (fun ob=>(Zm (i:=4) J J J J J (by decide) J Xx J J ⟨Zc J,Zc J,Zc J,Zc J,trivial⟩ J hw ob))) fun _ _=>r0' J J J J (stf (Kk J J) K1)<|r3' J J (Od (Kk J J) J J) fun _ _=>Yr<|Yl (by kernel_rfl)<|Za<|Zu<|Xe<|Zv (.inl J) hsc () _ (fun a w hs=>res3 hs Tryz.results21 (Yp (i:=4) J J Pp Xx J) J J) J trivial J Zj
set_option maxHeartbeats 4000000 in
theorem Zds(v:Value)(xs:List Int)(a b:R2)(hd:Cvd xs)(ha:E32 a)(hb:E32 b)(hq:Nat)(hh:hq≤100)(hc:¬0<cmp a b)(hn:ngb (Nm xs) (chx xs) a b=true):Cal Tryz.prog 31 #[v,.agg #[.bool (decide (a.1<0)),.string (Xd a.1.natAbs),.bool (decide (a.2<0)),.string (Xd a.2.natAbs)],.agg #[.bool (decide (b.1<0)),.string (Xd b.1.natAbs),.bool (decide (b.2<0)),.string (Xd b.2.natAbs)],.int .i64 (hq:Int)] [slp 2 wv v xs] false (G:=Unit) (fun _=>True) (fun _=> .tuple #[.agg #[.bool (decide ((frs xs hq (slow a) (slow b)).1.1<0)),.string (Xd (frs xs hq (slow a) (slow b)).1.1.natAbs),.bool (decide ((frs xs hq (slow a) (slow b)).1.2<0)),.string (Xd (frs xs hq (slow a) (slow b)).1.2.natAbs),.bool (decide ((frs xs hq (slow a) (slow b)).2.1<0)),.string (Xd (frs xs hq (slow a) (slow b)).2.1.natAbs),.bool (decide ((frs xs hq (slow a) (slow b)).2.2<0)),.string (Xd (frs xs hq (slow a) (slow b)).2.2.natAbs)],.int .i64 0]) (fun _=>[]):=by
 refine Yd Tryz.func31 J Tryz.ntmps31 J K1 ?_
 intro w0 sc hw hsc
 simp only [Zp,Zn]
 have ha1:=ha.b1
 have ha2:=ha.b2
 have hap:=ha.p
 have hb1:=hb.b1
 have hb2:=hb.b2
 have hbp:=hb.p
 have hle:=Ztl ha hb hc
 have hI0:=FIn.start (xs:=xs) ha hb hle
 refine Ys (Nj 999 2 31 wv)<|Ys (Po 999 J J pV)<|Zb<|Zg<|tt (Xl (i:=2) J J J J J J hw) J fun bx _=>tt (Xl (i:=3) J J J J J J hw) J fun bx_2 _=>tt (Zo (i:=4) J J J Tryz.zeroValue62 J J hw) J fun bx_3 _=>as_ J J<|Zf<|Za<|Zb<|Zb<|Zg<|mv J J<|dt (Ye (r':= .bool false) (Qb J J J) (congrArg Value.bool (decide_eq_false (by omega)))) J<|mv J J<|gdt (Ym J J) J J J J<|gdt (Ye (r':= .bool false) (On J J J) (congrArg Value.bool (decide_eq_false (by omega)))) J J J J<|dt (Yh J J J) J<|Zf<|Za<|Yf J<|Zk<|Za<|Zb<|Zb<|Zg<|mv J J<|dt (Xi (i:=2) J J J Pp Xx J J J J) J<|dt (Xi (i:=3) J J J Pp Xx J J J J) J<|tt (Zh (n:=4) (Zcl _ _ a.1 a.2 b.1 b.2 (by omega) (by omega) (by omega) (by omega) hap hbp hd.v (Ev hd (by omega)) ha.efit hb.efit) J J J K4 cF58 (Zd 1 J J J Ze) J hw) J fun _ _=>as_ J J<|Zf<|Za<|Zb<|Zg<|mv J J<|dt (Ye (r':= .bool false) (Qd J J J) (congrArg Value.bool (decide_eq_false (fun h=>h (if_neg hc))))) J<|Zf<|Za<|Yf J<|Zk<|Za<|Zb<|Zg<|mv J J<|tt (Zh (n:=5) (Zki _ _ hd) J J J K1 cF59 (Zd 1 J J J Ze) J hw) J (fun g hg=>?_)
 obtain⟨hgl,hgc⟩:=hg
 refine mv J J<|dt (Yg J J J) J<|dt (Yg J J J) J<|tt (Zo (i:=7) J J J Tryz.zeroValue98 J J hw) J fun bx_4 _=>tt (Zm (i:=7) J J J J J (by decide) J Ce J J ⟨Zr (i:=5) J Zz,Zr (i:=6) J Zz,trivial⟩ J hw trivial) J fun _ _=>as_ J J<|Zf<|Za<|Zb<|Zb<|Zg<|mv J J<|dt (Ye (r':= .bool false) (Qd J J J) (congrArg Value.bool (by decide))) J<|Zf<|Za<|Yf J<|Zk<|Za<|Zb<|Zg<|tt (Zo (i:=8) J J J Tryz.zeroValue102 J J hw) J fun bx_5 _=>Zf<|Za<|Zb<|Zb<|Zg<|dt (Yc (i:=7) J J J Zce Ce J J) J<|dt (Xi (i:=2) J J J Pp Xx J J J J) J<|dt (Xi (i:=3) J J J Pp Xx J J J J) J<|tt (Zh (n:=8) (Lp _ _ _ _ _ a.1 a.2 b.1 b.2 (by omega) (by omega) (by omega) (by omega) hap hbp (Xw hgl (fun q hq=>(Ns hd q hq).1)) (Xw hgl (Kl hd (m:=a) (by omega) (by omega)).1) (Xw hgc (fun q hq=>(Gb hd q hq).1)) (Xw hgc (Kl hd (m:=a) (by omega) (by omega)).2) (Xw hgc (Kl hd (m:=b) (by omega) (by omega)).2) (by have h7:=congrArg List.length hgc;rw [List.length_map]at h7;have:=Ey xs;omega)) J J J K4 cF61 (Zd 5 J J J (Zd 6 J J J (Ng 8 J J Ze))) J hw) J (fun _ _=>?_)
 refine dt (Ye (r':= .bool false) (Xo J J) (congrArg Value.bool (by rw [hgl,hgc];show(!ngb (Nm xs) (chx xs) a b)=false;rw [hn];rfl))) J<|Zf<|Za<|Yf J<|Zk<|Za<|Zb<|Zg<|mv J J<|tt (Zo (i:=9) J J J Tryz.zeroValue3 J J hw) J fun bx_6 _=>tt (Zm (i:=9) J J J J J (by decide) J zT3 J J ⟨Zc J,trivial⟩ J hw trivial) J fun _ _=>Zf<|Za<|Zb<|Ga (fun x=>x=bx_6) [7] (by kernel_rfl)<|Zx (n:=4) [(0,0),(1,0),(2,0),(4,0)] (by kernel_rfl)<|r0' J J J J (st1 9 J (Yc (i:=7) J J J Zce Ce J J))<|r0' J J J J (st1 9 J (Xi (i:=2) J J J Pp Xx J J J J))<|r0' J J J J (st1 9 J (Xi (i:=3) J J J Pp Xx J J J J))<|r0' J J J J (st1 9 J (d_mkc (vs:=[]) (us:=[_]) J trivial K1))<|Yr<|Pu (n:=3) 3 6 (by kernel_rfl) ?_ ?_
 ·refine Yo J J (Zh (n:=9) (Ai a.1 a.2 b.1 b.2 (by omega) (by omega) (by omega) (by omega) hap hbp) J J J K2 cF60 Ze J hw) fun _ _=>Pu (n:=2) 5 6 (by kernel_rfl) ?_ ?_
  ·exact Yo J J (Za4 (i:=9) (fs:=[]) (vs:=[_,_,_,_]) (us:=[]) (Ei _ _ _ _ _ _ xs (slow a) (slow b) hq hh hd hgl hgc hI0) J J J J K4 cF63 J J (by decide) (Ng 8 J J (Zd 5 J J J (Zd 6 J J J Ze))) J hw (fun _ h=>h)) fun _ _=>Zx (n:=0) [(6,1),(7,3)] (by kernel_rfl)<|r1' J J (Zo (i:=10) J J J Tryz.zeroValue62 J J hw) fun bx_7 _=>r3' J J (Zm (i:=10) J J J J J (by decide) J Cw J J ⟨Zc J,Zc J,Zc J,Zc J,Zc J,Zc J,Zc J,Zc J,trivial⟩ J hw trivial) fun _ _=>Yr<|Yl (by kernel_rfl)<|Za<|Zb<|Zb<|Zg<|dt (Xy J J Kq J Gg J J) J<|dt (Oa (i:=8) J J J Bv J) J<|dt (Ye (r':= .bool false) (Qd J J J) (congrArg Value.bool (by decide))) J<|Zf<|Za<|Yf J<|Zk<|Za<|Zb<|Zg<|dt (Ze4 (i:=10) J J J Zif Cw J J J J J J J J) J<|tt (Zm (i:=4) J J J J J (by decide) J Cw J J ⟨Zc J,Zc J,Zc J,Zc J,Zc J,Zc J,Zc J,Zc J,trivial⟩ J hw trivial) J fun _ _=>as_ J J<|Zf<|Za<|Zu<|Zv (.inl J) hsc () _ (fun a w hs=>Ni hs Tryz.results31 (Yp (i:=4) J J Zif Cw J) J) J trivial J Zj
  ·exact Yo J J (Zo (i:=11) J J J Tryz.zeroValue62 J J hw) fun bx_8 _=>Zx (n:=0) [(5,1),(7,3)] (by kernel_rfl)<|r1' J J (Za4 (i:=9) (fs:=[]) (vs:=[_,_,_,_]) (us:=[]) (Ei _ _ _ _ _ _ xs (slow a) (slow b) hq hh hd hgl hgc hI0) J J J J K4 cF63 J J (by decide) (Ng 8 J J (Zd 5 J J J (Zd 6 J J J Ze))) J hw (fun _ h=>h)) fun _ _=>r3' J J (Zm (i:=11) J J J J J (by decide) J Cw J J ⟨Zc J,Zc J,Zc J,Zc J,Zc J,Zc J,Zc J,Zc J,trivial⟩ J hw trivial) fun _ _=>Yr<|Yl (by kernel_rfl)<|Za<|Zb<|Zb<|Zg<|dt (Xy J J Kq J Gg J J) J<|dt (Oa (i:=8) J J J Bv J) J<|dt (Ye (r':= .bool false) (Qd J J J) (congrArg Value.bool (by decide))) J<|Zf<|Za<|Yf J<|Zk<|Za<|Zb<|Zg<|dt (Ze4 (i:=11) J J J Zif Cw J J J J J J J J) J<|tt (Zm (i:=4) J J J J J (by decide) J Cw J J ⟨Zc J,Zc J,Zc J,Zc J,Zc J,Zc J,Zc J,Zc J,trivial⟩ J hw trivial) J fun _ _=>as_ J J<|Zf<|Za<|Zu<|Zv (.inl J) hsc () _ (fun a w hs=>Ni hs Tryz.results31 (Yp (i:=4) J J Zif Cw J) J) J trivial J Zj
 ·refine Yo J J (Zo (i:=12) J J J Tryz.zeroValue62 J J hw) fun bx_9 _=>Zx (n:=0) [(3,1),(5,1),(7,3)] (by kernel_rfl)<|r1' J J (Zh (n:=12) (Ai a.1 a.2 b.1 b.2 (by omega) (by omega) (by omega) (by omega) hap hbp) J J J K2 cF60 Ze J hw) fun _ _=>r1' J J (Za4 (i:=9) (fs:=[]) (vs:=[_,_,_,_]) (us:=[]) (Ei _ _ _ _ _ _ xs (slow a) (slow b) hq hh hd hgl hgc hI0) J J J J K4 cF63 J J (by decide) (Ng 8 J J (Zd 5 J J J (Zd 6 J J J Ze))) J hw (fun _ h=>h)) fun _ _=>r3' J J (Zm (i:=12) J J J J J (by decide) J Cw J J ⟨Zc J,Zc J,Zc J,Zc J,Zc J,Zc J,Zc J,Zc J,trivial⟩ J hw trivial) fun _ _=>Yr<|Yl (by kernel_rfl)<|Za<|Zb<|Zb<|Zg<|dt (Xy J J Kq J Gg J J) J<|dt (Oa (i:=8) J J J Bv J) J<|dt (Ye (r':= .bool false) (Qd J J J) (congrArg Value.bool (by decide))) J<|Zf<|Za<|Yf J<|Zk<|Za<|Zb<|Zg<|dt (Ze4 (i:=12) J J J Zif Cw J J J J J J J J) J<|tt (Zm (i:=4) J J J J J (by decide) J Cw J J ⟨Zc J,Zc J,Zc J,Zc J,Zc J,Zc J,Zc J,Zc J,trivial⟩ J hw trivial) J fun _ _=>as_ J J<|Zf<|Za<|Zu ?_
  exact Zv (.inl J) hsc () _ (fun a w hs=>Ni hs Tryz.results31 (Yp (i:=4) J J Zif Cw J) J) J trivial J Zj
set_option maxHeartbeats 4000000 in
theorem Zgz(v:Value)(xs:List Int)(a b:R2)(hd:Cvd xs)(ha:E32 a)(hb:E32 b)(hq:Nat)(hh:hq≤100)(hc:¬0<cmp a b)(hn:ngb (Nm xs) (chx xs) a b=false):Cal Tryz.prog 31 #[v,.agg #[.bool (decide (a.1<0)),.string (Xd a.1.natAbs),.bool (decide (a.2<0)),.string (Xd a.2.natAbs)],.agg #[.bool (decide (b.1<0)),.string (Xd b.1.natAbs),.bool (decide (b.2<0)),.string (Xd b.2.natAbs)],.int .i64 (hq:Int)] [slp 2 wv v xs] false (G:=Unit) (fun _=>True) (fun _=> .tuple #[.agg #[.bool false,.string ⟨#[]⟩,.bool false,.string ⟨#[]⟩,.bool false,.string ⟨#[]⟩,.bool false,.string ⟨#[]⟩],.int .i64 9]) (fun _=>[]):=by
 refine Yd Tryz.func31 J Tryz.ntmps31 J K1 ?_
 intro w0 sc hw hsc
 simp only [Zp,Zn]
 have ha1:=ha.b1
 have ha2:=ha.b2
 have hap:=ha.p
 have hb1:=hb.b1
 have hb2:=hb.b2
 have hbp:=hb.p
 refine Ys (Nj 999 2 31 wv)<|Ys (Po 999 J J pV)<|Zb<|Zg<|tt (Xl (i:=2) J J J J J J hw) J fun bx _=>tt (Xl (i:=3) J J J J J J hw) J fun bx_2 _=>tt (Zo (i:=4) J J J Tryz.zeroValue62 J J hw) J fun bx_3 _=>as_ J J<|Zf<|Za<|Zb<|Zb<|Zg<|mv J J<|dt (Ye (r':= .bool false) (Qb J J J) (congrArg Value.bool (decide_eq_false (by omega)))) J<|mv J J<|gdt (Ym J J) J J J J<|gdt (Ye (r':= .bool false) (On J J J) (congrArg Value.bool (decide_eq_false (by omega)))) J J J J<|dt (Yh J J J) J<|Zf<|Za<|Yf J<|Zk<|Za<|Zb<|Zb<|Zg<|mv J J<|dt (Xi (i:=2) J J J Pp Xx J J J J) J<|dt (Xi (i:=3) J J J Pp Xx J J J J) J<|tt (Zh (n:=4) (Zcl _ _ a.1 a.2 b.1 b.2 (by omega) (by omega) (by omega) (by omega) hap hbp hd.v (Ev hd (by omega)) ha.efit hb.efit) J J J K4 cF58 (Zd 1 J J J Ze) J hw) J fun _ _=>as_ J J<|Zf<|Za<|Zb<|Zg<|mv J J<|dt (Ye (r':= .bool false) (Qd J J J) (congrArg Value.bool (decide_eq_false (fun h=>h (if_neg hc))))) J<|Zf<|Za<|Yf J<|Zk<|Za<|Zb<|Zg<|mv J J<|tt (Zh (n:=5) (Zki _ _ hd) J J J K1 cF59 (Zd 1 J J J Ze) J hw) J (fun g hg=>?_)
 obtain⟨hgl,hgc⟩:=hg
 refine mv J J<|dt (Yg J J J) J<|dt (Yg J J J) J<|tt (Zo (i:=7) J J J Tryz.zeroValue98 J J hw) J fun bx_4 _=>tt (Zm (i:=7) J J J J J (by decide) J Ce J J ⟨Zr (i:=5) J Zz,Zr (i:=6) J Zz,trivial⟩ J hw trivial) J fun _ _=>as_ J J<|Zf<|Za<|Zb<|Zb<|Zg<|mv J J<|dt (Ye (r':= .bool false) (Qd J J J) (congrArg Value.bool (by decide))) J<|Zf<|Za<|Yf J<|Zk<|Za<|Zb<|Zg<|tt (Zo (i:=8) J J J Tryz.zeroValue102 J J hw) J fun bx_5 _=>Zf<|Za<|Zb<|Zb<|Zg<|dt (Yc (i:=7) J J J Zce Ce J J) J<|dt (Xi (i:=2) J J J Pp Xx J J J J) J<|dt (Xi (i:=3) J J J Pp Xx J J J J) J<|tt (Zh (n:=8) (Lp _ _ _ _ _ a.1 a.2 b.1 b.2 (by omega) (by omega) (by omega) (by omega) hap hbp (Xw hgl (fun q hq=>(Ns hd q hq).1)) (Xw hgl (Kl hd (m:=a) (by omega) (by omega)).1) (Xw hgc (fun q hq=>(Gb hd q hq).1)) (Xw hgc (Kl hd (m:=a) (by omega) (by omega)).2) (Xw hgc (Kl hd (m:=b) (by omega) (by omega)).2) (by have h7:=congrArg List.length hgc;rw [List.length_map]at h7;have:=Ey xs;omega)) J J J K4 cF61 (Zd 5 J J J (Zd 6 J J J (Ng 8 J J Ze))) J hw) J (fun _ _=>?_)
 exact dt (Ye (r':= .bool true) (Xo J J) (congrArg Value.bool (by rw [hgl,hgc];show(!ngb (Nm xs) (chx xs) a b)=true;rw [hn];rfl))) J<|Zf<|Za<|Nf J<|Zb<|Zb<|Zg<|dt (Xy J J Kq J Gg J J) J<|dt (Oa (i:=8) J J J Bv J) J<|dt (Ye (r':= .bool false) (Qd J J J) (congrArg Value.bool (by decide))) J<|Zf<|Za<|Yf J<|Zk<|Za<|Zb<|Zg<|dt (Oh (ivs:=[]) J trivial (fun a w hs=>b62_)) J<|tt (Zm (i:=4) J J J J J (by decide) J Cw J J ⟨Zc J,Zc J,Zc J,Zc J,Zc J,Zc J,Zc J,Zc J,trivial⟩ J hw trivial) J fun _ _=>as_ J J<|Zf<|Za<|Zu<|Xe<|Zv (.inl J) hsc () _ (fun a w hs=>Ni hs Tryz.results31 (Yp (i:=4) J J Zif Cw J) J) J trivial J Zj
end Go.Sky
namespace Go.Sky
def Fv(xs:List Int)(m:Int):List Int:=Zfm xs (tzl [m])
theorem Ziz(xs:List Int)(m:Int)(x:Rat):rev (Fv xs m) x=rev xs x-m:=by
 have h:rev (Fv xs m) x=rev (Ht xs ([m].map fun a=>-1*a)) x:=Mm x _ _ fun i=>by
  unfold Fv
  rw [Kz,Kb,Lm]
  match i with
  | 0=>show cf xs 0-m=cf xs 0 + -1*m;omega
  | i+1=>show cf xs (i+1)-cf [m] (i+1)=cf xs (i+1)+cf [-1*m] (i+1);rw [show cf [m] (i+1)=0 from rfl,show cf [-1*m] (i+1)=0 from rfl];omega
 rw [h,Xz,Yb,Oe];push_cast;grind
theorem Zje{xs:List Int}{m:Int}(hd:Cvd xs)(hs:Sz 40 xs)(hm:bl m.natAbs≤50):Cvd (Fv xs m)∧(∀i,bl (cf xs i-cf (tzl [m]) i).natAbs≤65536)∧Vp (tzl [m]):=by
 have hl:=hd.l
 have hc:∀i,bl (cf [m] i).natAbs≤50:=fun i=>by
  match i with
  | 0=>exact hm
  | i+1=>rw [show cf [m] (i+1)=0 from rfl];simp [La]
 have hz:∀i,bl (cf xs i-cf (tzl [m]) i).natAbs≤51:=fun i=>by
  have h1:=hs i
  have h2:=hc i
  rw [Lm,Int.sub_eq_add_neg]
  have h3:=Km (cf xs i) (-cf [m] i)
  rw [Int.natAbs_neg]at h3
  omega
 have ht:(tzl [m]).length≤1:=Hu [m]
 have hv:Vp (tzl [m]):=⟨fun i=>by rw [Lm];have:=hc i;omega,Ol _,by omega⟩
 have hsz:Sz 51 (Fv xs m):=fun i=>by unfold Fv;rw [Kz];exact hz i
 have hlen:(Fv xs m).length≤7:=by
  unfold Fv Zfm
  refine Nat.le_trans (Hu _) ?_
  rw [Xn];omega
 exact⟨⟨⟨hsz.mono (by omega),Ol _,by omega⟩,hsz.mono (by omega),hlen⟩,fun i=>Nat.le_trans (hz i) (by omega),hv⟩
def Bw(xs:List Int)(m:Int):Prop:=∃x:Rat,0≤x∧x≤1∧rev xs x<(m:Rat)
theorem Zwg(xs:List Int)(m:Int):NegI (Fv xs m) 0 1↔Bw xs m:=by
 constructor
 ·rintro⟨x,a,b,c⟩;rw [Ziz]at c;exact⟨x,a,b,by grind⟩
 ·rintro⟨x,a,b,c⟩;exact⟨x,a,b,by rw [Ziz];grind⟩
theorem Zr6{xs:List Int}{m n:Int}(h:Bw xs m)(hmn:m≤n):Bw xs n:=by
 obtain⟨x,a,b,c⟩:=h
 have:(m:Rat)≤(n:Rat):=by exact_mod_cast hmn
 exact⟨x,a,b,by grind⟩
def lws:List Int→Int
 | []=>0
 | c :: p=>-(c.natAbs:Int)+lws p
theorem Zr5:∀p q:List Int,lws (p ++ q)=lws p+lws q
 | [],q=>by show lws q=0+lws q;omega
 | c :: p,q=>by show -(c.natAbs:Int)+lws (p ++ q)=-(c.natAbs:Int)+lws p+lws q;rw [Zr5 p q];omega
theorem Cp{xs:List Int}{i:Nat}(h:i<xs.length):lws (xs.take (i+1))=lws (xs.take i) + -((cf xs i).natAbs:Int):=by
 rw [Om 0 xs i h,Zr5];show lws (xs.take i)+(-((cf xs i).natAbs:Int)+0)=_;omega
theorem lws_b{n:Nat} : ∀p:List Int,(∀c∈p,c.natAbs≤n)→-((p.length*n:Nat):Int)≤lws p∧lws p≤0
 | [],_=>by show -((0*n:Nat):Int)≤0∧(0:Int)≤0;omega
 | c :: p,h=>by
  have h1:=lws_b p fun d hd=>h d (List.mem_cons_of_mem _ hd)
  have h2:=h c List.mem_cons_self
  show -(((p.length+1)*n:Nat):Int)≤-(c.natAbs:Int)+lws p∧-(c.natAbs:Int)+lws p≤0
  rw [Nat.succ_mul];omega
theorem Zr4{x:Rat}(h0:0≤x)(h1:x≤1):∀p:List Int,((lws p:Int):Rat)≤rev p x
 | []=>by show((0:Int):Rat)≤0;exact Rat.le_refl
 | c :: p=>by
  have ih:=Zr4 h0 h1 p
  have hb:=(lws_b (n:=p.foldl (fun m c=>max m c.natAbs) 0) p (fun c hc=>by
   have:∀(l:List Int) (a:Nat),(a≤l.foldl (fun m c=>max m c.natAbs) a)∧∀c∈l,c.natAbs≤l.foldl (fun m c=>max m c.natAbs) a:=fun l=>by
    induction l with
    | nil=>intro a;exact⟨Nat.le_refl _,fun c hc=>absurd hc (by simp)⟩
    | cons d l ih=>
     intro a
     obtain⟨i1,i2⟩:=ih (max a d.natAbs)
     refine⟨Nat.le_trans (Nat.le_max_left _ _) i1,fun c hc=>?_⟩
     rcases List.mem_cons.1 hc with rfl | hc
     ·exact Nat.le_trans (Nat.le_max_right _ _) i1
     ·exact i2 c hc
   exact(this p 0).2 c hc)).2
  have hb':((lws p:Int):Rat)≤0:=by exact_mod_cast hb
  have hc:((-(c.natAbs:Int):Int):Rat)≤(c:Rat):=by exact_mod_cast (show -(c.natAbs:Int)≤c by omega)
  have hm:=Rat.mul_nonneg (show 0≤1-x by grind) (show 0≤-((lws p:Int):Rat) by grind)
  have hm2:=Rat.mul_nonneg h0 (show 0≤rev p x-((lws p:Int):Rat) by grind)
  show((-(c.natAbs:Int)+lws p:Int):Rat)≤(c:Rat)+x*rev p x
  push_cast at hc ⊢
  grind
theorem Zwh(xs:List Int):¬Bw xs (lws xs):=by
 rintro⟨x,a,b,c⟩
 have:=Zr4 a b xs;grind
theorem rev_at0(xs:List Int):rev xs 0=((cf xs 0:Int):Rat):=by
 cases xs with
 | nil=>rfl
 | cons c p=>show(c:Rat)+0*rev p 0=(c:Rat);grind
theorem Zr7(xs:List Int):Bw xs (cf xs 0+1):=by
 refine⟨0,by grind,by decide,?_⟩
 rw [rev_at0]
 push_cast;grind
theorem Zlc{xs:List Int}{l h:Int}(h1:¬Bw xs l)(h2:Bw xs h):l<h:=by
 rcases Int.lt_or_le l h with q | q
 ·exact q
 ·exact absurd (Zr6 h2 q) h1
theorem Zpr{c:Int}(h:c≠0):wv (-(c.natAbs:Int))= .agg #[.bool true,.string (Xd c.natAbs)]:=by
 unfold wv
 rw [decide_eq_true (by omega),Int.natAbs_neg,Int.natAbs_natCast]
theorem tzl_one{x:Int}(h:x≠0):tzl [x]=[x]:=by
 unfold tzl
 simp [List.dropWhile,h]
theorem Zau{z:Int}(h:z.natAbs≤17592186044416):bl z.natAbs≤45:=(Mf 45 _).2 (Nat.lt_of_le_of_lt h (by decide))
theorem Zni:¬Bw [] 0∧Bw [] (0+1):=⟨fun⟨x,a,b,c⟩=>absurd c (by show ¬(0:Rat)<((0:Int):Rat);decide),⟨0,by decide,by decide,by show(0:Rat)<(((0:Int)+1:Int):Rat);decide⟩⟩
theorem Zck{xs:List Int}(hs:Sz 40 xs)(i:Nat):(cf xs i).natAbs<1099511627776:=(Mf 40 _).1 (hs i)
theorem Ay{xs:List Int}(hs:Sz 40 xs)(hl:xs.length≤7)(i:Nat):-7696581394432≤lws (xs.take i)∧lws (xs.take i)≤0:=by
 obtain⟨h1,h2⟩:=lws_b (n:=1099511627776) (xs.take i) fun c hc=>by
  obtain⟨k,hk,rfl⟩:=List.mem_iff_getElem.1 hc
  have h9:=Zck hs k
  rw [List.length_take]at hk
  have e:(xs.take i)[k]=cf xs k:=by rw [List.getElem_take];unfold cf;rw [List.getD_eq_getElem?_getD,List.getElem?_eq_getElem (by omega)];rfl
  rw [e];omega
 have h3:(xs.take i).length*1099511627776≤7*1099511627776:=Nat.mul_le_mul_right _ (by rw [List.length_take];omega)
 exact⟨by omega,h2⟩
structure FlI (xs:List Int) (lo hi:Int):Prop where
 l:¬Bw xs lo
 h:Bw xs hi
 b1:-8796093022208≤lo
 b2:hi≤8796093022208
theorem FlI.lt{xs:List Int}{lo hi:Int}(h:FlI xs lo hi):lo<hi:=Zlc h.l h.h
theorem FlI.start{xs:List Int}(hs:Sz 40 xs)(hl:xs.length≤7){i:Nat}(hi:xs.length≤i):FlI xs (lws (xs.take i)) (cf xs 0+1):=by
 have h1:=Ay hs hl i
 have h2:=Zck hs 0
 refine⟨by rw [List.take_of_length_le hi];exact Zwh xs,Zr7 xs,by omega,by omega⟩
theorem Zvq:qv (0,1)=0∧qv (1,1)=1:=by unfold qv;exact⟨by decide +kernel,by decide +kernel⟩
theorem Cq{xs:List Int}{m:Int}(h:Cvd (Fv xs m)):ngb (Nm (Fv xs m)) (chx (Fv xs m)) (0,1) (1,1)=true↔Bw xs m:=by
 have:=Zk7 h (a:=(0,1)) (b:=(1,1)) (by decide) (by decide) (by rw [Zvq.1,Zvq.2];decide)
 rw [Zvq.1,Zvq.2]at this
 exact this.trans (Zwg xs m)
theorem bstr_0{n:Nat}(h:(Xd n).size=0):n=0:=by
 rw [Ms]at h
 have:=(Pe (by omega:2≤256) n).1 h;omega
theorem Zt2{c:Int}(h:¬(Xd c.natAbs).size=0):c≠0:=fun e=>h (by rw [e,Ms];exact(Pe (by omega:2≤256) 0).2 rfl)
theorem Zql{a b:Int}(h:(a-b).sign≤0):a≤b:=by
 rcases Int.lt_or_le b a with q | q
 ·rw [Int.sign_eq_one_of_pos (by omega)]at h;omega
 ·exact q
theorem Zqm{a b:Int}(h:¬(a-b).sign≤0):b<a:=by
 rcases Int.lt_or_le b a with q | q
 ·exact q
 ·exfalso
  rcases Int.lt_or_eq_of_le q with w | w
  ·rw [Int.sign_eq_neg_one_of_neg (by omega)]at h;omega
  ·rw [w,Int.sub_self]at h;exact h (by decide)
end Go.Sky
namespace Go.Sky
open Go.Proofs
set_option maxRecDepth 20000
set_option maxHeartbeats 4000000
set_option linter.unusedSimpArgs false
theorem Zc9(x:Int)(hx:bl x.natAbs≤65536):Cal Tryz.prog 83 #[wv x,.int .i64 (-1)] [] false (G:=Unit) (fun _=>True) (fun _=>Zb9 (x/2)) (fun _=>[]):=by
 refine Yd Tryz.func83 J Tryz.ntmps83 J trivial ?_
 intro w0 sc hw hsc
 simp only [Zp,Zn]
 have hb2:=Zic x 2
 have hxx:okW (decide (x<0)) (Xd x.natAbs)=true:=Ar hx
 refine Zb<|Zg<|tt (Xl (i:=1) J J J J J J hw) J fun bx _=>tt (Zo (i:=2) J J J Tryz.zeroValue31 J J hw) J fun bx_2 _=>as_ J J<|Zf<|Za<|Zb<|Zb<|Zg<|dt (Yc (i:=1) J J J Qo Yk J J) J<|tt (Zh (n:=2) (Ff _ _) J J J K1 Ze7 Ze J hw) J fun _ _=>dt (Ye (r':= .bool false) (Xo J J) (congrArg Value.bool (by rw [hxx];rfl))) J<|Zf<|Za<|Yf J<|Zk<|Za<|Zb<|Zb<|Zg<|mv J J<|dt (Ye (r':= .bool false) (Qb J J J) (congrArg Value.bool (by decide))) J<|mv J J<|gdt (Ym J J) J J J J<|gdt (Ye (r':= .bool false) (On J J J) (congrArg Value.bool (by decide))) J J J J<|dt (Yh J J J) J<|Zf<|Za<|Yf J<|Zk<|Za<|Zb<|Zg<|dt (Yc (i:=1) J J J Qo Yk J J) J<|tt (Zh (n:=3) (Qy _ _ (Xj _) (by omega)) J J J K1 Lf Ze J hw) J fun g hg=>tt (Zo (i:=4) J J J Tryz.zeroValue154 J J hw) J fun bx_3 _=>tt (Zm (i:=4) J J J J J (by decide) J Yy J J ⟨Zc J,Zr (i:=3) J Zi,trivial⟩ J hw trivial) J fun _ _=>Zf<|Za<|Zb<|Zb<|Zg<|mv J J<|dt (Ye (r':= .bool false) (Lq J J J) (congrArg Value.bool (by decide))) J<|Zf<|Za<|Yf J<|Zk<|Za ?_
 refine Dd [(4,_)] [(0,_),(1,_),(2,_),(3,_),(4,_)] (fun(q:Bool×Value×Value×Nat×Nat)=>[(7,.pointer (some ⟨q.2.2.2.1,0,none⟩)),(8,.pointer (some ⟨q.2.2.2.2,0,none⟩))]) (fun(q:Bool×Value×Value×Nat×Nat)=>[(84,dgp q.2.1 (x/2).natAbs),(85,dgp q.2.2.1 (x%2).natAbs),(86,box q.2.2.2.1 154 #[.bool q.1,q.2.1]),(87,box q.2.2.2.2 154 #[.bool false,q.2.2.1])]) (fun(q:Bool×Value×Value×Nat×Nat)=>sg q.1 (x/2)) K1 K5 ?_ ?_
 ·refine Nr [4] [13] (by kernel_rfl)<|Zx (n:=11) [(0,0),(2,0),(3,0)] (by kernel_rfl)<|r0' J J J J (stf (Yc (i:=4) J J J Ln Yy J J) K1)<|r0' J J J J (stf (Ym J J) K1)<|r0' J J J J (stf (Ye (r':= .int .i64 ((1:Nat):Int)) (d_negi J J ⟨by omega,by omega⟩) J) K1)<|Yr<|Zay (n:=10) 1 10 11 (by kernel_rfl) ?_ ?_ ?_
  ·refine Yo J J (Pt (i:=81) (ivs:=[(0,_)]) (enc:=Iq) (dg U 1) J J J K2 Xt Tryz.ti149 J J J J J J pU.cells J J hw) fun v _=>Zay (n:=9) 4 10 11 (by kernel_rfl) ?_ ?_ ?_
   ·refine Yo J J (Zh (n:=82) (Ku _ 1 1 (show bl 1≤4294967296 by decide) (by decide)) J J J K2 Zar (Xu 81 J J pU Ze) J hw) fun v_2 _=>Zl8 (Oq 82 J Zi) (fun sw hsw=>?_)
    subst hsw
    refine Zx (n:=8) [(5,0)] (by kernel_rfl)<|r0' J J J J (stf (Oh (ivs:=[(0,_),(1,_)]) J K4 (fun a w hs=>Ou ((Zc J) a w hs) ((Zc J) a w hs))) K1)<|Yr<|Zay (n:=7) 6 10 11 (by kernel_rfl) ?_ ?_ ?_
    ·refine Yo J J (Zh (n:=84) (Qt _ _ _ _ x 2 (by assumption) (Xj (2:Int)) (by omega) (show bl (2:Int).natAbs≤3000000000 by decide) (by decide)) J J J K2 Me (Zd 3 J J J (Zd 82 J J J Ze)) J hw) fun g_2 hg_2=>Zx (n:=4) [(7,0),(8,0),(9,0)] (by kernel_rfl)<|r0' J J J J (stf (Ym J J) K1)<|r0' J J J J (stf (Yg J J J) K1)<|r0' J J J J (stf (Yg J J J) K1)<|Yr<|Pu (n:=3) 10 11 (by kernel_rfl) ?_ ?_
     ·exact Yo J J (Zt (i:=86) J J J Tryz.zeroValue154 J J hw K1) fun bx_4 ho=>Zx (n:=0) [(11,1),(12,1),(13,3)] (by kernel_rfl)<|r1' J J (Zt (i:=87) J J J Tryz.zeroValue154 J J hw K1) fun bx_5 ho2=>r1' J J (Zm (i:=86) J J J J J (by decide) J Yy J J ⟨Zc J,Zr (i:=84) J Zi,trivial⟩ J hw ho) fun _ _=>r3' J J (Zm (i:=87) J J J J J (by decide) J Yy J J ⟨Zc J,Zr (i:=85) J Zi,trivial⟩ J hw trivial) fun _ _=>Yr<|Yl (by kernel_rfl)<|Qv (_,_,_,_,_) (by assumption) K3 K9
     ·exact Yo J J (Zt (i:=87) J J J Tryz.zeroValue154 J J hw K1) fun bx_6 ho3=>Zx (n:=0) [(10,1),(12,1),(13,3)] (by kernel_rfl)<|r1' J J (Zt (i:=86) J J J Tryz.zeroValue154 J J hw K1) fun bx_7 ho4=>r1' J J (Zm (i:=86) J J J J J (by decide) J Yy J J ⟨Zc J,Zr (i:=84) J Zi,trivial⟩ J hw ho4) fun _ _=>r3' J J (Zm (i:=87) J J J J J (by decide) J Yy J J ⟨Zc J,Zr (i:=85) J Zi,trivial⟩ J hw trivial) fun _ _=>Yr<|Yl (by kernel_rfl)<|Qv (_,_,_,_,_) (by assumption) K3 K9
    ·refine Yo J J (Zt (i:=86) J J J Tryz.zeroValue154 J J hw K1) fun bx_8 ho5=>Pu (n:=6) 6 11 (by kernel_rfl) ?_ ?_
     ·exact Yo J J (Zh (n:=84) (Qt _ _ _ _ x 2 (by assumption) (Xj (2:Int)) (by omega) (show bl (2:Int).natAbs≤3000000000 by decide) (by decide)) J J J K2 Me (Zd 3 J J J (Zd 82 J J J Ze)) J hw) fun g_3 hg_3=>Zx (n:=0) [(7,0),(8,0),(9,0),(11,1),(12,1),(13,3)] (by kernel_rfl)<|r0' J J J J (stf (Ym J J) K1)<|r0' J J J J (stf (Yg J J J) K1)<|r0' J J J J (stf (Yg J J J) K1)<|r1' J J (Zt (i:=87) J J J Tryz.zeroValue154 J J hw K1) fun bx_9 ho6=>r1' J J (Zm (i:=86) J J J J J (by decide) J Yy J J ⟨Zc J,Zr (i:=84) J Zi,trivial⟩ J hw ho5) fun _ _=>r3' J J (Zm (i:=87) J J J J J (by decide) J Yy J J ⟨Zc J,Zr (i:=85) J Zi,trivial⟩ J hw trivial) fun _ _=>Yr<|Yl (by kernel_rfl)<|Qv (_,_,_,_,_) (by assumption) K3 K9
     ·exact Yo J J (Zt (i:=87) J J J Tryz.zeroValue154 J J hw K1) fun bx_10 ho7=>Zx (n:=0) [(6,1),(7,0),(8,0),(9,0),(12,1),(13,3)] (by kernel_rfl)<|r1' J J (Zh (n:=84) (Qt _ _ _ _ x 2 (by assumption) (Xj (2:Int)) (by omega) (show bl (2:Int).natAbs≤3000000000 by decide) (by decide)) J J J K2 Me (Zd 3 J J J (Zd 82 J J J Ze)) J hw) fun g_4 hg_4=>r0' J J J J (stf (Ym J J) K1)<|r0' J J J J (stf (Yg J J J) K1)<|r0' J J J J (stf (Yg J J J) K1)<|r1' J J (Zm (i:=86) J J J J J (by decide) J Yy J J ⟨Zc J,Zr (i:=84) J Zi,trivial⟩ J hw ho5) fun _ _=>r3' J J (Zm (i:=87) J J J J J (by decide) J Yy J J ⟨Zc J,Zr (i:=85) J Zi,trivial⟩ J hw trivial) fun _ _=>Yr<|Yl (by kernel_rfl)<|Qv (_,_,_,_,_) (by assumption) K3 K9
    ·refine Yo J J (Zt (i:=87) J J J Tryz.zeroValue154 J J hw K1) fun bx_11 ho8=>Pu (n:=6) 6 10 (by kernel_rfl) ?_ ?_
     ·exact Yo J J (Zh (n:=84) (Qt _ _ _ _ x 2 (by assumption) (Xj (2:Int)) (by omega) (show bl (2:Int).natAbs≤3000000000 by decide) (by decide)) J J J K2 Me (Zd 3 J J J (Zd 82 J J J Ze)) J hw) fun g_5 hg_5=>Zx (n:=0) [(7,0),(8,0),(9,0),(10,1),(12,1),(13,3)] (by kernel_rfl)<|r0' J J J J (stf (Ym J J) K1)<|r0' J J J J (stf (Yg J J J) K1)<|r0' J J J J (stf (Yg J J J) K1)<|r1' J J (Zt (i:=86) J J J Tryz.zeroValue154 J J hw K1) fun bx_12 ho9=>r1' J J (Zm (i:=86) J J J J J (by decide) J Yy J J ⟨Zc J,Zr (i:=84) J Zi,trivial⟩ J hw ho9) fun _ _=>r3' J J (Zm (i:=87) J J J J J (by decide) J Yy J J ⟨Zc J,Zr (i:=85) J Zi,trivial⟩ J hw trivial) fun _ _=>Yr<|Yl (by kernel_rfl)<|Qv (_,_,_,_,_) (by assumption) K3 K9
     ·exact Yo J J (Zt (i:=86) J J J Tryz.zeroValue154 J J hw K1) fun bx_13 ho10=>Zx (n:=0) [(6,1),(7,0),(8,0),(9,0),(12,1),(13,3)] (by kernel_rfl)<|r1' J J (Zh (n:=84) (Qt _ _ _ _ x 2 (by assumption) (Xj (2:Int)) (by omega) (show bl (2:Int).natAbs≤3000000000 by decide) (by decide)) J J J K2 Me (Zd 3 J J J (Zd 82 J J J Ze)) J hw) fun g_6 hg_6=>r0' J J J J (stf (Ym J J) K1)<|r0' J J J J (stf (Yg J J J) K1)<|r0' J J J J (stf (Yg J J J) K1)<|r1' J J (Zm (i:=86) J J J J J (by decide) J Yy J J ⟨Zc J,Zr (i:=84) J Zi,trivial⟩ J hw ho10) fun _ _=>r3' J J (Zm (i:=87) J J J J J (by decide) J Yy J J ⟨Zc J,Zr (i:=85) J Zi,trivial⟩ J hw trivial) fun _ _=>Yr<|Yl (by kernel_rfl)<|Qv (_,_,_,_,_) (by assumption) K3 K9
   ·refine Yo J J (Zt (i:=86) J J J Tryz.zeroValue154 J J hw K1) fun bx_14 ho11=>Pu (n:=8) 4 11 (by kernel_rfl) ?_ ?_
    ·refine Yo J J (Zh (n:=82) (Ku _ 1 1 (show bl 1≤4294967296 by decide) (by decide)) J J J K2 Zar (Xu 81 J J pU Ze) J hw) fun v_3 _=>Zl8 (Oq 82 J Zi) (fun sw hsw=>?_)
     subst hsw
     refine Zx (n:=7) [(5,0)] (by kernel_rfl)<|r0' J J J J (stf (Oh (ivs:=[(0,_),(1,_)]) J K4 (fun a w hs=>Ou ((Zc J) a w hs) ((Zc J) a w hs))) K1)<|Yr<|Pu (n:=6) 6 11 (by kernel_rfl) ?_ ?_
     ·exact Yo J J (Zh (n:=84) (Qt _ _ _ _ x 2 (by assumption) (Xj (2:Int)) (by omega) (show bl (2:Int).natAbs≤3000000000 by decide) (by decide)) J J J K2 Me (Zd 3 J J J (Zd 82 J J J Ze)) J hw) fun g_7 hg_7=>Zx (n:=0) [(7,0),(8,0),(9,0),(11,1),(12,1),(13,3)] (by kernel_rfl)<|r0' J J J J (stf (Ym J J) K1)<|r0' J J J J (stf (Yg J J J) K1)<|r0' J J J J (stf (Yg J J J) K1)<|r1' J J (Zt (i:=87) J J J Tryz.zeroValue154 J J hw K1) fun bx_15 ho12=>r1' J J (Zm (i:=86) J J J J J (by decide) J Yy J J ⟨Zc J,Zr (i:=84) J Zi,trivial⟩ J hw ho11) fun _ _=>r3' J J (Zm (i:=87) J J J J J (by decide) J Yy J J ⟨Zc J,Zr (i:=85) J Zi,trivial⟩ J hw trivial) fun _ _=>Yr<|Yl (by kernel_rfl)<|Qv (_,_,_,_,_) (by assumption) K3 K9
     ·exact Yo J J (Zt (i:=87) J J J Tryz.zeroValue154 J J hw K1) fun bx_16 ho13=>Zx (n:=0) [(6,1),(7,0),(8,0),(9,0),(12,1),(13,3)] (by kernel_rfl)<|r1' J J (Zh (n:=84) (Qt _ _ _ _ x 2 (by assumption) (Xj (2:Int)) (by omega) (show bl (2:Int).natAbs≤3000000000 by decide) (by decide)) J J J K2 Me (Zd 3 J J J (Zd 82 J J J Ze)) J hw) fun g_8 hg_8=>r0' J J J J (stf (Ym J J) K1)<|r0' J J J J (stf (Yg J J J) K1)<|r0' J J J J (stf (Yg J J J) K1)<|r1' J J (Zm (i:=86) J J J J J (by decide) J Yy J J ⟨Zc J,Zr (i:=84) J Zi,trivial⟩ J hw ho11) fun _ _=>r3' J J (Zm (i:=87) J J J J J (by decide) J Yy J J ⟨Zc J,Zr (i:=85) J Zi,trivial⟩ J hw trivial) fun _ _=>Yr<|Yl (by kernel_rfl)<|Qv (_,_,_,_,_) (by assumption) K3 K9
    ·refine Yo J J (Zt (i:=87) J J J Tryz.zeroValue154 J J hw K1) fun bx_17 ho14=>Zx (n:=7) [(4,1)] (by kernel_rfl)<|r1' J J (Zh (n:=82) (Ku _ 1 1 (show bl 1≤4294967296 by decide) (by decide)) J J J K2 Zar (Xu 81 J J pU Ze) J hw) fun v_4 _=>Yr<|Zl8 (Oq 82 J Zi) (fun sw hsw=>?_)
     subst hsw
     exact Zx (n:=0) [(5,0),(6,1),(7,0),(8,0),(9,0),(12,1),(13,3)] (by kernel_rfl)<|r0' J J J J (stf (Oh (ivs:=[(0,_),(1,_)]) J K4 (fun a w hs=>Ou ((Zc J) a w hs) ((Zc J) a w hs))) K1)<|r1' J J (Zh (n:=84) (Qt _ _ _ _ x 2 (by assumption) (Xj (2:Int)) (by omega) (show bl (2:Int).natAbs≤3000000000 by decide) (by decide)) J J J K2 Me (Zd 3 J J J (Zd 82 J J J Ze)) J hw) fun g_9 hg_9=>r0' J J J J (stf (Ym J J) K1)<|r0' J J J J (stf (Yg J J J) K1)<|r0' J J J J (stf (Yg J J J) K1)<|r1' J J (Zm (i:=86) J J J J J (by decide) J Yy J J ⟨Zc J,Zr (i:=84) J Zi,trivial⟩ J hw ho11) fun _ _=>r3' J J (Zm (i:=87) J J J J J (by decide) J Yy J J ⟨Zc J,Zr (i:=85) J Zi,trivial⟩ J hw trivial) fun _ _=>Yr<|Yl (by kernel_rfl)<|Qv (_,_,_,_,_) (by assumption) K3 K9
   ·refine Yo J J (Zt (i:=87) J J J Tryz.zeroValue154 J J hw K1) fun bx_18 ho15=>Pu (n:=8) 4 10 (by kernel_rfl) ?_ ?_
    ·refine Yo J J (Zh (n:=82) (Ku _ 1 1 (show bl 1≤4294967296 by decide) (by decide)) J J J K2 Zar (Xu 81 J J pU Ze) J hw) fun v_5 _=>Zl8 (Oq 82 J Zi) (fun sw hsw=>?_)
     subst hsw
     refine Zx (n:=7) [(5,0)] (by kernel_rfl)<|r0' J J J J (stf (Oh (ivs:=[(0,_),(1,_)]) J K4 (fun a w hs=>Ou ((Zc J) a w hs) ((Zc J) a w hs))) K1)<|Yr<|Pu (n:=6) 6 10 (by kernel_rfl) ?_ ?_
     ·exact Yo J J (Zh (n:=84) (Qt _ _ _ _ x 2 (by assumption) (Xj (2:Int)) (by omega) (show bl (2:Int).natAbs≤3000000000 by decide) (by decide)) J J J K2 Me (Zd 3 J J J (Zd 82 J J J Ze)) J hw) fun g_10 hg_10=>Zx (n:=0) [(7,0),(8,0),(9,0),(10,1),(12,1),(13,3)] (by kernel_rfl)<|r0' J J J J (stf (Ym J J) K1)<|r0' J J J J (stf (Yg J J J) K1)<|r0' J J J J (stf (Yg J J J) K1)<|r1' J J (Zt (i:=86) J J J Tryz.zeroValue154 J J hw K1) fun bx_19 ho16=>r1' J J (Zm (i:=86) J J J J J (by decide) J Yy J J ⟨Zc J,Zr (i:=84) J Zi,trivial⟩ J hw ho16) fun _ _=>r3' J J (Zm (i:=87) J J J J J (by decide) J Yy J J ⟨Zc J,Zr (i:=85) J Zi,trivial⟩ J hw trivial) fun _ _=>Yr<|Yl (by kernel_rfl)<|Qv (_,_,_,_,_) (by assumption) K3 K9
     ·exact Yo J J (Zt (i:=86) J J J Tryz.zeroValue154 J J hw K1) fun bx_20 ho17=>Zx (n:=0) [(6,1),(7,0),(8,0),(9,0),(12,1),(13,3)] (by kernel_rfl)<|r1' J J (Zh (n:=84) (Qt _ _ _ _ x 2 (by assumption) (Xj (2:Int)) (by omega) (show bl (2:Int).natAbs≤3000000000 by decide) (by decide)) J J J K2 Me (Zd 3 J J J (Zd 82 J J J Ze)) J hw) fun g_11 hg_11=>r0' J J J J (stf (Ym J J) K1)<|r0' J J J J (stf (Yg J J J) K1)<|r0' J J J J (stf (Yg J J J) K1)<|r1' J J (Zm (i:=86) J J J J J (by decide) J Yy J J ⟨Zc J,Zr (i:=84) J Zi,trivial⟩ J hw ho17) fun _ _=>r3' J J (Zm (i:=87) J J J J J (by decide) J Yy J J ⟨Zc J,Zr (i:=85) J Zi,trivial⟩ J hw trivial) fun _ _=>Yr<|Yl (by kernel_rfl)<|Qv (_,_,_,_,_) (by assumption) K3 K9
    ·refine Yo J J (Zt (i:=86) J J J Tryz.zeroValue154 J J hw K1) fun bx_21 ho18=>Zx (n:=7) [(4,1)] (by kernel_rfl)<|r1' J J (Zh (n:=82) (Ku _ 1 1 (show bl 1≤4294967296 by decide) (by decide)) J J J K2 Zar (Xu 81 J J pU Ze) J hw) fun v_6 _=>Yr<|Zl8 (Oq 82 J Zi) (fun sw hsw=>?_)
     subst hsw
     exact Zx (n:=0) [(5,0),(6,1),(7,0),(8,0),(9,0),(12,1),(13,3)] (by kernel_rfl)<|r0' J J J J (stf (Oh (ivs:=[(0,_),(1,_)]) J K4 (fun a w hs=>Ou ((Zc J) a w hs) ((Zc J) a w hs))) K1)<|r1' J J (Zh (n:=84) (Qt _ _ _ _ x 2 (by assumption) (Xj (2:Int)) (by omega) (show bl (2:Int).natAbs≤3000000000 by decide) (by decide)) J J J K2 Me (Zd 3 J J J (Zd 82 J J J Ze)) J hw) fun g_12 hg_12=>r0' J J J J (stf (Ym J J) K1)<|r0' J J J J (stf (Yg J J J) K1)<|r0' J J J J (stf (Yg J J J) K1)<|r1' J J (Zm (i:=86) J J J J J (by decide) J Yy J J ⟨Zc J,Zr (i:=84) J Zi,trivial⟩ J hw ho18) fun _ _=>r3' J J (Zm (i:=87) J J J J J (by decide) J Yy J J ⟨Zc J,Zr (i:=85) J Zi,trivial⟩ J hw trivial) fun _ _=>Yr<|Yl (by kernel_rfl)<|Qv (_,_,_,_,_) (by assumption) K3 K9
  ·refine Yo J J (Zt (i:=86) J J J Tryz.zeroValue154 J J hw K1) fun bx_22 ho19=>Pu (n:=9) 1 11 (by kernel_rfl) ?_ ?_
   ·refine Yo J J (Pt (i:=81) (ivs:=[(0,_)]) (enc:=Iq) (dg U 1) J J J K2 Xt Tryz.ti149 J J J J J J pU.cells J J hw) fun v_7 _=>Pu (n:=8) 4 11 (by kernel_rfl) ?_ ?_
    ·refine Yo J J (Zh (n:=82) (Ku _ 1 1 (show bl 1≤4294967296 by decide) (by decide)) J J J K2 Zar (Xu 81 J J pU Ze) J hw) fun v_8 _=>Zl8 (Oq 82 J Zi) (fun sw hsw=>?_)
     subst hsw
     refine Zx (n:=7) [(5,0)] (by kernel_rfl)<|r0' J J J J (stf (Oh (ivs:=[(0,_),(1,_)]) J K4 (fun a w hs=>Ou ((Zc J) a w hs) ((Zc J) a w hs))) K1)<|Yr<|Pu (n:=6) 6 11 (by kernel_rfl) ?_ ?_
     ·exact Yo J J (Zh (n:=84) (Qt _ _ _ _ x 2 (by assumption) (Xj (2:Int)) (by omega) (show bl (2:Int).natAbs≤3000000000 by decide) (by decide)) J J J K2 Me (Zd 3 J J J (Zd 82 J J J Ze)) J hw) fun g_13 hg_13=>Zx (n:=0) [(7,0),(8,0),(9,0),(11,1),(12,1),(13,3)] (by kernel_rfl)<|r0' J J J J (stf (Ym J J) K1)<|r0' J J J J (stf (Yg J J J) K1)<|r0' J J J J (stf (Yg J J J) K1)<|r1' J J (Zt (i:=87) J J J Tryz.zeroValue154 J J hw K1) fun bx_23 ho20=>r1' J J (Zm (i:=86) J J J J J (by decide) J Yy J J ⟨Zc J,Zr (i:=84) J Zi,trivial⟩ J hw ho19) fun _ _=>r3' J J (Zm (i:=87) J J J J J (by decide) J Yy J J ⟨Zc J,Zr (i:=85) J Zi,trivial⟩ J hw trivial) fun _ _=>Yr<|Yl (by kernel_rfl)<|Qv (_,_,_,_,_) (by assumption) K3 K9
     ·exact Yo J J (Zt (i:=87) J J J Tryz.zeroValue154 J J hw K1) fun bx_24 ho21=>Zx (n:=0) [(6,1),(7,0),(8,0),(9,0),(12,1),(13,3)] (by kernel_rfl)<|r1' J J (Zh (n:=84) (Qt _ _ _ _ x 2 (by assumption) (Xj (2:Int)) (by omega) (show bl (2:Int).natAbs≤3000000000 by decide) (by decide)) J J J K2 Me (Zd 3 J J J (Zd 82 J J J Ze)) J hw) fun g_14 hg_14=>r0' J J J J (stf (Ym J J) K1)<|r0' J J J J (stf (Yg J J J) K1)<|r0' J J J J (stf (Yg J J J) K1)<|r1' J J (Zm (i:=86) J J J J J (by decide) J Yy J J ⟨Zc J,Zr (i:=84) J Zi,trivial⟩ J hw ho19) fun _ _=>r3' J J (Zm (i:=87) J J J J J (by decide) J Yy J J ⟨Zc J,Zr (i:=85) J Zi,trivial⟩ J hw trivial) fun _ _=>Yr<|Yl (by kernel_rfl)<|Qv (_,_,_,_,_) (by assumption) K3 K9
    ·refine Yo J J (Zt (i:=87) J J J Tryz.zeroValue154 J J hw K1) fun bx_25 ho22=>Zx (n:=7) [(4,1)] (by kernel_rfl)<|r1' J J (Zh (n:=82) (Ku _ 1 1 (show bl 1≤4294967296 by decide) (by decide)) J J J K2 Zar (Xu 81 J J pU Ze) J hw) fun v_9 _=>Yr<|Zl8 (Oq 82 J Zi) (fun sw hsw=>?_)
     subst hsw
     exact Zx (n:=0) [(5,0),(6,1),(7,0),(8,0),(9,0),(12,1),(13,3)] (by kernel_rfl)<|r0' J J J J (stf (Oh (ivs:=[(0,_),(1,_)]) J K4 (fun a w hs=>Ou ((Zc J) a w hs) ((Zc J) a w hs))) K1)<|r1' J J (Zh (n:=84) (Qt _ _ _ _ x 2 (by assumption) (Xj (2:Int)) (by omega) (show bl (2:Int).natAbs≤3000000000 by decide) (by decide)) J J J K2 Me (Zd 3 J J J (Zd 82 J J J Ze)) J hw) fun g_15 hg_15=>r0' J J J J (stf (Ym J J) K1)<|r0' J J J J (stf (Yg J J J) K1)<|r0' J J J J (stf (Yg J J J) K1)<|r1' J J (Zm (i:=86) J J J J J (by decide) J Yy J J ⟨Zc J,Zr (i:=84) J Zi,trivial⟩ J hw ho19) fun _ _=>r3' J J (Zm (i:=87) J J J J J (by decide) J Yy J J ⟨Zc J,Zr (i:=85) J Zi,trivial⟩ J hw trivial) fun _ _=>Yr<|Yl (by kernel_rfl)<|Qv (_,_,_,_,_) (by assumption) K3 K9
   ·refine Yo J J (Zt (i:=87) J J J Tryz.zeroValue154 J J hw K1) fun bx_26 ho23=>Zx (n:=7) [(1,1),(4,1)] (by kernel_rfl)<|r1' J J (Pt (i:=81) (ivs:=[(0,_)]) (enc:=Iq) (dg U 1) J J J K2 Xt Tryz.ti149 J J J J J J pU.cells J J hw) fun v_10 _=>r1' J J (Zh (n:=82) (Ku _ 1 1 (show bl 1≤4294967296 by decide) (by decide)) J J J K2 Zar (Xu 81 J J pU Ze) J hw) fun v_11 _=>Yr<|Zl8 (Oq 82 J Zi) (fun sw hsw=>?_)
    subst hsw
    exact Zx (n:=0) [(5,0),(6,1),(7,0),(8,0),(9,0),(12,1),(13,3)] (by kernel_rfl)<|r0' J J J J (stf (Oh (ivs:=[(0,_),(1,_)]) J K4 (fun a w hs=>Ou ((Zc J) a w hs) ((Zc J) a w hs))) K1)<|r1' J J (Zh (n:=84) (Qt _ _ _ _ x 2 (by assumption) (Xj (2:Int)) (by omega) (show bl (2:Int).natAbs≤3000000000 by decide) (by decide)) J J J K2 Me (Zd 3 J J J (Zd 82 J J J Ze)) J hw) fun g_16 hg_16=>r0' J J J J (stf (Ym J J) K1)<|r0' J J J J (stf (Yg J J J) K1)<|r0' J J J J (stf (Yg J J J) K1)<|r1' J J (Zm (i:=86) J J J J J (by decide) J Yy J J ⟨Zc J,Zr (i:=84) J Zi,trivial⟩ J hw ho19) fun _ _=>r3' J J (Zm (i:=87) J J J J J (by decide) J Yy J J ⟨Zc J,Zr (i:=85) J Zi,trivial⟩ J hw trivial) fun _ _=>Yr<|Yl (by kernel_rfl)<|Qv (_,_,_,_,_) (by assumption) K3 K9
  ·refine Yo J J (Zt (i:=87) J J J Tryz.zeroValue154 J J hw K1) fun bx_27 ho24=>Pu (n:=9) 1 10 (by kernel_rfl) ?_ ?_
   ·refine Yo J J (Pt (i:=81) (ivs:=[(0,_)]) (enc:=Iq) (dg U 1) J J J K2 Xt Tryz.ti149 J J J J J J pU.cells J J hw) fun v_12 _=>Pu (n:=8) 4 10 (by kernel_rfl) ?_ ?_
    ·refine Yo J J (Zh (n:=82) (Ku _ 1 1 (show bl 1≤4294967296 by decide) (by decide)) J J J K2 Zar (Xu 81 J J pU Ze) J hw) fun v_13 _=>Zl8 (Oq 82 J Zi) (fun sw hsw=>?_)
     subst hsw
     refine Zx (n:=7) [(5,0)] (by kernel_rfl)<|r0' J J J J (stf (Oh (ivs:=[(0,_),(1,_)]) J K4 (fun a w hs=>Ou ((Zc J) a w hs) ((Zc J) a w hs))) K1)<|Yr<|Pu (n:=6) 6 10 (by kernel_rfl) ?_ ?_
     ·exact Yo J J (Zh (n:=84) (Qt _ _ _ _ x 2 (by assumption) (Xj (2:Int)) (by omega) (show bl (2:Int).natAbs≤3000000000 by decide) (by decide)) J J J K2 Me (Zd 3 J J J (Zd 82 J J J Ze)) J hw) fun g_17 hg_17=>Zx (n:=0) [(7,0),(8,0),(9,0),(10,1),(12,1),(13,3)] (by kernel_rfl)<|r0' J J J J (stf (Ym J J) K1)<|r0' J J J J (stf (Yg J J J) K1)<|r0' J J J J (stf (Yg J J J) K1)<|r1' J J (Zt (i:=86) J J J Tryz.zeroValue154 J J hw K1) fun bx_28 ho25=>r1' J J (Zm (i:=86) J J J J J (by decide) J Yy J J ⟨Zc J,Zr (i:=84) J Zi,trivial⟩ J hw ho25) fun _ _=>r3' J J (Zm (i:=87) J J J J J (by decide) J Yy J J ⟨Zc J,Zr (i:=85) J Zi,trivial⟩ J hw trivial) fun _ _=>Yr<|Yl (by kernel_rfl)<|Qv (_,_,_,_,_) (by assumption) K3 K9
     ·exact Yo J J (Zt (i:=86) J J J Tryz.zeroValue154 J J hw K1) fun bx_29 ho26=>Zx (n:=0) [(6,1),(7,0),(8,0),(9,0),(12,1),(13,3)] (by kernel_rfl)<|r1' J J (Zh (n:=84) (Qt _ _ _ _ x 2 (by assumption) (Xj (2:Int)) (by omega) (show bl (2:Int).natAbs≤3000000000 by decide) (by decide)) J J J K2 Me (Zd 3 J J J (Zd 82 J J J Ze)) J hw) fun g_18 hg_18=>r0' J J J J (stf (Ym J J) K1)<|r0' J J J J (stf (Yg J J J) K1)<|r0' J J J J (stf (Yg J J J) K1)<|r1' J J (Zm (i:=86) J J J J J (by decide) J Yy J J ⟨Zc J,Zr (i:=84) J Zi,trivial⟩ J hw ho26) fun _ _=>r3' J J (Zm (i:=87) J J J J J (by decide) J Yy J J ⟨Zc J,Zr (i:=85) J Zi,trivial⟩ J hw trivial) fun _ _=>Yr<|Yl (by kernel_rfl)<|Qv (_,_,_,_,_) (by assumption) K3 K9
    ·refine Yo J J (Zt (i:=86) J J J Tryz.zeroValue154 J J hw K1) fun bx_30 ho27=>Zx (n:=7) [(4,1)] (by kernel_rfl)<|r1' J J (Zh (n:=82) (Ku _ 1 1 (show bl 1≤4294967296 by decide) (by decide)) J J J K2 Zar (Xu 81 J J pU Ze) J hw) fun v_14 _=>Yr<|Zl8 (Oq 82 J Zi) (fun sw hsw=>?_)
     subst hsw
     exact Zx (n:=0) [(5,0),(6,1),(7,0),(8,0),(9,0),(12,1),(13,3)] (by kernel_rfl)<|r0' J J J J (stf (Oh (ivs:=[(0,_),(1,_)]) J K4 (fun a w hs=>Ou ((Zc J) a w hs) ((Zc J) a w hs))) K1)<|r1' J J (Zh (n:=84) (Qt _ _ _ _ x 2 (by assumption) (Xj (2:Int)) (by omega) (show bl (2:Int).natAbs≤3000000000 by decide) (by decide)) J J J K2 Me (Zd 3 J J J (Zd 82 J J J Ze)) J hw) fun g_19 hg_19=>r0' J J J J (stf (Ym J J) K1)<|r0' J J J J (stf (Yg J J J) K1)<|r0' J J J J (stf (Yg J J J) K1)<|r1' J J (Zm (i:=86) J J J J J (by decide) J Yy J J ⟨Zc J,Zr (i:=84) J Zi,trivial⟩ J hw ho27) fun _ _=>r3' J J (Zm (i:=87) J J J J J (by decide) J Yy J J ⟨Zc J,Zr (i:=85) J Zi,trivial⟩ J hw trivial) fun _ _=>Yr<|Yl (by kernel_rfl)<|Qv (_,_,_,_,_) (by assumption) K3 K9
   ·refine Yo J J (Zt (i:=86) J J J Tryz.zeroValue154 J J hw K1) fun bx_31 ho28=>Zx (n:=7) [(1,1),(4,1)] (by kernel_rfl)<|r1' J J (Pt (i:=81) (ivs:=[(0,_)]) (enc:=Iq) (dg U 1) J J J K2 Xt Tryz.ti149 J J J J J J pU.cells J J hw) fun v_15 _=>r1' J J (Zh (n:=82) (Ku _ 1 1 (show bl 1≤4294967296 by decide) (by decide)) J J J K2 Zar (Xu 81 J J pU Ze) J hw) fun v_16 _=>Yr<|Zl8 (Oq 82 J Zi) (fun sw hsw=>?_)
    subst hsw
    exact Zx (n:=0) [(5,0),(6,1),(7,0),(8,0),(9,0),(12,1),(13,3)] (by kernel_rfl)<|r0' J J J J (stf (Oh (ivs:=[(0,_),(1,_)]) J K4 (fun a w hs=>Ou ((Zc J) a w hs) ((Zc J) a w hs))) K1)<|r1' J J (Zh (n:=84) (Qt _ _ _ _ x 2 (by assumption) (Xj (2:Int)) (by omega) (show bl (2:Int).natAbs≤3000000000 by decide) (by decide)) J J J K2 Me (Zd 3 J J J (Zd 82 J J J Ze)) J hw) fun g_20 hg_20=>r0' J J J J (stf (Ym J J) K1)<|r0' J J J J (stf (Yg J J J) K1)<|r0' J J J J (stf (Yg J J J) K1)<|r1' J J (Zm (i:=86) J J J J J (by decide) J Yy J J ⟨Zc J,Zr (i:=84) J Zi,trivial⟩ J hw ho28) fun _ _=>r3' J J (Zm (i:=87) J J J J J (by decide) J Yy J J ⟨Zc J,Zr (i:=85) J Zi,trivial⟩ J hw trivial) fun _ _=>Yr<|Yl (by kernel_rfl)<|Qv (_,_,_,_,_) (by assumption) K3 K9
 ·rintro⟨qb,qv,rv,b7,b8⟩ hq
  dsimp only at hq
  simp only [List.cons_append,List.nil_append]
  exact Zb<|Zg<|dt (Yc (i:=86) J J J Ln Yy J J) J<|tt (Zh (n:=4) (Kg _ _ (x/2) (by assumption) (by omega)) J J J K1 Zcg (Zd 84 J J J Ze) J hw) J fun _ _=>dt (Yg J J J) J<|dt (Yg J J J) J<|tt (Zm (i:=2) J J J J J (by decide) J Yk J J ⟨Zc J,Zc J,trivial⟩ J hw trivial) J fun _ _=>as_ J J<|Zf<|Za<|Zu<|Zv (.inl J) hsc () _ (fun a w hs=>Ni hs Tryz.results83 (Yp (i:=2) J J Qo Yk J) J) J trivial J Zj
theorem Zqn(x:Int)(hx:bl x.natAbs≤65536):Cal Tryz.prog 86 #[wv x] [] true (G:=Value) (fun r=>True) (fun r=>r) (fun r=>[slp 2 wv r (tzl [x])]):=by
 refine Yd Tryz.func86 J Tryz.ntmps86 J trivial ?_
 intro w0 sc hw hsc
 simp only [Zp,Zn]
 refine Zb<|Zg<|tt (Xl (i:=1) J J J J J J hw) J fun bx _=>as_ J J<|Zf<|Za<|Zb<|Zb<|Zg<|dt (Yc (i:=1) J J J Qo Yk J J) J<|tt (Zh (n:=1) (Mh _ hx) J J J K1 Zbt Ze J hw) J fun _ _=>dt (Pi J J J) J<|Zf<|Za<|Zq J (fun h358=>?_) (fun h358=>?_)
 ·exact Zb<|Zg<|as_ J J<|Zf<|Za<|Zu<|Xe<|Zv (.inl J) hsc _ _ (fun a w hs=>Qj hs Tryz.results86 J) J trivial J (Ld (by rw [show x=0 from Int.sign_eq_zero_iff_zero.1 (by assumption)]<;>rfl) Zj)
 ·exact Zk<|Za<|Zb<|Zg<|dt (Yc (i:=1) J J J Qo Yk J J) J<|tt (Pt (i:=2) (ivs:=[(0,_)]) (enc:=wv) [x] J J J K2 Qn Tryz.ti31 J J J J J J pV.cells J J hw) J fun v _=>as_ J J<|Zf<|Za<|Zu<|Zv (.inl J) hsc _ _ (fun a w hs=>Qj hs Tryz.results86 J) J trivial J (Ps 2 J J pV (by rw [tzl_one (fun e=>(show ¬x.sign=0 by assumption) (by rw [e];rfl))]) Zj)
end Go.Sky

