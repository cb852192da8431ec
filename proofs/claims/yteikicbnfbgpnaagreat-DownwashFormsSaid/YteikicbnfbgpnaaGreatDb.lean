/- The law: part 17. No conditions but those that each theorem names. -/
import Derived.Test.YteikicbnfbgpnaaGreatDb15
set_option linter.all false
set_option maxHeartbeats 4000000
namespace Go.Sky
open Go.Proofs.Tryz
open Go.Proofs
set_option synthInstance.maxHeartbeats 0
set_option synthInstance.maxSize 100000
set_option maxRecDepth 20000
set_option maxHeartbeats 4000000
set_option linter.unusedSimpArgs false
theorem Zkm(x y x2 y2:Int)(hp:0<y)(hp2:0<y2)(hx:bl x.natAbs≤65536:=by omega)(hy:bl y.natAbs≤65536:=by omega)(hx2:bl x2.natAbs≤65536:=by omega)(hy2:bl y2.natAbs≤65536:=by omega):Om prog 211 #[rX x y,rX x2 y2] [] (.agg #[.bool (decide ((slow (x,y)).1<0)),.string (Xz (slow (x,y)).1.natAbs),.bool (decide ((slow (x,y)).2<0)),.string (Xz (slow (x,y)).2.natAbs),.bool (decide ((slow (x2,y2)).1<0)),.string (Xz (slow (x2,y2)).1.natAbs),.bool (decide ((slow (x2,y2)).2<0)),.string (Xz (slow (x2,y2)).2.natAbs)]):=by
 refine Zd func211 ntmps211 fun w0 sc hw hsc=>go 2 ?_
 refine Yk (Yj 1) fun bx _=>Yk (Yj 2) fun bx_2 _=>Yk (Zz 3) fun bx_3 _=>go 8 ?_
 refine cl 3 [] (Zcm _ _ hx hy) fun _ _=>go 3 ?_
 refine Yk (Zz 4) fun bx_4 _=>go 10 ?_
 refine cl 4 [] (Zcm _ _ hx2 hy2) fun _ _=>go 3 ?_
 refine Yk (Zz 5) fun bx_5 _=>go 8 ?_
 refine dt (Qi (ivs:=[(0,_),(1,_)]) J K4 (fun a w hs=>Yi5))<|go 4 ?_
 exact Xn hsc () results211 J trivial Za
theorem Zow(v:Value)(xs:List Int)(hv:Vp xs)(h0:xs≠[]):Cal prog 285 #[v] [Yh 2 wv v xs] true (G:=Value) (fun r=>True) (fun r=> .tuple #[r,.int .i64 0]) (fun r=>[Yh 2 wv r (Yy xs)]):=by
 refine Zd func285 ntmps285 fun w0 sc hw hsc=>?_
 have hvp:=Kj hv
 have hl0:=List.length_pos_iff.2 h0
 have hlp:=Zr xs
 have hlen:=hv.len
 refine go 9 ?_
 refine cl 2 [1] (Nh _ _ hv) fun _ _=>go 11 ?_
 refine kt O3<|go 3 ?_
 refine ktg (decide_eq_true O)<|go 6 ⟨O,?_⟩
 refine Ej (Yn (ii:=2) (i:=((Zt xs).length-1)) J J J J Zk Nf Ki) J J<|go 1 ⟨O2,?_⟩
 refine Gy 2 [] (Km _ (hvp.sz _)) fun _ _=>go 4 ?_
 refine Zc J (fun h63=>?_) (fun h63=>?_)
 ·refine go 3 ?_
  refine cl 2 [] (Zo _ ⟨O3,O3⟩) fun _ _=>cl 3 [2] (Mm _ _ _ hvp O5 (fun i=>Zaa hvp.sz i)) fun _ _=>go 8 ?_
  exact Mi hsc _ results285 J trivial (Ot 3 Za (by rw [Zml O ((Pg _).1 ‹_›)]<;>rfl))
 ·refine go 11 ?_
  exact Mi hsc _ results285 J trivial (Ot 2 Za (by rw [Zmk (fun h=>by have h2:=(Pg _).2 h;exact absurd h2 ‹_›)]<;>rfl))
theorem sg_odd(v:Value)(xs:List Int)(hd:Cvd xs)(h0:xs≠[]):Cal prog 261 #[v] [Yh 2 wv v xs] true (G:=Value) (fun r=>True) (fun r=> .tuple #[r,.int .i64 0]) (fun r=>[Yh 2 wv r (Im xs)]):=by
 refine Zd func261 ntmps261 fun w0 sc hw hsc=>?_
 refine Zf (Pm 999 2 80 wv)<|Zf (Qd 999 J J pV)<|go 9 ?_
 refine cl 2 [1] (Zow _ _ hd.v h0) fun _ _=>go 11 ?_
 refine kf O3<|go 7 ?_
 refine tt (Qh (i:=3) (ivs:=[(0,_)]) (enc:=Zx) ([1]:List Int) J J K2 Ec ti3 J J J J J pZ.cells J J hw.h) (fun v _=>?_)
 refine Yp (Qd 3 J J pZ)<|cl 4 [3] (Zd1 _ _ (fun x h=>by rw [List.mem_singleton.1 h];exact⟨O3,O3⟩)) fun _ _=>go 18 ?_
 refine Zf (Pj 2 80 J J J)<|Zf (Pj 4 81 J J J)<|Zf (Pj 999 82 J J J)<|lp (G:=Value×Value×Value×List Int×List Int×List Int×Nat) [] [0,1,999,2,3,4] (fun q=>[(4,q.1),(6,q.2.1),(8,q.2.2.1),(9,.int .i64 (q.2.2.2.2.2.2:Int))]) (fun q=>[(80,Yh 2 wv q.1 q.2.2.2.1),(81,Yh 2 wv q.2.1 q.2.2.2.2.1),(82,Yh 2 wv q.2.2.1 q.2.2.2.2.2.1)]) (fun q=>(OddI xs q.2.2.2.2.2.2 q.2.2.2.1 q.2.2.2.2.1 q.2.2.2.2.2.1)∧(1≤q.2.2.2.2.2.2)∧(q.2.2.2.2.2.2+q.2.2.2.1.length≤12)) (fun q=>q.2.2.2.1.length) (_,_,_,Yy xs,[1],[],1) ⟨OddI.start hd h0,O1,by have:=Qu hd.v.tr;have:=hd.l;dsimp only;omega⟩ K4 K3 ?_
 rintro⟨vr,vo,vb,rest,out,bef,t⟩ ⟨hI,ht1,ht2⟩
 dsimp only at hI ht1 ht2
 dsimp only
 obtain⟨a1,a2,a3,a4,a5,a6,a7,a8,a9,a10,a11,a12,a13,a14,a15,a16,a17,a18⟩:=Zbn hd h0 (hI.dp hd h0)
 obtain⟨o1,o2,o3⟩:=hI.out hd h0
 refine go 5 ?_
 refine cl 5 [80] (Cj _ _ a1 a3) fun _ _=>go 11 ?_
 refine kf O3<|go 9 ?_
 refine cl 6 [80,5] (Zpk _ _ _ _ a1 a4 13 a5 a6) fun _ _=>?_
 refine Yp (Me 6 (q:=Yh 2 wv _ (Qz 13 rest)) (congrArg (Yh 2 wv _) a7) J J)<|go 11 ?_
 refine kf O3<|go 9 ?_
 refine cl 7 [80,6] (Zar _ _ _ _ a1 a8 a9) fun _ _=>?_
 refine Yp (Me 7 (q:=Yh 2 wv _ (sqf 13 rest)) (congrArg (Yh 2 wv _) ((if_pos a10).trans a11)) J J)<|go 11 ?_
 refine kf (decide_eq_false (fun h=>h (if_pos a10)))<|go 9 ?_
 refine dt (Zi9 J J J)<|go 3 ?_
 refine Zc J (fun h91=>?_) (fun h91=>?_)
 ·have ht:t%2=0:=O
  obtain⟨e1,e2,e3,e4,e5,e6,e7,e8⟩:=hI.even hd h0 ht
  refine go 4 ?_
  refine cl 8 [82,7] (Zar _ _ _ _ e1 a12 e2) fun _ _=>?_
  refine Yp (Me 8 (q:=Yh 2 wv _ (Lr bef (sqf 13 rest))) (congrArg (Yh 2 wv _) (if_pos e3)) J J)<|go 11 ?_
  refine kf (decide_eq_false (fun h=>h (if_pos e3)))<|go 9 ?_
  refine cl 9 [81,8] (Zpj _ _ _ _ o1 e4 e5) fun _ _=>go 10 ?_
  refine kf O3<|go 13 ?_
  refine Zc J (fun h101=>?_) (fun h101=>?_)
  ·refine go 13 ?_
   exact Mi hsc _ results261 J trivial (Ot 9 Za (by first | (rw [hI.odd_end hd h0 O O]<;>rfl) | (rw [e6 O]<;>rfl)))
  ·refine go 15 ⟨O,?_⟩
   exact Yg (Pj 6 80 J J J)<|Yg (Pj 9 81 J J J)<|Yg (Pj 7 82 J J J)<|Xf (_,_,_,Qz 13 rest,_,sqf 13 rest,t+1) ⟨by first | exact hI.odd_next O O | exact e7 O,O1,by have:=a17 O;dsimp only;omega⟩ (a17 O) K4 K3
 ·have ht:t%2=1:=O
  refine go 10 ?_
  refine Zc J (fun h101_2=>?_) (fun h101_2=>?_)
  ·refine go 13 ?_
   exact Mi hsc _ results261 J trivial (Ot 81 Za (by first | (rw [hI.odd_end hd h0 O O]<;>rfl) | (rw [e6 O]<;>rfl)))
  ·refine go 15 ⟨O,?_⟩
   exact Yg (Pj 6 80 J J J)<|Yg (Pj 7 82 J J J)<|Xf (_,_,_,Qz 13 rest,_,sqf 13 rest,t+1) ⟨by first | exact hI.odd_next O O | exact e7 O,O1,by have:=a17 O;dsimp only;omega⟩ (a17 O) K4 K3
theorem sg_of(v:Value)(xs:List Int)(hd:Cvd xs):Cal prog 210 #[v] [Yh 2 wv v xs] true (G:=Value×List (SL×List Int)×Value×List (SL×List Int)) (fun r=>r.2.1.map Prod.snd=Pw xs∧r.2.2.2.map Prod.snd=chx xs) (fun r=> .tuple #[.agg #[r.1,r.2.2.1],.int .i64 0]) (fun r=>[Pz 1 Li qZ r.1 r.2.1,Pz 1 Li qZ r.2.2.1 r.2.2.2]):=by
 refine Zd func210 ntmps210 fun w0 sc hw hsc=>?_
 refine Znh (Px 1 J Zk) (fun sv hsv=>?_)
 subst hsv
 have hv:=hd.v
 refine Zf (Pm 999 2 80 wv)<|Zf (Qd 999 J J pV)<|go 2 ?_
 refine Yk (Zz 2) fun bx _=>go 5 ?_
 refine Yk (Zz 3) fun bx_2 _=>go 10 ?_
 refine Zc J (fun h129=>?_) (fun h129=>?_)
 ·refine go 9 ?_
  exact Yg (Pm 70 1 40 (Li (α:=List Int)))<|Yg (Yw qZ 71)<|Yg (Qd 70 J J pS)<|Yg (Pi 70 71 72 J J J J)<|Mi hsc (.slice none 0 0,[],.slice none 0 0,[]) results210 J ⟨(Zk8 O).symm,(Yij O).symm⟩ (Ot 72 (Ot 72 Za))
 ·have h0:xs≠[]:=fun e=>by rw [e]at h129;simp at h129
  obtain⟨q1,q2,q3,q4,q5⟩:=Zd7 hd h0
  refine go 11 ?_
  refine Zf (Pm 70 1 40 (Li (α:=List Int)))<|Zf (Yw qZ 71)<|Zf (Pj 1 80 J J J)<|lp (G:=List (SL×List Int)×SL×List Int×Value×Nat) [0,2,4] [0,1,999,2] (fun q=>[(5,Xb q.2.1)]) (fun q=>[(70,Oa 1 40 Li q.2.2.2.1 q.1),(71,Ia qZ q.1),(80,Yh 2 wv (Xb q.2.1) q.2.2.1),(3,box bx_2 270 #[q.2.2.2.1,.slice none 0 0])]) (fun q=>(Vp q.2.2.1)∧(Sz q.2.2.2.2 q.2.2.1)∧(q.2.2.2.2+5*q.2.2.1.length≤260)∧(q.1.length+q.2.2.1.length≤11)∧(q.1.map Prod.snd ++ Pw q.2.2.1=Pw xs)) (fun q=>q.2.2.1.length) ([],sv,xs,_,205) ⟨hv,hd.s,by have:=hd.l;dsimp only;omega,by have:=hd.l;simp;omega,rfl⟩ K1 K4 ?_
  rintro⟨ws,sd,y,vo,k⟩ ⟨hy,hys,hk,hyl,hws⟩
  dsimp only at hy hys hk hyl hws
  dsimp only
  refine go 8 ?_
  refine Zc J (fun h132=>?_) (fun h132=>?_)
  ·refine go 4 ?_
   have hpl:=Oz y
   have hdz:∀i,bl (cf y (i+1)*((i:Int)+1)).natAbs≤65536:=fun i=>by have h:=Bf hys O i;rw [Zes]at h;omega
   refine go 4 ?_
   refine tt (Qh (i:=4) (ivs:=[(0,_)]) (enc:=Li) [(sd,y)] J J K2 Zkf ti40 J J J J J pS.cells J J hw.h) (fun v _=>?_)
   refine tt (Nz (i:=70) (j:=4) (by_:=24) J J J J J J O3 J (Ys pS) Zkf ti40 J pS J J J O8 O3 J hw.h) fun v_2 _=>go 7 ?_
   refine cl 84 [80] (Cj _ _ hy hdz) fun _ _=>?_
   refine Zya (Px 84 J Zk) (fun sn hsn=>?_)
   subst hsn
   refine go 10 ?_
   refine kf O3<|go 5 ?_
   exact Yg (Zi (q:=qZ) (z:=(sd,y)) 71 80 71 J J J J J)<|Yg (Pj 84 80 J J J)<|Xf (ws ++ [(sd,y)],sn,Yx y,_,k+5) ⟨Zde hy (fun i _=>hdz i),Bf hys O,O11,by dsimp only;simp;omega,by dsimp only;rw [List.map_append,List.append_assoc,←hws,Zyo (p:=y) O];rfl⟩ O11 K1 K4
  ·refine go 6 ?_
   have hy0:y.length=0:=O
   have hw2:ws.map Prod.snd=Pw xs:=by rw [←hws,Zk8 hy0,List.append_nil]
   refine Zf (Qd 70 J J pS)<|Zf (Pi 70 71 72 J J J J)<|go 2 ?_
   refine cl 5 [1] (sg_odd _ _ hd h0) fun _ _=>go 11 ?_
   refine kf O3<|go 8 ?_
   refine cl 6 [5] (Zzr _ _ q2 q1.one q5 13 q1.ok) fun g hg=>go 17 ?_
   exact Mi hsc (_,ws,_,g.2) results210 J ⟨hw2,(hg).trans (chx_ne O).symm⟩ (Ot 72 (Ot 6 Za))
theorem Zoy(v:Value)(xs:List Int)(x y x2 y2:Int)(hp:0<y)(hp2:0<y2)(hv:Vp xs)(hf:Zam xs 0)(he1:efit (x,y)=true)(he2:efit (x2,y2)=true)(hx:bl x.natAbs≤65536:=by omega)(hy:bl y.natAbs≤65536:=by omega)(hx2:bl x2.natAbs≤65536:=by omega)(hy2:bl y2.natAbs≤65536:=by omega):Om prog 209 #[v,rX x y,rX x2 y2,.slice none 0 0] [Yh 2 wv v xs] (.int .i64 (if 0<cmp (x,y) (x2,y2)then 3 else 0)):=by
 refine Zd func209 ntmps209 fun w0 sc hw hsc=>?_
 refine Zf (Pm 999 2 80 wv)<|Zf (Qd 999 J J pV)<|go 2 ?_
 refine Yk (Yj 2) fun bx _=>Yk (Yj 3) fun bx_2 _=>go 7 ?_
 refine cl 3 [1] (Xg _ _ ‹_›) fun _ _=>?_
 refine dt (dF (Qf J J) (vB O3))<|go 2 ?_
 refine Gy 3 [] (Ml _ _ hx hy hp) fun _ _=>?_
 refine Ej (dF (Qf J J) (vB O3)) J J<|go 3 ?_
 refine Gy 3 [] (Ml _ _ hx2 hy2 hp2) fun _ _=>?_
 refine Ej (dF (Qf J J) (vB O3)) J J<|go 4 ?_
 refine kfg O3<|go 9 ?_
 refine cl 3 [1] (Yaf _ _ hv) fun _ _=>?_
 refine dt (dF (Zla J J) (vB (decide_eq_false (fun h=>h hf))))<|go 2 ?_
 refine Gy 3 [] (Zht _ _ hx hy) fun _ _=>?_
 refine Ej (dF (Qf J J) (vB (by rw [he1];rfl))) J J<|go 3 ?_
 refine Gy 3 [] (Zht _ _ hx2 hy2) fun _ _=>?_
 refine Ej (dF (Qf J J) (vB (by rw [he2];rfl))) J J<|go 13 ?_
 refine lp (G:=Unit) [5,6,43,44] [0,1,999,2,3] (fun _=>[(45,.int .i64 0),(9,.bool false)]) (fun _=>[]) (fun _=>True) (fun _=>0) () trivial K2 trivial ?_
 rintro _ -
 refine go 2 ?_
 refine kf O3<|go 14 ?_
 refine cl 3 [] (Zhu _ _ _ _ hx hy hx2 hy2 hp hp2) fun _ _=>go 3 ?_
 refine Zc J (fun h45=>?_) (fun h45=>?_)
 ·refine go 7 ?_
  exact Xn hsc () results209 (by rw [if_pos ‹_›]) trivial Za
 ·refine go 17 ?_
  exact Xn hsc () results209 (by rw [if_neg ‹_›]) trivial Za
theorem Yf5(bf bc bs:Nat)(v1 v2 c0 c1 c2 c3:Value)(ls cs:List (SL×List Int))(a b m:R2)(hx:bl m.1.natAbs≤65536)(hy:bl m.2.natAbs≤65536)(hp:0<m.2)(hlsv:∀z∈ls,Vp z.2)(hlsE:∀z∈ls,¬Lh z.2 m.1 m.2):Yi8 prog 215 #[.agg #[.bool (decide (a.1<0)),.string (Xz a.1.natAbs),.bool (decide (a.2<0)),.string (Xz a.2.natAbs),.bool (decide (b.1<0)),.string (Xz b.1.natAbs),.bool (decide (b.2<0)),.string (Xz b.2.natAbs)],rX m.1 m.2,.pointer (some ⟨bf,0,none⟩),.pointer (some ⟨bc,0,none⟩),.pointer (some ⟨bs,0,none⟩)] [Hg bs 274 #[.int .i64 0],Hg bc 270 #[v1,v2],Pz 1 Li qZ v1 ls,Pz 1 Li qZ v2 cs] (box bf 82 #[c0,c1,c2,c3]) (G:=Unit) (fun _=>True) (fun _=> .bool (decide (vlu (ls.map Prod.snd) (m.1,m.2)<0))) (fun _=>box bf 82 #[.bool (decide (m.1<0)),.string (Xz m.1.natAbs),.bool (decide (m.2<0)),.string (Xz m.2.natAbs)]):=by
 refine Zwl func215 J ntmps215 J K4 ?_
 intro w0 sc hw hsc;have hw:=Hw.mk hw
 simp only [Pa,Xu]
 refine go 2 ?_
 refine Yk (Yj 6) fun bx _=>Yk (Yj 7) fun bx_2 _=>go 13 ?_
 refine cl 7 [4,5,2] (Zhr _ _ _ _ _ _ _ hx hy hp hlsv hlsE) fun _ _=>go 5 ?_
 exact Zy3 (.inl J) hsc () _ (fun a w hs=>Zb6 hs results215 J) J trivial 1 J J J J (Yd 2 J J J (Yd 3 J J J (Yd 4 J J J (Yd 5 J J J Ya))))
theorem Zj0(bf bc bs:Nat)(v1 v2:Value)(ls cs:List (SL×List Int))(xs:List Int)(a0 b0:R2)(s t:Rat)(c0 c1 c2 c3:Value)(hd:Cvd xs)(h0:xs≠[])(hgl:ls.map Prod.snd=Pw xs)(hgc:cs.map Prod.snd=chx xs)(hI0:NIn xs s t 0 a0 b0):Yi8 prog 214 #[.agg #[v1,v2],.pointer (some ⟨bs,0,none⟩),.agg #[.bool (decide (a0.1<0)),.string (Xz a0.1.natAbs),.bool (decide (a0.2<0)),.string (Xz a0.2.natAbs),.bool (decide (b0.1<0)),.string (Xz b0.1.natAbs),.bool (decide (b0.2<0)),.string (Xz b0.2.natAbs)],.func (.func 215) #[] #[.pointer (some ⟨bf,0,none⟩),.pointer (some ⟨bc,0,none⟩),.pointer (some ⟨bs,0,none⟩)]] [Hg bs 274 #[.int .i64 0],Hg bc 270 #[v1,v2],Pz 1 Li qZ v1 ls,Pz 1 Li qZ v2 cs] (box bf 82 #[c0,c1,c2,c3]) (G:=R2×R2×R2) (fun r=>Fnd xs s t r.1) (fun r=> .agg #[.bool (decide (r.2.1.1<0)),.string (Xz r.2.1.1.natAbs),.bool (decide (r.2.1.2<0)),.string (Xz r.2.1.2.natAbs),.bool (decide (r.2.2.1<0)),.string (Xz r.2.2.1.natAbs),.bool (decide (r.2.2.2<0)),.string (Xz r.2.2.2.natAbs)]) (fun r=>box bf 82 #[.bool (decide (r.1.1<0)),.string (Xz r.1.1.natAbs),.bool (decide (r.1.2<0)),.string (Xz r.1.2.natAbs)]):=by
 refine Zwl func214 J ntmps214 J K4 ?_
 intro w0 sc hw hsc;have hw:=Hw.mk hw
 simp only [Pa,Xu]
 refine go 2 ?_
 refine Yk (Yj 6) fun bx _=>Yk (Yj 7) fun bx_2 _=>Yk (Zz 8) fun bx_3 _=>go 4 ?_
 refine lp (G:=R2×R2×Nat×Value×Value×Value×Value) [1,3,4,6,8] [0,2,3,4,5,6,8] (fun q=>[]) (fun q=>[(7,box bx_2 276 #[.bool (decide (q.1.1<0)),.string (Xz q.1.1.natAbs),.bool (decide (q.1.2<0)),.string (Xz q.1.2.natAbs),.bool (decide (q.2.1.1<0)),.string (Xz q.2.1.1.natAbs),.bool (decide (q.2.1.2<0)),.string (Xz q.2.1.2.natAbs)]),(1,box bf 82 #[q.2.2.2.1,q.2.2.2.2.1,q.2.2.2.2.2.1,q.2.2.2.2.2.2])]) (fun q=>NIn xs s t q.2.2.1 q.1 q.2.1) (fun q=>5436-q.2.2.1) (a0,b0,0,c0,c1,c2,c3) (hI0) trivial K2 ?_
 rintro⟨a,b,j,c0,c1,c2,c3⟩ hI
 dsimp only at hI
 dsimp only
 obtain⟨r1,r2,r3,r4,r5,r6,r7⟩:=hI.round hd h0
 rw [←hgl]at r5 r6 r7
 rw [←hgc]at r6 r7
 refine go 7 ?_
 refine kt O3<|go 13 ?_
 refine cl 8 [2] (Zxi _ a.1 a.2 b.1 b.2 O O O O r3.2.2 r4.2.2 r1) fun _ _=>Yk (Zz 9) fun bx_4 _=>go 9 ?_
 refine tt (Zt4 (i:=1) (fs:=[]) (vs:=[_,_]) (us:=[_,_,_]) (Yf5 _ _ _ _ _ _ _ _ _ _ _ a b (Qx a b) O O r2.2.2 (Mb hgl (fun q hq=>(Fn hd q hq).1)) (Mb hgl (Za8 hd (m:=(Qx a b)) O O).1)) J J J J K2 call215 J J O3 (Yd 2 J J J (Yd 3 J J J (Yd 4 J J J (Yd 5 J J J Ya)))) J hw.h (fun _ _=>trivial)) fun _ _=>go 2 ?_
 refine Zc J (fun h228=>?_) (fun h228=>?_)
 ·refine go 13 ?_
  exact Zy3 (.inl J) hsc (Qx a b,a,b) _ (fun a w hs=>Zb6 hs results214 (Gf (i:=8) J J isAgg276 sizeOf276 J)) J (r5 ‹_›) 1 J J J J (Yd 2 J J J (Yd 3 J J J (Yd 4 J J J (Yd 5 J J J Ya))))
 ·refine go 9 ?_
  refine cl 9 [4,5,2] (Zan _ _ _ _ _ a.1 a.2 (Qx a b).1 (Qx a b).2 r3.2.2 r2.2.2 (Mb hgl (fun q hq=>(Fn hd q hq).1)) (Mb hgl (Za8 hd (m:=a) O O).1) (Mb hgc (fun q hq=>(Zeq hd q hq).1)) (Mb hgc (Za8 hd (m:=a) O O).2) (Mb hgc (Za8 hd (m:=(Qx a b)) O O).2) (by have h7:=congrArg List.length hgc;rw [List.length_map]at h7;have:=Zns xs;omega)) fun _ _=>go 2 ?_
  refine Lb J (fun h231=>?_) (fun h231=>?_)
  ·refine go 6 ?_
   exact Xf (a,Qx a b,j+1,_,_,_,_) (r6 ‹_› ‹_›) (by have:=hI.j hd h0;dsimp only;omega) trivial K2
  ·refine go 6 ?_
   exact Xf (Qx a b,b,j+1,_,_,_,_) (r7 ‹_› ‹_›) (by have:=hI.j hd h0;dsimp only;omega) trivial K2
theorem Zgc(v:Value)(xs:List Int)(a b:R2)(hd:Cvd xs)(ha:E32 a)(hb:E32 b)(hc:¬0<cmp a b)(hn:ngb (Pw xs) (chx xs) a b=true):Cal prog 163 #[v,rX a.1 a.2,rX b.1 b.2] [Yh 2 wv v xs] false (G:=R2) (fun r=>Fnd xs (qv a) (qv b) r) (fun r=> .tuple #[rX r.1 r.2,.bool true,.int .i64 0]) (fun r=>[]):=by
 refine Zd func163 ntmps163 fun w0 sc hw hsc=>?_
 have ha1:=ha.b1
 have ha2:=ha.b2
 have hap:=ha.p
 have hb1:=hb.b1
 have hb2:=hb.b2
 have hbp:=hb.p
 have hle:=Yid ha hb hc
 have h0:=ngb_ne hn
 have hE2:=Yhv ha hb
 have hLl:([slow a,slow b]:List R2).length=2:=rfl
 refine Zf (Pm 999 2 80 wv)<|Zf (Qd 999 J J pV)<|go 2 ?_
 refine Yk (Yj 2) fun bx _=>Yk (Yj 3) fun bx_2 _=>Yk (Zz 4) fun bx_3 _=>go 10 ?_
 refine cl 4 [1] (Zoy _ _ a.1 a.2 b.1 b.2 hap hbp hd.v (Zqx hd O) ha.efit hb.efit) fun _ _=>go 6 ?_
 refine kf (decide_eq_false (fun h=>h (if_neg hc)))<|go 8 ?_
 refine cl 5 [1] (sg_of _ _ hd) fun g hg=>?_
 obtain⟨hgl,hgc⟩:=hg
 refine go 3 ?_
 refine Yk (Zz 7) fun bx_4 _=>go 8 ?_
 refine kf O3<|go 7 ?_
 refine Yk (Zz 8) fun bx_5 _=>go 6 ?_
 refine cl 8 [] (Zkm a.1 a.2 b.1 b.2 hap hbp) fun _ _=>Yk (Zz 9) fun bx_6 _=>go 8 ?_
 refine cl 9 [5,6,8] (Zan _ _ _ _ _ a.1 a.2 b.1 b.2 hap hbp (Mb hgl (fun q hq=>(Fn hd q hq).1)) (Mb hgl (Za8 hd (m:=a) O O).1) (Mb hgc (fun q hq=>(Zeq hd q hq).1)) (Mb hgc (Za8 hd (m:=a) O O).2) (Mb hgc (Za8 hd (m:=b) O O).2) (by have h7:=congrArg List.length hgc;rw [List.length_map]at h7;have:=Zns xs;omega)) fun _ _=>go 8 ?_
 refine kf O3<|go 2 ?_
 refine Ej (dF (Qf J J) (vB (by rw [hgl,hgc];show(!ngb (Pw xs) (chx xs) a b)=false;rw [hn];rfl))) J J<|go 13 ?_
 refine tt (Qh (i:=10) (ivs:=[(0,_),(1,_)]) (enc:=rq) ([slow a,slow b]:List R2) J J K4 underlying280 ti82 J J (fill24 _ _ _ _ _ _ _ _ _ _ _ _) J J pQ.cells J J hw.h) fun v _=>go 5 ?_
 refine lp (G:=Nat) [6,10,12,13,56,57] [0,1,999,2,3,4,5,6,7,8,9,10] (fun i=>[(58,.int .i64 (i:Int))]) (fun i=>[]) (fun i=>(i≤2)∧(∀k,k<i→¬vlu (g.2.1.map Prod.snd) ([slow a,slow b].getD k (0,0))<0)) (fun i=>2-i) 0 ⟨O1,fun k hk=>absurd hk (Nat.not_lt_zero k)⟩ K1 trivial ?_
 rintro i ⟨hi,hz⟩
 refine go 6 ?_
 refine Zc J (fun h262=>?_) (fun h262=>?_)
 ·refine go 7 ⟨O2,?_⟩
  refine dt (Oi (ii:=10) (0,0) J J J (Ys pQ) pQ O2)<|Yk (Zz 11) fun bx_7 _=>go 4 ?_
  have hEi:=hE2 i O
  have hEb1:=hEi.b1
  have hEb2:=hEi.b2
  refine go 3 ?_
  refine cl 11 [5,6,8] (Zhr _ _ _ _ _ ([slow a,slow b].getD i (0,0)).1 ([slow a,slow b].getD i (0,0)).2 O O hEi.p (Mb hgl (fun q hq=>(Fn hd q hq).1)) (Mb hgl (Za8 hd (m:=([slow a,slow b].getD i (0,0))) O O).1)) fun _ _=>go 3 ?_
  refine Zc J (fun h263=>?_) (fun h263=>?_)
  ·refine go 1 ?_
   refine Ln [8,11] [5]<|Zh (n:=0) [(0,0),(1,0),(2,0),(3,1),(4,0),(5,3)]<|go 7 ?_
   refine Zs<|go 7 ?_
   exact xe3 hsc ([slow a,slow b].getD i (0,0)) results163 J (Yg1 ha hb hle O (by rw [←hgl];assumption)) Za
  ·refine go 7 ⟨O,?_⟩
   exact Xf (i+1) ⟨O1,fun k hk2=>by rcases Nat.lt_succ_iff_lt_or_eq.1 hk2 with h9 | h9;exact hz k h9;subst h9;assumption⟩ O1 K1 trivial
 ·refine go 6 ?_
  have hI0:=Zxx hd ha hb hle (by have h9:=hz 0 O;rw [hgl]at h9;exact h9) (by have h9:=hz 1 O;rw [hgl]at h9;exact h9) hn
  refine go 1 ?_
  refine Yk (Zz 12) fun bx_8 _=>go 6 ?_
  refine dt (d_mkc (vs:=[]) (us:=[_,_,_]) J trivial K3)<|tt (Zt4 (i:=12) (fs:=[]) (vs:=[_,_,_,_]) (us:=[]) (Zj0 _ _ _ _ _ _ _ xs (slow a) (slow b) (qv a) (qv b) _ _ _ _ hd h0 hgl hgc hI0) J J J J K4 call214 J J O3 (Zfe 8 J J (Zfe 7 J J (Yd 5 J J J (Yd 6 J J J Ya)))) J hw.h (fun _ _=>trivial)) fun g_2 hg_2=>go 7 ?_
  refine kf O3<|go 14 ?_
  exact xe3 hsc (g_2.1) results163 J hg_2 Za
theorem Zhs(v:Value)(xs:List Int)(a b:R2)(hd:Cvd xs)(ha:E32 a)(hb:E32 b)(hc:¬0<cmp a b)(hn:ngb (Pw xs) (chx xs) a b=false):Om prog 163 #[v,rX a.1 a.2,rX b.1 b.2] [Yh 2 wv v xs] (.tuple #[.agg #[.bool false,.string ⟨#[]⟩,.bool false,.string ⟨#[]⟩],.bool false,.int .i64 0]):=by
 refine Zd func163 ntmps163 fun w0 sc hw hsc=>?_
 have ha1:=ha.b1
 have ha2:=ha.b2
 have hap:=ha.p
 have hb1:=hb.b1
 have hb2:=hb.b2
 have hbp:=hb.p
 refine Zf (Pm 999 2 80 wv)<|Zf (Qd 999 J J pV)<|go 2 ?_
 refine Yk (Yj 2) fun bx _=>Yk (Yj 3) fun bx_2 _=>Yk (Zz 4) fun bx_3 _=>go 10 ?_
 refine cl 4 [1] (Zoy _ _ a.1 a.2 b.1 b.2 hap hbp hd.v (Zqx hd O) ha.efit hb.efit) fun _ _=>go 6 ?_
 refine kf (decide_eq_false (fun h=>h (if_neg hc)))<|go 8 ?_
 refine cl 5 [1] (sg_of _ _ hd) fun g hg=>?_
 obtain⟨hgl,hgc⟩:=hg
 refine go 3 ?_
 refine Yk (Zz 7) fun bx_4 _=>go 8 ?_
 refine kf O3<|go 7 ?_
 refine Yk (Zz 8) fun bx_5 _=>go 6 ?_
 refine cl 8 [] (Zkm a.1 a.2 b.1 b.2 hap hbp) fun _ _=>Yk (Zz 9) fun bx_6 _=>go 8 ?_
 refine cl 9 [5,6,8] (Zan _ _ _ _ _ a.1 a.2 b.1 b.2 hap hbp (Mb hgl (fun q hq=>(Fn hd q hq).1)) (Mb hgl (Za8 hd (m:=a) O O).1) (Mb hgc (fun q hq=>(Zeq hd q hq).1)) (Mb hgc (Za8 hd (m:=a) O O).2) (Mb hgc (Za8 hd (m:=b) O O).2) (by have h7:=congrArg List.length hgc;rw [List.length_map]at h7;have:=Zns xs;omega)) fun _ _=>go 8 ?_
 refine kf O3<|go 2 ?_
 refine Ej (dT (Qf J J) (vB (by rw [hgl,hgc];show(!ngb (Pw xs) (chx xs) a b)=true;rw [hn];rfl))) J J<|go 5 ?_
 refine Ln [8] [5]<|Zh (n:=0) [(0,0),(1,0),(2,0),(3,1),(4,0),(5,3)]<|Qc J J (stf (Qi (ivs:=[]) J trivial (fun a w hs=>Yet)) K1)<|go 6 ?_
 refine Zs<|go 3 ?_
 exact xe3 hsc () results163 J trivial Za
set_option maxHeartbeats 1000000
theorem ve_ins(v:Value)(l:List Int)(m:Int)(hm:0≤m∧m≤16777216):Cal Tryz.prog 124 #[.int .i64 m,v] [Yh 1 Zx v l] false (G:=Unit) (fun _=>True) (fun _=> .bool (Zye m l)) (fun _=>[]):=by
 refine Zd Tryz.func124 Tryz.ntmps124 fun w0 sc hw hsc=>?_
 refine Nw (Gp (i:=1) rfl Zk) (fun hlen=>?_)
 refine go 14 ?_
 refine lp (G:=Nat) [0,7,8] [0,1] (fun k=>[(9,.int .i64 (k:Int))]) (fun k=>[]) (fun k=>(k≤l.length)∧(∀i,i<k→-m≤l.getD i 0∧l.getD i 0≤m)) (fun k=>l.length-k) 0 ⟨O1,fun i hi=>absurd hi (Nat.not_lt_zero i)⟩ ⟨rfl,trivial⟩ trivial ?_
 rintro k ⟨hk,hz⟩
 refine go 6 ?_
 refine Zc rfl (fun h18=>?_) (fun h18=>?_)
 ·refine go 15 ⟨O2,O2,?_⟩
  refine dt (d_negi rfl rfl ⟨O,O⟩) ?_
  refine go 2 ?_
  refine Yt (d:=17) rfl (fun s19=>?_) (fun s19=>?_)
  ·refine go 18 ?_
   exact Xn hsc () Tryz.results124 (by rw [Yci (i:=k) O O]) trivial Za
  ·refine go 6 ?_
   refine Zc rfl (fun h19=>?_) (fun h19=>?_)
   ·refine go 11 ?_
    exact Xn hsc () Tryz.results124 (by rw [Yci (i:=k) O O]) trivial Za
   ·refine go 7 ⟨O,?_⟩
    exact Xf (k+1) ⟨O1,fun i hi=>by rcases Nat.lt_succ_iff_lt_or_eq.1 hi with h9 | h9;exact hz i h9;subst h9;exact⟨O,O⟩⟩ O1 ⟨rfl,trivial⟩ trivial
 ·refine go 11 ?_
  exact Xn hsc () Tryz.results124 (by rw [insB_t fun i hi=>hz i O]) trivial Za
theorem ve_pt(x y z:Int):Cal Tryz.prog 61 #[.agg #[.int .i64 x,.int .i64 y,.int .i64 z]] [] false (G:=Unit) (fun _=>True) (fun _=> .bool (ptB x y z)) (fun _=>[]):=by
 refine Zd Tryz.func61 Tryz.ntmps61 fun w0 sc hw hsc=>?_
 refine go 2 ?_
 refine Yk (Yj 1) fun bx _=>?_
 refine go 11 ?_
 refine tt (Qh (i:=2) (ivs:=[(0,_),(1,_),(2,_)]) (enc:=Zx) ([x,y,z]:List Int) rfl rfl ⟨rfl,rfl,rfl,rfl,rfl,rfl,trivial⟩ Tryz.underlying33 Tryz.ti3 rfl rfl rfl rfl rfl pZ.cells rfl rfl hw.h) (fun v _=>?_)
 refine cl 2 [2] (ve_ins _ [x,y,z] 1048576 ⟨O3,O3⟩) fun _ _=>?_
 refine go 4 ?_
 exact Xn hsc () Tryz.results61 rfl trivial Za
theorem Za3(zd zn ze:Int):Cal Tryz.prog 15 #[.agg #[.int .i64 zd,.int .i64 zn,.int .i64 ze]] [] false (G:=Unit) (fun _=>True) (fun _=> .bool (znB zd zn ze)) (fun _=>[]):=by
 refine Zd Tryz.func15 Tryz.ntmps15 fun w0 sc hw hsc=>?_
 refine go 2 ?_
 refine Yk (Yj 1) fun bx _=>?_
 refine go 9 ?_
 refine Yt (d:=6) rfl (fun s19=>?_) (fun s19=>?_)
 ·refine go 5 ?_
  refine Yt (d:=11) rfl (fun s19_2=>?_) (fun s19_2=>?_)
  ·refine go 5 ?_
   refine Yt (d:=16) rfl (fun s19_3=>?_) (fun s19_3=>?_)
   ·refine go 7 ?_
    refine Yt (d:=23) rfl (fun s19_4=>?_) (fun s19_4=>?_)
    ·refine go 8 ?_
     exact Xn hsc () Tryz.results15 (by unfold znB;first | (simp_all;done) | (simp_all;omega)) trivial Za
    ·refine go 8 ?_
     exact Xn hsc () Tryz.results15 (by unfold znB;first | (simp_all;done) | (simp_all;omega)) trivial Za
   ·refine go 15 ?_
    exact Xn hsc () Tryz.results15 (by unfold znB;first | (simp_all;done) | (simp_all;omega)) trivial Za
  ·refine go 20 ?_
   exact Xn hsc () Tryz.results15 (by unfold znB;first | (simp_all;done) | (simp_all;omega)) trivial Za
 ·refine go 25 ?_
  exact Xn hsc () Tryz.results15 (by unfold znB;first | (simp_all;done) | (simp_all;omega)) trivial Za
set_option maxHeartbeats 1000000 in
theorem dw_pts(ax ay az cx cy cz zd zn ze:Int)(hpa:ptB ax ay az=true)(hpb:ptB cx cy cz=true)(hz:znB zd zn ze=true):Cal Tryz.prog 14 #[.agg #[.int .i64 ax,.int .i64 ay,.int .i64 az],.agg #[.int .i64 cx,.int .i64 cy,.int .i64 cz],.agg #[.int .i64 zd,.int .i64 zn,.int .i64 ze]] [] false (G:=Unit) (fun _=>True) (fun _=> .tuple #[.bool (ptsB ax ay az cx cy cz zd zn ze),.int .i64 0]) (fun _=>[]):=by
 refine Zd Tryz.func14 Tryz.ntmps14 fun w0 sc hw hsc=>?_
 obtain⟨p1,p2,p3⟩:=pt_b hpa
 obtain⟨q1,q2,q3⟩:=pt_b hpb
 obtain⟨z1,z2,z3,z4,z5⟩:=Yfd hz
 have m1:=Zb7 (x:=(ax-cx)) (y:=ze) (A:=2097152) (B:=100) O O
 have m2:=Zb7 (x:=(ay-cy)) (y:=ze) (A:=2097152) (B:=100) O O
 have m3:=Zb7 (x:=(az-cz)) (y:=zn) (A:=2097152) (B:=100) O O
 have m4:=Zb7 (x:=((ax-cx)*ze)) (y:=((ax-cx)*ze)) (A:=209715200) (B:=209715200) O O
 have m5:=Zb7 (x:=((ay-cy)*ze)) (y:=((ay-cy)*ze)) (A:=209715200) (B:=209715200) O O
 have m6:=Zb7 (x:=((az-cz)*zn)) (y:=((az-cz)*zn)) (A:=209715200) (B:=209715200) O O
 have m7:=Zb7 (x:=zd) (y:=ze) (A:=4194304) (B:=100) O O
 have m8:=Zb7 (x:=(zd*ze)) (y:=(zd*ze)) (A:=419430400) (B:=419430400) O O
 refine go 2 ?_
 refine Yk (Yj 1) fun bx _=>?_
 refine Yk (Yj 2) fun bx_2 _=>?_
 refine Yk (Yj 3) fun bx_3 _=>?_
 refine go 8 ?_
 refine cl 3 [] (ve_pt _ _ _) fun _ _=>?_
 refine dt (Zw (r':= .bool false) (Qf rfl rfl) (congrArg (fun b=>Value.bool (!b)) hpa)) ?_
 refine go 2 ?_
 refine Gy 3 [] (ve_pt _ _ _) fun _ _=>?_
 refine Ej (Zw (r':= .bool false) (Qf rfl rfl) (congrArg (fun b=>Value.bool (!b)) hpb)) rfl rfl ?_
 refine go 3 ?_
 refine Gy 3 [] (Za3 _ _ _) fun _ _=>?_
 refine Ej (Zw (r':= .bool false) (Qf rfl rfl) (congrArg (fun b=>Value.bool (!b)) hz)) rfl rfl ?_
 refine go 7 ?_
 refine Qe (fun _=>False) [(0,0),(1,0),(2,0),(3,0),(4,0),(5,0),(6,0),(7,0),(8,0),(9,0),(10,0),(11,0),(12,0),(13,0),(14,0),(15,0),(16,0),(17,0),(18,0),(19,0),(20,0),(21,0),(22,0),(23,0),(24,0),(25,0),(26,3)] ?_
 refine go 61 ⟨O,O,O,O,O,O,O,O,O,O,O,O,O,?_⟩
 exact Mi hsc () Tryz.results14 rfl trivial Za
set_option maxHeartbeats 1000000 in
theorem Zvt(fr to ov fr2 to2 ov2:Int)(vx vy vz vx2 vy2 vz2:Value)(x y z x2 y2 z2:List Int)(zd zn ze:Int)(hS:Sgo fr to ov x y z)(hS2:Sgo fr2 to2 ov2 x2 y2 z2)(hA:∀i,Ab KA (tzl (Zp i x y z)))(hA2:∀i,Ab KA (tzl (Zp i x2 y2 z2)))(hzn:znB zd zn ze=true):Cal Tryz.prog 74 #[.agg #[.int .i64 fr,.int .i64 to,.int .i64 ov,vx,vy,vz],.agg #[.int .i64 fr2,.int .i64 to2,.int .i64 ov2,vx2,vy2,vz2],.agg #[.int .i64 zd,.int .i64 zn,.int .i64 ze]] [Yh 1 Zx vx x,Yh 1 Zx vy y,Yh 1 Zx vz z,Yh 1 Zx vx2 x2,Yh 1 Zx vy2 y2,Yh 1 Zx vz2 z2] true (G:=SL×List Int) (fun g=>g.2=fmZ zd zn ze ov ov2 x y z x2 y2 z2) (fun g=>Xb g.1) (fun g=>[Yh 2 wv (Xb g.1) g.2]):=by
 refine Zd Tryz.func74 Tryz.ntmps74 fun w0 sc hw hsc=>?_
 have hF:=fzX hS hS2 hA hA2 hzn
 refine go 2 ?_
 refine Yk (Yj 7) fun bx _=>?_
 refine Yk (Yj 8) fun bx_2 _=>?_
 refine Yk (Yj 9) fun bx_3 _=>?_
 refine go 5 ?_
 refine tt (Qh (i:=10) (ivs:=[(0,_)]) (enc:=Zx) ([-1]:List Int) rfl rfl ⟨rfl,rfl,trivial⟩ Tryz.underlying33 Tryz.ti3 rfl rfl rfl rfl rfl pZ.cells rfl rfl hw.h) (fun v _=>?_)
 refine Yp (Qd 10 rfl rfl pZ) ?_
 refine cl 11 [10] (Zd1 _ _ (fun a ha=>by rw [List.mem_singleton.1 ha];exact⟨O3,O3⟩)) fun _ _=>?_
 refine Yp (Me 11 (q:=Yh 2 wv _ [-1]) (congrArg (Yh 2 wv _) tzlm1) rfl rfl) ?_
 refine go 18 ?_
 refine dt (Qi (ivs:=[(0,_),(1,_),(2,_),(3,_)]) rfl ⟨rfl,rfl,rfl,rfl,rfl,rfl,rfl,rfl,trivial⟩ (fun a w hs=>Zyw ((Yo rfl) a w hs) ((Yo rfl) a w hs) ((Yo rfl) a w hs) ((Yo rfl) a w hs))) ?_
 refine go 4 ?_
 refine Zf (Pj 11 80 rfl rfl rfl) ?_
 refine lp (G:=Nat×Value) [3,4,5,30] [0,1,2,3,4,5,6,7,8,9,10,11] (fun q=>[(31,.int .i64 (q.1:Int)),(7,q.2)]) (fun q=>[(80,Yh 2 wv q.2 (ngC [zd,ze,ov,ov2] q.1))]) (fun q=>q.1≤4) (fun q=>4-q.1) (0,_) O1 ⟨rfl,rfl,trivial⟩ ⟨rfl,trivial⟩ ?_
 rintro⟨i,vs⟩ hi
 dsimp only at hi
 dsimp only
 have hNi:=hF.N i hi
 refine go 6 ?_
 refine Zc rfl (fun h41=>?_) (fun h41=>?_)
 ·refine go 6 ?_
  refine dt (d_ix4 (i:=i) rfl rfl rfl Tryz.underlying186 Tryz.sizeOf3 Tryz.isAgg3 rfl O) ?_
  refine go 7 ?_
  refine cl 11 [] (Zo ([zd,ze,ov,ov2].getD i 0) hNi.inn) fun _ _=>?_
  refine cl 12 [80] (Mm _ (ngC [zd,ze,ov,ov2] i) ([zd,ze,ov,ov2].getD i 0) hNi.v hNi.b hNi.s) fun _ _=>?_
  refine go 9 ?_
  refine cl 12 [] (Zo ([zd,ze,ov,ov2].getD i 0) hNi.inn) fun _ _=>?_
  refine cl 13 [12] (Mm _ (Zm (ngC [zd,ze,ov,ov2] i) ([zd,ze,ov,ov2].getD i 0)) ([zd,ze,ov,ov2].getD i 0) hNi.v2 hNi.b hNi.s2) fun _ _=>?_
  refine go 11 ⟨O,?_⟩
  refine Yg (Pj 13 80 rfl rfl rfl) ?_
  exact Xf (i+1,_) O1 O1 ⟨rfl,rfl,trivial⟩ ⟨rfl,trivial⟩
 ·obtain rfl:i=4:=O
  refine go 14 ?_
  refine dt (Qi (ivs:=[(0,_),(1,_),(2,_)]) rfl ⟨rfl,rfl,rfl,rfl,rfl,rfl,trivial⟩ (fun a w hs=>Zjr ((Pl (i:=1) rfl Zk) a w hs) ((Pl (i:=4) rfl Zk) a w hs) ((Yo rfl) a w hs))) ?_
  refine go 6 ?_
  refine dt (Qi (ivs:=[(0,_),(1,_),(2,_)]) rfl ⟨rfl,rfl,rfl,rfl,rfl,rfl,trivial⟩ (fun a w hs=>Zjr ((Pl (i:=2) rfl Zk) a w hs) ((Pl (i:=5) rfl Zk) a w hs) ((Yo rfl) a w hs))) ?_
  refine go 6 ?_
  refine dt (Qi (ivs:=[(0,_),(1,_),(2,_)]) rfl ⟨rfl,rfl,rfl,rfl,rfl,rfl,trivial⟩ (fun a w hs=>Zjr ((Pl (i:=3) rfl Zk) a w hs) ((Pl (i:=6) rfl Zk) a w hs) ((Yo rfl) a w hs))) ?_
  refine dt (Qi (ivs:=[(0,_),(1,_),(2,_)]) rfl ⟨rfl,rfl,rfl,rfl,rfl,rfl,trivial⟩ (fun a w hs=>Yev)) ?_
  refine go 4 ?_
  refine lp (G:=Nat×Value) [3,4,70] [0,1,2,3,4,5,6,7,8,9,10,11] (fun q=>[(71,.int .i64 (q.1:Int)),(7,q.2)]) (fun q=>[(80,Yh 2 wv q.2 (smZ zd zn ze ov ov2 x y z x2 y2 z2 q.1))]) (fun q=>q.1≤3) (fun q=>3-q.1) (0,_) O1 ⟨rfl,rfl,trivial⟩ ⟨rfl,trivial⟩ ?_
  rintro⟨i,vs⟩ hi
  dsimp only at hi
  dsimp only
  have hXi:=hF.X i
  refine go 6 ?_
  refine Zc rfl (fun h45=>?_) (fun h45=>?_)
  ·refine go 5 ?_
   refine Zf (Zcs i 1 2 3 50 rfl rfl rfl rfl rfl rfl) ?_
   refine Zf (Zcs i 4 5 6 51 rfl rfl rfl rfl rfl rfl) ?_
   refine go 1 ?_
   refine dt (d_ix9 (i:=i) rfl rfl rfl Tryz.underlying190 Tryz.sizeOf189 Tryz.isAgg189 rfl O) ?_
   refine Yk (Zz 14) fun bx_4 _=>?_
   refine go 7 ?_
   refine cl 15 [50] (Zd1 _ _ (hS.hc i) (Nat.le_trans (hS.lc i).2 O3)) fun _ _=>?_
   refine Yp (Me 15 (q:=Yh 2 wv _ (tzl (Zp i x y z))) (congrArg (Yh 2 wv _) (if_neg (Zli (hS.lc i).2))) rfl rfl) ?_
   refine go 11 ?_
   refine cl 16 [51] (Zd1 _ _ (hS2.hc i) (Nat.le_trans (hS2.lc i).2 O3)) fun _ _=>?_
   refine Yp (Me 16 (q:=Yh 2 wv _ (tzl (Zp i x2 y2 z2))) (congrArg (Yh 2 wv _) (if_neg (Zli (hS2.lc i).2))) rfl rfl) ?_
   refine go 12 ?_
   refine cl 16 [] (Zo ov2 (inI_o hS2)) fun _ _=>?_
   refine cl 17 [15] (Mm _ _ ov2 hXi.v1 hXi.b1 hXi.s1) fun _ _=>?_
   refine go 11 ?_
   refine cl 17 [] (Zo ov (inI_o hS)) fun _ _=>?_
   refine cl 18 [16] (Mm _ _ ov hXi.v2 hXi.a1 hXi.s2) fun _ _=>?_
   refine go 10 ?_
   refine cl 19 [17,18] (Ybb _ _ (Zm (tzl (Zp i x y z)) ov2) (Zm (tzl (Zp i x2 y2 z2)) ov) hXi.v3 hXi.v4 hXi.s3) fun _ _=>?_
   refine Yp (Me 19 (q:=Yh 2 wv _ (dfP (Zp i x y z) (Zp i x2 y2 z2) ov ov2)) (congrArg (Yh 2 wv _) rfl) rfl rfl) ?_
   refine go 11 ?_
   refine cl 19 [] (Zo (Zp i ze ze zn) (hF.K i)) fun _ _=>?_
   refine cl 20 [19] (Mm _ _ (Zp i ze ze zn) hXi.v5 hXi.k1 hXi.s4) fun _ _=>?_
   refine Yp (Me 20 (q:=Yh 2 wv _ (dfK (Zp i x y z) (Zp i x2 y2 z2) ov ov2 (Zp i ze ze zn))) (congrArg (Yh 2 wv _) rfl) rfl rfl) ?_
   refine go 10 ?_
   refine cl 21 [20,20] (Zpj _ _ (dfK (Zp i x y z) (Zp i x2 y2 z2) ov ov2 (Zp i ze ze zn)) (dfK (Zp i x y z) (Zp i x2 y2 z2) ov ov2 (Zp i ze ze zn)) hXi.v6 hXi.v6 hXi.m6) fun _ _=>?_
   refine Yp (Me 21 (q:=Yh 2 wv _ (sqK (Zp i x y z) (Zp i x2 y2 z2) ov ov2 (Zp i ze ze zn))) (congrArg (Yh 2 wv _) rfl) rfl rfl) ?_
   refine go 9 ?_
   refine cl 22 [80,21] (Ybc _ _ (smZ zd zn ze ov ov2 x y z x2 y2 z2 i) (sqK (Zp i x y z) (Zp i x2 y2 z2) ov ov2 (Zp i ze ze zn)) (hF.Q.v i O) hXi.v7 (hF.Q.s i O)) fun _ _=>?_
   refine Yp (Me 22 (q:=Yh 2 wv _ (smZ zd zn ze ov ov2 x y z x2 y2 z2 (i+1))) (congrArg (Yh 2 wv _) rfl) rfl rfl) ?_
   refine go 11 ⟨O,?_⟩
   refine Yg (Pj 22 80 rfl rfl rfl) ?_
   exact Xf (i+1,_) O1 O1 ⟨rfl,rfl,trivial⟩ ⟨rfl,trivial⟩
  ·obtain rfl:i=3:=O
   refine go 8 ?_
   refine cl 23 [80] (Nh _ _ (hF.Q.v 3 (Nat.le_refl _))) fun _ _=>?_
   refine Yp (Me 23 (q:=Yh 2 wv _ (fmZ zd zn ze ov ov2 x y z x2 y2 z2)) (congrArg (Yh 2 wv _) rfl) rfl rfl) ?_
   refine go 13 ?_
   refine Zrl (Px 23 rfl Zk) (fun sq hsq=>?_)
   subst hsq
   generalize fmZ zd zn ze ov ov2 x y z x2 y2 z2=X9
   exact Xn hsc (sq,X9) Tryz.results74 rfl rfl (Ot 23 Za)
set_option maxHeartbeats 1000000 in
theorem Zqj(fr to ov fr2 to2 ov2:Int)(vx vy vz vx2 vy2 vz2:Value)(x y z x2 y2 z2:List Int)(zd zn ze:Int)(hfr:Xx fr)(hto:Xx to)(hov:Xx ov)(hx:∀a∈x,Xx a)(hy:∀a∈y,Xx a)(hz:∀a∈z,Xx a)(hfr2:Xx fr2)(hto2:Xx to2)(hov2:Xx ov2)(hx2:∀a∈x2,Xx a)(hy2:∀a∈y2,Xx a)(hz2:∀a∈z2,Xx a)(hb:¬(Kr fr to ov x y z=true∧Kr fr2 to2 ov2 x2 y2 z2=true∧fr=fr2∧to=to2∧znB zd zn ze=true)):Cal Tryz.prog 21 #[.agg #[.int .i64 fr,.int .i64 to,.int .i64 ov,vx,vy,vz],.agg #[.int .i64 fr2,.int .i64 to2,.int .i64 ov2,vx2,vy2,vz2],.agg #[.int .i64 zd,.int .i64 zn,.int .i64 ze]] [Yh 1 Zx vx x,Yh 1 Zx vy y,Yh 1 Zx vz z,Yh 1 Zx vx2 x2,Yh 1 Zx vy2 y2,Yh 1 Zx vz2 z2] false (G:=Unit) (fun _=>True) (fun _=> .tuple #[.slice none 0 0,.int .i64 2]) (fun _=>[]):=by
 refine Zd Tryz.func21 Tryz.ntmps21 fun w0 sc hw hsc=>?_
 refine go 2 ?_
 refine Yk (Yj 7) fun bx _=>?_
 refine Yk (Yj 8) fun bx_2 _=>?_
 refine Yk (Yj 9) fun bx_3 _=>?_
 refine go 6 ?_
 rcases Yc3 hb with hc1 | ⟨hc1,hc2⟩ | ⟨hc1,hc2,hc3⟩ | ⟨hc1,hc2,hc3,hc4⟩ | ⟨hc1,hc2,hc3,hc4,hc5⟩
 ·refine go 2 ?_
  refine cl 9 [1,2,3] (Mx _ _ _ _ _ _ _ _ _ hfr hto hov hx hy hz) fun _ _=>?_
  refine dt (Zw (r':= .bool true) (Qf rfl rfl) (congrArg (fun b=>Value.bool (!b)) hc1)) ?_
  refine go 35 ?_
  exact Mi hsc () Tryz.results21 rfl trivial Za
 ·refine go 2 ?_
  refine cl 9 [1,2,3] (Mx _ _ _ _ _ _ _ _ _ hfr hto hov hx hy hz) fun _ _=>?_
  refine dt (Zw (r':= .bool false) (Qf rfl rfl) (congrArg (fun b=>Value.bool (!b)) hc1)) ?_
  refine go 2 ?_
  refine Gy 9 [4,5,6] (Mx _ _ _ _ _ _ _ _ _ hfr2 hto2 hov2 hx2 hy2 hz2) fun _ _=>?_
  refine Ej (Zw (r':= .bool true) (Qf rfl rfl) (congrArg (fun b=>Value.bool (!b)) hc2)) rfl rfl ?_
  refine go 31 ?_
  exact Mi hsc () Tryz.results21 rfl trivial Za
 ·refine go 2 ?_
  refine cl 9 [1,2,3] (Mx _ _ _ _ _ _ _ _ _ hfr hto hov hx hy hz) fun _ _=>?_
  refine dt (Zw (r':= .bool false) (Qf rfl rfl) (congrArg (fun b=>Value.bool (!b)) hc1)) ?_
  refine go 2 ?_
  refine Gy 9 [4,5,6] (Mx _ _ _ _ _ _ _ _ _ hfr2 hto2 hov2 hx2 hy2 hz2) fun _ _=>?_
  refine Ej (Zw (r':= .bool false) (Qf rfl rfl) (congrArg (fun b=>Value.bool (!b)) hc2)) rfl rfl ?_
  refine go 6 ?_
  refine ktg (decide_eq_true hc3) ?_
  refine go 24 ?_
  exact Mi hsc () Tryz.results21 rfl trivial Za
 ·refine go 2 ?_
  refine cl 9 [1,2,3] (Mx _ _ _ _ _ _ _ _ _ hfr hto hov hx hy hz) fun _ _=>?_
  refine dt (Zw (r':= .bool false) (Qf rfl rfl) (congrArg (fun b=>Value.bool (!b)) hc1)) ?_
  refine go 2 ?_
  refine Gy 9 [4,5,6] (Mx _ _ _ _ _ _ _ _ _ hfr2 hto2 hov2 hx2 hy2 hz2) fun _ _=>?_
  refine Ej (Zw (r':= .bool false) (Qf rfl rfl) (congrArg (fun b=>Value.bool (!b)) hc2)) rfl rfl ?_
  refine go 6 ?_
  refine kfg (decide_eq_false (fun h=>h hc3)) ?_
  refine go 6 ?_
  refine ktg (decide_eq_true hc4) ?_
  refine go 17 ?_
  exact Mi hsc () Tryz.results21 rfl trivial Za
 ·refine go 2 ?_
  refine cl 9 [1,2,3] (Mx _ _ _ _ _ _ _ _ _ hfr hto hov hx hy hz) fun _ _=>?_
  refine dt (Zw (r':= .bool false) (Qf rfl rfl) (congrArg (fun b=>Value.bool (!b)) hc1)) ?_
  refine go 2 ?_
  refine Gy 9 [4,5,6] (Mx _ _ _ _ _ _ _ _ _ hfr2 hto2 hov2 hx2 hy2 hz2) fun _ _=>?_
  refine Ej (Zw (r':= .bool false) (Qf rfl rfl) (congrArg (fun b=>Value.bool (!b)) hc2)) rfl rfl ?_
  refine go 6 ?_
  refine kfg (decide_eq_false (fun h=>h hc3)) ?_
  refine go 6 ?_
  refine kfg (decide_eq_false (fun h=>h hc4)) ?_
  refine go 3 ?_
  refine Gy 9 [] (Za3 _ _ _) fun _ _=>?_
  refine Ej (Zw (r':= .bool true) (Qf rfl rfl) (congrArg (fun b=>Value.bool (!b)) hc5)) rfl rfl ?_
  refine go 12 ?_
  exact Mi hsc () Tryz.results21 rfl trivial Za
set_option maxHeartbeats 1000000 in
theorem Zni(fr to ov fr2 to2 ov2:Int)(vx vy vz vx2 vy2 vz2:Value)(x y z x2 y2 z2:List Int)(zd zn ze:Int)(hfr:Xx fr)(hto:Xx to)(hov:Xx ov)(hx:∀a∈x,Xx a)(hy:∀a∈y,Xx a)(hz:∀a∈z,Xx a)(hfr2:Xx fr2)(hto2:Xx to2)(hov2:Xx ov2)(hx2:∀a∈x2,Xx a)(hy2:∀a∈y2,Xx a)(hz2:∀a∈z2,Xx a)(hb1:Kr fr to ov x y z=true)(hb2:Kr fr2 to2 ov2 x2 y2 z2=true)(hft:fr=fr2)(htt:to=to2)(hzn:znB zd zn ze=true):Cal Tryz.prog 21 #[.agg #[.int .i64 fr,.int .i64 to,.int .i64 ov,vx,vy,vz],.agg #[.int .i64 fr2,.int .i64 to2,.int .i64 ov2,vx2,vy2,vz2],.agg #[.int .i64 zd,.int .i64 zn,.int .i64 ze]] [Yh 1 Zx vx x,Yh 1 Zx vy y,Yh 1 Zx vz z,Yh 1 Zx vx2 x2,Yh 1 Zx vy2 y2,Yh 1 Zx vz2 z2] true (G:=SL×List Int) (fun g=>g.2=fmZ zd zn ze ov ov2 x y z x2 y2 z2) (fun g=> .tuple #[Xb g.1,.int .i64 0]) (fun g=>[Yh 2 wv (Xb g.1) g.2]):=by
 refine Zd Tryz.func21 Tryz.ntmps21 fun w0 sc hw hsc=>?_
 refine go 2 ?_
 refine Yk (Yj 7) fun bx _=>?_
 refine Yk (Yj 8) fun bx_2 _=>?_
 refine Yk (Yj 9) fun bx_3 _=>?_
 refine go 8 ?_
 refine cl 9 [1,2,3] (Mx _ _ _ _ _ _ _ _ _ hfr hto hov hx hy hz) fun _ _=>?_
 refine dt (Zw (r':= .bool false) (Qf rfl rfl) (congrArg (fun b=>Value.bool (!b)) hb1)) ?_
 refine go 2 ?_
 refine Gy 9 [4,5,6] (Mx _ _ _ _ _ _ _ _ _ hfr2 hto2 hov2 hx2 hy2 hz2) fun _ _=>?_
 refine Ej (Zw (r':= .bool false) (Qf rfl rfl) (congrArg (fun b=>Value.bool (!b)) hb2)) rfl rfl ?_
 refine go 6 ?_
 refine kfg (decide_eq_false (fun h=>h hft)) ?_
 refine go 6 ?_
 refine kfg (decide_eq_false (fun h=>h htt)) ?_
 refine go 3 ?_
 refine Gy 9 [] (Za3 _ _ _) fun _ _=>?_
 refine Ej (Zw (r':= .bool false) (Qf rfl rfl) (congrArg (fun b=>Value.bool (!b)) hzn)) rfl rfl ?_
 refine go 11 ?_
 refine cl 10 [1,2,3,4,5,6] (Zvt _ _ _ _ _ _ _ _ _ _ _ _ _ _ _ _ _ _ _ _ _ (Sgo.of hx hy hz hb1) (Sgo.of hx2 hy2 hz2 hb2) (Ba hb1) (Ba hb2) hzn) fun fq hfq=>?_
 refine go 5 ?_
 exact Mi hsc _ Tryz.results21 rfl hfq (Ot 10 Za)
theorem Zs3(v:Value)(xs:List Int)(hd:Cvd xs)(hn:ngb (Pw xs) (chx xs) (0,1) (1,1)=true):Cal Tryz.prog 152 #[v] [Yh 2 wv v xs] false (G:=Unit) (fun _=>True) (fun _=> .bool true) (fun _=>[]):=by
 refine Zd Tryz.func152 Tryz.ntmps152 fun w0 sc hw hsc=>?_
 refine go 7 ?_
 refine cl 1 [] (Ep 0 1 ⟨O3,O3⟩ ⟨O3,O3⟩ O3) fun _ _=>?_
 refine go 3 ?_
 refine Yk (Zz 2) fun bx _=>?_
 refine go 6 ?_
 refine cl 2 [] (Ep 1 1 ⟨O3,O3⟩ ⟨O3,O3⟩ O3) fun _ _=>?_
 refine go 3 ?_
 refine Yk (Zz 3) fun bx_2 _=>?_
 refine go 9 ?_
 refine cl 3 [1] (Zgc _ _ (0,1) (1,1) hd e32_0 e32_1 cmp01 hn) fun g hg=>?_
 refine go 4 ?_
 refine Yk (Zz 4) fun bx_3 _=>?_
 refine go 12 ?_
 exact Xn hsc () Tryz.results152 rfl trivial Za
theorem Zyj(v:Value)(xs:List Int)(hd:Cvd xs)(hn:ngb (Pw xs) (chx xs) (0,1) (1,1)=false):Cal Tryz.prog 152 #[v] [Yh 2 wv v xs] false (G:=Unit) (fun _=>True) (fun _=> .bool false) (fun _=>[]):=by
 refine Zd Tryz.func152 Tryz.ntmps152 fun w0 sc hw hsc=>?_
 refine go 7 ?_
 refine cl 1 [] (Ep 0 1 ⟨O3,O3⟩ ⟨O3,O3⟩ O3) fun _ _=>?_
 refine go 3 ?_
 refine Yk (Zz 2) fun bx _=>?_
 refine go 6 ?_
 refine cl 2 [] (Ep 1 1 ⟨O3,O3⟩ ⟨O3,O3⟩ O3) fun _ _=>?_
 refine go 3 ?_
 refine Yk (Zz 3) fun bx_2 _=>?_
 refine go 9 ?_
 refine cl 3 [1] (Zhs _ _ (0,1) (1,1) hd e32_0 e32_1 cmp01 hn) fun _ _=>?_
 refine go 4 ?_
 refine Yk (Zz 4) fun bx_3 _=>?_
 refine go 12 ?_
 exact Xn hsc () Tryz.results152 rfl trivial Za
theorem dw_neg(v:Value)(xs:List Int)(hd:Cvd xs):Cal Tryz.prog 152 #[v] [Yh 2 wv v xs] false (G:=Unit) (fun _=>True) (fun _=> .bool (Zc1 xs)) (fun _=>[]):=by
 unfold Zc1
 cases hn:ngb (Pw xs) (chx xs) (0,1) (1,1)with
 | true=>exact Zs3 v xs hd hn
 | false=>exact Zyj v xs hd hn
set_option maxHeartbeats 1000000 in
theorem Yhw(va vb:Value)(pa pb:List Zv)(zd zn ze:Int)(hpa:∀g∈pa,Gin g)(hpb:∀g∈pb,Gin g)(hba:Nr pa=true)(hbb:Nr pb=true)(hla:pa.length≤5)(hlb:pb.length≤5)(hzn:znB zd zn ze=true):Cal Tryz.prog 26 #[va,vb,.agg #[.int .i64 zd,.int .i64 zn,.int .i64 ze]] [Pz 6 Mo qG va pa,Pz 6 Mo qG vb pb] true (G:=Value×List GpT) (fun g=>g.2.map unP=Bd zd zn ze pa pb) (fun g=> .tuple #[g.1,.int .i64 (Zj5 pa pb)]) (fun g=>[Pz 3 Zi5 qGp g.1 g.2]):=by
 refine Zd Tryz.func26 Tryz.ntmps26 fun w0 sc hw hsc=>?_
 refine go 2 ?_
 refine Yk (Yj 3) fun bx _=>?_
 refine go 8 ?_
 refine cl 3 [] (Za3 _ _ _) fun _ _=>?_
 refine dt (Zw (r':= .bool false) (Qf rfl rfl) (congrArg (fun b=>Value.bool (!b)) hzn)) ?_
 refine go 9 ?_
 refine cl 4 [1,2] (Zxf _ _ _ _ hpa hpb hba hbb hla hlb) fun gm hgm=>?_
 refine go 16 ?_
 refine Zc rfl (fun h73=>?_) (fun h73=>?_)
 ·have h9:=h73
  refine go 8 ?_
  refine Yg (Zdt 72 3 Zi5 qGp) ?_
  exact Mi hsc (.slice none 0 0,[]) Tryz.results26 (by rw [gapE_9 h9]) (gapZ_0 O).symm (Ot 72 Za)
 ·have h9:=h73
  refine go 16 ?_
  refine Zf (Pm 74 3 130 Zi5) ?_
  refine Zf (Yw qGp 76) ?_
  have hcl:=Zwa hpa hpb hba hbb
  have hxl:gm.1.2.length=(Ii pa pb pa).length:=by rw [←hgm.1,List.length_map]
  have hyl:gm.2.2.length=(Ii pa pb pb).length:=by rw [←hgm.2,List.length_map]
  refine lp (G:=Nat×Value×List GpT) [5,8,9,10,26] [0,1,2,3,4,5] (fun q=>[(27,.int .i64 (q.1:Int)),(11,q.2.1)]) (fun q=>[(74,Oa 3 130 Zi5 q.2.1 q.2.2),(76,Ia qGp q.2.2)]) (fun q=>(q.1≤gm.1.2.length)∧(q.2.2.map unP=(Bd zd zn ze pa pb).take q.1)∧(q.2.2.length=q.1)) (fun q=>gm.1.2.length-q.1) (0,.slice none 0 0,[]) ⟨O1,(by rw [List.take_zero];rfl),rfl⟩ ⟨rfl,rfl,trivial⟩ ⟨rfl,rfl,trivial⟩ ?_
  rintro⟨k,vq,zs⟩ ⟨hk,hzs,hzl⟩
  dsimp only at hk hzs hzl
  dsimp only
  refine go 6 ?_
  refine Zc rfl (fun h77=>?_) (fun h77=>?_)
  ·refine go 10 ?_
   obtain⟨gi1,gi2⟩:=Znn hpa hba hgm.1 _ (Zj (d:=G0) (show k<gm.1.2.length by omega))
   obtain⟨gj1,gj2⟩:=Znn hpb hbb hgm.2 _ (Zj (d:=G0) (show k<gm.2.2.length by omega))
   refine Zf (Nx (g:=(gm.1.2.getD k G0)) (z:=(gm.1.2.getD k G0).2.1) 4 51 rfl rfl (Zj) O7) ?_
   refine Zf (Nx (g:=(gm.1.2.getD k G0)) (z:=(gm.1.2.getD k G0).2.2.1) 4 52 rfl rfl (Zj) O7) ?_
   refine Zf (Nx (g:=(gm.1.2.getD k G0)) (z:=(gm.1.2.getD k G0).2.2.2) 4 53 rfl rfl (Zj) O7) ?_
   refine Zf (Nx (g:=(gm.2.2.getD k G0)) (z:=(gm.2.2.getD k G0).2.1) 5 54 rfl rfl (Zj) O7) ?_
   refine Zf (Nx (g:=(gm.2.2.getD k G0)) (z:=(gm.2.2.getD k G0).2.2.1) 5 55 rfl rfl (Zj) O7) ?_
   refine Zf (Nx (g:=(gm.2.2.getD k G0)) (z:=(gm.2.2.getD k G0).2.2.2) 5 56 rfl rfl (Zj) O7) ?_
   refine Ln [3,4,5] [24] ?_
   refine Zh (n:=0) [(0,0),(1,0),(2,0),(3,0),(4,0),(5,0),(6,0),(7,0),(8,0),(9,0),(10,0),(11,0),(12,0),(13,0),(14,0),(15,0),(16,0),(17,0),(18,0),(19,0),(20,1),(21,0),(22,1),(23,1),(24,3)] ?_
   refine go 3 ?_
   refine Qc rfl rfl (stf (Yn (ii:=4) (i:=k) rfl rfl rfl rfl Zn Tryz.underlying38 Tryz.sizeOf35 rfl) ⟨rfl,rfl,rfl,trivial⟩) ?_
   refine Qc rfl rfl (stf (Zep (ii:=4) rfl rfl rfl Zn Tryz.underlying35 rfl Tryz.sizeOf3 rfl) ⟨rfl,rfl,rfl,trivial⟩) ?_
   refine Qc rfl rfl (stf (Zeo (ii:=4) G0 rfl rfl rfl Zn Tryz.isAgg3 rfl) ⟨rfl,rfl,rfl,trivial⟩) ?_
   refine go 2 ?_
   refine Qc rfl rfl (stf (Yn (ii:=4) (i:=k) rfl rfl rfl rfl Zn Tryz.underlying38 Tryz.sizeOf35 rfl) ⟨rfl,rfl,rfl,trivial⟩) ?_
   refine Qc rfl rfl (stf (Zep (ii:=4) rfl rfl rfl Zn Tryz.underlying35 rfl Tryz.sizeOf3 rfl) ⟨rfl,rfl,rfl,trivial⟩) ?_
   refine Qc rfl rfl (stf (Zeo (ii:=4) G0 rfl rfl rfl Zn Tryz.isAgg3 rfl) ⟨rfl,rfl,rfl,trivial⟩) ?_
   refine go 2 ?_
   refine Qc rfl rfl (stf (Yn (ii:=4) (i:=k) rfl rfl rfl rfl Zn Tryz.underlying38 Tryz.sizeOf35 rfl) ⟨rfl,rfl,rfl,trivial⟩) ?_
   refine Qc rfl rfl (stf (Oi (ii:=4) G0 rfl rfl rfl Zn pG) ⟨rfl,rfl,rfl,trivial⟩) ?_
   refine go 2 ?_
   refine Qc rfl rfl (stf (Yn (ii:=5) (i:=k) rfl rfl rfl rfl Zn Tryz.underlying38 Tryz.sizeOf35 rfl) ⟨rfl,rfl,rfl,trivial⟩) ?_
   refine Qc rfl rfl (stf (Oi (ii:=5) G0 rfl rfl rfl Zn pG) ⟨rfl,rfl,rfl,trivial⟩) ?_
   refine go 1 ?_
   refine Yz (Zg 84 [51,52,53,54,55,56] (Zvt _ _ _ _ _ _ _ _ _ _ _ _ _ _ _ _ _ _ _ _ _ (Cz gi1 gi2) (Cz gj1 gj2) (Ba gi2) (Ba gj2) hzn)) fun fq hfq=>?_
   refine Qc rfl rfl (stf (Qi (ivs:=[(0,_),(1,_),(2,_)]) rfl ⟨rfl,rfl,rfl,rfl,rfl,rfl,trivial⟩ (fun a w hs=>Yex ((Yo rfl) a w hs) ((Yo rfl) a w hs) ((Yo rfl) a w hs))) ⟨rfl,rfl,rfl,trivial⟩) ?_
   refine Ev rfl (Qh (i:=6) (ivs:=[(0,_)]) (enc:=Zi5) [(gpY (gm.1.2.getD k G0) fq)] rfl rfl ⟨rfl,rfl,trivial⟩ Tryz.underlying50 Tryz.ti130 rfl rfl (fillG _ _ _ _ _ _) rfl rfl pGp.cells rfl rfl hw.h) (fun v _=>?_)
   refine Ev rfl (Zzi 74 rfl rfl rfl ⟨rfl,rfl,rfl,trivial⟩ (fun hoffr=>(Zt5 (i:=74) (j:=6) (by_:=40) rfl rfl rfl rfl rfl rfl O3 rfl (Ys pGp) Tryz.underlying50 Tryz.ti130 rfl pGp rfl rfl rfl O8 O3 rfl hw.h hoffr))) (fun v_2 _=>?_)
   refine go 2 ?_
   refine Zs ?_
   refine go 6 ⟨O,?_⟩
   refine Yg (Zi (q:=qGp) (z:=(gpY (gm.1.2.getD k G0) fq)) 76 84 76 rfl rfl rfl rfl rfl) ?_
   exact Xf (k+1,_,zs ++ [(gpY (gm.1.2.getD k G0) fq)]) ⟨O1,Yhi hgm.1 hgm.2 hzs O O hfq,by rw [List.length_append,hzl];rfl⟩ O1 ⟨rfl,rfl,trivial⟩ ⟨rfl,rfl,trivial⟩
  ·obtain rfl:k=gm.1.2.length:=O
   refine go 14 ?_
   refine Yg (Qd 74 rfl rfl pGp) ?_
   refine Yg (Pi 74 76 78 rfl rfl rfl rfl) ?_
   exact Mi hsc (vq,zs) Tryz.results26 (by rw [gapE_n h9]) (gp_all hgm.1 hcl.1 hzs) (Ot 78 Za)
set_option maxHeartbeats 1000000 in
theorem Ydd(va vb:Value)(pa pb:List Zv)(zd zn ze:Int)(hpa:∀g∈pa,Gin g)(hpb:∀g∈pb,Gin g)(hba:Nr pa=true)(hbb:Nr pb=true)(hla:pa.length≤5)(hlb:pb.length≤5)(hzn:znB zd zn ze=true):Cal Tryz.prog 84 #[va,vb,.agg #[.int .i64 zd,.int .i64 zn,.int .i64 ze]] [Pz 6 Mo qG va pa,Pz 6 Mo qG vb pb] false (G:=SL) (fun s9=>True) (fun s9=> .tuple #[.agg #[.int .i64 (Zj6 (Bd zd zn ze pa pb)).1,.int .i64 (Zj6 (Bd zd zn ze pa pb)).2.1,Xb s9],.bool (Zj6 (Bd zd zn ze pa pb)).2.2,.int .i64 (Zj5 pa pb)]) (fun s9=>[]):=by
 refine Zd Tryz.func84 Tryz.ntmps84 fun w0 sc hw hsc=>?_
 refine go 2 ?_
 refine Yk (Yj 3) fun bx _=>?_
 refine Yk (Zz 4) fun bx_2 _=>?_
 refine go 9 ?_
 refine cl 5 [1,2] (Yhw _ _ _ _ _ _ _ hpa hpb hba hbb hla hlb hzn) fun gg hgg=>?_
 refine go 16 ?_
 have hgl:=Yhm hpa hpb hba hbb hgg
 refine lp (G:=Nat) [6,19,20] [0,1,2,3,4,5] (fun k=>[(21,.int .i64 (k:Int)),(8,.int .i64 (Zj5 pa pb))]) (fun k=>[]) (fun k=>(k≤gg.2.length)∧(∀i,i<k→Zc1 (gg.2.getD i Gp0).2.2=false)) (fun k=>gg.2.length-k) 0 ⟨O1,fun i hi=>absurd hi (Nat.not_lt_zero i)⟩ ⟨rfl,rfl,trivial⟩ trivial ?_
 rintro k ⟨hk,hz⟩
 refine go 6 ?_
 refine Zc rfl (fun h94=>?_) (fun h94=>?_)
 ·refine go 5 ?_
  refine Zf (Al 5 55 (gg.2.getD k Gp0) rfl rfl (Zj) rfl) ?_
  have hcv:=cvd_at hpa hpb hba hbb hzn hgg (k:=k) O
  refine go 2 ⟨O2,?_⟩
  refine dt (Oi (ii:=5) Gp0 rfl rfl rfl Zn pGp O2) ?_
  refine Yk (Zz 6) fun bx_3 _=>?_
  refine go 7 ?_
  refine cl 6 [55] (dw_neg _ _ hcv) fun _ _=>?_
  refine go 2 ?_
  refine Lb rfl (fun h95=>?_) (fun h95=>?_)
  ·have hng:=h95
   refine go 15 ?_
   exact xe3 hsc (gg.2.getD k Gp0).2.1 Tryz.results84 (by rw [fst_at hgg O hz hng]) trivial Za
  ·have hng:=h95
   refine go 7 ⟨O,?_⟩
   exact Xf (k+1) ⟨O1,fun i hi=>by rcases Nat.lt_succ_iff_lt_or_eq.1 hi with h9 | h9;exact hz i h9;subst h9;exact hng⟩ O1 ⟨rfl,rfl,trivial⟩ trivial
 ·obtain rfl:k=gg.2.length:=O
  refine go 15 ?_
  exact xe3 hsc (none,0,0) Tryz.results84 (by rw [fst_no hgg hz]) trivial Za
theorem Zqk(va vb:Value)(pa pb:List Zv)(zd zn ze:Int)(hpa:∀g∈pa,Gin g)(hpb:∀g∈pb,Gin g)(hba:Nr pa=true)(hbb:Nr pb=true)(hla:pa.length≤5)(hlb:pb.length≤5)(hzn:znB zd zn ze=true):Cal Tryz.prog 27 #[va,vb,.agg #[.int .i64 zd,.int .i64 zn,.int .i64 ze]] [Pz 6 Mo qG va pa,Pz 6 Mo qG vb pb] false (G:=Unit) (fun _=>True) (fun _=> .tuple #[.bool (apZ zd zn ze pa pb),.int .i64 (Zj5 pa pb)]) (fun _=>[]):=by
 refine Zd Tryz.func27 Tryz.ntmps27 fun w0 sc hw hsc=>?_
 refine go 2 ?_
 refine Yk (Yj 3) fun bx _=>?_
 refine go 9 ?_
 refine cl 3 [1,2] (Ydd _ _ _ _ _ _ _ hpa hpb hba hbb hla hlb hzn) fun fs _=>?_
 refine go 4 ?_
 refine Yk (Zz 4) fun bx_2 _=>?_
 refine go 10 ?_
 refine Yt (d:=21) rfl (fun s105=>?_) (fun s105=>?_)
 ·refine go 9 ?_
  exact Mi hsc () Tryz.results27 (by first | rw [ap_t ‹_›] | rw [ap_f ‹_›]) trivial Za
 ·refine go 9 ?_
  exact Mi hsc () Tryz.results27 (by first | rw [ap_t ‹_›] | rw [ap_f ‹_›]) trivial Za
theorem Zfd(a b k:Int)(ha:-4194304≤a∧a≤4194304)(hb:-4194304≤b∧b≤4194304):Cal Tryz.prog 125 #[.int .i64 a,.int .i64 b,.int .i64 k] [] true (G:=SL) (fun r=>True) (fun r=>Xb r) (fun r=>[Yh 1 Zx (Xb r) (Fd a b k)]):=by
 refine Zd Tryz.func125 Tryz.ntmps125 fun w0 sc hw hsc=>?_
 refine go 19 ⟨O,?_⟩
 refine Yt (d:=13) rfl (fun s36=>?_) (fun s36=>?_)
 ·refine go 9 ?_
  refine tt (Qh (i:=1) (ivs:=[(0,_)]) (enc:=Zx) ([a]:List Int) rfl rfl ⟨rfl,rfl,trivial⟩ Tryz.underlying33 Tryz.ti3 rfl rfl rfl rfl rfl pZ.cells rfl rfl hw.h) (fun v _=>?_)
  refine go 5 ?_
  refine Yg (Qd 1 rfl rfl pZ) ?_
  refine Zrl (Px 1 rfl Zk) (fun sl hsl=>?_)
  subst hsl
  exact Xn hsc sl Tryz.results125 rfl trivial (Ot 1 Za (congrArg (Yh 1 Zx (Xb sl)) (tmL_0 (a:=a) (b:=b) (k:=k) O).symm))
 ·refine go 5 ?_
  refine Zc rfl (fun h36=>?_) (fun h36=>?_)
  ·refine go 3 ?_
   refine tt (Qh (i:=2) (ivs:=[(0,_)]) (enc:=Zx) ([a]:List Int) rfl rfl ⟨rfl,rfl,trivial⟩ Tryz.underlying33 Tryz.ti3 rfl rfl rfl rfl rfl pZ.cells rfl rfl hw.h) (fun v_2 _=>?_)
   refine go 5 ?_
   refine Yg (Qd 2 rfl rfl pZ) ?_
   refine Zrl (Px 2 rfl Zk) (fun sl hsl=>?_)
   subst hsl
   exact Xn hsc sl Tryz.results125 rfl trivial (Ot 2 Za (congrArg (Yh 1 Zx (Xb sl)) (tmL_0 (a:=a) (b:=b) (k:=k) O).symm))
  ·refine go 9 ?_
   refine Zc rfl (fun h39=>?_) (fun h39=>?_)
   ·refine go 4 ?_
    refine tt (Qh (i:=3) (ivs:=[(0,_),(1,_)]) (enc:=Zx) ([a,b-a]:List Int) rfl rfl ⟨rfl,rfl,rfl,rfl,trivial⟩ Tryz.underlying33 Tryz.ti3 rfl rfl rfl rfl rfl pZ.cells rfl rfl hw.h) (fun v_3 _=>?_)
    refine go 5 ?_
    refine Yg (Qd 3 rfl rfl pZ) ?_
    refine Zrl (Px 3 rfl Zk) (fun sl hsl=>?_)
    subst hsl
    exact Xn hsc sl Tryz.results125 rfl trivial (Ot 3 Za (congrArg (Yh 1 Zx (Xb sl)) (tmL_1 (a:=a) (b:=b) (k:=k) O O).symm))
   ·refine go 11 ⟨O,O,O,?_⟩
    refine tt (Qh (i:=4) (ivs:=[(0,_),(1,_),(2,_),(3,_),(4,_),(5,_)]) (enc:=Zx) ([a,0,0,10*(b-a),-15*(b-a),6*(b-a)]:List Int) rfl rfl ⟨rfl,rfl,rfl,rfl,rfl,rfl,rfl,rfl,rfl,rfl,rfl,rfl,trivial⟩ Tryz.underlying33 Tryz.ti3 rfl rfl rfl rfl rfl pZ.cells rfl rfl hw.h) (fun v_4 _=>?_)
    refine go 4 ?_
    refine Yg (Qd 4 rfl rfl pZ) ?_
    refine Zrl (Px 4 rfl Zk) (fun sl hsl=>?_)
    subst hsl
    exact Xn hsc sl Tryz.results125 rfl trivial (Ot 4 Za (congrArg (Yh 1 Zx (Xb sl)) (tmL_2 (a:=a) (b:=b) (k:=k) O O).symm))
theorem Zur(ax ay az bx by_ bz fr to k:Int)(hax:-4194304≤ax∧ax≤4194304)(hay:-4194304≤ay∧ay≤4194304)(haz:-4194304≤az∧az≤4194304)(hbx:-4194304≤bx∧bx≤4194304)(hby_:-4194304≤by_∧by_≤4194304)(hbz:-4194304≤bz∧bz≤4194304):Cal Tryz.prog 68 #[.agg #[.int .i64 ax,.int .i64 ay,.int .i64 az],.agg #[.int .i64 bx,.int .i64 by_,.int .i64 bz],.int .i64 fr,.int .i64 to,.int .i64 k] [] true (G:=SL×SL×SL) (fun r=>True) (fun r=> .agg #[.int .i64 fr,.int .i64 to,.int .i64 1,Xb r.1,Xb r.2.1,Xb r.2.2]) (fun r=>[Yh 1 Zx (Xb r.1) (Fd ax bx k),Yh 1 Zx (Xb r.2.1) (Fd ay by_ k),Yh 1 Zx (Xb r.2.2) (Fd az bz k)]):=by
 refine Zd Tryz.func68 Tryz.ntmps68 fun w0 sc hw hsc=>?_
 refine go 2 ?_
 refine Yk (Yj 1) fun bq _=>?_
 refine Yk (Yj 2) fun bq_2 _=>?_
 refine Yk (Zz 3) fun bq_3 _=>?_
 refine go 3 ?_
 refine Qe (fun _=>False) [(0,0),(1,0),(2,0),(3,0),(4,0),(5,0),(6,0),(8,0),(9,0),(10,0),(11,0),(12,0),(14,0),(15,0),(16,0),(17,0),(18,0),(7,1),(13,1),(19,1),(20,0),(21,3)] ?_
 refine go 17 ?_
 refine Yz (Zg 4 [] (Zfd ax bx k hax hbx)) fun sl _=>?_
 refine Yz (Zg 5 [] (Zfd ay by_ k hay hby_)) fun sl_2 _=>?_
 refine Yz (Zg 6 [] (Zfd az bz k haz hbz)) fun sl_3 _=>?_
 refine Qc rfl rfl (Qy (Qi (ivs:=[(0,_),(1,_),(2,_),(3,_),(4,_),(5,_)]) rfl ⟨rfl,rfl,rfl,rfl,rfl,rfl,rfl,rfl,rfl,rfl,rfl,rfl,trivial⟩ (fun a w hs=>Zts ((Yo rfl) a w hs) ((Yo rfl) a w hs) ((Yo rfl) a w hs) ((Pl (i:=4) rfl Zk) a w hs) ((Pl (i:=5) rfl Zk) a w hs) ((Pl (i:=6) rfl Zk) a w hs)))) ?_
 refine go 4 ?_
 exact Xn hsc (sl,sl_2,sl_3) Tryz.results68 rfl trivial (Ot 4 (Ot 5 (Ot 6 Za)))
theorem He(x y z:Int):Cal Tryz.prog 64 #[.int .i64 x,.int .i64 y,.int .i64 z] [] false (G:=Unit) (fun _=>True) (fun _=> .agg #[.int .i64 x,.int .i64 y,.int .i64 z]) (fun _=>[]):=by
 refine Zd Tryz.func64 Tryz.ntmps64 fun w0 sc hw hsc=>?_
 refine go 2 ?_
 refine Yk (Zz 1) fun bx _=>?_
 refine go 7 ?_
 refine dt (Qi (ivs:=[(0,_),(1,_),(2,_)]) rfl ⟨rfl,rfl,rfl,rfl,rfl,rfl,trivial⟩ (fun a w hs=>Yi6 ((Yo rfl) a w hs) ((Yo rfl) a w hs) ((Yo rfl) a w hs))) ?_
 refine go 4 ?_
 exact Xn hsc () Tryz.results64 rfl trivial Za
theorem Zaz(d:Int):Cal Tryz.prog 66 #[.int .i64 d] [] false (G:=Unit) (fun _=>True) (fun _=> .agg #[.int .i64 d,.int .i64 1,.int .i64 2]) (fun _=>[]):=by
 refine Zd Tryz.func66 Tryz.ntmps66 fun w0 sc hw hsc=>?_
 refine go 2 ?_
 refine Yk (Zz 1) fun bx _=>?_
 refine go 5 ?_
 refine dt (Qi (ivs:=[(0,_),(1,_),(2,_)]) rfl ⟨rfl,rfl,rfl,rfl,rfl,rfl,trivial⟩ (fun a w hs=>Zwt ((Yo rfl) a w hs) ((Yo rfl) a w hs) ((Yo rfl) a w hs))) ?_
 refine go 4 ?_
 exact Xn hsc () Tryz.results66 rfl trivial Za
theorem Zc3(x y z:Int)(want:Bool)(hp:ptB x y z=true)(hwt:ptsB 0 0 0 x y z 100 1 2=want):Cal Tryz.prog 63 #[.agg #[.int .i64 x,.int .i64 y,.int .i64 z],.bool want] [] false (G:=Unit) (fun _=>True) (fun _=> .bool true) (fun _=>[]):=by
 refine Zd Tryz.func63 Tryz.ntmps63 fun w0 sc hw hsc=>?_
 refine go 2 ?_
 refine Yk (Yj 1) fun bx _=>?_
 refine go 4 ?_
 refine Qe (fun _=>False) [(1,0),(0,1),(2,1),(3,1),(4,0),(5,0),(6,0),(7,0),(8,3)] ?_
 refine go 1 ?_
 refine Yz (Zg 1 [] (He _ _ _)) fun _ _=>?_
 refine Yz (Zg 1 [] (Zaz _)) fun _ _=>?_
 refine Yz (Zg 1 [] (dw_pts _ _ _ _ _ _ _ _ _ pt_1 hp O3)) fun _ _=>?_
 refine go 10 ?_
 refine kt (decide_eq_true O3) ?_
 refine go 3 ?_
 refine ktg (by rw [hwt];exact beq_self_eq_true _) ?_
 refine go 5 ?_
 exact Xn hsc () Tryz.results63 rfl trivial Za
theorem Bp(x y z:Int)(hx:-4194304≤x∧x≤4194304)(hy:-4194304≤y∧y≤4194304)(hz:-4194304≤z∧z≤4194304):Cal Tryz.prog 65 #[.agg #[.int .i64 x,.int .i64 y,.int .i64 z]] [] true (G:=Value×(SL×SL×SL)) (fun r=>True) (fun r=>r.1) (fun r=>[Pz 6 Mo qG r.1 [Ms x y z x y z 2 r.2]]):=by
 refine Zd Tryz.func65 Tryz.ntmps65 fun w0 sc hw hsc=>?_
 refine go 2 ?_
 refine Yk (Yj 1) fun bx _=>?_
 refine go 7 ?_
 refine cl 2 [] (Zur x y z x y z 0 1000 2 hx hy hz hx hy hz) fun⟨sl,sl_2,sl_3⟩ _=>?_
 refine tt (Qh (i:=5) (ivs:=[(0,_)]) (enc:=Mo) [Ms x y z x y z 2 (sl,sl_2,sl_3)] rfl rfl ⟨rfl,rfl,trivial⟩ Tryz.underlying38 Tryz.ti35 rfl rfl (Zsu _ _ _ _ _ _ _ _ _ _ _ _) rfl rfl pG.cells rfl rfl hw.h) (fun v _=>?_)
 refine go 4 ?_
 refine Yg (Qd 5 rfl rfl pG) ?_
 refine Yg (Yw qC 71) ?_
 refine Yg (Zi (q:=qC) (z:=(Ms x y z x y z 2 (sl,sl_2,sl_3)).2.1) 71 2 71 rfl rfl rfl rfl rfl) ?_
 refine Yg (Zi (q:=qC) (z:=(Ms x y z x y z 2 (sl,sl_2,sl_3)).2.2.1) 71 3 71 rfl rfl rfl rfl rfl) ?_
 refine Yg (Zi (q:=qC) (z:=(Ms x y z x y z 2 (sl,sl_2,sl_3)).2.2.2) 71 4 71 rfl rfl rfl rfl rfl) ?_
 refine Yg (Yw qG 73) ?_
 refine Yg (Zi (q:=qG) (z:=(Ms x y z x y z 2 (sl,sl_2,sl_3))) 73 71 73 rfl rfl rfl rfl rfl) ?_
 refine Yg (Pi 5 73 72 rfl rfl rfl rfl) ?_
 exact Xn hsc (_,sl,sl_2,sl_3) Tryz.results65 rfl trivial (Ot 72 Za)
theorem Zks(zd zn ze:Int):Cal Tryz.prog 16 #[.agg #[.int .i64 zd,.int .i64 zn,.int .i64 ze]] [] false (G:=Unit) (fun _=>True) (fun _=> .bool (znB zd zn ze)) (fun _=>[]):=by
 refine Zd Tryz.func16 Tryz.ntmps16 fun w0 sc hw hsc=>?_
 refine go 2 ?_
 refine Yk (Yj 1) fun bx _=>?_
 refine go 9 ?_
 refine Yt (d:=6) rfl (fun s22=>?_) (fun s22=>?_)
 ·refine go 5 ?_
  refine Yt (d:=11) rfl (fun s22_2=>?_) (fun s22_2=>?_)
  ·refine go 5 ?_
   refine Yt (d:=16) rfl (fun s22_3=>?_) (fun s22_3=>?_)
   ·refine go 7 ?_
    refine Yt (d:=23) rfl (fun s22_4=>?_) (fun s22_4=>?_)
    ·refine go 8 ?_
     exact Xn hsc () Tryz.results16 (by unfold znB;first | (simp_all;done) | (simp_all;omega)) trivial Za
    ·refine go 8 ?_
     exact Xn hsc () Tryz.results16 (by unfold znB;first | (simp_all;done) | (simp_all;omega)) trivial Za
   ·refine go 15 ?_
    exact Xn hsc () Tryz.results16 (by unfold znB;first | (simp_all;done) | (simp_all;omega)) trivial Za
  ·refine go 20 ?_
   exact Xn hsc () Tryz.results16 (by unfold znB;first | (simp_all;done) | (simp_all;omega)) trivial Za
 ·refine go 25 ?_
  exact Xn hsc () Tryz.results16 (by unfold znB;first | (simp_all;done) | (simp_all;omega)) trivial Za
theorem Aq(n:Int)(hn:Xx n):Cal Tryz.prog 71 #[.int .i64 n] [] true (G:=Value) (fun r=>True) (fun r=> .agg #[.bool (decide ((n*n)<0)),r]) (fun r=>[Iu r ((n*n)).natAbs]):=by
 refine Zd Tryz.func71 Tryz.ntmps71 fun w0 sc hw hsc=>?_
 have hbn:=Iz hn
 refine go 2 ?_
 refine Yk (Zz 1) fun bx _=>?_
 refine go 5 ?_
 refine cl 2 [] (Ny n hn) fun v _=>?_
 refine go 1 ?_
 refine cl 3 [] (Ny n hn) fun v_2 _=>?_
 refine cl 4 [2,3] (El _ _ n n (Nat.le_trans hbn O3) (Nat.le_trans hbn O3)) fun v_3 _=>?_
 refine go 4 ?_
 exact Xn hsc _ Tryz.results71 rfl trivial (Ot 4 Za)
set_option maxHeartbeats 1000000 in
theorem Zbx:Cal Tryz.prog 18 #[] [] false (G:=Unit) (fun _=>True) (fun _=> .bool true) (fun _=>[]):=by
 refine Zd Tryz.func18 Tryz.ntmps18 fun w0 sc hw hsc=>?_
 refine go 8 ?_
 refine cl 0 [] (He _ _ _) fun _ _=>?_
 refine cl 0 [] (Zc3 _ _ _ _ O3 O3) fun _ _=>?_
 refine go 2 ?_
 refine Gy 0 [] (He _ _ _) fun _ _=>?_
 refine Gy 0 [] (Zc3 _ _ _ _ O3 O3) fun _ _=>?_
 refine go 3 ?_
 refine Gy 0 [] (He _ _ _) fun _ _=>?_
 refine Gy 0 [] (Zc3 _ _ _ _ O3 O3) fun _ _=>?_
 refine go 8 ?_
 refine Kg (fun _=>False) [14] ?_
 refine Zh (n:=13) [(0,1),(1,1)] ?_
 refine Yz (Zg 0 [] (He _ _ _)) fun _ _=>?_
 refine Yz (Zg 60 [] (Bp 0 0 0 ⟨O3,O3⟩ ⟨O3,O3⟩ ⟨O3,O3⟩)) fun⟨v,q⟩ _=>?_
 refine go 1 ?_
 refine Hz (Nx (g:=(Ms 0 0 0 0 0 0 2 q)) (z:=(Ms 0 0 0 0 0 0 2 q).2.1) 60 51 rfl rfl (List.mem_singleton.2 rfl) O7) ?_
 refine Hz (Nx (g:=(Ms 0 0 0 0 0 0 2 q)) (z:=(Ms 0 0 0 0 0 0 2 q).2.2.1) 60 52 rfl rfl (List.mem_singleton.2 rfl) O7) ?_
 refine Hz (Nx (g:=(Ms 0 0 0 0 0 0 2 q)) (z:=(Ms 0 0 0 0 0 0 2 q).2.2.2) 60 53 rfl rfl (List.mem_singleton.2 rfl) O7) ?_
 refine Zh (n:=9) [(2,0),(3,0),(4,1),(5,1)] ?_
 refine go 1 ⟨O7,?_⟩
 refine Qc rfl rfl (Qy (Oi (ii:=60) G0 rfl rfl rfl Zn pG O7)) ?_
 refine Yz (Zg 0 [] (He _ _ _)) fun _ _=>?_
 refine Yz (Zg 62 [] (Bp 0 0 200 ⟨O3,O3⟩ ⟨O3,O3⟩ ⟨O3,O3⟩)) fun⟨v_2,q_2⟩ _=>?_
 refine go 1 ?_
 refine Hz (Nx (g:=(Ms 0 0 200 0 0 200 2 q_2)) (z:=(Ms 0 0 200 0 0 200 2 q_2).2.1) 62 54 rfl rfl (List.mem_singleton.2 rfl) O7) ?_
 refine Hz (Nx (g:=(Ms 0 0 200 0 0 200 2 q_2)) (z:=(Ms 0 0 200 0 0 200 2 q_2).2.2.1) 62 55 rfl rfl (List.mem_singleton.2 rfl) O7) ?_
 refine Hz (Nx (g:=(Ms 0 0 200 0 0 200 2 q_2)) (z:=(Ms 0 0 200 0 0 200 2 q_2).2.2.2) 62 56 rfl rfl (List.mem_singleton.2 rfl) O7) ?_
 refine Zh (n:=0) [(6,0),(7,0),(8,1),(9,1),(10,0),(11,0),(12,0),(13,0),(14,3)] ?_
 refine go 1 ⟨O7,?_⟩
 refine Qc rfl rfl (Qy (Oi (ii:=62) G0 rfl rfl rfl Zn pG O7)) ?_
 refine Yz (Zg 0 [] (Zaz _)) fun _ _=>?_
 refine Yz (Zg 1 [51,52,53,54,55,56] (Zni 0 1000 1 0 1000 1 _ _ _ _ _ _ (Fd 0 0 2) (Fd 0 0 2) (Fd 0 0 2) (Fd 0 0 2) (Fd 0 0 2) (Fd 200 200 2) 100 1 2 ⟨O3,O3⟩ ⟨O3,O3⟩ ⟨O3,O3⟩ (Pp O3) (Pp O3) (Pp O3) ⟨O3,O3⟩ ⟨O3,O3⟩ ⟨O3,O3⟩ (Pp O3) (Pp O3) (Pp O3) kn_s0 kn_s1 rfl rfl O3)) fun fq hfq=>?_
 refine go 6 ?_
 refine Zs ?_
 refine go 2 ?_
 refine Kg (fun _=>False) [14] ?_
 refine Zh (n:=13) [(0,1),(1,1)] ?_
 refine Yz (Zg 1 [] (He _ _ _)) fun _ _=>?_
 refine Yz (Zg 64 [] (Bp 0 0 0 ⟨O3,O3⟩ ⟨O3,O3⟩ ⟨O3,O3⟩)) fun⟨v_3,q_3⟩ _=>?_
 refine go 1 ?_
 refine Hz (Nx (g:=(Ms 0 0 0 0 0 0 2 q_3)) (z:=(Ms 0 0 0 0 0 0 2 q_3).2.1) 64 51 rfl rfl (List.mem_singleton.2 rfl) O7) ?_
 refine Hz (Nx (g:=(Ms 0 0 0 0 0 0 2 q_3)) (z:=(Ms 0 0 0 0 0 0 2 q_3).2.2.1) 64 52 rfl rfl (List.mem_singleton.2 rfl) O7) ?_
 refine Hz (Nx (g:=(Ms 0 0 0 0 0 0 2 q_3)) (z:=(Ms 0 0 0 0 0 0 2 q_3).2.2.2) 64 53 rfl rfl (List.mem_singleton.2 rfl) O7) ?_
 refine Zh (n:=9) [(2,0),(3,0),(4,1),(5,1)] ?_
 refine go 1 ⟨O7,?_⟩
 refine Qc rfl rfl (Qy (Oi (ii:=64) G0 rfl rfl rfl Zn pG O7)) ?_
 refine Yz (Zg 1 [] (He _ _ _)) fun _ _=>?_
 refine Yz (Zg 66 [] (Bp 0 0 100 ⟨O3,O3⟩ ⟨O3,O3⟩ ⟨O3,O3⟩)) fun⟨v_4,q_4⟩ _=>?_
 refine go 1 ?_
 refine Hz (Nx (g:=(Ms 0 0 100 0 0 100 2 q_4)) (z:=(Ms 0 0 100 0 0 100 2 q_4).2.1) 66 54 rfl rfl (List.mem_singleton.2 rfl) O7) ?_
 refine Hz (Nx (g:=(Ms 0 0 100 0 0 100 2 q_4)) (z:=(Ms 0 0 100 0 0 100 2 q_4).2.2.1) 66 55 rfl rfl (List.mem_singleton.2 rfl) O7) ?_
 refine Hz (Nx (g:=(Ms 0 0 100 0 0 100 2 q_4)) (z:=(Ms 0 0 100 0 0 100 2 q_4).2.2.2) 66 56 rfl rfl (List.mem_singleton.2 rfl) O7) ?_
 refine Zh (n:=0) [(6,0),(7,0),(8,1),(9,1),(10,0),(11,0),(12,0),(13,0),(14,3)] ?_
 refine go 1 ⟨O7,?_⟩
 refine Qc rfl rfl (Qy (Oi (ii:=66) G0 rfl rfl rfl Zn pG O7)) ?_
 refine Yz (Zg 1 [] (Zaz _)) fun _ _=>?_
 refine Yz (Zg 2 [51,52,53,54,55,56] (Zni 0 1000 1 0 1000 1 _ _ _ _ _ _ (Fd 0 0 2) (Fd 0 0 2) (Fd 0 0 2) (Fd 0 0 2) (Fd 0 0 2) (Fd 100 100 2) 100 1 2 ⟨O3,O3⟩ ⟨O3,O3⟩ ⟨O3,O3⟩ (Pp O3) (Pp O3) (Pp O3) ⟨O3,O3⟩ ⟨O3,O3⟩ ⟨O3,O3⟩ (Pp O3) (Pp O3) (Pp O3) kn_s0 kn_s2 rfl rfl O3)) fun fq_2 hfq_2=>?_
 refine go 6 ?_
 refine Zs ?_
 refine go 6 ?_
 refine kf (decide_eq_false (fun h=>h (by rw [hfq,kn_f1];rfl))) ?_
 refine go 2 ?_
 refine kfg (decide_eq_false (fun h=>h rfl)) ?_
 refine go 3 ?_
 refine gtt (Qh (i:=3) (ivs:=[(0,_)]) (enc:=Zx) ([-1]:List Int) rfl rfl ⟨rfl,rfl,trivial⟩ Tryz.underlying33 Tryz.ti3 rfl rfl rfl rfl rfl pZ.cells rfl rfl hw.h) rfl rfl rfl rfl (fun v_5 _=>?_)
 refine Yp (Qd 3 rfl rfl pZ) ?_
 refine Gy 4 [3] (Ygc _ [-1] (fun x hx=>by rw [List.mem_singleton.1 hx];exact⟨O3,O3⟩) O7) fun g hg=>?_
 refine Gy 5 [4] (rp_to _ _ (to_m1 hg).1 (to_m1 hg).2) fun v_6 _=>?_
 refine Gy 5 [2,5] (Zkr _ _ _ _) fun _ _=>?_
 refine Ej (Zw (r':= .bool false) (Zla rfl rfl) (congrArg Value.bool (decide_eq_false (fun h=>h (by rw [hfq_2,kn_f2,hg]))))) rfl rfl ?_
 refine go 3 ?_
 refine kfg (decide_eq_false (fun h=>h rfl)) ?_
 refine go 8 ?_
 refine cl 5 [] (He _ _ _) fun _ _=>?_
 refine cl 5 [] (He _ _ _) fun _ _=>?_
 refine cl 6 [] (Zur 0 0 0 400 0 0 0 1000 1 ⟨O3,O3⟩ ⟨O3,O3⟩ ⟨O3,O3⟩ ⟨O3,O3⟩ ⟨O3,O3⟩ ⟨O3,O3⟩) fun⟨sl,sl_2,sl_3⟩ _=>?_
 refine tt (Qh (i:=9) (ivs:=[(0,_)]) (enc:=Mo) [Ms 0 0 0 400 0 0 1 (sl,sl_2,sl_3)] rfl rfl ⟨rfl,rfl,trivial⟩ Tryz.underlying38 Tryz.ti35 rfl rfl (Zsu _ _ _ _ _ _ _ _ _ _ _ _) rfl rfl pG.cells rfl rfl hw.h) (fun v_7 _=>?_)
 refine Yp (Qd 9 rfl rfl pG) ?_
 refine Yp (Yw qC 71) ?_
 refine Yp (Zi (q:=qC) (z:=(Ms 0 0 0 400 0 0 1 (sl,sl_2,sl_3)).2.1) 71 6 71 rfl rfl rfl rfl rfl) ?_
 refine Yp (Zi (q:=qC) (z:=(Ms 0 0 0 400 0 0 1 (sl,sl_2,sl_3)).2.2.1) 71 7 71 rfl rfl rfl rfl rfl) ?_
 refine Yp (Zi (q:=qC) (z:=(Ms 0 0 0 400 0 0 1 (sl,sl_2,sl_3)).2.2.2) 71 8 71 rfl rfl rfl rfl rfl) ?_
 refine Yp (Yw qG 73) ?_
 refine Yp (Zi (q:=qG) (z:=(Ms 0 0 0 400 0 0 1 (sl,sl_2,sl_3))) 73 71 73 rfl rfl rfl rfl rfl) ?_
 refine Yp (Pi 9 73 72 rfl rfl rfl rfl) ?_
 refine go 6 ?_
 refine cl 9 [] (He _ _ _) fun _ _=>?_
 refine cl 90 [] (Bp 200 0 200 ⟨O3,O3⟩ ⟨O3,O3⟩ ⟨O3,O3⟩) fun⟨v_8,q_5⟩ _=>?_
 refine cl 9 [] (Zaz _) fun _ _=>?_
 refine cl 9 [72,90] (Zqk _ _ _ _ 100 1 2 (kn_g1 _) (kn_g2 _) (kn_p1 _) (kn_p2 _) (show(1:Nat)≤5 by decide) (show(1:Nat)≤5 by decide) O3) fun _ _=>?_
 refine go 1 ?_
 refine kt (kn_a1 _ _) ?_
 refine go 8 ?_
 refine cl 9 [] (He _ _ _) fun _ _=>?_
 refine cl 92 [] (Bp 200 0 200 ⟨O3,O3⟩ ⟨O3,O3⟩ ⟨O3,O3⟩) fun⟨v_9,q_6⟩ _=>?_
 refine cl 9 [] (Zaz _) fun _ _=>?_
 refine cl 9 [72,92] (Zqk _ _ _ _ 101 1 2 (kn_g1 _) (kn_g2 _) (kn_p1 _) (kn_p2 _) (show(1:Nat)≤5 by decide) (show(1:Nat)≤5 by decide) O3) fun _ _=>?_
 refine go 1 ?_
 refine kf (kn_a2 _ _) ?_
 refine go 14 ?_
 refine ktg (decide_eq_true (kn_e1 _ _)) ?_
 refine go 3 ?_
 refine ktg (decide_eq_true (kn_e1 _ _)) ?_
 refine go 2 ?_
 refine Ej (Qi (ivs:=[(0,_),(1,_),(2,_)]) rfl ⟨rfl,rfl,rfl,rfl,rfl,rfl,trivial⟩ (fun a w hs=>Zwt ((Yo rfl) a w hs) ((Yo rfl) a w hs) ((Yo rfl) a w hs))) rfl rfl ?_
 refine Gy 9 [] (Za3 _ _ _) fun _ _=>?_
 refine Ej (Zw (r':= .bool true) (Qf rfl rfl) (congrArg (fun b=>Value.bool (!b)) (show znB 100 2 1=false by decide))) rfl rfl ?_
 refine go 5 ?_
 exact Xn hsc () Tryz.results18 rfl trivial Za
theorem Yar(v u:Value)(zs ys:List (Int×SL))(hs:Sz 1000000 (Yf zs))(hl:zs.length≤60)(ht:Sz 1000000 (Yf ys))(hk:ys.length≤60):Cal Tryz.prog 146 #[v,u] [pp v zs,pp u ys] true (G:=SL×List (Int×SL)) (fun r=>Yf r.2=Xs (Yf zs) (Yf ys)) (fun r=>Xb r.1) (fun r=>[pp (Xb r.1) r.2]):=
 (rp_mul v u zs ys hs hl ht hk).toS
theorem Zl3(fr to ov fr2 to2 ov2:Int)(sx sy sz sx2 sy2 sz2:SL)(x y z x2 y2 z2:List Int)(hfr:Xx fr)(hto:Xx to)(hov:Xx ov)(hx:∀a∈x,Xx a)(hy:∀a∈y,Xx a)(hz:∀a∈z,Xx a)(hfr2:Xx fr2)(hto2:Xx to2)(hov2:Xx ov2)(hx2:∀a∈x2,Xx a)(hy2:∀a∈y2,Xx a)(hz2:∀a∈z2,Xx a):Cal Tryz.prog 22 #[.agg #[.int .i64 fr,.int .i64 to,.int .i64 ov,Xb sx,Xb sy,Xb sz],.agg #[.int .i64 fr2,.int .i64 to2,.int .i64 ov2,Xb sx2,Xb sy2,Xb sz2]] [Yh 1 Zx (Xb sx) x,Yh 1 Zx (Xb sy) y,Yh 1 Zx (Xb sz) z,Yh 1 Zx (Xb sx2) x2,Yh 1 Zx (Xb sy2) y2,Yh 1 Zx (Xb sz2) z2] false (G:=Unit) (fun _=>True) (fun _=> .bool (decide (Kr fr to ov x y z=true∧Kr fr2 to2 ov2 x2 y2 z2=true∧fr=fr2∧to=to2))) (fun _=>[]):=by
 refine Zd Tryz.func22 Tryz.ntmps22 fun w0 sc hw hsc=>?_
 refine go 2 ?_
 refine Yk (Yj 7) fun bx _=>?_
 refine Yk (Yj 8) fun bx_2 _=>?_
 refine go 6 ?_
 refine cl 8 [1,2,3] (Zkt _ _ _ _ _ _ _ _ _ hfr hto hov hx hy hz) fun _ _=>?_
 refine go 1 ?_
 refine Bo (d:=7) rfl (fun s53=>?_) (fun s53=>?_)
 ·refine go 1 ?_
  refine Gy 8 [4,5,6] (Zkt _ _ _ _ _ _ _ _ _ hfr2 hto2 hov2 hx2 hy2 hz2) fun _ _=>?_
  refine go 2 ?_
  refine Bo (d:=11) rfl (fun s53_2=>?_) (fun s53_2=>?_)
  ·refine go 7 ?_
   refine Yt (d:=18) rfl (fun s53_3=>?_) (fun s53_3=>?_)
   ·refine go 10 ?_
    exact Xn hsc () Tryz.results22 (by simp_all) trivial Za
   ·refine go 10 ?_
    exact Xn hsc () Tryz.results22 (by simp_all) trivial Za
  ·refine go 17 ?_
   exact Xn hsc () Tryz.results22 (by simp_all) trivial Za
 ·refine go 21 ?_
  exact Xn hsc () Tryz.results22 (by simp_all) trivial Za
set_option maxHeartbeats 1000000 in
theorem r17_sq(fr to ov fr2 to2 ov2:Int)(sx sy sz sx2 sy2 sz2:SL)(x y z x2 y2 z2:List Int)(hS:Sgo fr to ov x y z)(hS2:Sgo fr2 to2 ov2 x2 y2 z2)(hA:∀i,Ab KA (tzl (Zp i x y z)))(hA2:∀i,Ab KA (tzl (Zp i x2 y2 z2))):Cal Tryz.prog 77 #[.agg #[.int .i64 fr,.int .i64 to,.int .i64 ov,Xb sx,Xb sy,Xb sz],.agg #[.int .i64 fr2,.int .i64 to2,.int .i64 ov2,Xb sx2,Xb sy2,Xb sz2]] [Yh 1 Zx (Xb sx) x,Yh 1 Zx (Xb sy) y,Yh 1 Zx (Xb sz) z,Yh 1 Zx (Xb sx2) x2,Yh 1 Zx (Xb sy2) y2,Yh 1 Zx (Xb sz2) z2] true (G:=Value×List TzT×Value) (fun r=>r.2.1.map (fun z=>Yf z.2)=sqR ov ov2 x y z x2 y2 z2 3) (fun r=> .tuple #[r.1,.agg #[.bool (decide (ovW ov ov2<0)),r.2.2]]) (fun r=>[Pz 1 (Li (α:=List (Int×SL))) qT r.1 r.2.1,Iu r.2.2 (ovW ov ov2).natAbs]):=by
 refine Zd Tryz.func77 Tryz.ntmps77 fun w0 sc hw hsc=>?_
 have ho1:=hS.o1
 have ho2:=hS.o2
 have ho3:=hS2.o1
 have ho4:=hS2.o2
 have hob:bl ov.natAbs≤1000000000:=Nat.le_trans ((Xw 40 _).2 O) O3
 have hob2:bl ov2.natAbs≤1000000000:=Nat.le_trans ((Xw 40 _).2 O) O3
 have how:=ov_b hS hS2
 refine go 2 ?_
 refine Yk (Yj 7) fun bx _=>?_
 refine Yk (Yj 8) fun bx_2 _=>?_
 refine go 1 ?_
 refine Yk (Zz 9) fun bx_3 _=>?_
 refine go 2 ?_
 refine jn (G:=Value×Value×Nat×Nat) [2,3,5] [0,1,2,3,4,5,6,7,8,9] (fun q=>[(6,.pointer (some ⟨q.2.2.1,0,none⟩)),(7,.pointer (some ⟨q.2.2.2,0,none⟩))]) (fun q=>[(83,Iu q.1 (ov).natAbs),(84,Iu q.2.1 (ov2).natAbs),(95,box q.2.2.1 89 #[.bool (decide (ov<0)),q.1]),(96,box q.2.2.2 89 #[.bool (decide (ov2<0)),q.2.1])]) (fun q=>True) ?_ ?_
 ·refine Ln [7,8] [9] ?_
  refine Zh (n:=6) [(0,0),(1,0),(3,0),(4,0)] ?_
  refine go 5 ?_
  refine Zey (n:=5) 2 6 7 ?_ ?_ ?_
  ·refine Ol (Zg 83 [] (Ny ov)) fun v _=>?_
   refine Zey (n:=4) 5 6 7 ?_ ?_ ?_
   ·refine Ol (Zg 84 [] (Ny ov2)) fun v_2 _=>?_
    refine Qp (n:=3) 6 7 ?_ ?_
    ·refine Ol (Qr 95) fun bx_4 ho=>?_
     refine Zh (n:=0) [(7,1),(8,1),(9,3)] ?_
     refine Yz (Qr 96) fun bx_5 ho2=>?_
     refine go 3 ?_
     refine Zs ?_
     exact Pr (_,_,_,_) trivial ⟨rfl,rfl,trivial⟩ ⟨rfl,rfl,rfl,rfl,trivial⟩
    ·refine Ol (Qr 96) fun bx_6 ho3=>?_
     refine Zh (n:=0) [(6,1),(8,1),(9,3)] ?_
     refine Yz (Qr 95) fun bx_7 ho4=>?_
     refine go 3 ?_
     refine Zs ?_
     exact Pr (_,_,_,_) trivial ⟨rfl,rfl,trivial⟩ ⟨rfl,rfl,rfl,rfl,trivial⟩
   ·refine Ol (Qr 95) fun bx_8 ho5=>?_
    refine Qp (n:=3) 5 7 ?_ ?_
    ·refine Ol (Zg 84 [] (Ny ov2)) fun v_3 _=>?_
     refine Zh (n:=0) [(7,1),(8,1),(9,3)] ?_
     refine Yz (Qr 96) fun bx_9 ho6=>?_
     refine go 3 ?_
     refine Zs ?_
     exact Pr (_,_,_,_) trivial ⟨rfl,rfl,trivial⟩ ⟨rfl,rfl,rfl,rfl,trivial⟩
    ·refine Ol (Qr 96) fun bx_10 ho7=>?_
     refine Zh (n:=0) [(5,1),(8,1),(9,3)] ?_
     refine Yz (Zg 84 [] (Ny ov2)) fun v_4 _=>?_
     refine go 3 ?_
     refine Zs ?_
     exact Pr (_,_,_,_) trivial ⟨rfl,rfl,trivial⟩ ⟨rfl,rfl,rfl,rfl,trivial⟩
   ·refine Ol (Qr 96) fun bx_11 ho8=>?_
    refine Qp (n:=3) 5 6 ?_ ?_
    ·refine Ol (Zg 84 [] (Ny ov2)) fun v_5 _=>?_
     refine Zh (n:=0) [(6,1),(8,1),(9,3)] ?_
     refine Yz (Qr 95) fun bx_12 ho9=>?_
     refine go 3 ?_
     refine Zs ?_
     exact Pr (_,_,_,_) trivial ⟨rfl,rfl,trivial⟩ ⟨rfl,rfl,rfl,rfl,trivial⟩
    ·refine Ol (Qr 95) fun bx_13 ho10=>?_
     refine Zh (n:=0) [(5,1),(8,1),(9,3)] ?_
     refine Yz (Zg 84 [] (Ny ov2)) fun v_6 _=>?_
     refine go 3 ?_
     refine Zs ?_
     exact Pr (_,_,_,_) trivial ⟨rfl,rfl,trivial⟩ ⟨rfl,rfl,rfl,rfl,trivial⟩
  ·refine Ol (Qr 95) fun bx_14 ho11=>?_
   refine Qp (n:=4) 2 7 ?_ ?_
   ·refine Ol (Zg 83 [] (Ny ov)) fun v_7 _=>?_
    refine Qp (n:=3) 5 7 ?_ ?_
    ·refine Ol (Zg 84 [] (Ny ov2)) fun v_8 _=>?_
     refine Zh (n:=0) [(7,1),(8,1),(9,3)] ?_
     refine Yz (Qr 96) fun bx_15 ho12=>?_
     refine go 3 ?_
     refine Zs ?_
     exact Pr (_,_,_,_) trivial ⟨rfl,rfl,trivial⟩ ⟨rfl,rfl,rfl,rfl,trivial⟩
    ·refine Ol (Qr 96) fun bx_16 ho13=>?_
     refine Zh (n:=0) [(5,1),(8,1),(9,3)] ?_
     refine Yz (Zg 84 [] (Ny ov2)) fun v_9 _=>?_
     refine go 3 ?_
     refine Zs ?_
     exact Pr (_,_,_,_) trivial ⟨rfl,rfl,trivial⟩ ⟨rfl,rfl,rfl,rfl,trivial⟩
   ·refine Ol (Qr 96) fun bx_17 ho14=>?_
    refine Zh (n:=0) [(2,1),(5,1),(8,1),(9,3)] ?_
    refine Yz (Zg 83 [] (Ny ov)) fun v_10 _=>?_
    refine Yz (Zg 84 [] (Ny ov2)) fun v_11 _=>?_
    refine go 3 ?_
    refine Zs ?_
    exact Pr (_,_,_,_) trivial ⟨rfl,rfl,trivial⟩ ⟨rfl,rfl,rfl,rfl,trivial⟩
  ·refine Ol (Qr 96) fun bx_18 ho15=>?_
   refine Qp (n:=4) 2 6 ?_ ?_
   ·refine Ol (Zg 83 [] (Ny ov)) fun v_12 _=>?_
    refine Qp (n:=3) 5 6 ?_ ?_
    ·refine Ol (Zg 84 [] (Ny ov2)) fun v_13 _=>?_
     refine Zh (n:=0) [(6,1),(8,1),(9,3)] ?_
     refine Yz (Qr 95) fun bx_19 ho16=>?_
     refine go 3 ?_
     refine Zs ?_
     exact Pr (_,_,_,_) trivial ⟨rfl,rfl,trivial⟩ ⟨rfl,rfl,rfl,rfl,trivial⟩
    ·refine Ol (Qr 95) fun bx_20 ho17=>?_
     refine Zh (n:=0) [(5,1),(8,1),(9,3)] ?_
     refine Yz (Zg 84 [] (Ny ov2)) fun v_14 _=>?_
     refine go 3 ?_
     refine Zs ?_
     exact Pr (_,_,_,_) trivial ⟨rfl,rfl,trivial⟩ ⟨rfl,rfl,rfl,rfl,trivial⟩
   ·refine Ol (Qr 95) fun bx_21 ho18=>?_
    refine Zh (n:=0) [(2,1),(5,1),(8,1),(9,3)] ?_
    refine Yz (Zg 83 [] (Ny ov)) fun v_15 _=>?_
    refine Yz (Zg 84 [] (Ny ov2)) fun v_16 _=>?_
    refine go 3 ?_
    refine Zs ?_
    exact Pr (_,_,_,_) trivial ⟨rfl,rfl,trivial⟩ ⟨rfl,rfl,rfl,rfl,trivial⟩
 ·rintro⟨qx,qy,b6,b7⟩ -
  dsimp only
  refine go 12 ?_
  refine Zf (Pm 70 1 47 (Li (α:=List (Int×SL)))) ?_
  refine Zf (Yw qT 71) ?_
  refine lp (G:=Nat×Value×List TzT) [2,3,5,6,7] [0,83,84,95,96,1,2,3,4,5,6,7,8,9] (fun q=>[(9,.int .i64 (q.1:Int)),(8,q.2.1)]) (fun q=>[(70,Oa 1 47 (Li (α:=List (Int×SL))) q.2.1 q.2.2),(71,Ia qT q.2.2)]) (fun q=>(q.1≤3)∧(q.2.2.map (fun z=>Yf z.2)=sqR ov ov2 x y z x2 y2 z2 q.1)∧(q.2.2.length=q.1)) (fun q=>3-q.1) (0,.slice none 0 0,[]) ⟨O1,rfl,rfl⟩ ⟨rfl,rfl,trivial⟩ ⟨rfl,rfl,trivial⟩ ?_
  rintro⟨i,vo,ws⟩ ⟨hi,hw9,hwl⟩
  dsimp only at hi hw9 hwl
  dsimp only
  have hc:=hS.hc i
  have hc2:=hS2.hc i
  have hlc:=hS.lc i
  have hlc2:=hS2.lc i
  have hXi:=fmX (k:=1) (hA i) (hA2 i) hlc.2 hlc2.2 ⟨hS.o1,hS.o2⟩ ⟨hS2.o1,hS2.o2⟩ ⟨O3,O3⟩
  refine go 7 ?_
  refine Zc rfl (fun h27=>?_) (fun h27=>?_)
  ·refine go 5 ?_
   refine Kg (fun _=>False) [17] ?_
   refine Zh (n:=11) [(0,0),(2,0),(6,0),(8,0),(10,0),(14,0),(1,1)] ?_
   refine go 6 ?_
   refine Yz (Zg 60 [1,2,3] (Zcw _ _ _ _ _ _ _ _ _)) fun v_17 _=>?_
   refine go 1 ?_
   refine Hz (Al 60 40 ([(sx,x),(sy,y),(sz,z)].getD i C0) rfl rfl (Zj (show i<3 by omega)) rfl) ?_
   refine Hz (Me 40 (q:=Yh 1 Zx (Xb ([(sx,x),(sy,y),(sz,z)].getD i C0).1) (Zp i x y z)) (congrArg (Yh 1 Zx _) (Zrk O)) rfl rfl) ?_
   refine Zh (n:=8) [(3,0),(4,0),(5,1)] ?_
   refine Qc rfl rfl (Qy (Yn (ii:=60) (i:=i) rfl rfl rfl rfl Zn Tryz.underlying193 Tryz.sizeOf33 rfl (show i<3 by omega))) ?_
   refine Qc rfl rfl (Qy (Oi (ii:=60) C0 rfl rfl rfl Zn pC (show i<3 by omega))) ?_
   refine Yz (Zg 10 [40] (Zpd _ (Zp i x y z) hc O)) fun g hg=>?_
   refine go 1 ?_
   have hn1:Yf g.2=tzl (Zp i x y z):=hg
   refine Zh (n:=7) [(7,1)] ?_
   refine Yz (Zg 11 [10,84] (Zaq _ _ _ ov2 (Zb8 hn1 hXi.v1) (Nat.le_trans hXi.b1 O3) (Zb9 hn1 hXi.v1 O3))) fun g_2 hg_2=>?_
   refine go 1 ?_
   have hs1:Yf g_2.2=Zm (tzl (Zp i x y z)) ov2:=hg_2.trans (by rw [hn1])
   refine Zh (n:=6) [(9,1)] ?_
   refine Yz (Zg 62 [4,5,6] (Zcw _ _ _ _ _ _ _ _ _)) fun v_18 _=>?_
   refine go 1 ?_
   refine Hz (Al 62 41 ([(sx2,x2),(sy2,y2),(sz2,z2)].getD i C0) rfl rfl (Zj (show i<3 by omega)) rfl) ?_
   refine Hz (Me 41 (q:=Yh 1 Zx (Xb ([(sx2,x2),(sy2,y2),(sz2,z2)].getD i C0).1) (Zp i x2 y2 z2)) (congrArg (Yh 1 Zx _) (Zrk O)) rfl rfl) ?_
   refine Zh (n:=3) [(11,0),(12,0),(13,1)] ?_
   refine Qc rfl rfl (Qy (Yn (ii:=62) (i:=i) rfl rfl rfl rfl Zn Tryz.underlying193 Tryz.sizeOf33 rfl (show i<3 by omega))) ?_
   refine Qc rfl rfl (Qy (Oi (ii:=62) C0 rfl rfl rfl Zn pC (show i<3 by omega))) ?_
   refine Yz (Zg 12 [41] (Zpd _ (Zp i x2 y2 z2) hc2 O)) fun g_3 hg_3=>?_
   refine go 1 ?_
   have hn2:Yf g_3.2=tzl (Zp i x2 y2 z2):=hg_3
   refine Zh (n:=2) [(15,1)] ?_
   refine Yz (Zg 13 [12,83] (Zaq _ _ _ ov (Zb8 hn2 hXi.v2) (Nat.le_trans hXi.a1 O3) (Zb9 hn2 hXi.v2 O3))) fun g_4 hg_4=>?_
   refine go 1 ?_
   have hs2:Yf g_4.2=Zm (tzl (Zp i x2 y2 z2)) ov:=hg_4.trans (by rw [hn2])
   refine Zh (n:=1) [(16,1)] ?_
   refine Yz (Zg 14 [11,13] (Yaq _ _ _ _ (Zb8 hs1 hXi.v3) (Zb8 hs2 hXi.v4) (Zb9 hs1 hXi.v3 O3) (Zb9 hs2 hXi.v4 O3))) fun g_5 hg_5=>?_
   refine go 1 ?_
   have hdf:Yf g_5.2=dfP (Zp i x y z) (Zp i x2 y2 z2) ov ov2:=hg_5.trans (by rw [hs1,hs2];rfl)
   refine Zh (n:=0) [(17,3)] ?_
   refine go 2 ?_
   refine Zs ?_
   refine go 5 ?_
   refine cl 87 [14,14] (Yar _ _ _ _ (Zb8 hdf hXi.v5) (Zb9 hdf hXi.v5 O3) (Zb8 hdf hXi.v5) (Zb9 hdf hXi.v5 O3)) fun gt hgt=>?_
   refine tt (Qh (i:=15) (ivs:=[(0,_)]) (enc:=Li) ([gt]:List TzT) rfl rfl ⟨rfl,rfl,trivial⟩ Tryz.underlying121 Tryz.ti47 rfl rfl rfl rfl rfl pT.cells rfl rfl hw.h) (fun v_19 _=>?_)
   refine tt (Nz (i:=70) (j:=15) (by_:=24) rfl rfl rfl rfl rfl rfl O3 rfl (Ys pT) Tryz.underlying121 Tryz.ti47 rfl pT rfl rfl rfl O8 O3 rfl hw.h) (fun v_20 _=>?_)
   refine go 9 ⟨O,?_⟩
   refine Yg (Zi (q:=qT) (z:=gt) 71 87 71 rfl rfl rfl rfl rfl) ?_
   exact Xf (i+1,_,ws ++ [gt]) ⟨O1,sqR_s hw9 (hgt.trans (by rw [hdf];rfl)),by rw [List.length_append,hwl];rfl⟩ O1 ⟨rfl,rfl,trivial⟩ ⟨rfl,rfl,trivial⟩
  ·obtain rfl:i=3:=O
   refine go 9 ?_
   refine cl 88 [83,84] (El _ _ ov ov2 hob hob2) fun v_21 _=>?_
   refine Yk (Zz 16) fun bx_22 _=>?_
   refine go 8 ?_
   refine cl 89 [88,88] (El _ _ (ov*ov2) (ov*ov2) how how) fun v_22 _=>?_
   refine go 5 ?_
   refine Yg (Qd 70 rfl rfl pT) ?_
   refine Yg (Pi 70 71 72 rfl rfl rfl rfl) ?_
   exact Mi hsc (_,ws,_) Tryz.results77 rfl hw9 (Ot 72 (Ot 89 Za))
theorem Ya1(v:Value)(zs:List (Int×SL))(hs:Sz 1000000 (Yf zs))(hl:zs.length≤1000)(hc:zs.length≠0→Ym (Yf zs)≠0):Cal Tryz.prog 80 #[v] [pp v zs] true (G:=Value×List (Int×SL)) (fun r=>Yf r.2=Zt (Yf zs)) (fun r=>r.1) (fun r=>[pp r.1 r.2]):=by
 refine Zd Tryz.func80 Tryz.ntmps80 fun w0 sc hw hsc=>?_
 refine go 13 ?_
 refine Zc rfl (fun h37=>?_) (fun h37=>?_)
 ·refine go 7 ?_
  refine Yg (Zcu 62) ?_
  exact Xn hsc (.slice none 0 0,[]) Tryz.results80 rfl (by rw [show zs=[]from List.eq_nil_of_length_eq_zero O];rfl) (Ot 62 Za)
 ·refine go 5 ?_
  refine cl 2 [1] (Zlt _ _ hs hc hl) fun g hg=>?_
  refine go 4 ?_
  exact Xn hsc _ Tryz.results80 rfl hg (Ot 2 Za)
set_option maxHeartbeats 1000000 in
theorem Ya0(fr to ov fr2 to2 ov2:Int)(sx sy sz sx2 sy2 sz2:SL)(x y z x2 y2 z2:List Int)(zd zn ze:Int)(hS:Sgo fr to ov x y z)(hS2:Sgo fr2 to2 ov2 x2 y2 z2)(hA:∀i,Ab KA (tzl (Zp i x y z)))(hA2:∀i,Ab KA (tzl (Zp i x2 y2 z2)))(hzn:znB zd zn ze=true):Cal Tryz.prog 25 #[.agg #[.int .i64 fr,.int .i64 to,.int .i64 ov,Xb sx,Xb sy,Xb sz],.agg #[.int .i64 fr2,.int .i64 to2,.int .i64 ov2,Xb sx2,Xb sy2,Xb sz2],.agg #[.int .i64 zd,.int .i64 zn,.int .i64 ze]] [Yh 1 Zx (Xb sx) x,Yh 1 Zx (Xb sy) y,Yh 1 Zx (Xb sz) z,Yh 1 Zx (Xb sx2) x2,Yh 1 Zx (Xb sy2) y2,Yh 1 Zx (Xb sz2) z2] true (G:=Value×List (Int×SL)) (fun r=>Yf r.2=fmZ zd zn ze ov ov2 x y z x2 y2 z2) (fun r=>r.1) (fun r=>[pp r.1 r.2]):=by
 refine Zd Tryz.func25 Tryz.ntmps25 fun w0 sc hw hsc=>?_
 obtain⟨z1,z2_,z3,z4,z5⟩:=Yfd hzn
 have hR:=rfX hS hS2 hA hA2 hzn
 refine go 2 ?_
 refine Yk (Yj 7) fun bx _=>?_
 refine Yk (Yj 8) fun bx_2 _=>?_
 refine Yk (Yj 9) fun bx_3 _=>?_
 refine go 7 ?_
 refine cl 60 [1,2,3,4,5,6] (r17_sq _ _ _ _ _ _ _ _ _ _ _ _ _ _ _ _ _ _ hS hS2 hA hA2) fun gq hgq=>?_
 refine go 3 ?_
 refine Yk (Zz 10) fun bx_4 _=>?_
 refine go 5 ?_
 obtain⟨hw3,hq0,hq1,hq2⟩:=sqR_at hgq
 refine Zf (Al 60 41 (gq.2.1.getD 0 T0) rfl rfl (Zj) rfl) ?_
 refine Zf (Al 60 42 (gq.2.1.getD 1 T0) rfl rfl (Zj) rfl) ?_
 refine Zf (Al 60 43 (gq.2.1.getD 2 T0) rfl rfl (Zj) rfl) ?_
 refine Kg (fun _=>False) [19] ?_
 refine Zh (n:=6) [(0,0),(1,0),(2,0),(3,0),(4,0),(5,0),(7,0),(8,0),(11,0),(12,0),(13,0),(14,0),(15,0),(6,1)] ?_
 refine go 2 ⟨O,?_⟩
 refine Qc rfl rfl (Qy (Oi (ii:=60) T0 rfl rfl rfl Zn pT)) ?_
 refine go 2 ⟨O,?_⟩
 refine Qc rfl rfl (Qy (Oi (ii:=60) T0 rfl rfl rfl Zn pT)) ?_
 refine go 4 ⟨O,?_⟩
 refine Qc rfl rfl (Qy (Oi (ii:=60) T0 rfl rfl rfl Zn pT)) ?_
 refine go 2 ?_
 refine Yz (Zg 80 [41,42] (Zr2 _ _ _ _ (Zb8 hq0 (hR.v0 0)) (Zb9 hq0 (hR.v0 0) O3) (Zb8 hq1 (hR.v0 1)) (Zb9 hq1 (hR.v0 1) O3))) fun g hg=>?_
 refine go 1 ?_
 have ha1:Yf g.2=Ei (sqF ov ov2 x y z x2 y2 z2 0) (sqF ov ov2 x y z x2 y2 z2 1):=hg.trans (by rw [hq0,hq1])
 refine Zh (n:=4) [(9,1),(10,1)] ?_
 refine Yz (Zg 81 [] (Aq ze ⟨O,O⟩)) fun v _=>?_
 refine Yz (Zg 82 [80,81] (Zaq _ _ _ (ze*ze) (Zb8 ha1 hR.v1) (Nat.le_trans hR.eb O3) (Zb9 ha1 hR.v1 O3))) fun g_2 hg_2=>?_
 refine go 1 ?_
 have ha2:Yf g_2.2=Zm (Ei (sqF ov ov2 x y z x2 y2 z2 0) (sqF ov ov2 x y z x2 y2 z2 1)) (ze*ze):=hg_2.trans (by rw [ha1])
 refine Zh (n:=2) [(16,1),(17,1)] ?_
 refine Yz (Zg 83 [] (Aq zn ⟨O,O⟩)) fun v_2 _=>?_
 refine Yz (Zg 84 [43,83] (Zaq _ _ _ (zn*zn) (Zb8 hq2 (hR.v0 2)) (Nat.le_trans hR.nb O3) (Zb9 hq2 (hR.v0 2) O3))) fun g_3 hg_3=>?_
 refine go 1 ?_
 have ha3:Yf g_3.2=Zm (sqF ov ov2 x y z x2 y2 z2 2) (zn*zn):=hg_3.trans (by rw [hq2])
 refine Zh (n:=1) [(18,1)] ?_
 refine Yz (Zg 85 [82,84] (Zr2 _ _ _ _ (Zb8 ha2 hR.v2) (Zb9 ha2 hR.v2 O3) (Zb8 ha3 hR.v3) (Zb9 ha3 hR.v3 O3))) fun g_4 hg_4=>?_
 refine go 1 ?_
 have ha4:Yf g_4.2=rfL zn ze ov ov2 x y z x2 y2 z2:=hg_4.trans (by rw [ha2,ha3];rfl)
 refine Zh (n:=0) [(19,3)] ?_
 refine go 2 ?_
 refine Zs ?_
 refine go 2 ?_
 refine Kg (fun _=>False) [14] ?_
 refine Zh (n:=5) [(0,0),(1,0),(2,0),(4,0),(5,0),(8,0),(3,1),(6,1),(7,1),(9,1)] ?_
 refine go 6 ?_
 refine Yz (Zg 86 [] (Aq zd ⟨O,O⟩)) fun v_3 _=>?_
 refine Yz (Zg 87 [] (Aq ze ⟨O,O⟩)) fun v_4 _=>?_
 refine Yz (Zg 89 [86,87] (El _ _ (zd*zd) (ze*ze) (Nat.le_trans hR.db O3) (Nat.le_trans hR.eb O3))) fun v_5 _=>?_
 refine Yz (Zg 88 [89,61] (El _ _ (zd*zd*(ze*ze)) (ovW ov ov2) (Nat.le_trans hR.xb O3) (Nat.le_trans hR.oW O3))) fun v_6 _=>?_
 refine go 1 ?_
 refine a_ex (Px 88 rfl Zk) (fun slc hslc=>?_)
 subst hslc
 refine Zh (n:=4) [(10,1)] ?_
 refine Ev rfl (Qh (i:=11) (ivs:=[(0,_)]) (enc:=Fl) ([(rfW zd ze ov ov2,slc)]:List (Int×SL)) rfl rfl ⟨rfl,rfl,trivial⟩ Tryz.underlying47 Tryz.ti89 rfl rfl rfl rfl rfl pI.cells rfl rfl hw.h) (fun v_7 _=>?_)
 refine go 1 ?_
 refine Hz (Qd 11 rfl rfl pI) ?_
 refine Hz (Yw qI 71) ?_
 refine Hz (Zi (q:=qI) (z:=(rfW zd ze ov ov2,slc)) 71 88 71 rfl rfl rfl rfl rfl) ?_
 refine Hz (Pi 11 71 73 rfl rfl rfl rfl) ?_
 refine Zh (n:=3) [(11,1)] ?_
 refine Yz (Zg 90 [73] (Zbl _ [(rfW zd ze ov ov2,slc)] (show Sz 3000000000 [rfW zd ze ov ov2]from sz_one (Nat.le_trans hR.wb O3)))) fun g_5 hg_5=>?_
 refine go 1 ?_
 have ha5:Yf g_5.2=tzl [rfW zd ze ov ov2]:=hg_5
 refine Zh (n:=2) [(12,1)] ?_
 refine Yz (Zg 91 [85,90] (Yaq _ _ _ _ (Zb8 ha4 hR.v4) (Zb8 ha5 hR.v5) (Zb9 ha4 hR.v4 O3) (Zb9 ha5 hR.v5 O3))) fun g_6 hg_6=>?_
 refine go 1 ?_
 have ha6:Yf g_6.2=rfZ zd zn ze ov ov2 x y z x2 y2 z2:=hg_6.trans (by rw [ha4,ha5];rfl)
 refine Zh (n:=0) [(13,1),(14,3)] ?_
 refine Yz (Zg 92 [91] (Ya1 _ _ (Zb8 ha6 hR.v6) (Zb9 ha6 hR.v6 O3) (Ygf ha6))) fun g_7 hg_7=>?_
 refine go 2 ?_
 refine Zs ?_
 refine go 2 ?_
 exact Xn hsc _ Tryz.results25 rfl (rf_fin hg_7 ha6) (Ot 92 Za)
set_option maxHeartbeats 1000000 in
theorem Zsp(fr to ov fr2 to2 ov2:Int)(sx sy sz sx2 sy2 sz2:SL)(x y z x2 y2 z2:List Int)(zd zn ze:Int)(hfr:Xx fr)(hto:Xx to)(hov:Xx ov)(hx:∀a∈x,Xx a)(hy:∀a∈y,Xx a)(hz:∀a∈z,Xx a)(hfr2:Xx fr2)(hto2:Xx to2)(hov2:Xx ov2)(hx2:∀a∈x2,Xx a)(hy2:∀a∈y2,Xx a)(hz2:∀a∈z2,Xx a)(hf:Zj7 [((fr,to,ov),(sx,x),(sy,y),(sz,z)),((fr2,to2,ov2),(sx2,x2),(sy2,y2),(sz2,z2))] 2=false):Cal Tryz.prog 4 #[.agg #[.int .i64 fr,.int .i64 to,.int .i64 ov,Xb sx,Xb sy,Xb sz],.agg #[.int .i64 fr2,.int .i64 to2,.int .i64 ov2,Xb sx2,Xb sy2,Xb sz2],.agg #[.int .i64 zd,.int .i64 zn,.int .i64 ze]] [Yh 1 Zx (Xb sx) x,Yh 1 Zx (Xb sy) y,Yh 1 Zx (Xb sz) z,Yh 1 Zx (Xb sx2) x2,Yh 1 Zx (Xb sy2) y2,Yh 1 Zx (Xb sz2) z2] false (G:=Unit) (fun _=>True) (fun _=> .bool true) (fun _=>[]):=by
 refine Zd Tryz.func4 Tryz.ntmps4 fun w0 sc hw hsc=>?_
 refine go 2 ?_
 refine Yk (Yj 7) fun bx _=>?_
 refine Yk (Yj 8) fun bx_2 _=>?_
 refine Yk (Yj 9) fun bx_3 _=>?_
 refine go 8 ?_
 refine tt (Qh (i:=10) (ivs:=[(0,_),(1,_)]) (enc:=Mo) [((fr,to,ov),(sx,x),(sy,y),(sz,z)),((fr2,to2,ov2),(sx2,x2),(sy2,y2),(sz2,z2))] rfl rfl ⟨rfl,rfl,rfl,rfl,trivial⟩ Tryz.underlying38 Tryz.ti35 rfl rfl (Zst _ _ _ _ _ _ _ _ _ _ _ _ _ _ _ _ _ _) rfl rfl pG.cells rfl rfl hw.h) (fun v _=>?_)
 refine Yp (Qd 10 rfl rfl pG) ?_
 refine Yp (Yw qG 73) ?_
 refine Yp (Yw qC 71) ?_
 refine Yp (Zi (q:=qC) (z:=((fr,to,ov),(sx,x),(sy,y),(sz,z)).2.1) 71 1 71 rfl rfl rfl rfl rfl) ?_
 refine Yp (Zi (q:=qC) (z:=((fr,to,ov),(sx,x),(sy,y),(sz,z)).2.2.1) 71 2 71 rfl rfl rfl rfl rfl) ?_
 refine Yp (Zi (q:=qC) (z:=((fr,to,ov),(sx,x),(sy,y),(sz,z)).2.2.2) 71 3 71 rfl rfl rfl rfl rfl) ?_
 refine Yp (Zi (q:=qG) (z:=((fr,to,ov),(sx,x),(sy,y),(sz,z))) 73 71 73 rfl rfl rfl rfl rfl) ?_
 refine Yp (Yw qC 71) ?_
 refine Yp (Zi (q:=qC) (z:=((fr2,to2,ov2),(sx2,x2),(sy2,y2),(sz2,z2)).2.1) 71 4 71 rfl rfl rfl rfl rfl) ?_
 refine Yp (Zi (q:=qC) (z:=((fr2,to2,ov2),(sx2,x2),(sy2,y2),(sz2,z2)).2.2.1) 71 5 71 rfl rfl rfl rfl rfl) ?_
 refine Yp (Zi (q:=qC) (z:=((fr2,to2,ov2),(sx2,x2),(sy2,y2),(sz2,z2)).2.2.2) 71 6 71 rfl rfl rfl rfl rfl) ?_
 refine Yp (Zi (q:=qG) (z:=((fr2,to2,ov2),(sx2,x2),(sy2,y2),(sz2,z2))) 73 71 73 rfl rfl rfl rfl rfl) ?_
 refine Yp (Pi 10 73 72 rfl rfl rfl rfl) ?_
 refine cl 10 [72] (Zl4 _ [((fr,to,ov),(sx,x),(sy,y),(sz,z)),((fr2,to2,ov2),(sx2,x2),(sy2,y2),(sz2,z2))] 2) fun _ _=>?_
 refine dt (Zw (r':= .bool true) (Qf rfl rfl) (congrArg (fun b=>Value.bool (!b)) hf)) ?_
 refine go 5 ?_
 refine cl 10 [] (Zbx) fun _ _=>?_
 refine go 5 ?_
 exact Xn hsc () Tryz.results4 rfl trivial Za
set_option maxHeartbeats 1000000 in
theorem Zsq(fr to ov fr2 to2 ov2:Int)(sx sy sz sx2 sy2 sz2:SL)(x y z x2 y2 z2:List Int)(zd zn ze:Int)(hfr:Xx fr)(hto:Xx to)(hov:Xx ov)(hx:∀a∈x,Xx a)(hy:∀a∈y,Xx a)(hz:∀a∈z,Xx a)(hfr2:Xx fr2)(hto2:Xx to2)(hov2:Xx ov2)(hx2:∀a∈x2,Xx a)(hy2:∀a∈y2,Xx a)(hz2:∀a∈z2,Xx a)(hf:Zj7 [((fr,to,ov),(sx,x),(sy,y),(sz,z)),((fr2,to2,ov2),(sx2,x2),(sy2,y2),(sz2,z2))] 2=true)(hb:¬(Kr fr to ov x y z=true∧Kr fr2 to2 ov2 x2 y2 z2=true∧fr=fr2∧to=to2∧znB zd zn ze=true)):Cal Tryz.prog 4 #[.agg #[.int .i64 fr,.int .i64 to,.int .i64 ov,Xb sx,Xb sy,Xb sz],.agg #[.int .i64 fr2,.int .i64 to2,.int .i64 ov2,Xb sx2,Xb sy2,Xb sz2],.agg #[.int .i64 zd,.int .i64 zn,.int .i64 ze]] [Yh 1 Zx (Xb sx) x,Yh 1 Zx (Xb sy) y,Yh 1 Zx (Xb sz) z,Yh 1 Zx (Xb sx2) x2,Yh 1 Zx (Xb sy2) y2,Yh 1 Zx (Xb sz2) z2] false (G:=Unit) (fun _=>True) (fun _=> .bool true) (fun _=>[]):=by
 refine Zd Tryz.func4 Tryz.ntmps4 fun w0 sc hw hsc=>?_
 refine Zf (Pm 98 2 80 wv) ?_
 refine Zf (Qd 98 rfl rfl pV) ?_
 refine go 2 ?_
 refine Yk (Yj 7) fun bx _=>?_
 refine Yk (Yj 8) fun bx_2 _=>?_
 refine Yk (Yj 9) fun bx_3 _=>?_
 refine go 8 ?_
 refine tt (Qh (i:=10) (ivs:=[(0,_),(1,_)]) (enc:=Mo) [((fr,to,ov),(sx,x),(sy,y),(sz,z)),((fr2,to2,ov2),(sx2,x2),(sy2,y2),(sz2,z2))] rfl rfl ⟨rfl,rfl,rfl,rfl,trivial⟩ Tryz.underlying38 Tryz.ti35 rfl rfl (Zst _ _ _ _ _ _ _ _ _ _ _ _ _ _ _ _ _ _) rfl rfl pG.cells rfl rfl hw.h) (fun v _=>?_)
 refine Yp (Qd 10 rfl rfl pG) ?_
 refine Yp (Yw qG 73) ?_
 refine Yp (Yw qC 71) ?_
 refine Yp (Zi (q:=qC) (z:=((fr,to,ov),(sx,x),(sy,y),(sz,z)).2.1) 71 1 71 rfl rfl rfl rfl rfl) ?_
 refine Yp (Zi (q:=qC) (z:=((fr,to,ov),(sx,x),(sy,y),(sz,z)).2.2.1) 71 2 71 rfl rfl rfl rfl rfl) ?_
 refine Yp (Zi (q:=qC) (z:=((fr,to,ov),(sx,x),(sy,y),(sz,z)).2.2.2) 71 3 71 rfl rfl rfl rfl rfl) ?_
 refine Yp (Zi (q:=qG) (z:=((fr,to,ov),(sx,x),(sy,y),(sz,z))) 73 71 73 rfl rfl rfl rfl rfl) ?_
 refine Yp (Yw qC 71) ?_
 refine Yp (Zi (q:=qC) (z:=((fr2,to2,ov2),(sx2,x2),(sy2,y2),(sz2,z2)).2.1) 71 4 71 rfl rfl rfl rfl rfl) ?_
 refine Yp (Zi (q:=qC) (z:=((fr2,to2,ov2),(sx2,x2),(sy2,y2),(sz2,z2)).2.2.1) 71 5 71 rfl rfl rfl rfl rfl) ?_
 refine Yp (Zi (q:=qC) (z:=((fr2,to2,ov2),(sx2,x2),(sy2,y2),(sz2,z2)).2.2.2) 71 6 71 rfl rfl rfl rfl rfl) ?_
 refine Yp (Zi (q:=qG) (z:=((fr2,to2,ov2),(sx2,x2),(sy2,y2),(sz2,z2))) 73 71 73 rfl rfl rfl rfl rfl) ?_
 refine Yp (Pi 10 73 72 rfl rfl rfl rfl) ?_
 refine cl 10 [72] (Zl4 _ [((fr,to,ov),(sx,x),(sy,y),(sz,z)),((fr2,to2,ov2),(sx2,x2),(sy2,y2),(sz2,z2))] 2) fun _ _=>?_
 refine dt (Zw (r':= .bool false) (Qf rfl rfl) (congrArg (fun b=>Value.bool (!b)) hf)) ?_
 refine go 10 ?_
 refine cl 10 [1,2,3,4,5,6] (Zqj _ _ _ _ _ _ _ _ _ _ _ _ _ _ _ _ _ _ _ _ _ hfr hto hov hx hy hz hfr2 hto2 hov2 hx2 hy2 hz2 hb) fun _ _=>?_
 refine go 9 ?_
 rcases Ydn hb with hc1 | ⟨hc1,hc2⟩
 ·refine go 3 ?_
  refine cl 10 [1,2,3,4,5,6] (Zl3 _ _ _ _ _ _ _ _ _ _ _ _ _ _ _ _ _ _ hfr hto hov hx hy hz hfr2 hto2 hov2 hx2 hy2 hz2) fun _ _=>?_
  refine dt (Zw (r':= .bool true) (Zla rfl rfl) (congrArg Value.bool (decide_eq_true hc1))) ?_
  refine go 12 ?_
  refine kt (decide_eq_true O7) ?_
  refine go 2 ?_
  refine ktg (decide_eq_true O3) ?_
  refine go 2 ?_
  refine Gy 10 [] (Zbx) fun _ _=>?_
  refine go 6 ?_
  exact Xn hsc () Tryz.results4 rfl trivial Za
 ·refine go 3 ?_
  refine cl 10 [1,2,3,4,5,6] (Zl3 _ _ _ _ _ _ _ _ _ _ _ _ _ _ _ _ _ _ hfr hto hov hx hy hz hfr2 hto2 hov2 hx2 hy2 hz2) fun _ _=>?_
  refine dt (Zw (r':= .bool false) (Zla rfl rfl) (congrArg Value.bool (decide_eq_false (fun h=>h hc1)))) ?_
  refine go 2 ?_
  refine Gy 10 [] (Zks _ _ _) fun _ _=>?_
  refine Ej (Zw (r':= .bool true) (Qf rfl rfl) (congrArg (fun b=>Value.bool (!b)) hc2)) rfl rfl ?_
  refine go 8 ?_
  refine kt (decide_eq_true O7) ?_
  refine go 2 ?_
  refine ktg (decide_eq_true O3) ?_
  refine go 2 ?_
  refine Gy 10 [] (Zbx) fun _ _=>?_
  refine go 6 ?_
  exact Xn hsc () Tryz.results4 rfl trivial Za
set_option maxHeartbeats 1000000 in
theorem Zx9(fr to ov fr2 to2 ov2:Int)(sx sy sz sx2 sy2 sz2:SL)(x y z x2 y2 z2:List Int)(zd zn ze:Int)(hfr:Xx fr)(hto:Xx to)(hov:Xx ov)(hx:∀a∈x,Xx a)(hy:∀a∈y,Xx a)(hz:∀a∈z,Xx a)(hfr2:Xx fr2)(hto2:Xx to2)(hov2:Xx ov2)(hx2:∀a∈x2,Xx a)(hy2:∀a∈y2,Xx a)(hz2:∀a∈z2,Xx a)(hf:Zj7 [((fr,to,ov),(sx,x),(sy,y),(sz,z)),((fr2,to2,ov2),(sx2,x2),(sy2,y2),(sz2,z2))] 2=true)(hb1:Kr fr to ov x y z=true)(hb2:Kr fr2 to2 ov2 x2 y2 z2=true)(hft:fr=fr2)(htt:to=to2)(hzn:znB zd zn ze=true):Cal Tryz.prog 4 #[.agg #[.int .i64 fr,.int .i64 to,.int .i64 ov,Xb sx,Xb sy,Xb sz],.agg #[.int .i64 fr2,.int .i64 to2,.int .i64 ov2,Xb sx2,Xb sy2,Xb sz2],.agg #[.int .i64 zd,.int .i64 zn,.int .i64 ze]] [Yh 1 Zx (Xb sx) x,Yh 1 Zx (Xb sy) y,Yh 1 Zx (Xb sz) z,Yh 1 Zx (Xb sx2) x2,Yh 1 Zx (Xb sy2) y2,Yh 1 Zx (Xb sz2) z2] false (G:=Unit) (fun _=>True) (fun _=> .bool true) (fun _=>[]):=by
 refine Zd Tryz.func4 Tryz.ntmps4 fun w0 sc hw hsc=>?_
 have hS:=Sgo.of hx hy hz hb1
 have hS2:=Sgo.of hx2 hy2 hz2 hb2
 have hcv:=Zvl (fzX hS hS2 (Ba hb1) (Ba hb2) hzn)
 refine go 2 ?_
 refine Yk (Yj 7) fun bx _=>?_
 refine Yk (Yj 8) fun bx_2 _=>?_
 refine Yk (Yj 9) fun bx_3 _=>?_
 refine go 8 ?_
 refine tt (Qh (i:=10) (ivs:=[(0,_),(1,_)]) (enc:=Mo) [((fr,to,ov),(sx,x),(sy,y),(sz,z)),((fr2,to2,ov2),(sx2,x2),(sy2,y2),(sz2,z2))] rfl rfl ⟨rfl,rfl,rfl,rfl,trivial⟩ Tryz.underlying38 Tryz.ti35 rfl rfl (Zst _ _ _ _ _ _ _ _ _ _ _ _ _ _ _ _ _ _) rfl rfl pG.cells rfl rfl hw.h) (fun v _=>?_)
 refine Yp (Qd 10 rfl rfl pG) ?_
 refine Yp (Yw qG 73) ?_
 refine Yp (Yw qC 71) ?_
 refine Yp (Zi (q:=qC) (z:=((fr,to,ov),(sx,x),(sy,y),(sz,z)).2.1) 71 1 71 rfl rfl rfl rfl rfl) ?_
 refine Yp (Zi (q:=qC) (z:=((fr,to,ov),(sx,x),(sy,y),(sz,z)).2.2.1) 71 2 71 rfl rfl rfl rfl rfl) ?_
 refine Yp (Zi (q:=qC) (z:=((fr,to,ov),(sx,x),(sy,y),(sz,z)).2.2.2) 71 3 71 rfl rfl rfl rfl rfl) ?_
 refine Yp (Zi (q:=qG) (z:=((fr,to,ov),(sx,x),(sy,y),(sz,z))) 73 71 73 rfl rfl rfl rfl rfl) ?_
 refine Yp (Yw qC 71) ?_
 refine Yp (Zi (q:=qC) (z:=((fr2,to2,ov2),(sx2,x2),(sy2,y2),(sz2,z2)).2.1) 71 4 71 rfl rfl rfl rfl rfl) ?_
 refine Yp (Zi (q:=qC) (z:=((fr2,to2,ov2),(sx2,x2),(sy2,y2),(sz2,z2)).2.2.1) 71 5 71 rfl rfl rfl rfl rfl) ?_
 refine Yp (Zi (q:=qC) (z:=((fr2,to2,ov2),(sx2,x2),(sy2,y2),(sz2,z2)).2.2.2) 71 6 71 rfl rfl rfl rfl rfl) ?_
 refine Yp (Zi (q:=qG) (z:=((fr2,to2,ov2),(sx2,x2),(sy2,y2),(sz2,z2))) 73 71 73 rfl rfl rfl rfl rfl) ?_
 refine Yp (Pi 10 73 72 rfl rfl rfl rfl) ?_
 refine cl 10 [72] (Zl4 _ [((fr,to,ov),(sx,x),(sy,y),(sz,z)),((fr2,to2,ov2),(sx2,x2),(sy2,y2),(sz2,z2))] 2) fun _ _=>?_
 refine dt (Zw (r':= .bool false) (Qf rfl rfl) (congrArg (fun b=>Value.bool (!b)) hf)) ?_
 refine go 10 ?_
 refine cl 11 [1,2,3,4,5,6] (Zni _ _ _ _ _ _ _ _ _ _ _ _ _ _ _ _ _ _ _ _ _ hfr hto hov hx hy hz hfr2 hto2 hov2 hx2 hy2 hz2 hb1 hb2 hft htt hzn) fun fq hfq=>?_
 refine go 12 ?_
 refine cl 11 [1,2,3,4,5,6] (Zl3 _ _ _ _ _ _ _ _ _ _ _ _ _ _ _ _ _ _ hfr hto hov hx hy hz hfr2 hto2 hov2 hx2 hy2 hz2) fun _ _=>?_
 refine dt (Zw (r':= .bool false) (Zla rfl rfl) (congrArg Value.bool (decide_eq_false (fun h=>h ⟨hb1,hb2,hft,htt⟩)))) ?_
 refine go 2 ?_
 refine Gy 11 [] (Zks _ _ _) fun _ _=>?_
 refine Ej (Zw (r':= .bool false) (Qf rfl rfl) (congrArg (fun b=>Value.bool (!b)) hzn)) rfl rfl ?_
 refine go 9 ?_
 refine kt (decide_eq_true O3) ?_
 refine go 5 ?_
 refine Gy 12 [1,2,3,4,5,6] (Ya0 _ _ _ _ _ _ _ _ _ _ _ _ _ _ _ _ _ _ _ _ _ hS hS2 (Ba hb1) (Ba hb2) hzn) fun g hg=>?_
 refine Gy 13 [12] (rp_to _ _ (Zb8 hg hcv.v) (Zb9 hg hcv.v O3)) fun v_2 _=>?_
 refine Gy 13 [11,13] (Zkr _ _ _ _) fun _ _=>?_
 refine kt (decide_eq_true (by rw [hfq,hg])) ?_
 refine go 1 ?_
 refine Gy 13 [] (Zbx) fun _ _=>?_
 refine go 5 ?_
 exact Xn hsc () Tryz.results4 rfl trivial Za
theorem law_df(fr to ov:Int)(sx sy sz:SL)(x y z:List Int)(fr2 to2 ov2:Int)(sx2 sy2 sz2:SL)(x2 y2 z2:List Int)(zd zn ze:Int)(hfr:Xx fr)(hto:Xx to)(hov:Xx ov)(hx:∀a∈x,Xx a)(hy:∀a∈y,Xx a)(hz:∀a∈z,Xx a)(hfr2:Xx fr2)(hto2:Xx to2)(hov2:Xx ov2)(hx2:∀a∈x2,Xx a)(hy2:∀a∈y2,Xx a)(hz2:∀a∈z2,Xx a) :
  Cal prog 4 #[.agg #[.int .i64 fr,.int .i64 to,.int .i64 ov,Xb sx,Xb sy,Xb sz],.agg #[.int .i64 fr2,.int .i64 to2,.int .i64 ov2,Xb sx2,Xb sy2,Xb sz2],.agg #[.int .i64 zd,.int .i64 zn,.int .i64 ze]]
   [Yh 1 Zx (Xb sx) x,Yh 1 Zx (Xb sy) y,Yh 1 Zx (Xb sz) z,Yh 1 Zx (Xb sx2) x2,Yh 1 Zx (Xb sy2) y2,Yh 1 Zx (Xb sz2) z2] false (G:=Unit) (fun _=>True) (fun _=> .bool true) (fun _=>[]):=by
 cases hf:Zj7 [((fr,to,ov),(sx,x),(sy,y),(sz,z)),((fr2,to2,ov2),(sx2,x2),(sy2,y2),(sz2,z2))] 2 with
 | false=>exact Zsp fr to ov fr2 to2 ov2 sx sy sz sx2 sy2 sz2 x y z x2 y2 z2 zd zn ze hfr hto hov hx hy hz hfr2 hto2 hov2 hx2 hy2 hz2 hf
 | true=>
  by_cases hb:Kr fr to ov x y z=true∧Kr fr2 to2 ov2 x2 y2 z2=true∧fr=fr2∧to=to2∧znB zd zn ze=true
  ·exact Zx9 fr to ov fr2 to2 ov2 sx sy sz sx2 sy2 sz2 x y z x2 y2 z2 zd zn ze hfr hto hov hx hy hz hfr2 hto2 hov2 hx2 hy2 hz2 hf hb.1 hb.2.1 hb.2.2.1 hb.2.2.2.1 hb.2.2.2.2
  ·exact Zsq fr to ov fr2 to2 ov2 sx sy sz sx2 sy2 sz2 x y z x2 y2 z2 zd zn ze hfr hto hov hx hy hz hfr2 hto2 hov2 hx2 hy2 hz2 hf hb
end Go.Sky
namespace Go.Proofs.YteikicbnfbgpnaaGreat
open Go.ChangeShapes Go.WideShapes Go.ChangeAt Go.RowKit Go.Joins Go.Deep Go.Sky
theorem own:ownKnob Tryz.prog.godebug=none:=O6
theorem Zmz:laidOutB Tryz.prog=true:=O6
set_option maxRecDepth 100000 in
theorem lifted(os:Os)(started:os.Started)(H:Type)(enc:TypeId×Value→H) :
  ReturnsInHanded {} Tryz.checked os 4 .any (Rows.downwashFormsSpec.pre6 enc Tryz.prog Tryz.f4 Rows.downwashFormsRow.domain false) (Rows.downwashFormsSpec.post enc Tryz.prog Tryz.f4 false true false false):=by
 refine returnsInHanded_of_change (C:=Tryz.checked) own started O6 Tryz.func4
  (ChangeSpec.witness6 (enc:=enc) (C:=Tryz.checked) false ⟨#[],#[.agg #[.int .i64 0,.int .i64 0,.int .i64 0,.slice none 0 0,.slice none 0 0,.slice none 0 0],.agg #[.int .i64 0,.int .i64 0,.int .i64 0,.slice none 0 0,.slice none 0 0,.slice none 0 0],.agg #[.int .i64 0,.int .i64 0,.int .i64 0]],[]⟩ 8 O6 O6 O6 O6) ?_
 intro W base args ds gs before hval0 hW hcnd _
 have hval:∀(j:Nat) t v,Tryz.f4.params[j]? = some t→args[j]? = some v→Value.okWide Tryz.prog W .any base t v:=hval0
 have hW':=hW
 obtain⟨p,q,hA0,hV,rfl,hfz,hnd⟩:=hW
 have hA:DataW.TrodAll enc Tryz.prog W 0 (fun _=>true) true Tryz.f4.params.toList args.toList ds p:=hA0
 rw [Tryz.params4]at hA hval
 obtain⟨v0,vs0,d0,ds0,p0,q0,hargs,rfl,rfl,h0,r0⟩:=trodAll_cons hA
 obtain⟨v1,vs1,d1,ds1,p1,q1,rfl,rfl,rfl,h1,r1⟩:=trodAll_cons r0
 obtain⟨v2,vs2,d2,ds2,p2,q2,rfl,rfl,rfl,h2,r2⟩:=trodAll_cons r1
 obtain⟨rfl,rfl,rfl⟩:=trodAll_nil r2
 obtain rfl:args=#[v0,v1,v2]:=by cases args;simp_all
 obtain⟨rfl,rfl⟩:=trodVars_none hV
 have lt0:∀x∈p0,x.block<W.heap.size:=by obtain⟨m,hm⟩:=h0;exact DataW.trod_lt m _ _ _ hm
 obtain⟨fr0,to0,ov0,sx0,sy0,sz0,x0,y0,z0,rfl,hx0,hy0,hz0,m00,m10,m20,m30,m40,m50⟩:=Zpo Tryz.underlying35 O6 rfl rfl rfl rfl rfl rfl rfl rfl rfl rfl rfl rfl Tryz.underlying3 Tryz.underlying33 Tryz.underlying3 O6 O6 O6 O6 (hval 0 35 v0 rfl rfl) h0
 have lt1:∀x∈p1,x.block<W.heap.size:=by obtain⟨m,hm⟩:=h1;exact DataW.trod_lt m _ _ _ hm
 obtain⟨fr1,to1,ov1,sx1,sy1,sz1,x1,y1,z1,rfl,hx1,hy1,hz1,m01,m11,m21,m31,m41,m51⟩:=Zpo Tryz.underlying35 O6 rfl rfl rfl rfl rfl rfl rfl rfl rfl rfl rfl rfl Tryz.underlying3 Tryz.underlying33 Tryz.underlying3 O6 O6 O6 O6 (hval 1 35 v1 rfl rfl) h1
 have lt2:∀x∈p2,x.block<W.heap.size:=by obtain⟨m,hm⟩:=h2;exact DataW.trod_lt m _ _ _ hm
 obtain⟨va2,vb2,vc2,rfl,-,-,-⟩:=Zsc Tryz.underlying25 O6 rfl rfl rfl rfl rfl rfl Tryz.underlying3 O6 (hval 2 (25) v2 rfl rfl) h2
 clear hA0 hval0
 refine(law_df fr0 to0 ov0 sx0 sy0 sz0 x0 y0 z0 fr1 to1 ov1 sx1 sy1 sz1 x1 y1 z1 va2 vb2 vc2 m00 m10 m20 m30 m40 m50 m01 m11 m21 m31 m41 m51 W (fun p hp=>by cases hp with | head=>exact hx0 | tail _ hp=>cases hp with | head=>exact hy0 | tail _ hp=>cases hp with | head=>exact hz0 | tail _ hp=>cases hp with | head=>exact hx1 | tail _ hp=>cases hp with | head=>exact hy1 | tail _ hp=>cases hp with | head=>exact hz1 | tail _ hp=>cases hp)).mono fun e W' ⟨_,he,_,bel,_⟩=>?_
 subst he
 exact⟨_,rfl,_,_,_,[],_,[],hW',trodAll_mk1 (shut_bool Tryz.underlying4 _),(trodAll_cons_mk (Below.trod Zmz O6 (of_decide_eq_true O6) h0 bel lt0) (trodAll_cons_mk (Below.trod Zmz O6 (of_decide_eq_true O6) h1 bel lt1) (trodAll_cons_mk (Below.trod Zmz O6 (of_decide_eq_true O6) h2 bel lt2) trodAll_mk0))),rfl,bel.frame _,fun h=>by cases h⟩
theorem x_holds : Rows.DownwashFormsSaid :=
 OpenClaim.holds_of_wide 4 Tryz.f4 rfl rfl rfl rfl rfl rfl rfl ⟨rfl,rfl,rfl,rfl,rfl⟩ rfl rfl rfl rfl rfl O6 Tryz.func4 closed
  (of_decide_eq_true O6) (by unfold Func.isWrapper;first | (rw [if_pos O5];kernel_rfl) | (rw [if_neg O5];exact⟨rfl,rfl⟩))
  (fun os started H enc _=>lifted os started H enc)
#print axioms x_holds
end Go.Proofs.YteikicbnfbgpnaaGreat

