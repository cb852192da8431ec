/- Rules, arithmetic and contracts: part 19. No conditions but those that each theorem names. -/
import Derived.Test.YtcmiiammekgooaaGreatSp17
set_option linter.all false
set_option maxHeartbeats 4000000
namespace Go.Sky
open Go.Proofs.Tryz
open Go.Proofs
set_option maxRecDepth 20000
set_option maxHeartbeats 4000000
set_option linter.unusedSimpArgs false
theorem Cs(v u:Value)(xs:List Int)(ps:List PTs)(a b:R2)(hd:Cvd xs)(ha:E32 a)(hb:E32 b)(hp:Zsw ps)(hc:¬0<Iz a b)(hl:ps.length≤200:=by decide):Od prog 41 #[v,rX a.1 a.2,rX b.1 b.2,u] [Pw 2 wv v xs,Pw 9 Fr u ps] (.int .i64 (if Zg7 xs ps a b=true then 0 else 10)):=by
 refine Yg func41 J ntmps41 J K2 fun w0 sc hw hsc=>?_
 simp only [Zs,Zq]
 have hv:=hd.v
 have ha1:=ha.b1
 have ha2:=ha.b2
 have hap:=ha.p
 have hb1:=hb.b1
 have hb2:=hb.b2
 have hbp:=hb.p
 refine Mi (Hk (i:=2) J Zg) fun hlen=>Zb<|Zf<|tt (Xp (i:=3) K5 hw) fun bx _=>tt (Xp (i:=4) K5 hw) fun bx_2 _=>Zo J<|Zd<|Za<|Yfr<|Zb<|Zb<|Zf<|mv J<|dt (Pj (i:=3) K3 Xf Ym K4)<|dt (Pj (i:=4) K3 Xf Ym K4)<|mv J<|tt (Xv (n:=4) (Zj9 _ _ xs ps a b hd ha hb hp hl) J J J K4 call58 (Zi 1 K3 (Zi 2 K3 Ze)) J hw) fun _ _=>Zo J<|Zd<|Za<|Zb<|Zf<|mv J<|dt (dF (Pk K3) (vB (decide_eq_false (fun h=>h (if_neg hc)))))<|Zd<|Za<|Yk J<|Zl<|Za<|Zb<|Zf<|mv J<|tt (Zy (n:=5) (Zj6 _ _ hd) K4 call59 (Zi 1 K3 Ze) J hw) (fun g hg=>?_)
 obtain⟨hgl,hgc⟩:=hg
 refine mv J<|dt (Xa K3)<|dt (Xa K3)<|tt (Xi (i:=7) K2 zeroValue98 K2 hw) fun bx_3 _=>tt (Zt (i:=7) K6 Gu K2 ⟨Zj (i:=5) J Ye,Zj (i:=6) J Ye,trivial⟩ J hw trivial) fun _ _=>Zo J<|Zd<|Za<|Zb<|Zb<|Zf<|mv J<|dt (dF (Pk K3) (vB (by decide)))<|Zd<|Za<|Yk J<|Zl<|Za<|Zb<|Zf<|tt (Xi (i:=8) K2 zeroValue102 K2 hw) fun bx_4 _=>Zd<|Za<|Zb<|Zf<|dt (Pj (i:=3) K3 Xf Ym K4)<|mv J<|dt (Yc J J (i:=2) J Zg Ad)<|dt (Fd K3)<|tt (Xi (i:=9) K2 zeroValue41 K2 hw) fun bx_5 _=>tt (Zt (i:=9) K6 Ym K2 ⟨Zc J,Zc J,Zc J,Zc J,trivial⟩ J hw trivial) fun _ _=>Zo J<|Zd<|Za<|Zb<|Yfs<|Za<|Iy [(6,_),(12,_),(13,_)] [(0,_),(1,_),(2,_),(3,_),(4,_),(5,_),(6,_),(7,_),(8,_)] (fun(q:Bool×R2)=>[(14,.bool q.1)]) (fun(q:Bool×R2)=>[(9,box bx_5 41 #[.bool (decide (q.2.1<0)),.string (Xk q.2.1.natAbs),.bool (decide (q.2.2<0)),.string (Xk q.2.2.natAbs)])]) (fun(q:Bool×R2)=>(Zg7 xs ps a b=(q.1 && decide (Iz q.2 b=0)))∧(Ef q.2)) K3 K9 ?_ ?_
 ·refine Zb<|Zf<|mv J<|dt (Yc J J (i:=2) J Zg Ad)<|mv J<|Zd<|Za<|Zn<|Px [(0,_),(6,_),(10,_),(12,_),(13,_),(38,_),(39,_)] [(0,_),(1,_),(2,_),(3,_),(4,_),(5,_),(6,_),(7,_),(8,_)] (fun(i:Nat)=>[(40,.int .i64 (i:Int)),(11,.int .i64 0),(14,.bool (decide (0<ps.length)))]) (fun(i:Nat)=>[(9,box bx_5 41 #[.bool (decide ((lst a ps i).1<0)),.string (Xk (lst a ps i).1.natAbs),.bool (decide ((lst a ps i).2<0)),.string (Xk (lst a ps i).2.natAbs)])]) (fun(i:Nat)=>(i≤ps.length)∧(∀k,k<i→Zhx xs (lst a ps k) (ps.getD k P0)=true)) (fun(i:Nat)=>ps.length-i) 0 ⟨by first | omega | (dsimp only<;>omega),fun k hk=>absurd hk (Nat.not_lt_zero k)⟩ ⟨J,J,(congrArg (fun z=>some (Value.bool z)) (decide_eq_decide.2 (by omega))),J,J,J,J,J,J,J,trivial⟩ K10 ?_
  rintro i ⟨hi,hK⟩
  simp only [CA,NA]
  have hlE:=Yb7 ha.ef hp hi
  have hl1:=hlE.b1
  have hl2:=hlE.b2
  refine Zb<|Zf<|dt (Pa K3)<|Zd<|Za<|Zb<|Zr J (fun h450=>?_) (fun h450=>?_)
  ·refine Zl<|Za<|Zb<|Zn<|Zb<|Zf<|dt (Nj (ii:=2) K4 Zg Ad Znr J (by first | omega | (simp only [List.length_set];omega)))<|dt (Ms (ii:=2) P0 K3 Zg pP9 (by first | omega | (simp only [List.length_set];omega)))<|tt (Xi (i:=10) K2 zeroValue79 K2 hw) fun bx_6 _=>tt (Zt (i:=10) K6 Znr K2 ⟨Zc J,Zc J,Zc J,Zc J,Zc J,Zc J,Zc J,Zc J,Zc J,trivial⟩ J hw trivial) fun _ _=>Zd<|Za<|Zb ?_
   obtain⟨hk,hf1,hf2⟩:=hp (ps.getD i P0) (Xc)
   have hf11:=hf1.b1
   have hf12:=hf1.b2
   have hf1p:=hf1.p
   have hf21:=hf2.b1
   have hf22:=hf2.b2
   have hf2p:=hf2.p
   refine Zf<|dt (Qy K2 Gm J Ym K2)<|dt (Pj (i:=10) K3 Xf Ym K4)<|dt (Qy K2 Gm J Ym K2)<|dt (Pj (i:=10) K3 Xf Ym K4)<|tt (Yf (n:=10) (Fz (ps.getD i P0).2.1.1 (ps.getD i P0).2.1.2 (ps.getD i P0).2.2.1 (ps.getD i P0).2.2.2 hf1p hf2p) K5 call96 Ze J hw) fun _ _=>Zo J<|Zd<|Za<|Zb<|Zb<|Zf<|dt (Pj (i:=9) K3 Xf Ym K4)<|dt (Qy K2 Gm J Ym K2)<|dt (Pj (i:=10) K3 Xf Ym K4)<|tt (Yf (n:=10) (Fz (lst a ps i).1 (lst a ps i).2 (ps.getD i P0).2.1.1 (ps.getD i P0).2.1.2 hlE.p hf1p) K5 call96 Ze J hw) fun _ _=>dt (Pk K3)<|mv J<|Pb (d:=54) J (fun s452=>?_) (fun s452=>?_)
   ·exact Yj K3<|Yj K3<|dt (Om K3)<|Zd<|Za<|Of J<|Zb<|Zf<|Zo J<|Zd<|Za<|Yt<|Zv<|Zhh<|Zv<|Zv<|Pd<|Xd (false,(lst a ps i)) ⟨Ft (k:=i) (by omega) (by first | exact Ybl ‹_› | exact Ybk ‹_›) _,hlE⟩ K4 K10
   ·refine Zx (Ya K2) K2<|Zx (Fd K3) K2<|dt (Ql K3)<|Zd<|Za<|Zr J (fun h452=>?_) (fun h452=>?_)
    ·exact Zb<|Zf<|Zo J<|Zd<|Za<|Yt<|Zv<|Zhh<|Zv<|Zv<|Pd<|Xd (false,(lst a ps i)) ⟨Ft (k:=i) (by omega) (by first | exact Ybl ‹_› | exact Ybk ‹_›) _,hlE⟩ K4 K10
    ·refine Zl<|Za<|Zb ?_
     have hc1:=Decidable.byContradiction (by assumption:¬¬Iz (lst a ps i) (ps.getD i P0).2.1=0)
     have hc2:¬0<Iz (ps.getD i P0).2.1 (ps.getD i P0).2.2:=by assumption
     refine Zf<|dt (Qy K2 Gm J Ym K2)<|dt (Pj (i:=10) K3 Xf Ym K4)<|tt (Zt (i:=9) K6 Ym K2 ⟨Zc J,Zc J,Zc J,Zc J,trivial⟩ J hw trivial) fun _ _=>Zd<|Za<|Zb<|Zn<|Zb<|Zf<|dt (Qy K2 Gm J sizeOf77 K2)<|dt (Mc (i:=10) K3 isAgg77 J)<|dt (Hf K3)<|Zo J<|Zd<|Za<|Zr J (fun h458=>?_) (fun h458=>?_)
     ·refine Zf<|mv J<|dt (Qy K2 Gm J Ym K2)<|dt (Pj (i:=10) K3 Xf Ym K4)<|dt (Qy K2 Gm J Ym K2)<|dt (Pj (i:=10) K3 Xf Ym K4)<|tt (Xv (n:=10) (Zqo _ xs (ps.getD i P0).2.1 (ps.getD i P0).2.2 hd hf1 hf2) J J J K3 call93 (Zi 1 K3 Ze) J hw) fun _ _=>mv J<|dt (Xa K3)<|dt (Xa K3)<|Zo J<|Zo J<|Zd<|Qh<|Za<|Zb<|Zb<|Zf<|mv J<|dt (dF (Pk K3) (vB (by decide)))<|Zd<|Za<|Yk J<|Zl<|Za<|Zb<|Zf<|mv J<|dt (Xh J J)<|Zd<|Za<|Mx J (fun h468=>?_) (fun h468=>?_)
      ·exact Yt<|Zhh<|Zv<|Zv<|Pd<|Xd (false,(ps.getD i P0).2.2) ⟨Ft (k:=i) (by omega) ((Zda hc1 hc2).trans (by first | exact Eq.trans (Zco (xs:=xs) (z:=ps.getD i P0) ‹_›) (Gg ‹_›) | (rw [(Zcm (xs:=xs) (z:=ps.getD i P0) ‹_› (by first | exact .inl (by omega) | exact .inr ‹_›)),←hgl];exact decide_eq_false ‹_›) | (rw [(Zcn (xs:=xs) (z:=ps.getD i P0) ‹_› (by omega) ‹_›),←hgl,←hgc];exact(by first | exact Zlv ‹_› | exact Zck ‹_› (Gg ‹_›))))) _,hf2⟩ ⟨by first | rfl | exact congrArg (fun z=>some (Value.bool z)) (Gg ‹_›) | exact congrArg (fun z=>some (Value.bool z)) (decide_eq_false ‹_›),J,J,J,trivial⟩ K10
      ·exact Zl<|Qh<|Za<|Zf<|dt (Ov K3)<|mv J<|Zd<|Xg (i+1) ⟨by first | omega | (dsimp only<;>omega),fun k hk2=>by rcases Nat.lt_succ_iff_lt_or_eq.1 hk2 with h9 | h9;exact hK k h9;rw [h9];exact(Zda hc1 hc2).trans (by first | exact Eq.trans (Zco (xs:=xs) (z:=ps.getD i P0) ‹_›) (Ds ‹_›) | (rw [(Zcm (xs:=xs) (z:=ps.getD i P0) ‹_› (by first | exact .inl (by omega) | exact .inr ‹_›)),←hgl];exact decide_eq_true (Classical.not_not.1 ‹_›)) | (rw [(Zcn (xs:=xs) (z:=ps.getD i P0) ‹_› (by omega) ‹_›),←hgl,←hgc];exact(Zck ‹_› (Ds ‹_›))))⟩ (by first | omega | (dsimp only<;>omega)) ⟨J,J,(congrArg (fun z=>some (Value.bool z)) (Eq.trans (by first | exact Ds ‹_› | exact decide_eq_true (Classical.not_not.1 ‹_›) | assumption) (decide_eq_true (by omega)).symm)),J,J,J,J,J,J,J,trivial⟩ K10
     ·refine Zb<|Zf<|mv J<|dt (Yc J J (i:=1) J Zg Xn)<|dt (Hf K3)<|mv J<|Pb (d:=91) J (fun s460=>?_) (fun s460=>?_)
      ·refine Yj K3<|Yj K3<|dt (Om K3)<|Zo J<|Zd<|Za<|Of J<|Zf<|dt (Qm (i:=7) K3 Bf Gu K2)<|dt (Qy K2 Gm J Ym K2)<|dt (Pj (i:=10) K3 Xf Ym K4)<|tt (Xv (n:=10) (Zc2 _ _ _ _ _ (ps.getD i P0).2.1.1 (ps.getD i P0).2.1.2 hf1p (Qo hgl (fun q hq=>(Lm hd q hq).1)) (Qo hgl (Ky hd (m:=(ps.getD i P0).2.1) (Nat.le_trans hf1.b1 (by decide)) (Nat.le_trans hf1.b2 (by decide))).1)) J J J K3 call62 (Zi 5 K3 (Zi 6 K3 (Ny 8 J J Ze))) J hw) fun _ _=>dt (Lh J J J)<|Zo J<|Zd<|Qh<|Za<|Zb<|Zb<|Zf<|mv J<|dt (dF (Pk K3) (vB (by decide)))<|Zd<|Za<|Yk J<|Zl<|Za<|Zb<|Zf<|mv J<|dt (Zev J J)<|Zd<|Za<|Zr J (fun h468_2=>?_) (fun h468_2=>?_)
       ·exact Yt<|Zhh<|Zv<|Zv<|Pd<|Xd (false,(ps.getD i P0).2.2) ⟨Ft (k:=i) (by omega) ((Zda hc1 hc2).trans (by first | exact Eq.trans (Zco (xs:=xs) (z:=ps.getD i P0) ‹_›) (Gg ‹_›) | (rw [(Zcm (xs:=xs) (z:=ps.getD i P0) ‹_› (by first | exact .inl (by omega) | exact .inr ‹_›)),←hgl];exact decide_eq_false ‹_›) | (rw [(Zcn (xs:=xs) (z:=ps.getD i P0) ‹_› (by omega) ‹_›),←hgl,←hgc];exact(by first | exact Zlv ‹_› | exact Zck ‹_› (Gg ‹_›))))) _,hf2⟩ ⟨by first | rfl | exact congrArg (fun z=>some (Value.bool z)) (Gg ‹_›) | exact congrArg (fun z=>some (Value.bool z)) (decide_eq_false ‹_›),J,J,J,trivial⟩ K10
       ·exact Zl<|Qh<|Za<|Zf<|dt (Ov K3)<|mv J<|Zd<|Xg (i+1) ⟨by first | omega | (dsimp only<;>omega),fun k hk2=>by rcases Nat.lt_succ_iff_lt_or_eq.1 hk2 with h9 | h9;exact hK k h9;rw [h9];exact(Zda hc1 hc2).trans (by first | exact Eq.trans (Zco (xs:=xs) (z:=ps.getD i P0) ‹_›) (Ds ‹_›) | (rw [(Zcm (xs:=xs) (z:=ps.getD i P0) ‹_› (by first | exact .inl (by omega) | exact .inr ‹_›)),←hgl];exact decide_eq_true (Classical.not_not.1 ‹_›)) | (rw [(Zcn (xs:=xs) (z:=ps.getD i P0) ‹_› (by omega) ‹_›),←hgl,←hgc];exact(Zck ‹_› (Ds ‹_›))))⟩ (by first | omega | (dsimp only<;>omega)) ⟨J,J,(congrArg (fun z=>some (Value.bool z)) (Eq.trans (by first | exact Ds ‹_› | exact decide_eq_true (Classical.not_not.1 ‹_›) | assumption) (decide_eq_true (by omega)).symm)),J,J,J,J,J,J,J,trivial⟩ K10
      ·refine Zx (Ya K2) K2<|Zx (Hf K3) K2<|dt (Ql K3)<|Zo J<|Zd<|Za<|Zr J (fun h460=>?_) (fun h460=>?_)
       ·refine Zf<|dt (Qm (i:=7) K3 Bf Gu K2)<|dt (Qy K2 Gm J Ym K2)<|dt (Pj (i:=10) K3 Xf Ym K4)<|tt (Xv (n:=10) (Zc2 _ _ _ _ _ (ps.getD i P0).2.1.1 (ps.getD i P0).2.1.2 hf1p (Qo hgl (fun q hq=>(Lm hd q hq).1)) (Qo hgl (Ky hd (m:=(ps.getD i P0).2.1) (Nat.le_trans hf1.b1 (by decide)) (Nat.le_trans hf1.b2 (by decide))).1)) J J J K3 call62 (Zi 5 K3 (Zi 6 K3 (Ny 8 J J Ze))) J hw) fun _ _=>dt (Lh J J J)<|Zo J<|Zd<|Qh<|Za<|Zb<|Zb<|Zf<|mv J<|dt (dF (Pk K3) (vB (by decide)))<|Zd<|Za<|Yk J<|Zl<|Za<|Zb<|Zf<|mv J<|dt (Zev J J)<|Zd<|Za<|Zr J (fun h468_3=>?_) (fun h468_3=>?_)
        ·exact Yt<|Zhh<|Zv<|Zv<|Pd<|Xd (false,(ps.getD i P0).2.2) ⟨Ft (k:=i) (by omega) ((Zda hc1 hc2).trans (by first | exact Eq.trans (Zco (xs:=xs) (z:=ps.getD i P0) ‹_›) (Gg ‹_›) | (rw [(Zcm (xs:=xs) (z:=ps.getD i P0) ‹_› (by first | exact .inl (by omega) | exact .inr ‹_›)),←hgl];exact decide_eq_false ‹_›) | (rw [(Zcn (xs:=xs) (z:=ps.getD i P0) ‹_› (by omega) ‹_›),←hgl,←hgc];exact(by first | exact Zlv ‹_› | exact Zck ‹_› (Gg ‹_›))))) _,hf2⟩ ⟨by first | rfl | exact congrArg (fun z=>some (Value.bool z)) (Gg ‹_›) | exact congrArg (fun z=>some (Value.bool z)) (decide_eq_false ‹_›),J,J,J,trivial⟩ K10
        ·exact Zl<|Qh<|Za<|Zf<|dt (Ov K3)<|mv J<|Zd<|Xg (i+1) ⟨by first | omega | (dsimp only<;>omega),fun k hk2=>by rcases Nat.lt_succ_iff_lt_or_eq.1 hk2 with h9 | h9;exact hK k h9;rw [h9];exact(Zda hc1 hc2).trans (by first | exact Eq.trans (Zco (xs:=xs) (z:=ps.getD i P0) ‹_›) (Ds ‹_›) | (rw [(Zcm (xs:=xs) (z:=ps.getD i P0) ‹_› (by first | exact .inl (by omega) | exact .inr ‹_›)),←hgl];exact decide_eq_true (Classical.not_not.1 ‹_›)) | (rw [(Zcn (xs:=xs) (z:=ps.getD i P0) ‹_› (by omega) ‹_›),←hgl,←hgc];exact(Zck ‹_› (Ds ‹_›))))⟩ (by first | omega | (dsimp only<;>omega)) ⟨J,J,(congrArg (fun z=>some (Value.bool z)) (Eq.trans (by first | exact Ds ‹_› | exact decide_eq_true (Classical.not_not.1 ‹_›) | assumption) (decide_eq_true (by omega)).symm)),J,J,J,J,J,J,J,trivial⟩ K10
       ·refine Zf<|dt (Qm (i:=7) K3 Bf Gu K2)<|dt (Qy K2 Gm J Ym K2)<|dt (Pj (i:=10) K3 Xf Ym K4)<|tt (Xv (n:=10) (Zqr _ _ _ _ _ (ps.getD i P0).2.1.1 (ps.getD i P0).2.1.2 (by omega) (by omega) hf1p (Qo hgl (fun q hq=>(Lm hd q hq).1)) (Qo hgl (Ky hd (m:=(ps.getD i P0).2.1) (Nat.le_trans hf1.b1 (by decide)) (Nat.le_trans hf1.b2 (by decide))).1)) J J J K3 call99 (Zi 5 K3 (Zi 6 K3 (Ny 8 J J Ze))) J hw) fun _ _=>dt (Fd K3)<|mv J<|Pb (d:=65) J (fun s463=>?_) (fun s463=>?_)
        ·refine Zx (Qm (i:=7) K3 Bf Gu K2) K2<|Zx (Qy K2 Gm J Ym K2) K2<|Zx (Pj (i:=10) K3 Xf Ym K4) K2<|Zx (Qy K2 Gm J Ym K2) K2<|Zx (Pj (i:=10) K3 Xf Ym K4) K2<|Pp (Xv (n:=10) (Zj8 _ _ _ _ _ (ps.getD i P0).2.1.1 (ps.getD i P0).2.1.2 (ps.getD i P0).2.2.1 (ps.getD i P0).2.2.2 (by omega) (by omega) (by omega) (by omega) hf1p hf2p (Qo hgc (fun q hq=>(Dl hd q hq).1)) (Qo hgc (Ky hd (m:=(ps.getD i P0).2.1) (Nat.le_trans hf1.b1 (by decide)) (Nat.le_trans hf1.b2 (by decide))).2) (Qo hgc (Ky hd (m:=(ps.getD i P0).2.2) (Nat.le_trans hf2.b1 (by decide)) (Nat.le_trans hf2.b2 (by decide))).2) (by have h7:=congrArg List.length hgc;rw [List.length_map]at h7;have:=Cm xs;omega)) J J J K4 call100 (Zi 5 K3 (Zi 6 K3 (Ny 8 J J Ze))) J hw) K3 fun _ _=>Zx (Xh J J) K2<|dt (Om K3)<|Zo J<|Zd<|Qh<|Za<|Zb<|Zb<|Zf<|mv J<|dt (dF (Pk K3) (vB (by decide)))<|Zd<|Za<|Yk J<|Zl<|Za<|Zb<|Zf<|mv J<|dt (Xh J J)<|Zd<|Za<|Mx J (fun h468_4=>?_) (fun h468_4=>?_)
         ·exact Yt<|Zhh<|Zv<|Zv<|Pd<|Xd (false,(ps.getD i P0).2.2) ⟨Ft (k:=i) (by omega) ((Zda hc1 hc2).trans (by first | exact Eq.trans (Zco (xs:=xs) (z:=ps.getD i P0) ‹_›) (Gg ‹_›) | (rw [(Zcm (xs:=xs) (z:=ps.getD i P0) ‹_› (by first | exact .inl (by omega) | exact .inr ‹_›)),←hgl];exact decide_eq_false ‹_›) | (rw [(Zcn (xs:=xs) (z:=ps.getD i P0) ‹_› (by omega) ‹_›),←hgl,←hgc];exact(by first | exact Zlv ‹_› | exact Zck ‹_› (Gg ‹_›))))) _,hf2⟩ ⟨by first | rfl | exact congrArg (fun z=>some (Value.bool z)) (Gg ‹_›) | exact congrArg (fun z=>some (Value.bool z)) (decide_eq_false ‹_›),J,J,J,trivial⟩ K10
         ·exact Zl<|Qh<|Za<|Zf<|dt (Ov K3)<|mv J<|Zd<|Xg (i+1) ⟨by first | omega | (dsimp only<;>omega),fun k hk2=>by rcases Nat.lt_succ_iff_lt_or_eq.1 hk2 with h9 | h9;exact hK k h9;rw [h9];exact(Zda hc1 hc2).trans (by first | exact Eq.trans (Zco (xs:=xs) (z:=ps.getD i P0) ‹_›) (Ds ‹_›) | (rw [(Zcm (xs:=xs) (z:=ps.getD i P0) ‹_› (by first | exact .inl (by omega) | exact .inr ‹_›)),←hgl];exact decide_eq_true (Classical.not_not.1 ‹_›)) | (rw [(Zcn (xs:=xs) (z:=ps.getD i P0) ‹_› (by omega) ‹_›),←hgl,←hgc];exact(Zck ‹_› (Ds ‹_›))))⟩ (by first | omega | (dsimp only<;>omega)) ⟨J,J,(congrArg (fun z=>some (Value.bool z)) (Eq.trans (by first | exact Ds ‹_› | exact decide_eq_true (Classical.not_not.1 ‹_›) | assumption) (decide_eq_true (by omega)).symm)),J,J,J,J,J,J,J,trivial⟩ K10
        ·exact Yj K3<|Yj K3<|Yj K3<|Yj K3<|Yj K3<|Yj K3<|Yj K3<|dt (Ql K3)<|Zo J<|Zd<|Qh<|Za<|Zb<|Zb<|Zf<|mv J<|dt (dF (Pk K3) (vB (by decide)))<|Zd<|Za<|Yk J<|Zl<|Za<|Zb<|Zf<|mv J<|dt (Xh J J)<|Zd<|Za<|Of J<|Yt<|Zhh<|Zv<|Zv<|Pd<|Xd (false,(ps.getD i P0).2.2) ⟨Ft (k:=i) (by omega) ((Zda hc1 hc2).trans (by first | exact Eq.trans (Zco (xs:=xs) (z:=ps.getD i P0) ‹_›) (Gg ‹_›) | (rw [(Zcm (xs:=xs) (z:=ps.getD i P0) ‹_› (by first | exact .inl (by omega) | exact .inr ‹_›)),←hgl];exact decide_eq_false ‹_›) | (rw [(Zcn (xs:=xs) (z:=ps.getD i P0) ‹_› (by omega) ‹_›),←hgl,←hgc];exact(by first | exact Zlv ‹_› | exact Zck ‹_› (Gg ‹_›))))) _,hf2⟩ ⟨by first | rfl | exact congrArg (fun z=>some (Value.bool z)) (Gg ‹_›) | exact congrArg (fun z=>some (Value.bool z)) (decide_eq_false ‹_›),J,J,J,trivial⟩ K10
  ·exact Yt<|Zv<|Zv<|Pd<|Xd (decide (0<ps.length),(lst a ps i)) ⟨Zjk (by omega) hK,hlE⟩ K4 K10
 ·rintro⟨sh,lz⟩ ⟨hJ,hE⟩
  dsimp only at hJ hE
  simp only [CA,NA]
  have hz1:=hE.b1
  have hz2:=hE.b2
  have hzp:=hE.p
  refine Zb<|Zn<|Zb<|Zf<|dt (Qy K2 Ks J Ie K2)<|dt (Mc (i:=8) K3 Ee J)<|dt (dF (Pk K3) (vB (by decide)))<|Zo J<|Zd<|Za<|Yk J<|Zb<|Zf<|mv J<|dt (Xh J J)<|mv J<|Kx (d:=115) J (fun s475=>?_) (fun s475=>?_)
  ·exact Yj K3<|Yj K3<|Yj K3<|Yj K3<|dt (Om K3)<|Zo J<|Zd<|Za<|Of J<|Zb<|Zf<|Zo J<|Zd<|Za<|Zp<|Md<|Yp<|Zy9<|xU hsc results41 J J (by rw [hJ];first | (rw [Gg (b:=sh) ‹_›];rfl) | (rw [decide_eq_false ‹_›,Bool.and_false];rfl))
  ·refine Zx (Pj (i:=9) K3 Xf Ym K4) K2<|Zx (Pj (i:=4) K3 Xf Ym K4) K2<|Pp (Yf (n:=10) (Fz lz.1 lz.2 b.1 b.2 hzp hbp) K5 call96 Ze J hw) K3 fun _ _=>Zx (Pk K3) K2<|dt (Ql K3)<|Zo J<|Zd<|Za<|Zr J (fun h475=>?_) (fun h475=>?_)
   ·exact Zb<|Zf<|Zo J<|Zd<|Za<|Zp<|Md<|Yp<|Zy9<|xU hsc results41 J J (by rw [hJ];first | (rw [Gg (b:=sh) ‹_›];rfl) | (rw [decide_eq_false ‹_›,Bool.and_false];rfl))
   ·exact Zl<|Qh<|Za<|Zb<|Zf<|Zo J<|Zd<|Za<|Zp<|Zy9<|xU hsc results41 J J (by rw [hJ,Ds (b:=sh) ‹_›,decide_eq_true (Decidable.byContradiction ‹_›)];rfl)
theorem Ycn(u0 u1 u2 u3 u4 u5 u6 u7 u8 a0 a1 a2 a3 a4 a5 a6 a7 a8:Value):Instr.fill (fun i=>some (i*9,9)) ((List.range (1*9)).map ((Value.agg #[u0,u1,u2,u3,u4,u5,u6,u7,u8]).cells[· % (Value.agg #[u0,u1,u2,u3,u4,u5,u6,u7,u8]).cells.size]!)).toArray [(0,.agg #[a0,a1,a2,a3,a4,a5,a6,a7,a8])]=some #[a0,a1,a2,a3,a4,a5,a6,a7,a8]:=by
 simp [Instr.fill,Value.cells,List.range,List.range.loop]
 try rfl
theorem Zzp{l:List Int}(h:Zyn l=true):Sz 40 l:=Sz.of_mem fun x hx=>by
 unfold Zyn at h
 rw [Bool.and_eq_true]at h
 have h1:=List.all_eq_true.1 h.1 x hx
 simp only [Bool.and_eq_true,decide_eq_true_eq]at h1
 exact(Mj 40 _).2 (by omega)
theorem Ar{l:List Int}(h:Zyn l=true)(h2:l.length≤7:=by decide):Cvd l:=⟨vp_b h,(Zzp h).mono (by omega),h2⟩
theorem Zs4{l:List Int}(h:Zyn l=true):Sz 40 l:=Zzp h
theorem Zun{k:Int}{a b:R2}(ha:Ef a)(hb:Ef b)(h:k=1∨k=2:=by decide):Zsw [(k,a,b)]:=fun z hz=>by
 rw [List.mem_singleton.1 hz];exact⟨h,ha,hb⟩
theorem Ztw{xs:List Int}{r m:Int}(h:¬Ey xs r∧Ey xs (r+1)∧bl r.natAbs≤60)(c1:Cvd (Er xs m))(c2:Cvd (Er xs (m+1)))(h1:Bj (Qq (Er xs m)) (Gz (Er xs m)) (0,1) (1,1)=false)(h2:Bj (Qq (Er xs (m+1))) (Gz (Er xs (m+1))) (0,1) (1,1)=true):r=m:=by
 have l1:¬Ey xs m:=fun e=>by rw [(Zbf c1).2 e]at h1;exact absurd h1 (by decide)
 have l2:Ey xs (m+1):=(Zbf c2).1 h2
 have a1:=Zo4 h.1 l2
 have a2:=Zo4 l1 h.2.1
 omega
def smR(r:RWL):Bool:=(r.all fun c=>decide (c.2.size≤4)) && decide (r.length≤7)
theorem smR_no{r:RWL}{i:Nat}(hi:i<r.length)(h:(4:Int)<((r.getD i (false,⟨#[]⟩)).2.size:Int)):smR r=false:=by
 unfold smR
 rw [show(r.all fun c=>decide (c.2.size≤4))=false from ?_]
 ·simp
 ·rw [List.all_eq_false]
  refine⟨r.getD i (false,⟨#[]⟩),Xc hi,?_⟩
  rw [decide_eq_false (by omega)];decide
theorem Yea{r:RWL}(h:∀k,k<r.length→(r.getD k (false,⟨#[]⟩)).2.size≤4):smR r=decide ((r.length:Int)≤7):=by
 unfold smR
 rw [show(r.all fun c=>decide (c.2.size≤4))=true from ?_,Bool.true_and]
 ·exact decide_eq_decide.2 (by omega)
 ·rw [List.all_eq_true]
  intro c hc
  obtain⟨k,hk,rfl⟩:=List.mem_iff_getElem.1 hc
  have:=h k hk
  rw [List.getD_eq_getElem?_getD,List.getElem?_eq_getElem hk]at this
  exact decide_eq_true this
theorem smR_le{r:RWL}(h:smR r=true):r.length≤7∧∀c∈r,c.2.size≤4:=by
 unfold smR at h
 rw [Bool.and_eq_true,List.all_eq_true]at h
 exact⟨of_decide_eq_true h.2,fun c hc=>of_decide_eq_true (h.1 c hc)⟩
def enR(z:RZ):Bool:=decide (z.1.2.size≤4) && decide (z.2.2.size≤4)
theorem enR_1{z:RZ}(h:(4:Int)<(z.1.2.size:Int)):enR z=false:=by unfold enR;rw [decide_eq_false (by omega),Bool.false_and]
theorem enR_2{z:RZ}(h:(4:Int)<(z.2.2.size:Int)):enR z=false:=by unfold enR;rw [decide_eq_false (p:=z.2.2.size≤4) (by omega),Bool.and_false]
theorem enR_3{z:RZ}(h1:¬(4:Int)<(z.1.2.size:Int))(h2:¬(4:Int)<(z.2.2.size:Int)):enR z=true:=by unfold enR;rw [decide_eq_true (by omega),decide_eq_true (by omega)];rfl
theorem Zpj{zs:List RZ}{i:Nat}(hi:i<zs.length)(h:enR (zs.getD i Q0)=false):zs.all enR=false:=by
 rw [List.all_eq_false];exact⟨zs.getD i Q0,Xc hi,by rw [h];decide⟩
theorem Yfn{zs:List RZ}(h:∀k,k<zs.length→enR (zs.getD k Q0)=true):zs.all enR=true:=by
 rw [List.all_eq_true]
 intro c hc
 obtain⟨k,hk,rfl⟩:=List.mem_iff_getElem.1 hc
 have:=h k hk
 rwa [List.getD_eq_getElem?_getD,List.getElem?_eq_getElem hk]at this
theorem Zk6(x:Int)(hx:inI x):Od prog 47 #[.int .i64 x] [] (wv x):=by
 refine Yg func47 J ntmps47 J trivial fun w0 sc hw hsc=>?_
 simp only [Zs,Zq]
 have hxa:=hx.1
 have hxb:=hx.2
 have hbx:=inI_bl hx
 exact Zb<|Zf<|tt (Xi (i:=1) K2 zeroValue31 K2 hw) fun b _=>Zd<|Za<|Zb<|Zf<|mv J<|tt (Zy (n:=2) (Zgh _ hx) K4 call34 Ze J hw) fun v _=>tt (Zy (n:=2) (r_to _ _) K4 call53 (Zi 2 K3 Ze) J hw) fun _ _=>tt (Zt (i:=1) K6 Yb K2 ⟨Zc J,Zc J,trivial⟩ J hw trivial) fun _ _=>Zd<|Za<|Zp<|Yr (.inl J) hsc () _ (fun a w hs=>Nr hs results47 (Yw (i:=1) J J Xl Yb J)) J trivial J Zm
theorem law4_p(v:Value)(l:List Int)(hl:∀x∈l,inI x)(hlen:l.length≤1000):Cal prog 44 #[v] [Pw 1 Eh v l] true (G:=Value) (fun r=>True) (fun r=>r) (fun r=>[Pw 2 wv r (tzl l)]):=by
 refine Yg func44 J ntmps44 J K1 fun w0 sc hw hsc=>?_
 simp only [Zs,Zq]
 have hsz:=Zfy hl
 exact Zb<|Zf<|Zo J<|Zd<|Za<|Zb<|Zf<|mv J<|tt (Zy (n:=2) (Zvc _ _ hl hlen) K4 call102 (Zi 1 K3 Ze) J hw) fun g hg=>tt (Zy (n:=3) (rp_to _ _ (by rw [hg];exact(Sz.tzl hsz).mono (by omega)) (by have h7:=congrArg List.length hg;rw [Zz]at h7;have h8:=Hc l;omega)) K4 call18 (Zi 2 K3 Ze) J hw) fun v _=>Zo J<|Zd<|Za<|Zp<|xG hsc _ results44 J J trivial J (Lg 3 K3 (congrArg (Pw 2 wv _) hg) Zm)
theorem Lz(x y:Int)(hx:inI x)(hy:inI y):Od prog 45 #[.int .i64 x,.int .i64 y] [] (rX x y):=by
 refine Yg func45 J ntmps45 J trivial fun w0 sc hw hsc=>?_
 simp only [Zs,Zq]
 exact Zb<|Zf<|tt (Xi (i:=1) K2 zeroValue41 K2 hw) fun b _=>Zd<|Za<|Zb<|Zf<|mv J<|tt (Zy (n:=1) (Zk6 _ hx) K4 call47 Ze J hw) fun _ _=>mv J<|tt (Zy (n:=1) (Zk6 _ hy) K4 call47 Ze J hw) fun _ _=>dt (Oi (ivs:=[(0,_),(1,_)]) J K4 (fun a w hs=>Zfn))<|tt (Zt (i:=1) K6 Ym K2 ⟨Zc J,Zc J,Zc J,Zc J,trivial⟩ J hw trivial) fun _ _=>Zd<|Za<|Zp<|Yr (.inl J) hsc () _ (fun a w hs=>Nr hs results45 (Yw (i:=1) J J Xf Ym J)) J trivial J Zm
theorem Zec(k x y:Int)(hx:inI x)(hy:inI y):Cal prog 48 #[.int .i64 k,.int .i64 x,.int .i64 y] [] true (G:=Value) (fun r=>True) (fun r=>r) (fun r=>[Pw 9 Fr r [(k,(x,1),(y,1))]]):=by
 refine Yg func48 J ntmps48 J trivial fun w0 sc hw hsc=>?_
 simp only [Zs,Zq]
 exact Zb<|Zf<|Zo J<|Zd<|Za<|Zb<|Zf<|mv J<|mv J<|tt (Yf (n:=0) (Lz _ _ hx ⟨by decide,by decide⟩) K5 Bb Ze J hw) fun _ _=>mv J<|tt (Yf (n:=0) (Lz _ _ hy ⟨by decide,by decide⟩) K5 Bb Ze J hw) fun _ _=>dt (Oi (ivs:=[(0,_),(1,_),(2,_)]) J K6 (fun a w hs=>Zxi ((Zc J) a w hs)))<|tt (Ic (i:=1) (ivs:=[(0,_)]) (enc:=Fr) [(k,(x,1),(y,1))] J J K2 Ad ti79 J J (Ycn _ _ _ _ _ _ _ _ _ _ _ _ _ _ _ _ _ _) J J pP9.cells J J hw) fun v _=>Zo J<|Zd<|Za<|Zp<|xG hsc _ results48 J J trivial J (Zr2 1 J J pP9 Zm)
theorem Zet(x y:Int)(hx:inI x)(hy:inI y):Od prog 46 #[.int .i64 x,.int .i64 y] [] (.agg #[.bool (decide (x<0)),.string (Xk x.natAbs),.bool (decide ((1:Int)<0)),.string (Xk (1:Int).natAbs),.bool (decide (y<0)),.string (Xk y.natAbs),.bool (decide ((1:Int)<0)),.string (Xk (1:Int).natAbs)]):=by
 refine Yg func46 J ntmps46 J trivial fun w0 sc hw hsc=>?_
 simp only [Zs,Zq]
 exact Zb<|Zf<|tt (Xi (i:=1) K2 zeroValue62 K2 hw) fun bx _=>Zd<|Za<|Zb<|Zf<|mv J<|tt (Yf (n:=1) (Lz _ _ hx ⟨by decide,by decide⟩) K5 Bb Ze J hw) fun _ _=>mv J<|tt (Yf (n:=1) (Lz _ _ hy ⟨by decide,by decide⟩) K5 Bb Ze J hw) fun _ _=>dt (Oi (ivs:=[(0,_),(1,_)]) J K4 (fun a w hs=>Ydj))<|tt (Zt (i:=1) K6 Fe K2 ⟨Zc J,Zc J,Zc J,Zc J,Zc J,Zc J,Zc J,Zc J,trivial⟩ J hw trivial) fun _ _=>Zd<|Za<|Zp<|Yr (.inl J) hsc () _ (fun a w hs=>Nr hs results46 (Yw (i:=1) J J Zct Fe J)) J trivial J Zm
theorem Zfg(v:Value)(r:List (Bool×ByteArray)):Od prog 10 #[v] [Pw 2 Zax v r] (.bool (smR r)):=by
 refine Yg func10 J ntmps10 J K1 fun w0 sc hw hsc=>?_
 simp only [Zs,Zq]
 refine Mi (Hk (i:=1) J Zg) fun hlen=>Zb<|Zf<|Zo J<|Zd<|Za<|Zb<|Zb<|Zf<|mv J<|dt (Yc J J (i:=1) J Zg Xn)<|mv J<|Zd<|Za<|Zn<|Px [(0,_),(5,_),(6,_)] [(0,_),(1,_)] (fun(i:Nat)=>[(7,.int .i64 (i:Int))]) (fun(i:Nat)=>[]) (fun(i:Nat)=>(i≤r.length)∧(∀k,k<i→(r.getD k (false,⟨#[]⟩)).2.size≤4)) (fun(i:Nat)=>r.length-i) 0 ⟨by first | omega | (dsimp only<;>omega),fun k hk=>absurd hk (Nat.not_lt_zero k)⟩ K4 K2 ?_
 rintro i ⟨hi,hk⟩
 simp only [CA,NA]
 refine Zb<|Zf<|dt (Pa K3)<|Zd<|Za<|Zb<|Zr J (fun h56=>?_) (fun h56=>?_)
 ·refine Zl<|Za<|Zb<|Zn<|Zb<|Zf<|dt (Nj (ii:=1) K4 Zg Xn Yb J (by first | omega | (simp only [List.length_set];omega)))<|dt (Ms (ii:=1) (false,⟨#[]⟩) K3 Zg pW (by first | omega | (simp only [List.length_set];omega)))<|tt (Xi (i:=2) K2 zeroValue31 K2 hw) fun b _=>tt (Zt (i:=2) K6 Yb K2 ⟨Zc J,Zc J,trivial⟩ J hw trivial) fun _ _=>Zd<|Za<|Zb<|Zf<|dt (Qy K2 Db J zT9 K2)<|dt (Mc (i:=2) K3 iA9 J)<|dt (Dk J J uT9)<|dt (Fd K3)<|Zd<|Za<|Zr J (fun h57=>?_) (fun h57=>?_)
  ·exact Zb<|Zf<|Zo J<|Zd<|Za<|Zp<|Md<|Yp<|Yp<|Md<|Yp<|xU hsc results10 J J (by rw [smR_no (i:=i) (by omega) ‹_›])
  ·exact Zl<|Qh<|Za<|Zf<|dt (Ov K3)<|mv J<|Zd<|Xg (i+1) ⟨by first | omega | (dsimp only<;>omega),fun k hk2=>by rcases Nat.lt_succ_iff_lt_or_eq.1 hk2 with h9 | h9;exact hk k h9;subst h9;omega⟩ (by first | omega | (dsimp only<;>omega)) K4 K2
 ·exact Yt<|Zv<|Zv<|Pd<|Za<|Zb<|Zf<|mv J<|dt (Yc J J (i:=1) J Zg Xn)<|dt (Ev J J J)<|Zo J<|Zd<|Za<|Zp<|xU hsc results10 J J (by rw [Yea fun k hk2=>hk k (by omega)])
theorem Zk8(v:Value)(zs:List RZ):Od prog 20 #[v] [Pw 4 Ycr v zs] (.bool (zs.all enR)):=by
 refine Yg func20 J ntmps20 J K1 fun w0 sc hw hsc=>?_
 simp only [Zs,Zq]
 refine Mi (Hk (i:=1) J Zg) fun hlen=>Zb<|Zf<|Zo J<|Zd<|Za<|Zb<|Zb<|Zf<|mv J<|dt (Yc J J (i:=1) J Zg Zlz)<|mv J<|Zd<|Za<|Zn<|Px [(5,_),(6,_)] [(0,_),(1,_)] (fun(i:Nat)=>[(7,.int .i64 (i:Int))]) (fun(i:Nat)=>[]) (fun(i:Nat)=>(i≤zs.length)∧(∀k,k<i→enR (zs.getD k Q0)=true)) (fun(i:Nat)=>zs.length-i) 0 ⟨by first | omega | (dsimp only<;>omega),fun k hk=>absurd hk (Nat.not_lt_zero k)⟩ K3 K2 ?_
 rintro i ⟨hi,hk⟩
 simp only [CA,NA]
 refine Zb<|Zf<|dt (Pa K3)<|Zd<|Za<|Zb<|Zr J (fun h66=>?_) (fun h66=>?_)
 ·refine Zl<|Za<|Zb<|Zn<|Zb<|Zf<|dt (Nj (ii:=1) K4 Zg Zlz Ym J (by first | omega | (simp only [List.length_set];omega)))<|dt (Ms (ii:=1) ((false,⟨#[]⟩),(false,⟨#[]⟩)) K3 Zg pR (by first | omega | (simp only [List.length_set];omega)))<|tt (Xi (i:=2) K2 zeroValue41 K2 hw) fun bx _=>tt (Zt (i:=2) K6 Ym K2 ⟨Zc J,Zc J,Zc J,Zc J,trivial⟩ J hw trivial) fun _ _=>Zd<|Za<|Zb<|Zf<|dt (Qy K2 Hn J Yb K2)<|dt (Qy K2 Db J zT9 K2)<|dt (Mc (i:=2) K3 iA9 J)<|dt (Dk J J uT9)<|dt (Fd K3)<|mv J<|Pb (d:=16) J (fun s67=>?_) (fun s67=>?_)
  ·exact Yj K3<|Yj K3<|Yj K3<|Yj K3<|Yj K3<|dt (Om K3)<|Zd<|Za<|Of J<|Zb<|Zf<|Zo J<|Zd<|Za<|Zp<|Md<|Yp<|Yp<|Md<|Yp<|xU hsc results20 J J (by first | rw [Zpj (i:=i) (by omega) (enR_1 ‹_›)] | rw [Zpj (i:=i) (by omega) (enR_2 ‹_›)])
  ·refine Zx (Qy K2 Hn J Yb K2) K2<|Zx (Qy K2 Db J zT9 K2) K2<|Zx (Mc (i:=2) K3 iA9 J) K2<|Zx (Dk J J uT9) K2<|Zx (Fd K3) K2<|dt (Ql K3)<|Zd<|Za<|Zr J (fun h67=>?_) (fun h67=>?_)
   ·exact Zb<|Zf<|Zo J<|Zd<|Za<|Zp<|Md<|Yp<|Yp<|Md<|Yp<|xU hsc results20 J J (by first | rw [Zpj (i:=i) (by omega) (enR_1 ‹_›)] | rw [Zpj (i:=i) (by omega) (enR_2 ‹_›)])
   ·exact Zl<|Qh<|Za<|Zf<|dt (Ov K3)<|mv J<|Zd<|Xg (i+1) ⟨by first | omega | (dsimp only<;>omega),fun k hk2=>by rcases Nat.lt_succ_iff_lt_or_eq.1 hk2 with h9 | h9;exact hk k h9;subst h9;exact enR_3 ‹_› ‹_›⟩ (by first | omega | (dsimp only<;>omega)) K3 K2
 ·exact Yt<|Zv<|Zv<|Pd<|Za<|Zb<|Zf<|Zo J<|Zd<|Za<|Zp<|xU hsc results20 J J (by rw [Yfn fun k hk2=>hk k (by omega)])
theorem Zk7(v:Value)(r:List (Bool×ByteArray))(z1 z2:RZ)(hbad:(okP r && qOK z1 && qOK z2)=false):Od prog 22 #[v,.agg #[.bool z1.1.1,.string z1.1.2,.bool z1.2.1,.string z1.2.2],.agg #[.bool z2.1.1,.string z2.1.2,.bool z2.2.1,.string z2.2.2]] [Pw 2 Zax v r] (.int .i64 2):=by
 refine Yg func22 J ntmps22 J K1 fun w0 sc hw hsc=>?_
 simp only [Zs,Zq]
 refine Zb<|Zf<|tt (Xp (i:=2) K5 hw) fun bx _=>tt (Xp (i:=3) K5 hw) fun bx_2 _=>Zo J<|Zd<|Za<|Zb<|Zb<|Zf<|mv J<|tt (Zy (n:=3) (Zqy _ _) K4 call13 (Zi 1 K3 Ze) J hw) fun _ _=>dt (Xh J J)<|mv J<|Kx (d:=10) J (fun s76=>?_) (fun s76=>?_)
 ·exact Yj K3<|Yj K3<|Yj K3<|dt (Om K3)<|mv J<|Yj K3<|Yj K3<|Yj K3<|dt (Om K3)<|Zd<|Za<|Of J<|Zb<|Zf<|Zo J<|Zd<|Za<|Zp<|Yp<|xU hsc results22 J J J
 ·refine Zx (Pj (i:=2) K3 Xf Ym K4) K2<|Pp (Zy (n:=3) (Ir _ _ _ _) K4 call25 Ze J hw) K3 fun _ _=>Zx (Xh J J) K2<|dt (Ql K3)<|mv J<|Kx (d:=15) J (fun s76_2=>?_) (fun s76_2=>?_)
  ·exact Yj K3<|Yj K3<|Yj K3<|dt (Om K3)<|Zd<|Za<|Of J<|Zb<|Zf<|Zo J<|Zd<|Za<|Zp<|Yp<|xU hsc results22 J J J
  ·refine Zx (Pj (i:=3) K3 Xf Ym K4) K2<|Pp (Zy (n:=3) (Ir _ _ _ _) K4 call25 Ze J hw) K3 fun _ _=>Zx (Xh J J) K2<|dt (Ql K3)<|Zd<|Za<|Mx J (fun h76=>?_) (fun h76=>?_)
   ·exact Zb<|Zf<|Zo J<|Zd<|Za<|Zp<|Yp<|xU hsc results22 J J J
   ·refine Zl<|Za<|Zb<|Zb ?_
    exfalso;simp_all [qOK]
theorem Zmb(v:Value)(r:List (Bool×ByteArray))(a b:R2)(hok:okP r=true)(ha:E32 a)(hb:E32 b):Od prog 22 #[v,rX a.1 a.2,rX b.1 b.2] [Pw 2 Zax v r] (.int .i64 (if 0<Iz a b then 3 else 0)):=by
 refine Yg func22 J ntmps22 J K1 fun w0 sc hw hsc=>?_
 simp only [Zs,Zq]
 have ha1:=ha.b1
 have ha2:=ha.b2
 have hap:=ha.p
 have hb1:=hb.b1
 have hb2:=hb.b2
 have hbp:=hb.p
 refine Zb<|Zf<|tt (Xp (i:=2) K5 hw) fun bx _=>tt (Xp (i:=3) K5 hw) fun bx_2 _=>Zo J<|Zd<|Za<|Zb<|Zb<|Zf<|mv J<|tt (Zy (n:=3) (Zqy _ _) K4 call13 (Zi 1 K3 Ze) J hw) fun _ _=>dt (dF (Xh J J) (vB (by rw [hok];rfl)))<|mv J<|Zx (Pj (i:=2) K3 Xf Ym K4) K2<|Pp (Zy (n:=3) (Ir _ _ _ _) K4 call25 Ze J hw) K3 fun _ _=>Zx (dF (Xh J J) (vB (by rw [Zfd (show bl a.1.natAbs≤65536 by omega) (by omega) hap];rfl))) K2<|dt (Ql K3)<|mv J<|Zx (Pj (i:=3) K3 Xf Ym K4) K2<|Pp (Zy (n:=3) (Ir _ _ _ _) K4 call25 Ze J hw) K3 fun _ _=>Zx (dF (Xh J J) (vB (by rw [Zfd (show bl b.1.natAbs≤65536 by omega) (by omega) hbp];rfl))) K2<|dt (Ql K3)<|Zd<|Za<|Yk J<|Zl<|Za<|Zb<|Zb<|Qj (fun _=>False) [(0,0),(2,0),(1,1),(3,1),(4,1),(5,0)] ?_ ?_
 ·kernel_rfl
 refine Zh K2 (Yo (Pj (i:=2) K3 Xf Ym K4))<|Zh K2 (Yo (Pj (i:=3) K3 Xf Ym K4))<|Yq J (Zy (n:=4) (Yz _ _) K4 Kq Ze J hw) fun g _=>Yq J (Zy (n:=6) (Yz _ _) K4 Kq Ze J hw) fun g_2 _=>Yq J (Yf (n:=7) (Hs _ _ _ _ a.1 a.2 b.1 b.2) K5 call27 (Zi 4 K3 (Zi 5 K3 (Zi 6 K3 (Zi 7 K3 Ze)))) J hw) fun _ _=>Zh K2 (Yo (Fd K3))<|Pv<|Za<|Zr J (fun h79=>?_) (fun h79=>?_)
 ·exact Zb<|Zf<|Zo J<|Zd<|Za<|Zp<|Yp<|xU hsc results22 J J (by rw [if_pos (show 0<Iz a b from by assumption)])
 ·exact Zl<|Za<|Zb<|Zf<|Zo J<|Zd<|Za<|Zp<|xU hsc results22 J J (by rw [if_neg (show ¬0<Iz a b from by assumption)])
theorem k_od1(v:Value):Cal Tryz.prog 12 #[v] [Pw 2 wv v [0,0,-1,1]] true (G:=Value) (fun r=>True) (fun r=> .tuple #[r,.int .i64 0]) (fun r=>[Pw 2 wv r [-1,1]]):=by
 have h:=Zn2 v [0,0,-1,1] (Ar (by decide +kernel)) 
 rw [show Kb [0,0,-1,1]=[-1,1] by decide +kernel]at h
 exact h
theorem k_od2(v:Value):Cal Tryz.prog 12 #[v] [Pw 2 wv v [4,-4,1]] true (G:=Value) (fun r=>True) (fun r=> .tuple #[r,.int .i64 0]) (fun r=>[Pw 2 wv r [1]]):=by
 have h:=Zn2 v [4,-4,1] (Ar (by decide +kernel)) 
 rw [show Kb [4,-4,1]=[1] by decide +kernel]at h
 exact h
theorem k_od3(v:Value):Cal Tryz.prog 12 #[v] [Pw 2 wv v [-7]] true (G:=Value) (fun r=>True) (fun r=> .tuple #[r,.int .i64 0]) (fun r=>[Pw 2 wv r [1]]):=by
 have h:=Zn2 v [-7] (Ar (by decide +kernel)) 
 rw [show Kb [-7]=[1] by decide +kernel]at h
 exact h
theorem k_ng1(v:Value):Cal Tryz.prog 21 #[v,.agg #[.bool (decide ((0:Int)<0)),.string (Xk (0:Int).natAbs),.bool (decide ((1:Int)<0)),.string (Xk (1:Int).natAbs)],.agg #[.bool (decide ((2:Int)<0)),.string (Xk (2:Int).natAbs),.bool (decide ((1:Int)<0)),.string (Xk (1:Int).natAbs)]] [Pw 2 wv v [1,-2,1]] false (G:=Unit) (fun _=>True) (fun _=> .tuple #[.agg #[.bool false,.string ⟨#[]⟩,.bool false,.string ⟨#[]⟩],.bool false,.int .i64 0]) (fun _=>[]):=by
 have h:=Af v [1,-2,1] ((0:Int),(1:Int)) ((2:Int),(1:Int)) (Ar (by decide +kernel)) ⟨by decide,by decide +kernel,by decide +kernel⟩ ⟨by decide,by decide +kernel,by decide +kernel⟩ (by decide +kernel) (by decide +kernel)
 exact h
theorem k_ng2(v:Value):Cal Tryz.prog 21 #[v,.agg #[.bool (decide ((-1:Int)<0)),.string (Xk (-1:Int).natAbs),.bool (decide ((1:Int)<0)),.string (Xk (1:Int).natAbs)],.agg #[.bool (decide ((1:Int)<0)),.string (Xk (1:Int).natAbs),.bool (decide ((1:Int)<0)),.string (Xk (1:Int).natAbs)]] [Pw 2 wv v [-2,0,1]] false (G:=R2) (fun r=>Fnd [-2,0,1] (qv ((-1:Int),(1:Int))) (qv ((1:Int),(1:Int))) r) (fun r=> .tuple #[.agg #[.bool (decide (r.1<0)),.string (Xk r.1.natAbs),.bool (decide (r.2<0)),.string (Xk r.2.natAbs)],.bool true,.int .i64 0]) (fun r=>[]):=by
 have h:=Zcp v [-2,0,1] ((-1:Int),(1:Int)) ((1:Int),(1:Int)) (Ar (by decide +kernel)) ⟨by decide,by decide +kernel,by decide +kernel⟩ ⟨by decide,by decide +kernel,by decide +kernel⟩ (by decide +kernel) (by decide +kernel)
 exact h
theorem k_ng3(v:Value):Cal Tryz.prog 21 #[v,.agg #[.bool (decide ((2:Int)<0)),.string (Xk (2:Int).natAbs),.bool (decide ((1:Int)<0)),.string (Xk (1:Int).natAbs)],.agg #[.bool (decide ((3:Int)<0)),.string (Xk (3:Int).natAbs),.bool (decide ((1:Int)<0)),.string (Xk (1:Int).natAbs)]] [Pw 2 wv v [-2,0,1]] false (G:=Unit) (fun _=>True) (fun _=> .tuple #[.agg #[.bool false,.string ⟨#[]⟩,.bool false,.string ⟨#[]⟩],.bool false,.int .i64 0]) (fun _=>[]):=by
 have h:=Af v [-2,0,1] ((2:Int),(1:Int)) ((3:Int),(1:Int)) (Ar (by decide +kernel)) ⟨by decide,by decide +kernel,by decide +kernel⟩ ⟨by decide,by decide +kernel,by decide +kernel⟩ (by decide +kernel) (by decide +kernel)
 exact h
theorem k_fs1(v:Value):Cal Tryz.prog 31 #[v,.agg #[.bool (decide ((0:Int)<0)),.string (Xk (0:Int).natAbs),.bool (decide ((1:Int)<0)),.string (Xk (1:Int).natAbs)],.agg #[.bool (decide ((2:Int)<0)),.string (Xk (2:Int).natAbs),.bool (decide ((1:Int)<0)),.string (Xk (1:Int).natAbs)],.int .i64 1] [Pw 2 wv v [-1,1]] false (G:=Unit) (fun _=>True) (fun _=> .tuple #[.agg #[.bool (decide ((0:Int)<0)),.string (Xk (0:Int).natAbs),.bool (decide ((1:Int)<0)),.string (Xk (1:Int).natAbs),.bool (decide ((1:Int)<0)),.string (Xk (1:Int).natAbs),.bool (decide ((1:Int)<0)),.string (Xk (1:Int).natAbs)],.int .i64 0]) (fun _=>[]):=by
 have h:=Zic v [-1,1] ((0:Int),(1:Int)) ((2:Int),(1:Int)) (Ar (by decide +kernel)) ⟨by decide,by decide +kernel,by decide +kernel⟩ ⟨by decide,by decide +kernel,by decide +kernel⟩ 1 (by decide +kernel) (by decide +kernel)
 rw [show frs [-1,1] 1 (slow ((0:Int),(1:Int))) (slow ((2:Int),(1:Int)))=(((0:Int),(1:Int)),((1:Int),(1:Int))) by decide +kernel]at h
 exact h
theorem k_fs2(v:Value):Cal Tryz.prog 31 #[v,.agg #[.bool (decide ((0:Int)<0)),.string (Xk (0:Int).natAbs),.bool (decide ((1:Int)<0)),.string (Xk (1:Int).natAbs)],.agg #[.bool (decide ((4:Int)<0)),.string (Xk (4:Int).natAbs),.bool (decide ((1:Int)<0)),.string (Xk (1:Int).natAbs)],.int .i64 2] [Pw 2 wv v [1,-1]] false (G:=Unit) (fun _=>True) (fun _=> .tuple #[.agg #[.bool (decide ((1:Int)<0)),.string (Xk (1:Int).natAbs),.bool (decide ((1:Int)<0)),.string (Xk (1:Int).natAbs),.bool (decide ((2:Int)<0)),.string (Xk (2:Int).natAbs),.bool (decide ((1:Int)<0)),.string (Xk (1:Int).natAbs)],.int .i64 0]) (fun _=>[]):=by
 have h:=Zic v [1,-1] ((0:Int),(1:Int)) ((4:Int),(1:Int)) (Ar (by decide +kernel)) ⟨by decide,by decide +kernel,by decide +kernel⟩ ⟨by decide,by decide +kernel,by decide +kernel⟩ 2 (by decide +kernel) (by decide +kernel)
 rw [show frs [1,-1] 2 (slow ((0:Int),(1:Int))) (slow ((4:Int),(1:Int)))=(((1:Int),(1:Int)),((2:Int),(1:Int))) by decide +kernel]at h
 exact h
theorem k_fs3(v:Value):Cal Tryz.prog 31 #[v,.agg #[.bool (decide ((0:Int)<0)),.string (Xk (0:Int).natAbs),.bool (decide ((1:Int)<0)),.string (Xk (1:Int).natAbs)],.agg #[.bool (decide ((1:Int)<0)),.string (Xk (1:Int).natAbs),.bool (decide ((1:Int)<0)),.string (Xk (1:Int).natAbs)],.int .i64 3] [Pw 2 wv v [1,0,1]] false (G:=Unit) (fun _=>True) (fun _=> .tuple #[.agg #[.bool false,.string ⟨#[]⟩,.bool false,.string ⟨#[]⟩,.bool false,.string ⟨#[]⟩,.bool false,.string ⟨#[]⟩],.int .i64 9]) (fun _=>[]):=by
 have h:=Zl4 v [1,0,1] ((0:Int),(1:Int)) ((1:Int),(1:Int)) (Ar (by decide +kernel)) ⟨by decide,by decide +kernel,by decide +kernel⟩ ⟨by decide,by decide +kernel,by decide +kernel⟩ 3 (by decide) (by decide +kernel) (by decide +kernel)
 exact h
theorem k_pv(v:Value):Cal Tryz.prog 38 #[v,.agg #[.bool (decide ((0:Int)<0)),.string (Xk (0:Int).natAbs),.bool (decide ((1:Int)<0)),.string (Xk (1:Int).natAbs)],.agg #[.bool (decide ((2:Int)<0)),.string (Xk (2:Int).natAbs),.bool (decide ((1:Int)<0)),.string (Xk (1:Int).natAbs)]] [Pw 2 wv v [-1,1]] false (G:=Unit) (fun _=>True) (fun _=> .tuple #[.slice none 0 0,.int .i64 10]) (fun _=>[]):=by
 have h:=Zid v [-1,1] ((0:Int),(1:Int)) ((2:Int),(1:Int)) (Ar (by decide +kernel)) ⟨by decide,by decide +kernel,by decide +kernel⟩ ⟨by decide,by decide +kernel,by decide +kernel⟩ (by decide +kernel) (by decide +kernel)
 exact h
theorem k_ck1(v u:Value):Cal Tryz.prog 41 #[v,.agg #[.bool (decide ((0:Int)<0)),.string (Xk (0:Int).natAbs),.bool (decide ((1:Int)<0)),.string (Xk (1:Int).natAbs)],.agg #[.bool (decide ((2:Int)<0)),.string (Xk (2:Int).natAbs),.bool (decide ((1:Int)<0)),.string (Xk (1:Int).natAbs)],u] [Pw 2 wv v [1,-2,1],Pw 9 Fr u [((2:Int),((0:Int),(1:Int)),((2:Int),(1:Int)))]] false (G:=Unit) (fun _=>True) (fun _=> .int .i64 0) (fun _=>[]):=by
 have h:=Cs v u [1,-2,1] [((2:Int),((0:Int),(1:Int)),((2:Int),(1:Int)))] ((0:Int),(1:Int)) ((2:Int),(1:Int)) (Ar (by decide +kernel)) ⟨by decide,by decide +kernel,by decide +kernel⟩ ⟨by decide,by decide +kernel,by decide +kernel⟩ (Zun ⟨by decide,by decide +kernel,by decide +kernel⟩ ⟨by decide,by decide +kernel,by decide +kernel⟩) (by decide +kernel)
 rw [show Zg7 [1,-2,1] [((2:Int),((0:Int),(1:Int)),((2:Int),(1:Int)))] ((0:Int),(1:Int)) ((2:Int),(1:Int))=true by decide +kernel]at h
 exact h
theorem k_ck2(v u:Value):Cal Tryz.prog 41 #[v,.agg #[.bool (decide ((0:Int)<0)),.string (Xk (0:Int).natAbs),.bool (decide ((1:Int)<0)),.string (Xk (1:Int).natAbs)],.agg #[.bool (decide ((2:Int)<0)),.string (Xk (2:Int).natAbs),.bool (decide ((1:Int)<0)),.string (Xk (1:Int).natAbs)],u] [Pw 2 wv v [1,1],Pw 9 Fr u [((1:Int),((0:Int),(1:Int)),((2:Int),(1:Int)))]] false (G:=Unit) (fun _=>True) (fun _=> .int .i64 0) (fun _=>[]):=by
 have h:=Cs v u [1,1] [((1:Int),((0:Int),(1:Int)),((2:Int),(1:Int)))] ((0:Int),(1:Int)) ((2:Int),(1:Int)) (Ar (by decide +kernel)) ⟨by decide,by decide +kernel,by decide +kernel⟩ ⟨by decide,by decide +kernel,by decide +kernel⟩ (Zun ⟨by decide,by decide +kernel,by decide +kernel⟩ ⟨by decide,by decide +kernel,by decide +kernel⟩) (by decide +kernel)
 rw [show Zg7 [1,1] [((1:Int),((0:Int),(1:Int)),((2:Int),(1:Int)))] ((0:Int),(1:Int)) ((2:Int),(1:Int))=true by decide +kernel]at h
 exact h
theorem k_ck3(v u:Value):Cal Tryz.prog 41 #[v,.agg #[.bool (decide ((0:Int)<0)),.string (Xk (0:Int).natAbs),.bool (decide ((1:Int)<0)),.string (Xk (1:Int).natAbs)],.agg #[.bool (decide ((2:Int)<0)),.string (Xk (2:Int).natAbs),.bool (decide ((1:Int)<0)),.string (Xk (1:Int).natAbs)],u] [Pw 2 wv v [1,-2,1],Pw 9 Fr u [((1:Int),((0:Int),(1:Int)),((2:Int),(1:Int)))]] false (G:=Unit) (fun _=>True) (fun _=> .int .i64 10) (fun _=>[]):=by
 have h:=Cs v u [1,-2,1] [((1:Int),((0:Int),(1:Int)),((2:Int),(1:Int)))] ((0:Int),(1:Int)) ((2:Int),(1:Int)) (Ar (by decide +kernel)) ⟨by decide,by decide +kernel,by decide +kernel⟩ ⟨by decide,by decide +kernel,by decide +kernel⟩ (Zun ⟨by decide,by decide +kernel,by decide +kernel⟩ ⟨by decide,by decide +kernel,by decide +kernel⟩) (by decide +kernel)
 rw [show Zg7 [1,-2,1] [((1:Int),((0:Int),(1:Int)),((2:Int),(1:Int)))] ((0:Int),(1:Int)) ((2:Int),(1:Int))=false by decide +kernel]at h
 exact h
theorem k_ck4(v u:Value):Cal Tryz.prog 41 #[v,.agg #[.bool (decide ((0:Int)<0)),.string (Xk (0:Int).natAbs),.bool (decide ((1:Int)<0)),.string (Xk (1:Int).natAbs)],.agg #[.bool (decide ((2:Int)<0)),.string (Xk (2:Int).natAbs),.bool (decide ((1:Int)<0)),.string (Xk (1:Int).natAbs)],u] [Pw 2 wv v [1,1],Pw 9 Fr u [((1:Int),((0:Int),(1:Int)),((1:Int),(1:Int)))]] false (G:=Unit) (fun _=>True) (fun _=> .int .i64 10) (fun _=>[]):=by
 have h:=Cs v u [1,1] [((1:Int),((0:Int),(1:Int)),((1:Int),(1:Int)))] ((0:Int),(1:Int)) ((2:Int),(1:Int)) (Ar (by decide +kernel)) ⟨by decide,by decide +kernel,by decide +kernel⟩ ⟨by decide,by decide +kernel,by decide +kernel⟩ (Zun ⟨by decide,by decide +kernel,by decide +kernel⟩ ⟨by decide,by decide +kernel,by decide +kernel⟩) (by decide +kernel)
 rw [show Zg7 [1,1] [((1:Int),((0:Int),(1:Int)),((1:Int),(1:Int)))] ((0:Int),(1:Int)) ((2:Int),(1:Int))=false by decide +kernel]at h
 exact h
theorem k_fl1(r:Int)(h:¬Ey [0,-1,1] r∧Ey [0,-1,1] (r+1)∧bl r.natAbs≤60):r=-1:=Ztw (m:=-1) h (Ar (by decide +kernel)) (Ar (by decide +kernel)) (by decide +kernel) (by decide +kernel)
theorem k_fc1(v:Value):Cal Tryz.prog 33 #[v] [Pw 2 wv v [0,-1,1]] false (G:=Int) (fun r=>¬Ey [0,-1,1] r∧Ey [0,-1,1] (r+1)∧bl r.natAbs≤60) (fun r=> .tuple #[wv r,.int .i64 0]) (fun r=>[]):=by
 have h:=Zj7 v [0,-1,1] (Ar (by decide +kernel)) (Zs4 (by decide +kernel))
 exact h
theorem k_fl2(r:Int)(h:¬Ey [7] r∧Ey [7] (r+1)∧bl r.natAbs≤60):r=7:=Ztw (m:=7) h (Ar (by decide +kernel)) (Ar (by decide +kernel)) (by decide +kernel) (by decide +kernel)
theorem k_fc2(v:Value):Cal Tryz.prog 33 #[v] [Pw 2 wv v [7]] false (G:=Int) (fun r=>¬Ey [7] r∧Ey [7] (r+1)∧bl r.natAbs≤60) (fun r=> .tuple #[wv r,.int .i64 0]) (fun r=>[]):=by
 have h:=Zj7 v [7] (Ar (by decide +kernel)) (Zs4 (by decide +kernel))
 exact h
theorem k_fl3(r:Int)(h:¬Ey [3,-1] r∧Ey [3,-1] (r+1)∧bl r.natAbs≤60):r=2:=Ztw (m:=2) h (Ar (by decide +kernel)) (Ar (by decide +kernel)) (by decide +kernel) (by decide +kernel)
theorem k_fc3(v:Value):Cal Tryz.prog 33 #[v] [Pw 2 wv v [3,-1]] false (G:=Int) (fun r=>¬Ey [3,-1] r∧Ey [3,-1] (r+1)∧bl r.natAbs≤60) (fun r=> .tuple #[wv r,.int .i64 0]) (fun r=>[]):=by
 have h:=Zj7 v [3,-1] (Ar (by decide +kernel)) (Zs4 (by decide +kernel))
 exact h
theorem Zbg(v:Value)(l xs:List Int)(h1:(l.all fun x=>decide (-1000000≤x) && decide (x≤1000000))=true)(hx:tzl l=xs)(h2:l.length≤1000:=by decide):Cal Tryz.prog 44 #[v] [Pw 1 Eh v l] true (G:=Value) (fun r=>True) (fun r=>r) (fun r=>[Pw 2 wv r xs]):=by
 subst hx;exact law4_p v l (Zwe h1) h2
theorem Ce:Od prog 11 #[] [] (.bool true):=by
 refine Yg func11 J ntmps11 J trivial fun w0 sc hw hsc=>?_
 simp only [Zs,Zq]
 refine Yl (Nc 999 2 31 wv)<|Yl (Qw 999 J J pV)<|Zb<|Zf<|Zo J<|Zd<|Za<|Zb<|Zf<|tt (Ic (i:=1) (ivs:=[(0,_),(1,_),(2,_),(3,_)]) (enc:=Eh) ([0,0,-1,1]:List Int) J J K8 Ol ti3 J J J J J pZ.cells J J hw) fun v _=>Qx (Qw 1 J J pZ)<|tt (Zy (n:=2) (Zbg _ [0,0,-1,1] [0,0,-1,1] (by decide +kernel) (by decide +kernel)) K4 Zbp (Zi 1 K3 Ze) J hw) fun v_2 _=>tt (Zy (n:=3) (k_od1 _) K4 call12 (Zi 2 K3 Ze) J hw) fun _ _=>mv J<|dt (Xa K3)<|dt (Xa K3)<|Zo J<|Zo J<|Zd<|Za<|Zb<|Zf<|tt (Ic (i:=4) (ivs:=[(0,_),(1,_),(2,_)]) (enc:=Eh) ([4,-4,1]:List Int) J J K6 Ol ti3 J J J J J pZ.cells J J hw) fun v_3 _=>Qx (Qw 4 J J pZ)<|tt (Zy (n:=5) (Zbg _ [4,-4,1] [4,-4,1] (by decide +kernel) (by decide +kernel)) K4 Zbp (Zi 4 K3 Ze) J hw) fun v_4 _=>tt (Zy (n:=6) (k_od2 _) K4 call12 (Zi 5 K3 Ze) J hw) fun _ _=>mv J<|dt (Xa K3)<|dt (Xa K3)<|Zo J<|Zo J<|Zd<|Za<|Zb<|Zf<|tt (Kp (i:=7) (ivs:=[(0,_)]) (enc:=Eh) ([-7]:List Int) K4 Ol ti3 K5 pZ.cells K2 hw) (fun v_5 _=>?_)
 refine Qx (Qw 7 J J pZ)<|tt (Zy (n:=8) (Zbg _ [-7] [-7] (by decide +kernel) (by decide +kernel)) K4 Zbp (Zi 7 K3 Ze) J hw) fun v_6 _=>tt (Zy (n:=9) (k_od3 _) K4 call12 (Zi 8 K3 Ze) J hw) fun _ _=>mv J<|dt (Xa K3)<|dt (Xa K3)<|Zo J<|Zo J<|Zd<|Za<|Zb<|Zb<|Zf<|mv J<|tt (Ic (i:=10) (ivs:=[(0,_),(1,_)]) (enc:=Eh) ([-1,1]:List Int) J J K4 Ol ti3 J J J J J pZ.cells J J hw) fun v_7 _=>Qx (Qw 10 J J pZ)<|tt (Zy (n:=11) (Zbg _ [-1,1] [-1,1] (by decide +kernel) (by decide +kernel)) K4 Zbp (Zi 10 K3 Ze) J hw) fun v_8 _=>tt (Yf (n:=11) (Zhu _ _ _ _) K5 call17 (Zi 3 K3 (Zi 11 K3 Ze)) J hw) fun _ _=>dt (dF (Zev J J) (vB (by decide)))<|mv J<|Zx (Ya K2) K2<|Zx (dF (Pk K3) (vB (by decide))) K2<|dt (Ql K3)<|mv J<|Zx (Ya K2) K2<|Pp (Kp (i:=12) (ivs:=[(0,_)]) (enc:=Eh) ([1]:List Int) K4 Ol ti3 K5 pZ.cells K2 hw) K3 fun v_9 _=>Qx (Qw 12 J J pZ)<|Pp (Zy (n:=13) (Zbg _ [1] [1] (by decide +kernel) (by decide +kernel)) K4 Zbp (Zi 12 K3 Ze) J hw) K3 (fun v_10 _=>?_)
 refine Pp (Yf (n:=13) (Zhu _ _ _ _) K5 call17 (Zi 6 K3 (Zi 13 K3 Ze)) J hw) K3 fun _ _=>Zx (dF (Zev J J) (vB (by decide))) K2<|dt (Ql K3)<|mv J<|Zx (Ya K2) K2<|Zx (dF (Pk K3) (vB (by decide))) K2<|dt (Ql K3)<|mv J<|Zx (Ya K2) K2<|Pp (Kp (i:=14) (ivs:=[(0,_)]) (enc:=Eh) ([1]:List Int) K4 Ol ti3 K5 pZ.cells K2 hw) K3 fun v_11 _=>Qx (Qw 14 J J pZ)<|Pp (Zy (n:=15) (Zbg _ [1] [1] (by decide +kernel) (by decide +kernel)) K4 Zbp (Zi 14 K3 Ze) J hw) K3 fun v_12 _=>Pp (Yf (n:=15) (Zhu _ _ _ _) K5 call17 (Zi 9 K3 (Zi 15 K3 Ze)) J hw) K3 fun _ _=>Zx (dF (Zev J J) (vB (by decide))) K2<|dt (Ql K3)<|mv J<|Zx (Ya K2) K2<|Zx (dF (Pk K3) (vB (by decide))) K2<|dt (Ql K3)<|Zd<|Za<|Yk J<|Zl<|Za<|Zb<|Zf<|tt (Ic (i:=16) (ivs:=[(0,_),(1,_),(2,_)]) (enc:=Eh) ([1,-2,1]:List Int) J J K6 Ol ti3 J J J J J pZ.cells J J hw) fun v_13 _=>Qx (Qw 16 J J pZ)<|tt (Zy (n:=17) (Zbg _ [1,-2,1] [1,-2,1] (by decide +kernel) (by decide +kernel)) K4 Zbp (Zi 16 K3 Ze) J hw) (fun v_14 _=>?_)
 refine tt (Yf (n:=17) (Lz _ _ ⟨by decide,by decide⟩ ⟨by decide,by decide⟩) K5 Bb Ze J hw) fun _ _=>tt (Yf (n:=17) (Lz _ _ ⟨by decide,by decide⟩ ⟨by decide,by decide⟩) K5 Bb Ze J hw) fun _ _=>tt (Xv (n:=17) (k_ng1 _) J J J K3 call21 (Zi 17 K3 Ze) J hw) fun _ _=>mv J<|dt (Xa K3)<|dt (Xa K3)<|dt (Xa K3)<|tt (Xi (i:=18) K2 zeroValue41 K2 hw) fun bx _=>tt (Zt (i:=18) K6 Ym K2 ⟨Zc J,Zc J,Zc J,Zc J,trivial⟩ J hw trivial) fun _ _=>Zo J<|Zo J<|Zd<|Za<|Zb<|Zf<|tt (Ic (i:=19) (ivs:=[(0,_),(1,_),(2,_)]) (enc:=Eh) ([-2,0,1]:List Int) J J K6 Ol ti3 J J J J J pZ.cells J J hw) fun v_15 _=>Qx (Qw 19 J J pZ)<|tt (Zy (n:=20) (Zbg _ [-2,0,1] [-2,0,1] (by decide +kernel) (by decide +kernel)) K4 Zbp (Zi 19 K3 Ze) J hw) fun v_16 _=>tt (Yf (n:=20) (Lz _ _ ⟨by decide,by decide⟩ ⟨by decide,by decide⟩) K5 Bb Ze J hw) fun _ _=>tt (Yf (n:=20) (Lz _ _ ⟨by decide,by decide⟩ ⟨by decide,by decide⟩) K5 Bb Ze J hw) (fun _ _=>?_)
 refine tt (Xv (n:=20) (k_ng2 _) J J J K3 call21 (Zi 20 K3 Ze) J hw) fun _ _=>mv J<|dt (Xa K3)<|dt (Xa K3)<|dt (Xa K3)<|tt (Xi (i:=21) K2 zeroValue41 K2 hw) fun bx_2 _=>tt (Zt (i:=21) K6 Ym K2 ⟨Zc J,Zc J,Zc J,Zc J,trivial⟩ J hw trivial) fun _ _=>Zo J<|Zo J<|Zd<|Za<|Zb<|Zf<|tt (Ic (i:=22) (ivs:=[(0,_),(1,_),(2,_)]) (enc:=Eh) ([-2,0,1]:List Int) J J K6 Ol ti3 J J J J J pZ.cells J J hw) fun v_17 _=>Qx (Qw 22 J J pZ)<|tt (Zy (n:=23) (Zbg _ [-2,0,1] [-2,0,1] (by decide +kernel) (by decide +kernel)) K4 Zbp (Zi 22 K3 Ze) J hw) fun v_18 _=>tt (Yf (n:=23) (Lz _ _ ⟨by decide,by decide⟩ ⟨by decide,by decide⟩) K5 Bb Ze J hw) fun _ _=>tt (Yf (n:=23) (Lz _ _ ⟨by decide,by decide⟩ ⟨by decide,by decide⟩) K5 Bb Ze J hw) fun _ _=>tt (Xv (n:=23) (k_ng3 _) J J J K3 call21 (Zi 23 K3 Ze) J hw) fun _ _=>mv J<|dt (Xa K3)<|dt (Xa K3)<|dt (Xa K3)<|tt (Xi (i:=24) K2 zeroValue41 K2 hw) (fun bx_3 _=>?_)
 refine tt (Zt (i:=24) K6 Ym K2 ⟨Zc J,Zc J,Zc J,Zc J,trivial⟩ J hw trivial) fun _ _=>Zo J<|Zo J<|Zd<|Za<|Zb<|Zb<|Zf<|mv J<|mv J<|Zx (Ya K2) K2<|Zx (dF (Pk K3) (vB (by decide))) K2<|dt (Ql K3)<|mv J<|Zx (Ya K2) K2<|Zx (dF (Xh J J) (vB (by decide))) K2<|dt (Ql K3)<|mv J<|Zx (Ya K2) K2<|Zx (dF (Pk K3) (vB (by decide))) K2<|dt (Ql K3)<|mv J<|Zx (Ya K2) K2<|dt (Ql K3)<|mv J<|Zx (Ya K2) K2<|Zx (dF (Pk K3) (vB (by decide))) K2<|dt (Ql K3)<|Zd<|Za<|Yk J<|Zl<|Za<|Zb<|Zf<|tt (Ic (i:=25) (ivs:=[(0,_),(1,_)]) (enc:=Eh) ([-1,1]:List Int) J J K4 Ol ti3 J J J J J pZ.cells J J hw) fun v_19 _=>Qx (Qw 25 J J pZ)<|tt (Zy (n:=26) (Zbg _ [-1,1] [-1,1] (by decide +kernel) (by decide +kernel)) K4 Zbp (Zi 25 K3 Ze) J hw) fun v_20 _=>tt (Yf (n:=26) (Lz _ _ ⟨by decide,by decide⟩ ⟨by decide,by decide⟩) K5 Bb Ze J hw) fun _ _=>tt (Yf (n:=26) (Lz _ _ ⟨by decide,by decide⟩ ⟨by decide,by decide⟩) K5 Bb Ze J hw) (fun _ _=>?_)
 refine tt (Xv (n:=26) (k_fs1 _) J J J K4 call31 (Zi 26 K3 Ze) J hw) fun _ _=>mv J<|dt (Xa K3)<|dt (Xa K3)<|tt (Xi (i:=27) K2 zeroValue62 K2 hw) fun bx_4 _=>tt (Zt (i:=27) K6 Fe K2 ⟨Zc J,Zc J,Zc J,Zc J,Zc J,Zc J,Zc J,Zc J,trivial⟩ J hw trivial) fun _ _=>Zo J<|Zd<|Za<|Zb<|Zf<|tt (Ic (i:=28) (ivs:=[(0,_),(1,_)]) (enc:=Eh) ([1,-1]:List Int) J J K4 Ol ti3 J J J J J pZ.cells J J hw) fun v_21 _=>Qx (Qw 28 J J pZ)<|tt (Zy (n:=29) (Zbg _ [1,-1] [1,-1] (by decide +kernel) (by decide +kernel)) K4 Zbp (Zi 28 K3 Ze) J hw) fun v_22 _=>tt (Yf (n:=29) (Lz _ _ ⟨by decide,by decide⟩ ⟨by decide,by decide⟩) K5 Bb Ze J hw) fun _ _=>tt (Yf (n:=29) (Lz _ _ ⟨by decide,by decide⟩ ⟨by decide,by decide⟩) K5 Bb Ze J hw) fun _ _=>tt (Xv (n:=29) (k_fs2 _) J J J K4 call31 (Zi 29 K3 Ze) J hw) fun _ _=>mv J<|dt (Xa K3)<|dt (Xa K3)<|tt (Xi (i:=30) K2 zeroValue62 K2 hw) (fun bx_5 _=>?_)
 refine tt (Zt (i:=30) K6 Fe K2 ⟨Zc J,Zc J,Zc J,Zc J,Zc J,Zc J,Zc J,Zc J,trivial⟩ J hw trivial) fun _ _=>Zo J<|Zd<|Za<|Zb<|Zf<|tt (Ic (i:=31) (ivs:=[(0,_),(1,_),(2,_)]) (enc:=Eh) ([1,0,1]:List Int) J J K6 Ol ti3 J J J J J pZ.cells J J hw) fun v_23 _=>Qx (Qw 31 J J pZ)<|tt (Zy (n:=32) (Zbg _ [1,0,1] [1,0,1] (by decide +kernel) (by decide +kernel)) K4 Zbp (Zi 31 K3 Ze) J hw) fun v_24 _=>tt (Yf (n:=32) (Lz _ _ ⟨by decide,by decide⟩ ⟨by decide,by decide⟩) K5 Bb Ze J hw) fun _ _=>tt (Yf (n:=32) (Lz _ _ ⟨by decide,by decide⟩ ⟨by decide,by decide⟩) K5 Bb Ze J hw) fun _ _=>tt (Xv (n:=32) (k_fs3 _) J J J K4 call31 (Zi 32 K3 Ze) J hw) fun _ _=>mv J<|dt (Xa K3)<|dt (Xa K3)<|Zo J<|Zd<|Za<|Zb<|Zb<|Qj (fun _=>False) [(0,0),(1,1),(2,0),(3,0),(4,0),(5,0),(6,0),(7,0),(8,0),(9,1),(10,0),(11,0),(12,0),(13,0),(14,0),(15,0),(16,0),(17,0),(18,0),(19,0)] ?_ ?_
 ·kernel_rfl
 refine Zh K2 (Yo (Zew (i:=27) J J J Zct Fe J J J J J J J J))<|Yq J (Yf (n:=32) (Zet _ _ ⟨by decide,by decide⟩ ⟨by decide,by decide⟩) K5 call46 Ze J hw) fun _ _=>Zh K2 (Yo (dF (Znl J J J eg62 (fun w=>neq62 w _ _ _ _ _ _ _ _ _ _ _ _ _ _ _ _)) (vB (by simp [Zbj]))))<|Zh K2 (Yo (Ya K2))<|Gf (Yo (Ya K2)) K5<|Gf (Yo (dF (Pk K3) (vB (by decide)))) K5<|Zh K2 (Yo (Ql K3))<|Zh K2 (Yo (Ya K2))<|Gf (Yo (Zew (i:=30) J J J Zct Fe J J J J J J J J)) K5<|Zx4 J J J J J (Yf (n:=32) (Zet _ _ ⟨by decide,by decide⟩ ⟨by decide,by decide⟩) K5 call46 Ze J hw) fun _ _=>Gf (Yo (dF (Znl J J J eg62 (fun w=>neq62 w _ _ _ _ _ _ _ _ _ _ _ _ _ _ _ _)) (vB (by simp [Zbj])))) K5<|Zh K2 (Yo (Ql K3))<|Zh K2 (Yo (Ya K2))<|Gf (Yo (Ya K2)) K5<|Gf (Yo (dF (Pk K3) (vB (by decide)))) K5<|Zh K2 (Yo (Ql K3))<|Zh K2 (Yo (Ya K2))<|Gf (Yo (Ya K2)) K5<|Gf (Yo (dF (Pk K3) (vB (by decide)))) K5<|Zh K2 (Yo (Ql K3))<|Pv<|Za<|Yk J<|Zl<|Za<|Zb<|Zf ?_
 refine tt (Ic (i:=33) (ivs:=[(0,_),(1,_),(2,_)]) (enc:=Eh) ([0,-1,1]:List Int) J J K6 Ol ti3 J J J J J pZ.cells J J hw) fun v_25 _=>Qx (Qw 33 J J pZ)<|tt (Zy (n:=34) (Zbg _ [0,-1,1] [0,-1,1] (by decide +kernel) (by decide +kernel)) K4 Zbp (Zi 33 K3 Ze) J hw) fun v_26 _=>tt (Zy (n:=34) (k_fc1 _) K4 call33 (Zi 34 K3 Ze) J hw) fun k1 hk1=>mv J<|dt (Xa K3)<|dt (Xa K3)<|tt (Xi (i:=35) K2 zeroValue31 K2 hw) fun bx_6 _=>tt (Zt (i:=35) K6 Yb K2 ⟨Zc J,Zc J,trivial⟩ J hw trivial) fun _ _=>Zo J<|Zd<|Za<|Zb<|Zf<|tt (Kp (i:=36) (ivs:=[(0,_)]) (enc:=Eh) ([7]:List Int) K4 Ol ti3 K5 pZ.cells K2 hw) fun v_27 _=>Qx (Qw 36 J J pZ)<|tt (Zy (n:=37) (Zbg _ [7] [7] (by decide +kernel) (by decide +kernel)) K4 Zbp (Zi 36 K3 Ze) J hw) fun v_28 _=>tt (Zy (n:=37) (k_fc2 _) K4 call33 (Zi 37 K3 Ze) J hw) fun k2 hk2=>mv J<|dt (Xa K3)<|dt (Xa K3)<|tt (Xi (i:=38) K2 zeroValue31 K2 hw) fun bx_7 _=>tt (Zt (i:=38) K6 Yb K2 ⟨Zc J,Zc J,trivial⟩ J hw trivial) fun _ _=>Zo J<|Zd<|Za<|Zb<|Zf ?_
 refine tt (Ic (i:=39) (ivs:=[(0,_),(1,_)]) (enc:=Eh) ([3,-1]:List Int) J J K4 Ol ti3 J J J J J pZ.cells J J hw) fun v_29 _=>Qx (Qw 39 J J pZ)<|tt (Zy (n:=40) (Zbg _ [3,-1] [3,-1] (by decide +kernel) (by decide +kernel)) K4 Zbp (Zi 39 K3 Ze) J hw) fun v_30 _=>tt (Zy (n:=40) (k_fc3 _) K4 call33 (Zi 40 K3 Ze) J hw) fun k3 hk3=>mv J<|dt (Xa K3)<|dt (Xa K3)<|tt (Xi (i:=41) K2 zeroValue31 K2 hw) fun bx_8 _=>tt (Zt (i:=41) K6 Yb K2 ⟨Zc J,Zc J,trivial⟩ J hw trivial) fun _ _=>Zo J<|Zd<|Za<|Zb<|Zb<|Qj (fun _=>False) [(0,0),(1,1),(2,0),(3,0),(4,0),(5,0),(6,0),(7,0),(8,0),(9,1),(10,0),(11,0),(12,0),(13,0),(14,0),(15,0),(16,0),(17,0),(18,1),(19,0),(20,0),(21,0),(22,0),(23,0),(24,0)] ?_ ?_
 ·kernel_rfl
 refine Zh K2 (Yo (Qm (i:=35) K3 Xl Yb K2))<|Yq J (Zy (n:=41) (Zk6 _ ⟨by decide,by decide⟩) K4 call47 Ze J hw) fun _ _=>Zh K2 (Yo (dF (Znl J J J Yfo (fun w=>Zv1 w _ _ _ _)) (vB (by obtain rfl:=k_fl1 _ hk1;simp [Zbj]))))<|Zh K2 (Yo (Ya K2))<|Gf (Yo (Ya K2)) K5<|Gf (Yo (dF (Pk K3) (vB (by decide)))) K5<|Zh K2 (Yo (Ql K3))<|Zh K2 (Yo (Ya K2))<|Gf (Yo (Qm (i:=38) K3 Xl Yb K2)) K5<|Zx4 J J J J J (Zy (n:=41) (Zk6 _ ⟨by decide,by decide⟩) K4 call47 Ze J hw) fun _ _=>Gf (Yo (dF (Znl J J J Yfo (fun w=>Zv1 w _ _ _ _)) (vB (by obtain rfl:=k_fl2 _ hk2;simp [Zbj])))) K5<|Zh K2 (Yo (Ql K3))<|Zh K2 (Yo (Ya K2))<|Gf (Yo (Ya K2)) K5<|Gf (Yo (dF (Pk K3) (vB (by decide)))) K5<|Zh K2 (Yo (Ql K3))<|Zh K2 (Yo (Ya K2))<|Gf (Yo (Qm (i:=41) K3 Xl Yb K2)) K5<|Zx4 J J J J J (Zy (n:=41) (Zk6 _ ⟨by decide,by decide⟩) K4 call47 Ze J hw) fun _ _=>Gf (Yo (dF (Znl J J J Yfo (fun w=>Zv1 w _ _ _ _)) (vB (by obtain rfl:=k_fl3 _ hk3;simp [Zbj])))) K5<|Zh K2 (Yo (Ql K3))<|Zh K2 (Yo (Ya K2))<|Gf (Yo (Ya K2)) K5 ?_
 refine Gf (Yo (dF (Pk K3) (vB (by decide)))) K5<|Zh K2 (Yo (Ql K3))<|Pv<|Za<|Yk J<|Zl<|Za<|Zb<|Zf<|tt (Ic (i:=42) (ivs:=[(0,_),(1,_)]) (enc:=Eh) ([-1,1]:List Int) J J K4 Ol ti3 J J J J J pZ.cells J J hw) fun v_31 _=>Qx (Qw 42 J J pZ)<|tt (Zy (n:=43) (Zbg _ [-1,1] [-1,1] (by decide +kernel) (by decide +kernel)) K4 Zbp (Zi 42 K3 Ze) J hw) fun v_32 _=>tt (Yf (n:=43) (Lz _ _ ⟨by decide,by decide⟩ ⟨by decide,by decide⟩) K5 Bb Ze J hw) fun _ _=>tt (Yf (n:=43) (Lz _ _ ⟨by decide,by decide⟩ ⟨by decide,by decide⟩) K5 Bb Ze J hw) fun _ _=>tt (Xv (n:=43) (k_pv _) J J J K3 call38 (Zi 43 K3 Ze) J hw) fun _ _=>mv J<|dt (Xa K3)<|dt (Xa K3)<|Zo J<|Zd<|Za<|Zb<|Zf<|mv J<|dt (dT (Hf K3) (vB (by decide)))<|mv J<|Pp (Ic (i:=44) (ivs:=[(0,_),(1,_),(2,_)]) (enc:=Eh) ([1,-2,1]:List Int) J J K6 Ol ti3 J J J J J pZ.cells J J hw) K3 fun v_33 _=>Qx (Qw 44 J J pZ)<|Pp (Zy (n:=45) (Zbg _ [1,-2,1] [1,-2,1] (by decide +kernel) (by decide +kernel)) K4 Zbp (Zi 44 K3 Ze) J hw) K3 (fun v_34 _=>?_)
 refine Pp (Yf (n:=45) (Lz _ _ ⟨by decide,by decide⟩ ⟨by decide,by decide⟩) K5 Bb Ze J hw) K3 fun _ _=>Pp (Yf (n:=45) (Lz _ _ ⟨by decide,by decide⟩ ⟨by decide,by decide⟩) K5 Bb Ze J hw) K3 fun _ _=>Pp (Xv (n:=46) (Zec _ _ _ ⟨by decide,by decide⟩ ⟨by decide,by decide⟩) J J J K3 call48 Ze J hw) K3 fun v_35 _=>Pp (Xv (n:=46) (k_ck1 _ _) J J J K4 call41 (Zi 45 K3 (Zi 46 K3 Ze)) J hw) K3 fun _ _=>Zx (dT (Hf K3) (vB (by decide))) K2<|dt (Om K3)<|mv J<|Pp (Ic (i:=47) (ivs:=[(0,_),(1,_)]) (enc:=Eh) ([1,1]:List Int) J J K4 Ol ti3 J J J J J pZ.cells J J hw) K3 fun v_36 _=>Qx (Qw 47 J J pZ)<|Pp (Zy (n:=48) (Zbg _ [1,1] [1,1] (by decide +kernel) (by decide +kernel)) K4 Zbp (Zi 47 K3 Ze) J hw) K3 fun v_37 _=>Pp (Yf (n:=48) (Lz _ _ ⟨by decide,by decide⟩ ⟨by decide,by decide⟩) K5 Bb Ze J hw) K3 fun _ _=>Pp (Yf (n:=48) (Lz _ _ ⟨by decide,by decide⟩ ⟨by decide,by decide⟩) K5 Bb Ze J hw) K3 (fun _ _=>?_)
 refine Pp (Xv (n:=49) (Zec _ _ _ ⟨by decide,by decide⟩ ⟨by decide,by decide⟩) J J J K3 call48 Ze J hw) K3 fun v_38 _=>Pp (Xv (n:=49) (k_ck2 _ _) J J J K4 call41 (Zi 48 K3 (Zi 49 K3 Ze)) J hw) K3 fun _ _=>Zx (dT (Hf K3) (vB (by decide))) K2<|dt (Om K3)<|mv J<|Pp (Ic (i:=50) (ivs:=[(0,_),(1,_),(2,_)]) (enc:=Eh) ([1,-2,1]:List Int) J J K6 Ol ti3 J J J J J pZ.cells J J hw) K3 fun v_39 _=>Qx (Qw 50 J J pZ)<|Pp (Zy (n:=51) (Zbg _ [1,-2,1] [1,-2,1] (by decide +kernel) (by decide +kernel)) K4 Zbp (Zi 50 K3 Ze) J hw) K3 fun v_40 _=>Pp (Yf (n:=51) (Lz _ _ ⟨by decide,by decide⟩ ⟨by decide,by decide⟩) K5 Bb Ze J hw) K3 fun _ _=>Pp (Yf (n:=51) (Lz _ _ ⟨by decide,by decide⟩ ⟨by decide,by decide⟩) K5 Bb Ze J hw) K3 fun _ _=>Pp (Xv (n:=52) (Zec _ _ _ ⟨by decide,by decide⟩ ⟨by decide,by decide⟩) J J J K3 call48 Ze J hw) K3 fun v_41 _=>Pp (Xv (n:=52) (k_ck3 _ _) J J J K4 call41 (Zi 51 K3 (Zi 52 K3 Ze)) J hw) K3 fun _ _=>Zx (dT (Hf K3) (vB (by decide))) K2<|dt (Om K3)<|mv J ?_
 exact Pp (Ic (i:=53) (ivs:=[(0,_),(1,_)]) (enc:=Eh) ([1,1]:List Int) J J K4 Ol ti3 J J J J J pZ.cells J J hw) K3 fun v_42 _=>Qx (Qw 53 J J pZ)<|Pp (Zy (n:=54) (Zbg _ [1,1] [1,1] (by decide +kernel) (by decide +kernel)) K4 Zbp (Zi 53 K3 Ze) J hw) K3 fun v_43 _=>Pp (Yf (n:=54) (Lz _ _ ⟨by decide,by decide⟩ ⟨by decide,by decide⟩) K5 Bb Ze J hw) K3 fun _ _=>Pp (Yf (n:=54) (Lz _ _ ⟨by decide,by decide⟩ ⟨by decide,by decide⟩) K5 Bb Ze J hw) K3 fun _ _=>Pp (Xv (n:=55) (Zec _ _ _ ⟨by decide,by decide⟩ ⟨by decide,by decide⟩) J J J K3 call48 Ze J hw) K3 fun v_44 _=>Pp (Xv (n:=55) (k_ck4 _ _) J J J K4 call41 (Zi 54 K3 (Zi 55 K3 Ze)) J hw) K3 fun _ _=>Zx (dT (Hf K3) (vB (by decide))) K2<|dt (Om K3)<|Zo J<|Zd<|Za<|Zp<|xU hsc results11 J J J
theorem Ydb{xs:List Int}(hx:Tr xs)(h0:xs≠[])(hs:Sz 260 xs)(hl:xs.length≤8):Az 13 xs∧Sz 390 (sqf 13 xs)∧(sqf 13 xs).length≤8:=by
 obtain⟨h1,h2,h3,h4⟩:=chF 13 hx h0 hs (by omega) (by omega) (by omega)
 exact⟨h1,h2,by omega⟩
theorem Zmq{xs:List Int}(hv:Vp xs)(h0:xs≠[])(hs:Sz 260 xs)(hl:xs.length≤8) :
  Vp (Qa xs)∧Vp (Xy (Qa xs))∧eok 13 (Qa xs) (Xy (Qa xs))∧Kk (Yx (eu 13 (Qa xs) (Xy (Qa xs))))=Mp 13 (Qa xs) (Xy (Qa xs))∧
  Vp (Mp 13 (Qa xs) (Xy (Qa xs)))∧Mp 13 (Qa xs) (Xy (Qa xs))≠[]∧pdv (Qa xs) (Mp 13 (Qa xs) (Xy (Qa xs)))∧
  Pf (Qa xs)≤260∧Pf (Mp 13 (Qa xs) (Xy (Qa xs)))≤390∧(Qa xs).length≤8∧Vp (sqf 13 xs)∧sqf 13 xs≠[]∧Qa (sqf 13 xs)=sqf 13 xs∧(Mp 13 (Qa xs) (Xy (Qa xs))).length≤8:=by
 have hn:=Zn0 hs
 have hln:=Nf hv.tr
 have ht:Tr (Qa xs):=Mm (Xu hv.tr)
 have hd:=Fl hn (by omega)
 have hld:=Nq (Qa xs)
 have htd:Tr (Xy (Qa xs)):=Mv ht
 have m1:=Oc hn
 have m2:=Oc hd
 have l0:=List.length_pos_iff.2 h0
 obtain⟨hC,hq,hql⟩:=Ydb hv.tr h0 hs hl
 have hok:eok 13 (gA (Qa xs) (Xy (Qa xs))) (gB (Qa xs) (Xy (Qa xs))):=hC.1.2.2.1
 have hok2:eok 13 (Qa xs) (Xy (Qa xs)):=
  (Zwl (n:=265) (s:=5) (K:=271) (by omega) ht htd (hn.mono (by omega)) hd (by omega) (by omega) (Ybo (by omega) (by omega) (by omega)) (Nat.le_trans (Nat.mul_le_mul (show(Qa xs).length+1≤9 by omega) (show 265+1≤300 by omega)) (by decide)) (by omega)).1
 obtain⟨f1,f2,f3,f4,f5,f6⟩:=Mf (F:=13) hv.tr h0 hok
 have hg:=Zdv (F:=13) ht htd
 have hn0:=Zhy hv.tr h0
 have hK:kkR 24 13*(24+1)^13<2^130:=by decide +kernel
 have hgs:=Eg (L:=13) (R:=24) hg f2 hn hn0 ht (by omega) (by decide) hK (by rw [Bz];exact f4)
 have hvn:=Zs0 hv
 have hvd:Vp (Xy (Qa xs)):=⟨hd.mono (by omega),htd,by omega⟩
 have hlq:=Nv f2 hg f3 f5
 rw [←f4]at hlq
 have lq:=List.length_pos_iff.2 f3
 exact⟨hvn,hvd,hok2,Yfk ht htd hok2 hok,Zum hvn hvd hok,f5,f1,m1,Oc hgs,by omega,Zjt hv h0 hC.1,f3,f6,by omega⟩
structure RI (xs q:List Int):Prop where
 v:Vp q
 ne:q≠[]
 s:Sz 200 q
 l:q.length≤7
 d:Dp xs (Qa q)
theorem RI.start{xs:List Int}(h:Cvd xs)(h0:xs≠[]):RI xs xs:=⟨h.v,h0,h.s.mono (by omega),h.l,Dp.start h.v.tr h0⟩
theorem Zzo{q:List Int}{n:Nat}{e:Int}(he:e=1∨e=-1)(h:Sz n q):Sz n (Xm q e):=fun i=>by
 rw [Qd]
 have:=h i
 rcases he with rfl | rfl
 ·rw [Int.mul_one];exact this
 ·rw [Int.mul_neg_one,Int.natAbs_neg];exact this
theorem RI.step{xs q:List Int}(h:Cvd xs)(h0:xs≠[])(hI:RI xs q) :
  Tr (sqf 13 q)∧Pf (sqf 13 q)≤330∧(sqf 13 q).length≤7∧0<(sqf 13 q).length∧Qc q≠0∧Sz 200 (Xm (Yx q) 1)∧Tr (Xm (Yx q) 1)∧(Xm (Yx q) 1).length=q.length∧pdv (Xm (Yx q) 1) (sqf 13 q)∧
  Vp (Mo 13 q)∧Mo 13 q≠[]∧Sz 200 (Mo 13 q)∧(Mo 13 q).length≤7∧Qc (Mo 13 q)≠0∧Yx (Mo 13 q)=Mo 13 q∧
  Tr (sqf 13 (Mo 13 q))∧Pf (sqf 13 (Mo 13 q))≤330∧(sqf 13 (Mo 13 q)).length≤7∧0<(sqf 13 (Mo 13 q)).length∧pdv (sqf 13 q) (sqf 13 (Mo 13 q))∧Sz 500 (Kt (sqf 13 q) (sqf 13 (Mo 13 q)))∧(Kt (sqf 13 q) (sqf 13 (Mo 13 q))).length≤7∧
  pdv (Mo 13 q) (sqf 13 (Mo 13 q))∧RI xs (Ah 13 q)∧((sqf 13 q).length≠1→(Ah 13 q).length<q.length):=by
 have hl:=h.l
 have hD:=hI.d
 have hok0:=(hD.ok h.v.tr h0 h.s (by omega) (by omega) (show xs.length≤13+1 by omega)).2
 have hok:Di 13 q:=by unfold Di at hok0 ⊢;rwa [hD.2.2.1]at hok0
 have hg:=hD.next hok0
 have hgn:Ns 13 (Qa q)=Ns 13 q:=Zjg hD.2.2.1
 have hsn:sqf 13 (Qa q)=sqf 13 q:=Cj hD.2.2.1
 rw [hgn]at hg
 have hok2:=(hg.ok h.v.tr h0 h.s (by omega) (by omega) (show xs.length≤13+1 by omega)).2
 have hg2:=hg.next hok2
 obtain⟨⟨e,he,r1,r2,r3,r4,r5,r6⟩,r7,r8,r9,r10,r11,r12⟩:=Zkd hI.v.tr hI.ne hok hok2
 obtain⟨-,-,-,-,-,-,-,-,-,-,-,a12,a13,a14,-,a16,-,-⟩:=Zd3 h h0 hD
 obtain⟨-,-,-,-,-,-,-,-,-,-,-,b12,b13,b14,-,b16,b17,-⟩:=Zd3 h h0 hg
 rw [hsn]at a12 a13 a14 a16
 have hsl:sqf 13 (Mo 13 q)=sqf 13 (Ns 13 q):=Cj (by rw [r7,hg.2.2.1])
 obtain⟨g1,g2⟩:=Zg1 h h0 hg
 obtain⟨g3,g4⟩:=Zg1 h h0 hg2
 have e0:e≠0:=by rcases he with rfl | rfl<;>decide
 have hLs:Sz 200 (Mo 13 q):=by rw [r3];exact Zzo he g1
 have hLl:(Mo 13 q).length≤7:=by rw [r3];have:=Ht (Ns 13 q) e;omega
 have hLv:Vp (Mo 13 q):=⟨hLs.mono (by omega),r9,by omega⟩
 have hRs:Sz 200 (Ah 13 q):=by rw [r6];exact Zzo he g3
 have hRl:(Ah 13 q).length≤(Ns 13 (Ns 13 q)).length:=by rw [r6];exact Ht _ e
 obtain⟨o1,o2,o3,o4⟩:=Cy hI.v.tr hI.ne hok hok2
 have hK:kkR 24 13*(24+1)^13<2^130:=by decide +kernel
 have hos:=Eg (L:=13) (R:=24) o3 b12.tr a13 a16 a12.tr (by omega) (by decide) hK o2
 have hlq:=Nv o3 b12.tr o4 b16
 rw [←o2]at hlq
 have lb:=List.length_pos_iff.2 b16
 have la:=List.length_pos_iff.2 a16
 have lo:=List.length_pos_iff.2 o4
 have hm:Xm (Yx q) 1=Yx q:=by
  refine(Ob _ _).ext (Xu hI.v.tr) fun i=>?_
  rw [Qd,Int.mul_one]
 have hx:=Oz hI.v.tr hI.ne hok
 have hx2:=Oz hg.1 hg.2.1 hok2
 rw [hsl]
 refine⟨a12.tr,Oc a13,by omega,la,hI.v.ne hI.ne,by rw [hm];exact Fj hI.s,Ob _ _,by rw [hm,Yv],by rw [r1];exact r2,hLv,r10,hLs,hLl,hLv.ne r10,r4,b12.tr,Oc b13,b14,lb,o1,hos.mono (by omega),?_,r5,⟨⟨hRs.mono (by omega),r11,by omega⟩,r12,hRs,by omega,by rw [r8];exact hg2⟩,fun hne=>?_⟩
 ·show(Bi 13 q).length≤7;omega
 ·have h1:=hx.2.2.2.2
  have h2:=hx2.2.2.2.2
  omega
theorem rodd_1{F f:Nat}{p:List Int}(h:(sqf F p).length=1):Zc6 F f p=sqf F p:=by
 cases f with
 | zero=>rfl
 | succ f=>unfold Zc6;rw [if_pos h]
theorem rodd_s{F f:Nat}{p:List Int}(h:(sqf F p).length≠1):Zc6 F (f+1) p=Oo (Kt (sqf F p) (sqf F (Mo F p))) (Zc6 F f (Ah F p)):=by
 conv=>lhs;unfold Zc6
 rw [if_neg h]
theorem Yba{F n:Nat}{p:List Int}(hp:Tr p)(h0:p≠[])(hs:Sz n p)(hn:n≤130)(hl:p.length≤13)(hF:p.length≤F+1):∀(f:Nat) (q:List Int),Dp p q→q.length≤f→∃a:List Int,Tr a∧q=Oo a (Bd F f q):=by
 intro f
 induction f with
 | zero=>intro q hq hlq;have:=List.length_pos_iff.2 hq.2.1;omega
 | succ f ih=>
  intro q hq hlq
  have hok:=(hq.ok hp h0 hs hn hl hF).2
  have hg:=hq.next hok
  have hok2:=(hg.ok hp h0 hs hn hl hF).2
  have hg2:=hg.next hok2
  unfold Bd
  by_cases c1:(sqf F q).length=1
  ·rw [if_pos c1]
   obtain⟨s1,s2,s3⟩:=Zf1 hq.1 hq.2.1 hok c1
   refine⟨[1],.inr (show cf [1] 0≠0 by decide),hq.1.ext (Oj _ _) fun i=>Lp (fun x=>?_) i⟩
   rw [Xo,s1,Ye5 hq.1 hq.2.2.1 s2,Nn];push_cast;grind
  ·rw [if_neg c1]
   have lq:2≤q.length:=by
    obtain⟨f1,f2,f3,f4,f5,f6⟩:=Mf (F:=F) hq.1 hq.2.1 hok
    obtain⟨a1,a2,a3,a4,a5⟩:=Oz hq.1 hq.2.1 hok
    have l1:=List.length_pos_iff.2 f3
    have l2:=List.length_pos_iff.2 a2
    omega
   have lt1:=Zla hq.1 hq.2.1 hok lq
   obtain⟨a1,a2,a3,a4,a5⟩:=Oz hq.1 hq.2.1 hok
   obtain⟨b1,b2,b3,b4,b5⟩:=Oz hg.1 hg.2.1 hok2
   obtain⟨-,t2,t3,-,-,-⟩:=Mf (F:=F) hg.1 hg.2.1 hok2
   have lb:=List.length_pos_iff.2 t3
   obtain⟨A,hA,hB⟩:=ih _ hg2 (by omega)
   obtain⟨-,o2,o3,o4⟩:=Cy hq.1 hq.2.1 hok hok2
   rw [hq.2.2.1]at a4
   rw [a3]at b4
   refine⟨Oo (Oo (sqf F (Ns F q)) (sqf F (Ns F q))) A,Oj _ _,hq.1.ext (Oj _ _) fun i=>Lp (fun x=>?_) i⟩
   have e1:Zu q x=Zu (sqf F q) x*Zu (Ns F q) x:=by rw [←Xo,←a4]
   have e2:Zu (sqf F q) x=Zu (Bi F q) x*Zu (sqf F (Ns F q)) x:=by rw [←Xo,←o2]
   have e3:Zu (Ns F q) x=Zu (sqf F (Ns F q)) x*Zu (Ns F (Ns F q)) x:=by rw [←Xo,←b4]
   have e4:Zu (Ns F (Ns F q)) x=Zu A x*Zu (Bd F f (Ns F (Ns F q))) x:=by rw [←Xo,←hB]
   rw [Xo,Xo,Xo,Xo,e1,e2,e3,e4]
   show _=_*(Zu (Bi F q) x*_)
   generalize Zu (sqf F (Ns F q)) x=S
   grind
theorem RI.size{xs q:List Int}(h:Cvd xs)(h0:xs≠[])(hI:RI xs q){f:Nat}(hf:q.length≤f):Tr (Zc6 13 f q)∧Sz 400 (Zc6 13 f q)∧(Zc6 13 f q).length≤7:=by
 have hl:=h.l
 have hD:=hI.d
 have e:Zc6 13 f q=Bd 13 f (Qa q):=by
  rw [Zve h.v.tr h0 h.s (by omega) (by omega) (by omega) f q hI.v.tr hI.ne hD]
  exact Zkn hD.2.2.1.symm f
 have hlq:=Nf hI.v.tr
 have hll:=hI.l
 obtain⟨A,hA,hB⟩:=Yba h.v.tr h0 h.s (by omega) (by omega) (show xs.length≤13+1 by omega) f (Qa q) hD (by omega)
 obtain⟨d1,d2⟩:=Zg1 h h0 hD
 have hok0:=(hD.ok h.v.tr h0 h.s (by omega) (by omega) (show xs.length≤13+1 by omega)).2
 have ht:=Zjb (F:=13) (p:=xs) (f:=f) hD.1 hD.2.1 hok0
 rw [e]
 have hK:kkR 24 13*(24+1)^13<2^130:=by decide +kernel
 have p0:Bd 13 f (Qa q)≠[]:=fun e2=>hD.2.1 (by rw [hB,e2,Zfb])
 have a0:A≠[]:=fun e2=>hD.2.1 (by rw [hB,e2,Ec])
 have hl2:=Nv hA ht a0 p0
 rw [←hB]at hl2
 have:=List.length_pos_iff.2 a0
 exact⟨ht,(Eg (L:=13) (R:=24) ht hA d1 hD.2.1 hD.1 (by omega) (by decide) hK (by rw [Bz];exact hB)).mono (by omega),by omega⟩
theorem Zx0{xs:List Int}(h:Cvd xs)(h0:xs≠[]):Zc6 13 xs.length xs=Kb xs:=by
 have hl:=h.l
 exact(Ybn h.v.tr h0 h.s (by omega) (by omega) (show xs.length≤13+1 by omega)).symm
end Go.Sky

