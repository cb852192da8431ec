/- rules, arithmetic and contracts: part 19
   Proved without conditions of its own: each theorem bears its own. -/
import Derived.Test.YtcmiiammekgooaaGreatSl03
import Derived.Test.YtcmiiammekgooaaGreatSl02
import Derived.Test.YtcmiiammekgooaaGreatSl01
import Derived.Test.YtcmiiammekgooaaGreatSl17
import Derived.Test.YtcmiiammekgooaaGreatSl12
import Derived.Test.YtcmiiammekgooaaGreatSl15
import Derived.Test.YtcmiiammekgooaaGreatSl10
import Derived.Test.YtcmiiammekgooaaGreatSl11
set_option linter.all false
namespace Go.Sky
open Go.Proofs.Tryz
open Go.Proofs
set_option maxRecDepth 20000
set_option maxHeartbeats 4000000
set_option linter.unusedSimpArgs false
set_option maxHeartbeats 4000000 in
theorem Ew(v u:Value)(xs:List Int)(ps:List PTs)(a b:R2)(hd:Cvd xs)(ha:E32 a)(hb:E32 b)(hp:ValP ps)(hc:¬0<cmp a b)(hl:ps.length≤200:=by decide):Ml prog 41 #[v,rX a.1 a.2,rX b.1 b.2,u] [slp 2 wv v xs,slp 9 Zif u ps] (.int .i64 (if Zvb xs ps a b=true then 0 else 10)):=by
 refine Ya func41 J ntmps41 J K2 ?_
 intro w0 sc hw hsc
 simp only [Zp,Zn]
 have hv:=hd.v
 have ha1:=ha.b1
 have ha2:=ha.b2
 have hap:=ha.p
 have hb1:=hb.b1
 have hb2:=hb.b2
 have hbp:=hb.p
 refine Mc (Gj (i:=2) J Zi) fun hlen=>Zc<|Zg<|tt (Xe (i:=3) J J J J J hw) fun bx _=>tt (Xe (i:=4) J J J J J hw) fun bx_2 _=>as_ J<|Zf<|Za<|e_scope<|Zc<|Zc<|Zg<|mv J<|dt (Yy (i:=3) J J J Pv Xz J J J J)<|dt (Yy (i:=4) J J J Pv Xz J J J J)<|mv J<|tt (Zh (n:=4) (Zfk _ _ xs ps a b hd ha hb hp hl) J J J K4 call58 (Zb 1 J J J (Zb 2 J J J Ze)) J hw) fun _ _=>as_ J<|Zf<|Za<|Zc<|Zg<|mv J<|dt (Yc (r':= .bool false) (Qb J J J) (congrArg Value.bool (decide_eq_false (fun h=>h (if_neg hc)))))<|Zf<|Za<|Ye J<|Zj<|Za<|Zc<|Zg<|mv J<|tt (Zh (n:=5) (Zk4 _ _ hd) J J J K1 call59 (Zb 1 J J J Ze) J hw) (fun g hg=>?_)
 obtain⟨hgl,hgc⟩:=hg
 refine mv J<|dt (Yf J J J)<|dt (Yf J J J)<|tt (Zo (i:=7) J J zeroValue98 J J hw) fun bx_3 _=>tt (Zm (i:=7) J J J J J (by decide) J Ct J J ⟨Zt (i:=5) J Zx,Zt (i:=6) J Zx,trivial⟩ J hw trivial) fun _ _=>as_ J<|Zf<|Za<|Zc<|Zc<|Zg<|mv J<|dt (Yc (r':= .bool false) (Qb J J J) (congrArg Value.bool (by decide)))<|Zf<|Za<|Ye J<|Zj<|Za<|Zc<|Zg<|tt (Zo (i:=8) J J zeroValue102 J J hw) fun bx_4 _=>Zf<|Za<|Zc<|Zg<|dt (Yy (i:=3) J J J Pv Xz J J J J)<|mv J<|dt (Yb J J (i:=2) J Zi Zvi)<|dt (Oq J J J)<|tt (Zo (i:=9) J J zeroValue41 J J hw) fun bx_5 _=>tt (Zm (i:=9) J J J J J (by decide) J Xz J J ⟨Zd J,Zd J,Zd J,Zd J,trivial⟩ J hw trivial) fun _ _=>as_ J<|Zf<|Za<|Zc<|e_label<|Za<|Dj [(6,_),(12,_),(13,_)] [(0,_),(1,_),(2,_),(3,_),(4,_),(5,_),(6,_),(7,_),(8,_)] (fun(q:Bool×R2)=>[(14,.bool q.1)]) (fun(q:Bool×R2)=>[(9,box bx_5 41 #[.bool (decide (q.2.1<0)),.string (Qq q.2.1.natAbs),.bool (decide (q.2.2<0)),.string (Qq q.2.2.natAbs)])]) (fun(q:Bool×R2)=>(Zvb xs ps a b=(q.1 && decide (cmp q.2 b=0)))∧(Ef q.2)) K3 K9 ?_ ?_
 ·refine Zc<|Zg<|mv J<|dt (Yb J J (i:=2) J Zi Zvi)<|mv J<|Zf<|Za<|Zl<|Nt [(0,_),(6,_),(10,_),(12,_),(13,_),(38,_),(39,_)] [(0,_),(1,_),(2,_),(3,_),(4,_),(5,_),(6,_),(7,_),(8,_)] (fun(i:Nat)=>[(40,.int .i64 (i:Int)),(11,.int .i64 0),(14,.bool (decide (0<ps.length)))]) (fun(i:Nat)=>[(9,box bx_5 41 #[.bool (decide ((lst a ps i).1<0)),.string (Qq (lst a ps i).1.natAbs),.bool (decide ((lst a ps i).2<0)),.string (Qq (lst a ps i).2.natAbs)])]) (fun(i:Nat)=>(i≤ps.length)∧(∀k,k<i→Zsb xs (lst a ps k) (ps.getD k P0)=true)) (fun(i:Nat)=>ps.length-i) 0 ⟨by first | omega | (dsimp only<;>omega),fun k hk=>absurd hk (Nat.not_lt_zero k)⟩ ⟨J,J,(congrArg (fun z=>some (Value.bool z)) (decide_eq_decide.2 (by omega))),J,J,J,J,J,J,J,trivial⟩ K10 ?_
  rintro i ⟨hi,hK⟩
  simp only [CA,NA]
  have hlE:=lst_ef ha.ef hp hi
  have hl1:=hlE.b1
  have hl2:=hlE.b2
  refine Zc<|Zg<|dt (Xu J J J)<|Zf<|Za<|Zc<|Zq J (fun h450=>?_) (fun h450=>?_)
  ·refine Zj<|Za<|Zc<|Zl<|Zc<|Zg<|dt (Yw (ii:=2) J J J J Zi Zvi sizeOf79 J (by first | omega | (simp only [List.length_set];omega)))<|dt (Xm (ii:=2) P0 J J J Zi pP9 (by first | omega | (simp only [List.length_set];omega)))<|tt (Zo (i:=10) J J zeroValue79 J J hw) fun bx_6 _=>tt (Zm (i:=10) J J J J J (by decide) J sizeOf79 J J ⟨Zd J,Zd J,Zd J,Zd J,Zd J,Zd J,Zd J,Zd J,Zd J,trivial⟩ J hw trivial) fun _ _=>Zf<|Za<|Zc ?_
   obtain⟨hk,hf1,hf2⟩:=hp (ps.getD i P0) (Yv)
   have hf11:=hf1.b1
   have hf12:=hf1.b2
   have hf1p:=hf1.p
   have hf21:=hf2.b1
   have hf22:=hf2.b2
   have hf2p:=hf2.p
   refine Zg<|dt (Xx J J Zfg J Xz J J)<|dt (Yy (i:=10) J J J Pv Xz J J J J)<|dt (Xx J J Zfg J Xz J J)<|dt (Yy (i:=10) J J J Pv Xz J J J J)<|tt (Zh (n:=10) (Gc (ps.getD i P0).2.1.1 (ps.getD i P0).2.1.2 (ps.getD i P0).2.2.1 (ps.getD i P0).2.2.2 hf1p hf2p) J J J K2 call96 Ze J hw) fun _ _=>as_ J<|Zf<|Za<|Zc<|Zc<|Zg<|dt (Yy (i:=9) J J J Pv Xz J J J J)<|dt (Xx J J Zfg J Xz J J)<|dt (Yy (i:=10) J J J Pv Xz J J J J)<|tt (Zh (n:=10) (Gc (lst a ps i).1 (lst a ps i).2 (ps.getD i P0).2.1.1 (ps.getD i P0).2.1.2 hlE.p hf1p) J J J K2 call96 Ze J hw) fun _ _=>dt (Qb J J J)<|mv J<|Qu (d:=54) J (fun s452=>?_) (fun s452=>?_)
   ·exact gsk J J J<|gsk J J J<|dt (Xh J J J)<|Zf<|Za<|Ov J<|Zc<|Zg<|as_ J<|Zf<|Za<|Yu<|Zu<|Zo7<|Zu<|Zu<|Ox<|Qy (false,(lst a ps i)) ⟨Dm (k:=i) (by omega) (by first | exact okp_c ‹_› | exact okp_o ‹_›) _,hlE⟩ K4 K10
   ·refine gdt (Ym J J) J J<|gdt (Oq J J J) J J<|dt (Yh J J J)<|Zf<|Za<|Zq J (fun h452=>?_) (fun h452=>?_)
    ·exact Zc<|Zg<|as_ J<|Zf<|Za<|Yu<|Zu<|Zo7<|Zu<|Zu<|Ox<|Qy (false,(lst a ps i)) ⟨Dm (k:=i) (by omega) (by first | exact okp_c ‹_› | exact okp_o ‹_›) _,hlE⟩ K4 K10
    ·refine Zj<|Za<|Zc ?_
     have hc1:=Decidable.byContradiction (by assumption:¬¬cmp (lst a ps i) (ps.getD i P0).2.1=0)
     have hc2:¬0<cmp (ps.getD i P0).2.1 (ps.getD i P0).2.2:=by assumption
     refine Zg<|dt (Xx J J Zfg J Xz J J)<|dt (Yy (i:=10) J J J Pv Xz J J J J)<|tt (Zm (i:=9) J J J J J (by decide) J Xz J J ⟨Zd J,Zd J,Zd J,Zd J,trivial⟩ J hw trivial) fun _ _=>Zf<|Za<|Zc<|Zl<|Zc<|Zg<|dt (Xx J J Zfg J sizeOf77 J J)<|dt (Ok (i:=10) J J J isAgg77 J)<|dt (Pm J J J)<|as_ J<|Zf<|Za<|Zq J (fun h458=>?_) (fun h458=>?_)
     ·refine Zg<|mv J<|dt (Xx J J Zfg J Xz J J)<|dt (Yy (i:=10) J J J Pv Xz J J J J)<|dt (Xx J J Zfg J Xz J J)<|dt (Yy (i:=10) J J J Pv Xz J J J J)<|tt (Zh (n:=10) (Zv7 _ xs (ps.getD i P0).2.1 (ps.getD i P0).2.2 hd hf1 hf2) J J J K3 call93 (Zb 1 J J J Ze) J hw) fun _ _=>mv J<|dt (Yf J J J)<|dt (Yf J J J)<|as_ J<|as_ J<|Zf<|Oa<|Za<|Zc<|Zc<|Zg<|mv J<|dt (Yc (r':= .bool false) (Qb J J J) (congrArg Value.bool (by decide)))<|Zf<|Za<|Ye J<|Zj<|Za<|Zc<|Zg<|mv J<|dt (Xp J J)<|Zf<|Za<|Lm J (fun h468=>?_) (fun h468=>?_)
      ·exact Yu<|Zo7<|Zu<|Zu<|Ox<|Qy (false,(ps.getD i P0).2.2) ⟨Dm (k:=i) (by omega) ((Zhz hc1 hc2).trans (by first | exact Eq.trans (Zhd (xs:=xs) (z:=ps.getD i P0) ‹_›) (Hn ‹_›) | (rw [(Zhb (xs:=xs) (z:=ps.getD i P0) ‹_› (by first | exact .inl (by omega) | exact .inr ‹_›)),←hgl];exact decide_eq_false ‹_›) | (rw [(Zhc (xs:=xs) (z:=ps.getD i P0) ‹_› (by omega) ‹_›),←hgl,←hgc];exact(by first | exact Zkq ‹_› | exact Zbm ‹_› (Hn ‹_›))))) _,hf2⟩ ⟨by first | rfl | exact congrArg (fun z=>some (Value.bool z)) (Hn ‹_›) | exact congrArg (fun z=>some (Value.bool z)) (decide_eq_false ‹_›),J,J,J,trivial⟩ K10
      ·exact Zj<|Oa<|Za<|Zg<|dt (Ys J J J ⟨by omega,by omega⟩)<|mv J<|Zf<|Xk (i+1) ⟨by first | omega | (dsimp only<;>omega),fun k hk2=>by rcases Nat.lt_succ_iff_lt_or_eq.1 hk2 with h9 | h9;exact hK k h9;rw [h9];exact(Zhz hc1 hc2).trans (by first | exact Eq.trans (Zhd (xs:=xs) (z:=ps.getD i P0) ‹_›) (Ep ‹_›) | (rw [(Zhb (xs:=xs) (z:=ps.getD i P0) ‹_› (by first | exact .inl (by omega) | exact .inr ‹_›)),←hgl];exact decide_eq_true (Classical.not_not.1 ‹_›)) | (rw [(Zhc (xs:=xs) (z:=ps.getD i P0) ‹_› (by omega) ‹_›),←hgl,←hgc];exact(Zbm ‹_› (Ep ‹_›))))⟩ (by first | omega | (dsimp only<;>omega)) ⟨J,J,(congrArg (fun z=>some (Value.bool z)) (Eq.trans (by first | exact Ep ‹_› | exact decide_eq_true (Classical.not_not.1 ‹_›) | assumption) (decide_eq_true (by omega)).symm)),J,J,J,J,J,J,J,trivial⟩ K10
     ·refine Zc<|Zg<|mv J<|dt (Yb J J (i:=1) J Zi Qp)<|dt (Pm J J J)<|mv J<|Qu (d:=91) J (fun s460=>?_) (fun s460=>?_)
      ·refine gsk J J J<|gsk J J J<|dt (Xh J J J)<|as_ J<|Zf<|Za<|Ov J<|Zg<|dt (Zz (i:=7) J J J Zc1 Ct J J)<|dt (Xx J J Zfg J Xz J J)<|dt (Yy (i:=10) J J J Pv Xz J J J J)<|tt (Zh (n:=10) (Zak _ _ _ _ _ (ps.getD i P0).2.1.1 (ps.getD i P0).2.1.2 hf1p (Xy hgl (fun q hq=>(Nx hd q hq).1)) (Xy hgl (Kp hd (m:=(ps.getD i P0).2.1) (Nat.le_trans hf1.b1 (by decide)) (Nat.le_trans hf1.b2 (by decide))).1)) J J J K3 call62 (Zb 5 J J J (Zb 6 J J J (No 8 J J Ze))) J hw) fun _ _=>dt (Lx J J J)<|as_ J<|Zf<|Oa<|Za<|Zc<|Zc<|Zg<|mv J<|dt (Yc (r':= .bool false) (Qb J J J) (congrArg Value.bool (by decide)))<|Zf<|Za<|Ye J<|Zj<|Za<|Zc<|Zg<|mv J<|dt (Ze6 J J)<|Zf<|Za<|Zq J (fun h468_2=>?_) (fun h468_2=>?_)
       ·exact Yu<|Zo7<|Zu<|Zu<|Ox<|Qy (false,(ps.getD i P0).2.2) ⟨Dm (k:=i) (by omega) ((Zhz hc1 hc2).trans (by first | exact Eq.trans (Zhd (xs:=xs) (z:=ps.getD i P0) ‹_›) (Hn ‹_›) | (rw [(Zhb (xs:=xs) (z:=ps.getD i P0) ‹_› (by first | exact .inl (by omega) | exact .inr ‹_›)),←hgl];exact decide_eq_false ‹_›) | (rw [(Zhc (xs:=xs) (z:=ps.getD i P0) ‹_› (by omega) ‹_›),←hgl,←hgc];exact(by first | exact Zkq ‹_› | exact Zbm ‹_› (Hn ‹_›))))) _,hf2⟩ ⟨by first | rfl | exact congrArg (fun z=>some (Value.bool z)) (Hn ‹_›) | exact congrArg (fun z=>some (Value.bool z)) (decide_eq_false ‹_›),J,J,J,trivial⟩ K10
       ·exact Zj<|Oa<|Za<|Zg<|dt (Ys J J J ⟨by omega,by omega⟩)<|mv J<|Zf<|Xk (i+1) ⟨by first | omega | (dsimp only<;>omega),fun k hk2=>by rcases Nat.lt_succ_iff_lt_or_eq.1 hk2 with h9 | h9;exact hK k h9;rw [h9];exact(Zhz hc1 hc2).trans (by first | exact Eq.trans (Zhd (xs:=xs) (z:=ps.getD i P0) ‹_›) (Ep ‹_›) | (rw [(Zhb (xs:=xs) (z:=ps.getD i P0) ‹_› (by first | exact .inl (by omega) | exact .inr ‹_›)),←hgl];exact decide_eq_true (Classical.not_not.1 ‹_›)) | (rw [(Zhc (xs:=xs) (z:=ps.getD i P0) ‹_› (by omega) ‹_›),←hgl,←hgc];exact(Zbm ‹_› (Ep ‹_›))))⟩ (by first | omega | (dsimp only<;>omega)) ⟨J,J,(congrArg (fun z=>some (Value.bool z)) (Eq.trans (by first | exact Ep ‹_› | exact decide_eq_true (Classical.not_not.1 ‹_›) | assumption) (decide_eq_true (by omega)).symm)),J,J,J,J,J,J,J,trivial⟩ K10
      ·refine gdt (Ym J J) J J<|gdt (Pm J J J) J J<|dt (Yh J J J)<|as_ J<|Zf<|Za<|Zq J (fun h460=>?_) (fun h460=>?_)
       ·refine Zg<|dt (Zz (i:=7) J J J Zc1 Ct J J)<|dt (Xx J J Zfg J Xz J J)<|dt (Yy (i:=10) J J J Pv Xz J J J J)<|tt (Zh (n:=10) (Zak _ _ _ _ _ (ps.getD i P0).2.1.1 (ps.getD i P0).2.1.2 hf1p (Xy hgl (fun q hq=>(Nx hd q hq).1)) (Xy hgl (Kp hd (m:=(ps.getD i P0).2.1) (Nat.le_trans hf1.b1 (by decide)) (Nat.le_trans hf1.b2 (by decide))).1)) J J J K3 call62 (Zb 5 J J J (Zb 6 J J J (No 8 J J Ze))) J hw) fun _ _=>dt (Lx J J J)<|as_ J<|Zf<|Oa<|Za<|Zc<|Zc<|Zg<|mv J<|dt (Yc (r':= .bool false) (Qb J J J) (congrArg Value.bool (by decide)))<|Zf<|Za<|Ye J<|Zj<|Za<|Zc<|Zg<|mv J<|dt (Ze6 J J)<|Zf<|Za<|Zq J (fun h468_3=>?_) (fun h468_3=>?_)
        ·exact Yu<|Zo7<|Zu<|Zu<|Ox<|Qy (false,(ps.getD i P0).2.2) ⟨Dm (k:=i) (by omega) ((Zhz hc1 hc2).trans (by first | exact Eq.trans (Zhd (xs:=xs) (z:=ps.getD i P0) ‹_›) (Hn ‹_›) | (rw [(Zhb (xs:=xs) (z:=ps.getD i P0) ‹_› (by first | exact .inl (by omega) | exact .inr ‹_›)),←hgl];exact decide_eq_false ‹_›) | (rw [(Zhc (xs:=xs) (z:=ps.getD i P0) ‹_› (by omega) ‹_›),←hgl,←hgc];exact(by first | exact Zkq ‹_› | exact Zbm ‹_› (Hn ‹_›))))) _,hf2⟩ ⟨by first | rfl | exact congrArg (fun z=>some (Value.bool z)) (Hn ‹_›) | exact congrArg (fun z=>some (Value.bool z)) (decide_eq_false ‹_›),J,J,J,trivial⟩ K10
        ·exact Zj<|Oa<|Za<|Zg<|dt (Ys J J J ⟨by omega,by omega⟩)<|mv J<|Zf<|Xk (i+1) ⟨by first | omega | (dsimp only<;>omega),fun k hk2=>by rcases Nat.lt_succ_iff_lt_or_eq.1 hk2 with h9 | h9;exact hK k h9;rw [h9];exact(Zhz hc1 hc2).trans (by first | exact Eq.trans (Zhd (xs:=xs) (z:=ps.getD i P0) ‹_›) (Ep ‹_›) | (rw [(Zhb (xs:=xs) (z:=ps.getD i P0) ‹_› (by first | exact .inl (by omega) | exact .inr ‹_›)),←hgl];exact decide_eq_true (Classical.not_not.1 ‹_›)) | (rw [(Zhc (xs:=xs) (z:=ps.getD i P0) ‹_› (by omega) ‹_›),←hgl,←hgc];exact(Zbm ‹_› (Ep ‹_›))))⟩ (by first | omega | (dsimp only<;>omega)) ⟨J,J,(congrArg (fun z=>some (Value.bool z)) (Eq.trans (by first | exact Ep ‹_› | exact decide_eq_true (Classical.not_not.1 ‹_›) | assumption) (decide_eq_true (by omega)).symm)),J,J,J,J,J,J,J,trivial⟩ K10
       ·refine Zg<|dt (Zz (i:=7) J J J Zc1 Ct J J)<|dt (Xx J J Zfg J Xz J J)<|dt (Yy (i:=10) J J J Pv Xz J J J J)<|tt (Zh (n:=10) (Zm9 _ _ _ _ _ (ps.getD i P0).2.1.1 (ps.getD i P0).2.1.2 (by omega) (by omega) hf1p (Xy hgl (fun q hq=>(Nx hd q hq).1)) (Xy hgl (Kp hd (m:=(ps.getD i P0).2.1) (Nat.le_trans hf1.b1 (by decide)) (Nat.le_trans hf1.b2 (by decide))).1)) J J J K3 call99 (Zb 5 J J J (Zb 6 J J J (No 8 J J Ze))) J hw) fun _ _=>dt (Oq J J J)<|mv J<|Qu (d:=65) J (fun s463=>?_) (fun s463=>?_)
        ·refine gdt (Zz (i:=7) J J J Zc1 Ct J J) J J<|gdt (Xx J J Zfg J Xz J J) J J<|gdt (Yy (i:=10) J J J Pv Xz J J J J) J J<|gdt (Xx J J Zfg J Xz J J) J J<|gdt (Yy (i:=10) J J J Pv Xz J J J J) J J<|gtt (Zh (n:=10) (Zfz _ _ _ _ _ (ps.getD i P0).2.1.1 (ps.getD i P0).2.1.2 (ps.getD i P0).2.2.1 (ps.getD i P0).2.2.2 (by omega) (by omega) (by omega) (by omega) hf1p hf2p (Xy hgc (fun q hq=>(Gk hd q hq).1)) (Xy hgc (Kp hd (m:=(ps.getD i P0).2.1) (Nat.le_trans hf1.b1 (by decide)) (Nat.le_trans hf1.b2 (by decide))).2) (Xy hgc (Kp hd (m:=(ps.getD i P0).2.2) (Nat.le_trans hf2.b1 (by decide)) (Nat.le_trans hf2.b2 (by decide))).2) (by have h7:=congrArg List.length hgc;rw [List.length_map]at h7;have:=Fm xs;omega)) J J J K4 call100 (Zb 5 J J J (Zb 6 J J J (No 8 J J Ze))) J hw) J J J fun _ _=>gdt (Xp J J) J J<|dt (Xh J J J)<|as_ J<|Zf<|Oa<|Za<|Zc<|Zc<|Zg<|mv J<|dt (Yc (r':= .bool false) (Qb J J J) (congrArg Value.bool (by decide)))<|Zf<|Za<|Ye J<|Zj<|Za<|Zc<|Zg<|mv J<|dt (Xp J J)<|Zf<|Za<|Lm J (fun h468_4=>?_) (fun h468_4=>?_)
         ·exact Yu<|Zo7<|Zu<|Zu<|Ox<|Qy (false,(ps.getD i P0).2.2) ⟨Dm (k:=i) (by omega) ((Zhz hc1 hc2).trans (by first | exact Eq.trans (Zhd (xs:=xs) (z:=ps.getD i P0) ‹_›) (Hn ‹_›) | (rw [(Zhb (xs:=xs) (z:=ps.getD i P0) ‹_› (by first | exact .inl (by omega) | exact .inr ‹_›)),←hgl];exact decide_eq_false ‹_›) | (rw [(Zhc (xs:=xs) (z:=ps.getD i P0) ‹_› (by omega) ‹_›),←hgl,←hgc];exact(by first | exact Zkq ‹_› | exact Zbm ‹_› (Hn ‹_›))))) _,hf2⟩ ⟨by first | rfl | exact congrArg (fun z=>some (Value.bool z)) (Hn ‹_›) | exact congrArg (fun z=>some (Value.bool z)) (decide_eq_false ‹_›),J,J,J,trivial⟩ K10
         ·exact Zj<|Oa<|Za<|Zg<|dt (Ys J J J ⟨by omega,by omega⟩)<|mv J<|Zf<|Xk (i+1) ⟨by first | omega | (dsimp only<;>omega),fun k hk2=>by rcases Nat.lt_succ_iff_lt_or_eq.1 hk2 with h9 | h9;exact hK k h9;rw [h9];exact(Zhz hc1 hc2).trans (by first | exact Eq.trans (Zhd (xs:=xs) (z:=ps.getD i P0) ‹_›) (Ep ‹_›) | (rw [(Zhb (xs:=xs) (z:=ps.getD i P0) ‹_› (by first | exact .inl (by omega) | exact .inr ‹_›)),←hgl];exact decide_eq_true (Classical.not_not.1 ‹_›)) | (rw [(Zhc (xs:=xs) (z:=ps.getD i P0) ‹_› (by omega) ‹_›),←hgl,←hgc];exact(Zbm ‹_› (Ep ‹_›))))⟩ (by first | omega | (dsimp only<;>omega)) ⟨J,J,(congrArg (fun z=>some (Value.bool z)) (Eq.trans (by first | exact Ep ‹_› | exact decide_eq_true (Classical.not_not.1 ‹_›) | assumption) (decide_eq_true (by omega)).symm)),J,J,J,J,J,J,J,trivial⟩ K10
        ·exact gsk J J J<|gsk J J J<|gsk J J J<|gsk J J J<|gsk J J J<|gsk J J J<|gsk J J J<|dt (Yh J J J)<|as_ J<|Zf<|Oa<|Za<|Zc<|Zc<|Zg<|mv J<|dt (Yc (r':= .bool false) (Qb J J J) (congrArg Value.bool (by decide)))<|Zf<|Za<|Ye J<|Zj<|Za<|Zc<|Zg<|mv J<|dt (Xp J J)<|Zf<|Za<|Ov J<|Yu<|Zo7<|Zu<|Zu<|Ox<|Qy (false,(ps.getD i P0).2.2) ⟨Dm (k:=i) (by omega) ((Zhz hc1 hc2).trans (by first | exact Eq.trans (Zhd (xs:=xs) (z:=ps.getD i P0) ‹_›) (Hn ‹_›) | (rw [(Zhb (xs:=xs) (z:=ps.getD i P0) ‹_› (by first | exact .inl (by omega) | exact .inr ‹_›)),←hgl];exact decide_eq_false ‹_›) | (rw [(Zhc (xs:=xs) (z:=ps.getD i P0) ‹_› (by omega) ‹_›),←hgl,←hgc];exact(by first | exact Zkq ‹_› | exact Zbm ‹_› (Hn ‹_›))))) _,hf2⟩ ⟨by first | rfl | exact congrArg (fun z=>some (Value.bool z)) (Hn ‹_›) | exact congrArg (fun z=>some (Value.bool z)) (decide_eq_false ‹_›),J,J,J,trivial⟩ K10
  ·exact Yu<|Zu<|Zu<|Ox<|Qy (decide (0<ps.length),(lst a ps i)) ⟨chk_all (by omega) hK,hlE⟩ K4 K10
 ·rintro⟨sh,lz⟩ ⟨hJ,hE⟩
  dsimp only at hJ hE
  simp only [CA,NA]
  have hz1:=hE.b1
  have hz2:=hE.b2
  have hzp:=hE.p
  refine Zc<|Zl<|Zc<|Zg<|dt (Xx J J Ky J Gr J J)<|dt (Ok (i:=8) J J J Ax J)<|dt (Yc (r':= .bool false) (Qb J J J) (congrArg Value.bool (by decide)))<|as_ J<|Zf<|Za<|Ye J<|Zc<|Zg<|mv J<|dt (Xp J J)<|mv J<|Za5 (d:=115) J (fun s475=>?_) (fun s475=>?_)
  ·exact gsk J J J<|gsk J J J<|gsk J J J<|gsk J J J<|dt (Xh J J J)<|as_ J<|Zf<|Za<|Ov J<|Zc<|Zg<|as_ J<|Zf<|Za<|Zv<|Hf<|Xc<|x_ngr<|xU hsc results41 J J (by rw [hJ];first | (rw [Hn (b:=sh) ‹_›];rfl) | (rw [decide_eq_false ‹_›,Bool.and_false];rfl))
  ·refine gdt (Yy (i:=9) J J J Pv Xz J J J J) J J<|gdt (Yy (i:=4) J J J Pv Xz J J J J) J J<|gtt (Zh (n:=10) (Gc lz.1 lz.2 b.1 b.2 hzp hbp) J J J K2 call96 Ze J hw) J J J fun _ _=>gdt (Qb J J J) J J<|dt (Yh J J J)<|as_ J<|Zf<|Za<|Zq J (fun h475=>?_) (fun h475=>?_)
   ·exact Zc<|Zg<|as_ J<|Zf<|Za<|Zv<|Hf<|Xc<|x_ngr<|xU hsc results41 J J (by rw [hJ];first | (rw [Hn (b:=sh) ‹_›];rfl) | (rw [decide_eq_false ‹_›,Bool.and_false];rfl))
   ·exact Zj<|Oa<|Za<|Zc<|Zg<|as_ J<|Zf<|Za<|Zv<|x_ngr<|xU hsc results41 J J (by rw [hJ,Ep (b:=sh) ‹_›,decide_eq_true (Decidable.byContradiction ‹_›)];rfl)
theorem fill19(u0 u1 u2 u3 u4 u5 u6 u7 u8 a0 a1 a2 a3 a4 a5 a6 a7 a8:Value):Instr.fill (fun i=>some (i*9,9)) ((List.range (1*9)).map ((Value.agg #[u0,u1,u2,u3,u4,u5,u6,u7,u8]).cells[· % (Value.agg #[u0,u1,u2,u3,u4,u5,u6,u7,u8]).cells.size]!)).toArray [(0,.agg #[a0,a1,a2,a3,a4,a5,a6,a7,a8])]=some #[a0,a1,a2,a3,a4,a5,a6,a7,a8]:=by
 simp [Instr.fill,Value.cells,List.range,List.range.loop]
 try rfl
theorem sz_lit{l:List Int}(h:litb l=true):Sz 40 l:=Sz.of_mem fun x hx=>by
 unfold litb at h
 rw [Bool.and_eq_true]at h
 have h1:=List.all_eq_true.1 h.1 x hx
 simp only [Bool.and_eq_true,decide_eq_true_eq]at h1
 exact(Me 40 _).2 (by omega)
theorem Ze8{l:List Int}(h:litb l=true)(h2:l.length≤7:=by decide):Cvd l:=⟨vp_b h,(sz_lit h).mono (by omega),h2⟩
theorem Zqu{l:List Int}(h:litb l=true):Sz 40 l:=sz_lit h
theorem Zvg{k:Int}{a b:R2}(ha:Ef a)(hb:Ef b)(h:k=1∨k=2:=by decide):ValP [(k,a,b)]:=fun z hz=>by
 rw [List.mem_singleton.1 hz];exact⟨h,ha,hb⟩
theorem Ztf{xs:List Int}{r m:Int}(h:¬Bs xs r∧Bs xs (r+1)∧bl r.natAbs≤60)(c1:Cvd (Hl xs m))(c2:Cvd (Hl xs (m+1)))(h1:ngb (Pw (Hl xs m)) (chx (Hl xs m)) (0,1) (1,1)=false)(h2:ngb (Pw (Hl xs (m+1))) (chx (Hl xs (m+1))) (0,1) (1,1)=true):r=m:=by
 have l1:¬Bs xs m:=fun e=>by rw [(Gz c1).2 e]at h1;exact absurd h1 (by decide)
 have l2:Bs xs (m+1):=(Gz c2).1 h2
 have a1:=Zez h.1 l2
 have a2:=Zez l1 h.2.1
 omega
def smR(r:RWL):Bool:=(r.all fun c=>decide (c.2.size≤4)) && decide (r.length≤7)
theorem smR_no{r:RWL}{i:Nat}(hi:i<r.length)(h:(4:Int)<((r.getD i (false,⟨#[]⟩)).2.size:Int)):smR r=false:=by
 unfold smR
 rw [show(r.all fun c=>decide (c.2.size≤4))=false from ?_]
 ·simp
 ·rw [List.all_eq_false]
  refine⟨r.getD i (false,⟨#[]⟩),Yv hi,?_⟩
  rw [decide_eq_false (by omega)];decide
theorem smR_yes{r:RWL}(h:∀k,k<r.length→(r.getD k (false,⟨#[]⟩)).2.size≤4):smR r=decide ((r.length:Int)≤7):=by
 unfold smR
 rw [show(r.all fun c=>decide (c.2.size≤4))=true from ?_,Bool.true_and]
 ·exact decide_eq_decide.2 (by omega)
 ·rw [List.all_eq_true]
  intro c hc
  obtain⟨k,hk,rfl⟩:=List.mem_iff_getElem.1 hc
  have:=h k hk
  rw [List.getD_eq_getElem?_getD,List.getElem?_eq_getElem hk]at this
  exact decide_eq_true this
theorem smR_le{r:RWL}(h:smR r=true):r.length≤7∧∀c∈r,c.2.size≤4:=by
 unfold smR at h
 rw [Bool.and_eq_true,List.all_eq_true]at h
 exact⟨of_decide_eq_true h.2,fun c hc=>of_decide_eq_true (h.1 c hc)⟩
def enR(z:RZ):Bool:=decide (z.1.2.size≤4) && decide (z.2.2.size≤4)
theorem Zjz(x:Int)(hx:inI x):Ml prog 47 #[.int .i64 x] [] (wv x):=by
 refine Ya func47 J ntmps47 J trivial ?_
 intro w0 sc hw hsc
 simp only [Zp,Zn]
 have hxa:=hx.1
 have hxb:=hx.2
 have hbx:=inI_bl hx
 exact Zc<|Zg<|tt (Zo (i:=1) J J zeroValue31 J J hw) fun b _=>Zf<|Za<|Zc<|Zg<|mv J<|tt (Zh (n:=2) (Cd _ hx) J J J K1 call34 Ze J hw) fun v _=>tt (Zh (n:=2) (r_to _ _) J J J K1 call53 (Zb 2 J J J Ze) J hw) fun _ _=>tt (Zm (i:=1) J J J J J (by decide) J Yj J J ⟨Zd J,Zd J,trivial⟩ J hw trivial) fun _ _=>Zf<|Za<|Zv<|Yn (.inl J) hsc () _ (fun a w hs=>Nn hs results47 (Yr (i:=1) J J Qj Yj J)) J trivial J Zk
theorem law4_p(v:Value)(l:List Int)(hl:∀x∈l,inI x)(hlen:l.length≤1000):Cal prog 44 #[v] [slp 1 Ay v l] true (G:=Value) (fun r=>True) (fun r=>r) (fun r=>[slp 2 wv r (tzl l)]):=by
 refine Ya func44 J ntmps44 J K1 ?_
 intro w0 sc hw hsc
 simp only [Zp,Zn]
 have hsz:=Zd5 hl
 exact Zc<|Zg<|as_ J<|Zf<|Za<|Zc<|Zg<|mv J<|tt (Zh (n:=2) (rp_nums _ _ hl hlen) J J J K1 call102 (Zb 1 J J J Ze) J hw) fun g hg=>tt (Zh (n:=3) (rp_to _ _ (by rw [hg];exact(Sz.tzl hsz).mono (by omega)) (by have h7:=congrArg List.length hg;rw [Zr]at h7;have h8:=Hu l;omega)) J J J K1 call18 (Zb 2 J J J Ze) J hw) fun v _=>as_ J<|Zf<|Za<|Zv<|Yn (.inl J) hsc _ _ (fun a w hs=>Nn hs results44 J) J trivial J (Yk 3 J J J (congrArg (slp 2 wv _) hg) Zk)
theorem La(x y:Int)(hx:inI x)(hy:inI y):Ml prog 45 #[.int .i64 x,.int .i64 y] [] (rX x y):=by
 refine Ya func45 J ntmps45 J trivial ?_
 intro w0 sc hw hsc
 simp only [Zp,Zn]
 exact Zc<|Zg<|tt (Zo (i:=1) J J zeroValue41 J J hw) fun b _=>Zf<|Za<|Zc<|Zg<|mv J<|tt (Zh (n:=1) (Zjz _ hx) J J J K1 call47 Ze J hw) fun _ _=>mv J<|tt (Zh (n:=1) (Zjz _ hy) J J J K1 call47 Ze J hw) fun _ _=>dt (Pz (ivs:=[(0,_),(1,_)]) J K4 (fun a w hs=>Zfd))<|tt (Zm (i:=1) J J J J J (by decide) J Xz J J ⟨Zd J,Zd J,Zd J,Zd J,trivial⟩ J hw trivial) fun _ _=>Zf<|Za<|Zv<|Yn (.inl J) hsc () _ (fun a w hs=>Nn hs results45 (Yr (i:=1) J J Pv Xz J)) J trivial J Zk
theorem Za3(k x y:Int)(hx:inI x)(hy:inI y):Cal prog 48 #[.int .i64 k,.int .i64 x,.int .i64 y] [] true (G:=Value) (fun r=>True) (fun r=>r) (fun r=>[slp 9 Zif r [(k,(x,1),(y,1))]]):=by
 refine Ya func48 J ntmps48 J trivial ?_
 intro w0 sc hw hsc
 simp only [Zp,Zn]
 exact Zc<|Zg<|as_ J<|Zf<|Za<|Zc<|Zg<|mv J<|mv J<|tt (Zh (n:=0) (La _ _ hx ⟨by decide,by decide⟩) J J J K2 Zct Ze J hw) fun _ _=>mv J<|tt (Zh (n:=0) (La _ _ hy ⟨by decide,by decide⟩) J J J K2 Zct Ze J hw) fun _ _=>dt (Pz (ivs:=[(0,_),(1,_),(2,_)]) J K6 (fun a w hs=>b79_012 ((Zd J) a w hs)))<|tt (Pn (i:=1) (ivs:=[(0,_)]) (enc:=Zif) [(k,(x,1),(y,1))] J J K2 Zvi ti79 J J (fill19 _ _ _ _ _ _ _ _ _ _ _ _ _ _ _ _ _ _) J J pP9.cells J J hw) fun v _=>as_ J<|Zf<|Za<|Zv<|Yn (.inl J) hsc _ _ (fun a w hs=>Nn hs results48 J) J trivial J (Zoa 1 J J pP9 Zk)
theorem Za4(x y:Int)(hx:inI x)(hy:inI y):Ml prog 46 #[.int .i64 x,.int .i64 y] [] (.agg #[.bool (decide (x<0)),.string (Qq x.natAbs),.bool (decide ((1:Int)<0)),.string (Qq (1:Int).natAbs),.bool (decide (y<0)),.string (Qq y.natAbs),.bool (decide ((1:Int)<0)),.string (Qq (1:Int).natAbs)]):=by
 refine Ya func46 J ntmps46 J trivial ?_
 intro w0 sc hw hsc
 simp only [Zp,Zn]
 exact Zc<|Zg<|tt (Zo (i:=1) J J zeroValue62 J J hw) fun bx _=>Zf<|Za<|Zc<|Zg<|mv J<|tt (Zh (n:=1) (La _ _ hx ⟨by decide,by decide⟩) J J J K2 Zct Ze J hw) fun _ _=>mv J<|tt (Zh (n:=1) (La _ _ hy ⟨by decide,by decide⟩) J J J K2 Zct Ze J hw) fun _ _=>dt (Pz (ivs:=[(0,_),(1,_)]) J K4 (fun a w hs=>b62_01))<|tt (Zm (i:=1) J J J J J (by decide) J Bl J J ⟨Zd J,Zd J,Zd J,Zd J,Zd J,Zd J,Zd J,Zd J,trivial⟩ J hw trivial) fun _ _=>Zf<|Za<|Zv<|Yn (.inl J) hsc () _ (fun a w hs=>Nn hs results46 (Yr (i:=1) J J Ziw Bl J)) J trivial J Zk
theorem Zb9(v:Value)(r:List (Bool×ByteArray)):Ml prog 10 #[v] [slp 2 Zie v r] (.bool (smR r)):=by
 refine Ya func10 J ntmps10 J K1 ?_
 intro w0 sc hw hsc
 simp only [Zp,Zn]
 refine Mc (Gj (i:=1) J Zi) fun hlen=>Zc<|Zg<|as_ J<|Zf<|Za<|Zc<|Zc<|Zg<|mv J<|dt (Yb J J (i:=1) J Zi Qp)<|mv J<|Zf<|Za<|Zl<|Nt [(0,_),(5,_),(6,_)] [(0,_),(1,_)] (fun(i:Nat)=>[(7,.int .i64 (i:Int))]) (fun(i:Nat)=>[]) (fun(i:Nat)=>(i≤r.length)∧(∀k,k<i→(r.getD k (false,⟨#[]⟩)).2.size≤4)) (fun(i:Nat)=>r.length-i) 0 ⟨by first | omega | (dsimp only<;>omega),fun k hk=>absurd hk (Nat.not_lt_zero k)⟩ K4 K2 ?_
 rintro i ⟨hi,hk⟩
 simp only [CA,NA]
 refine Zc<|Zg<|dt (Xu J J J)<|Zf<|Za<|Zc<|Zq J (fun h56=>?_) (fun h56=>?_)
 ·refine Zj<|Za<|Zc<|Zl<|Zc<|Zg<|dt (Yw (ii:=1) J J J J Zi Qp Yj J (by first | omega | (simp only [List.length_set];omega)))<|dt (Xm (ii:=1) (false,⟨#[]⟩) J J J Zi pW (by first | omega | (simp only [List.length_set];omega)))<|tt (Zo (i:=2) J J zeroValue31 J J hw) fun b _=>tt (Zm (i:=2) J J J J J (by decide) J Yj J J ⟨Zd J,Zd J,trivial⟩ J hw trivial) fun _ _=>Zf<|Za<|Zc<|Zg<|dt (Xx J J Zcw J zT9 J J)<|dt (Ok (i:=2) J J J iA9 J)<|dt (Cp J J uT9)<|dt (Oq J J J)<|Zf<|Za<|Zq J (fun h57=>?_) (fun h57=>?_)
  ·exact Zc<|Zg<|as_ J<|Zf<|Za<|Zv<|Hf<|Xc<|Xc<|Hf<|Xc<|xU hsc results10 J J (by rw [smR_no (i:=i) (by omega) ‹_›])
  ·exact Zj<|Oa<|Za<|Zg<|dt (Ys J J J ⟨by omega,by omega⟩)<|mv J<|Zf<|Xk (i+1) ⟨by first | omega | (dsimp only<;>omega),fun k hk2=>by rcases Nat.lt_succ_iff_lt_or_eq.1 hk2 with h9 | h9;exact hk k h9;subst h9;omega⟩ (by first | omega | (dsimp only<;>omega)) K4 K2
 ·exact Yu<|Zu<|Zu<|Ox<|Za<|Zc<|Zg<|mv J<|dt (Yb J J (i:=1) J Zi Qp)<|dt (Co J J J)<|as_ J<|Zf<|Za<|Zv<|xU hsc results10 J J (by rw [smR_yes fun k hk2=>hk k (by omega)])
theorem k_od1(v:Value):Cal Tryz.prog 12 #[v] [slp 2 wv v [0,0,-1,1]] true (G:=Value) (fun r=>True) (fun r=> .tuple #[r,.int .i64 0]) (fun r=>[slp 2 wv r [-1,1]]):=by
 have h:=Zk5 v [0,0,-1,1] (Ze8 (by decide +kernel)) 
 rw [show Hq [0,0,-1,1]=[-1,1] by decide +kernel]at h
 exact h
theorem k_od2(v:Value):Cal Tryz.prog 12 #[v] [slp 2 wv v [4,-4,1]] true (G:=Value) (fun r=>True) (fun r=> .tuple #[r,.int .i64 0]) (fun r=>[slp 2 wv r [1]]):=by
 have h:=Zk5 v [4,-4,1] (Ze8 (by decide +kernel)) 
 rw [show Hq [4,-4,1]=[1] by decide +kernel]at h
 exact h
theorem k_od3(v:Value):Cal Tryz.prog 12 #[v] [slp 2 wv v [-7]] true (G:=Value) (fun r=>True) (fun r=> .tuple #[r,.int .i64 0]) (fun r=>[slp 2 wv r [1]]):=by
 have h:=Zk5 v [-7] (Ze8 (by decide +kernel)) 
 rw [show Hq [-7]=[1] by decide +kernel]at h
 exact h
theorem k_ng1(v:Value):Cal Tryz.prog 21 #[v,.agg #[.bool (decide ((0:Int)<0)),.string (Qq (0:Int).natAbs),.bool (decide ((1:Int)<0)),.string (Qq (1:Int).natAbs)],.agg #[.bool (decide ((2:Int)<0)),.string (Qq (2:Int).natAbs),.bool (decide ((1:Int)<0)),.string (Qq (1:Int).natAbs)]] [slp 2 wv v [1,-2,1]] false (G:=Unit) (fun _=>True) (fun _=> .tuple #[.agg #[.bool false,.string ⟨#[]⟩,.bool false,.string ⟨#[]⟩],.bool false,.int .i64 0]) (fun _=>[]):=by
 have h:=Bu v [1,-2,1] ((0:Int),(1:Int)) ((2:Int),(1:Int)) (Ze8 (by decide +kernel)) ⟨by decide,by decide +kernel,by decide +kernel⟩ ⟨by decide,by decide +kernel,by decide +kernel⟩ (by decide +kernel) (by decide +kernel)
 exact h
theorem k_ng2(v:Value):Cal Tryz.prog 21 #[v,.agg #[.bool (decide ((-1:Int)<0)),.string (Qq (-1:Int).natAbs),.bool (decide ((1:Int)<0)),.string (Qq (1:Int).natAbs)],.agg #[.bool (decide ((1:Int)<0)),.string (Qq (1:Int).natAbs),.bool (decide ((1:Int)<0)),.string (Qq (1:Int).natAbs)]] [slp 2 wv v [-2,0,1]] false (G:=R2) (fun r=>Fnd [-2,0,1] (qv ((-1:Int),(1:Int))) (qv ((1:Int),(1:Int))) r) (fun r=> .tuple #[.agg #[.bool (decide (r.1<0)),.string (Qq r.1.natAbs),.bool (decide (r.2<0)),.string (Qq r.2.natAbs)],.bool true,.int .i64 0]) (fun r=>[]):=by
 have h:=Dy v [-2,0,1] ((-1:Int),(1:Int)) ((1:Int),(1:Int)) (Ze8 (by decide +kernel)) ⟨by decide,by decide +kernel,by decide +kernel⟩ ⟨by decide,by decide +kernel,by decide +kernel⟩ (by decide +kernel) (by decide +kernel)
 exact h
theorem k_ng3(v:Value):Cal Tryz.prog 21 #[v,.agg #[.bool (decide ((2:Int)<0)),.string (Qq (2:Int).natAbs),.bool (decide ((1:Int)<0)),.string (Qq (1:Int).natAbs)],.agg #[.bool (decide ((3:Int)<0)),.string (Qq (3:Int).natAbs),.bool (decide ((1:Int)<0)),.string (Qq (1:Int).natAbs)]] [slp 2 wv v [-2,0,1]] false (G:=Unit) (fun _=>True) (fun _=> .tuple #[.agg #[.bool false,.string ⟨#[]⟩,.bool false,.string ⟨#[]⟩],.bool false,.int .i64 0]) (fun _=>[]):=by
 have h:=Bu v [-2,0,1] ((2:Int),(1:Int)) ((3:Int),(1:Int)) (Ze8 (by decide +kernel)) ⟨by decide,by decide +kernel,by decide +kernel⟩ ⟨by decide,by decide +kernel,by decide +kernel⟩ (by decide +kernel) (by decide +kernel)
 exact h
theorem k_fs1(v:Value):Cal Tryz.prog 31 #[v,.agg #[.bool (decide ((0:Int)<0)),.string (Qq (0:Int).natAbs),.bool (decide ((1:Int)<0)),.string (Qq (1:Int).natAbs)],.agg #[.bool (decide ((2:Int)<0)),.string (Qq (2:Int).natAbs),.bool (decide ((1:Int)<0)),.string (Qq (1:Int).natAbs)],.int .i64 1] [slp 2 wv v [-1,1]] false (G:=Unit) (fun _=>True) (fun _=> .tuple #[.agg #[.bool (decide ((0:Int)<0)),.string (Qq (0:Int).natAbs),.bool (decide ((1:Int)<0)),.string (Qq (1:Int).natAbs),.bool (decide ((1:Int)<0)),.string (Qq (1:Int).natAbs),.bool (decide ((1:Int)<0)),.string (Qq (1:Int).natAbs)],.int .i64 0]) (fun _=>[]):=by
 have h:=Zef v [-1,1] ((0:Int),(1:Int)) ((2:Int),(1:Int)) (Ze8 (by decide +kernel)) ⟨by decide,by decide +kernel,by decide +kernel⟩ ⟨by decide,by decide +kernel,by decide +kernel⟩ 1 (by decide +kernel) (by decide +kernel)
 rw [show frs [-1,1] 1 (slow ((0:Int),(1:Int))) (slow ((2:Int),(1:Int)))=(((0:Int),(1:Int)),((1:Int),(1:Int))) by decide +kernel]at h
 exact h
theorem k_fs2(v:Value):Cal Tryz.prog 31 #[v,.agg #[.bool (decide ((0:Int)<0)),.string (Qq (0:Int).natAbs),.bool (decide ((1:Int)<0)),.string (Qq (1:Int).natAbs)],.agg #[.bool (decide ((4:Int)<0)),.string (Qq (4:Int).natAbs),.bool (decide ((1:Int)<0)),.string (Qq (1:Int).natAbs)],.int .i64 2] [slp 2 wv v [1,-1]] false (G:=Unit) (fun _=>True) (fun _=> .tuple #[.agg #[.bool (decide ((1:Int)<0)),.string (Qq (1:Int).natAbs),.bool (decide ((1:Int)<0)),.string (Qq (1:Int).natAbs),.bool (decide ((2:Int)<0)),.string (Qq (2:Int).natAbs),.bool (decide ((1:Int)<0)),.string (Qq (1:Int).natAbs)],.int .i64 0]) (fun _=>[]):=by
 have h:=Zef v [1,-1] ((0:Int),(1:Int)) ((4:Int),(1:Int)) (Ze8 (by decide +kernel)) ⟨by decide,by decide +kernel,by decide +kernel⟩ ⟨by decide,by decide +kernel,by decide +kernel⟩ 2 (by decide +kernel) (by decide +kernel)
 rw [show frs [1,-1] 2 (slow ((0:Int),(1:Int))) (slow ((4:Int),(1:Int)))=(((1:Int),(1:Int)),((2:Int),(1:Int))) by decide +kernel]at h
 exact h
theorem k_fs3(v:Value):Cal Tryz.prog 31 #[v,.agg #[.bool (decide ((0:Int)<0)),.string (Qq (0:Int).natAbs),.bool (decide ((1:Int)<0)),.string (Qq (1:Int).natAbs)],.agg #[.bool (decide ((1:Int)<0)),.string (Qq (1:Int).natAbs),.bool (decide ((1:Int)<0)),.string (Qq (1:Int).natAbs)],.int .i64 3] [slp 2 wv v [1,0,1]] false (G:=Unit) (fun _=>True) (fun _=> .tuple #[.agg #[.bool false,.string ⟨#[]⟩,.bool false,.string ⟨#[]⟩,.bool false,.string ⟨#[]⟩,.bool false,.string ⟨#[]⟩],.int .i64 9]) (fun _=>[]):=by
 have h:=Zhg v [1,0,1] ((0:Int),(1:Int)) ((1:Int),(1:Int)) (Ze8 (by decide +kernel)) ⟨by decide,by decide +kernel,by decide +kernel⟩ ⟨by decide,by decide +kernel,by decide +kernel⟩ 3 (by decide) (by decide +kernel) (by decide +kernel)
 exact h
theorem k_pv(v:Value):Cal Tryz.prog 38 #[v,.agg #[.bool (decide ((0:Int)<0)),.string (Qq (0:Int).natAbs),.bool (decide ((1:Int)<0)),.string (Qq (1:Int).natAbs)],.agg #[.bool (decide ((2:Int)<0)),.string (Qq (2:Int).natAbs),.bool (decide ((1:Int)<0)),.string (Qq (1:Int).natAbs)]] [slp 2 wv v [-1,1]] false (G:=Unit) (fun _=>True) (fun _=> .tuple #[.slice none 0 0,.int .i64 10]) (fun _=>[]):=by
 have h:=Zk6 v [-1,1] ((0:Int),(1:Int)) ((2:Int),(1:Int)) (Ze8 (by decide +kernel)) ⟨by decide,by decide +kernel,by decide +kernel⟩ ⟨by decide,by decide +kernel,by decide +kernel⟩ (by decide +kernel) (by decide +kernel)
 exact h
theorem k_ck1(v u:Value):Cal Tryz.prog 41 #[v,.agg #[.bool (decide ((0:Int)<0)),.string (Qq (0:Int).natAbs),.bool (decide ((1:Int)<0)),.string (Qq (1:Int).natAbs)],.agg #[.bool (decide ((2:Int)<0)),.string (Qq (2:Int).natAbs),.bool (decide ((1:Int)<0)),.string (Qq (1:Int).natAbs)],u] [slp 2 wv v [1,-2,1],slp 9 Zif u [((2:Int),((0:Int),(1:Int)),((2:Int),(1:Int)))]] false (G:=Unit) (fun _=>True) (fun _=> .int .i64 0) (fun _=>[]):=by
 have h:=Ew v u [1,-2,1] [((2:Int),((0:Int),(1:Int)),((2:Int),(1:Int)))] ((0:Int),(1:Int)) ((2:Int),(1:Int)) (Ze8 (by decide +kernel)) ⟨by decide,by decide +kernel,by decide +kernel⟩ ⟨by decide,by decide +kernel,by decide +kernel⟩ (Zvg ⟨by decide,by decide +kernel,by decide +kernel⟩ ⟨by decide,by decide +kernel,by decide +kernel⟩) (by decide +kernel)
 rw [show Zvb [1,-2,1] [((2:Int),((0:Int),(1:Int)),((2:Int),(1:Int)))] ((0:Int),(1:Int)) ((2:Int),(1:Int))=true by decide +kernel]at h
 exact h
theorem k_ck2(v u:Value):Cal Tryz.prog 41 #[v,.agg #[.bool (decide ((0:Int)<0)),.string (Qq (0:Int).natAbs),.bool (decide ((1:Int)<0)),.string (Qq (1:Int).natAbs)],.agg #[.bool (decide ((2:Int)<0)),.string (Qq (2:Int).natAbs),.bool (decide ((1:Int)<0)),.string (Qq (1:Int).natAbs)],u] [slp 2 wv v [1,1],slp 9 Zif u [((1:Int),((0:Int),(1:Int)),((2:Int),(1:Int)))]] false (G:=Unit) (fun _=>True) (fun _=> .int .i64 0) (fun _=>[]):=by
 have h:=Ew v u [1,1] [((1:Int),((0:Int),(1:Int)),((2:Int),(1:Int)))] ((0:Int),(1:Int)) ((2:Int),(1:Int)) (Ze8 (by decide +kernel)) ⟨by decide,by decide +kernel,by decide +kernel⟩ ⟨by decide,by decide +kernel,by decide +kernel⟩ (Zvg ⟨by decide,by decide +kernel,by decide +kernel⟩ ⟨by decide,by decide +kernel,by decide +kernel⟩) (by decide +kernel)
 rw [show Zvb [1,1] [((1:Int),((0:Int),(1:Int)),((2:Int),(1:Int)))] ((0:Int),(1:Int)) ((2:Int),(1:Int))=true by decide +kernel]at h
 exact h
theorem k_ck3(v u:Value):Cal Tryz.prog 41 #[v,.agg #[.bool (decide ((0:Int)<0)),.string (Qq (0:Int).natAbs),.bool (decide ((1:Int)<0)),.string (Qq (1:Int).natAbs)],.agg #[.bool (decide ((2:Int)<0)),.string (Qq (2:Int).natAbs),.bool (decide ((1:Int)<0)),.string (Qq (1:Int).natAbs)],u] [slp 2 wv v [1,-2,1],slp 9 Zif u [((1:Int),((0:Int),(1:Int)),((2:Int),(1:Int)))]] false (G:=Unit) (fun _=>True) (fun _=> .int .i64 10) (fun _=>[]):=by
 have h:=Ew v u [1,-2,1] [((1:Int),((0:Int),(1:Int)),((2:Int),(1:Int)))] ((0:Int),(1:Int)) ((2:Int),(1:Int)) (Ze8 (by decide +kernel)) ⟨by decide,by decide +kernel,by decide +kernel⟩ ⟨by decide,by decide +kernel,by decide +kernel⟩ (Zvg ⟨by decide,by decide +kernel,by decide +kernel⟩ ⟨by decide,by decide +kernel,by decide +kernel⟩) (by decide +kernel)
 rw [show Zvb [1,-2,1] [((1:Int),((0:Int),(1:Int)),((2:Int),(1:Int)))] ((0:Int),(1:Int)) ((2:Int),(1:Int))=false by decide +kernel]at h
 exact h
theorem k_ck4(v u:Value):Cal Tryz.prog 41 #[v,.agg #[.bool (decide ((0:Int)<0)),.string (Qq (0:Int).natAbs),.bool (decide ((1:Int)<0)),.string (Qq (1:Int).natAbs)],.agg #[.bool (decide ((2:Int)<0)),.string (Qq (2:Int).natAbs),.bool (decide ((1:Int)<0)),.string (Qq (1:Int).natAbs)],u] [slp 2 wv v [1,1],slp 9 Zif u [((1:Int),((0:Int),(1:Int)),((1:Int),(1:Int)))]] false (G:=Unit) (fun _=>True) (fun _=> .int .i64 10) (fun _=>[]):=by
 have h:=Ew v u [1,1] [((1:Int),((0:Int),(1:Int)),((1:Int),(1:Int)))] ((0:Int),(1:Int)) ((2:Int),(1:Int)) (Ze8 (by decide +kernel)) ⟨by decide,by decide +kernel,by decide +kernel⟩ ⟨by decide,by decide +kernel,by decide +kernel⟩ (Zvg ⟨by decide,by decide +kernel,by decide +kernel⟩ ⟨by decide,by decide +kernel,by decide +kernel⟩) (by decide +kernel)
 rw [show Zvb [1,1] [((1:Int),((0:Int),(1:Int)),((1:Int),(1:Int)))] ((0:Int),(1:Int)) ((2:Int),(1:Int))=false by decide +kernel]at h
 exact h
theorem k_fl1(r:Int)(h:¬Bs [0,-1,1] r∧Bs [0,-1,1] (r+1)∧bl r.natAbs≤60):r=-1:=Ztf (m:=-1) h (Ze8 (by decide +kernel)) (Ze8 (by decide +kernel)) (by decide +kernel) (by decide +kernel)
theorem k_fc1(v:Value):Cal Tryz.prog 33 #[v] [slp 2 wv v [0,-1,1]] false (G:=Int) (fun r=>¬Bs [0,-1,1] r∧Bs [0,-1,1] (r+1)∧bl r.natAbs≤60) (fun r=> .tuple #[wv r,.int .i64 0]) (fun r=>[]):=by
 have h:=Zc8 v [0,-1,1] (Ze8 (by decide +kernel)) (Zqu (by decide +kernel))
 exact h
theorem k_fl2(r:Int)(h:¬Bs [7] r∧Bs [7] (r+1)∧bl r.natAbs≤60):r=7:=Ztf (m:=7) h (Ze8 (by decide +kernel)) (Ze8 (by decide +kernel)) (by decide +kernel) (by decide +kernel)
theorem k_fc2(v:Value):Cal Tryz.prog 33 #[v] [slp 2 wv v [7]] false (G:=Int) (fun r=>¬Bs [7] r∧Bs [7] (r+1)∧bl r.natAbs≤60) (fun r=> .tuple #[wv r,.int .i64 0]) (fun r=>[]):=by
 have h:=Zc8 v [7] (Ze8 (by decide +kernel)) (Zqu (by decide +kernel))
 exact h
theorem k_fl3(r:Int)(h:¬Bs [3,-1] r∧Bs [3,-1] (r+1)∧bl r.natAbs≤60):r=2:=Ztf (m:=2) h (Ze8 (by decide +kernel)) (Ze8 (by decide +kernel)) (by decide +kernel) (by decide +kernel)
theorem k_fc3(v:Value):Cal Tryz.prog 33 #[v] [slp 2 wv v [3,-1]] false (G:=Int) (fun r=>¬Bs [3,-1] r∧Bs [3,-1] (r+1)∧bl r.natAbs≤60) (fun r=> .tuple #[wv r,.int .i64 0]) (fun r=>[]):=by
 have h:=Zc8 v [3,-1] (Ze8 (by decide +kernel)) (Zqu (by decide +kernel))
 exact h
theorem Zgh(v:Value)(l xs:List Int)(h1:(l.all fun x=>decide (-1000000≤x) && decide (x≤1000000))=true)(hx:tzl l=xs)(h2:l.length≤1000:=by decide):Cal Tryz.prog 44 #[v] [slp 1 Ay v l] true (G:=Value) (fun r=>True) (fun r=>r) (fun r=>[slp 2 wv r xs]):=by
 subst hx;exact law4_p v l (Zta h1) h2
set_option maxHeartbeats 4000000 in
theorem Kw:Ml prog 11 #[] [] (.bool true):=by
 refine Ya func11 J ntmps11 J trivial ?_
 intro w0 sc hw hsc
 simp only [Zp,Zn]
 refine Yl (Nj 999 2 31 wv)<|Yl (Qz 999 J J pV)<|Zc<|Zg<|as_ J<|Zf<|Za<|Zc<|Zg<|tt (Pn (i:=1) (ivs:=[(0,_),(1,_),(2,_),(3,_)]) (enc:=Ay) ([0,0,-1,1]:List Int) J J K8 Ny ti3 J J J J J pZ.cells J J hw) fun v _=>Pr (Qz 1 J J pZ)<|tt (Zh (n:=2) (Zgh _ [0,0,-1,1] [0,0,-1,1] (by decide +kernel) (by decide +kernel)) J J J K1 Zgo (Zb 1 J J J Ze) J hw) fun v_2 _=>tt (Zh (n:=3) (k_od1 _) J J J K1 call12 (Zb 2 J J J Ze) J hw) fun _ _=>mv J<|dt (Yf J J J)<|dt (Yf J J J)<|as_ J<|as_ J<|Zf<|Za<|Zc<|Zg<|tt (Pn (i:=4) (ivs:=[(0,_),(1,_),(2,_)]) (enc:=Ay) ([4,-4,1]:List Int) J J K6 Ny ti3 J J J J J pZ.cells J J hw) fun v_3 _=>Pr (Qz 4 J J pZ)<|tt (Zh (n:=5) (Zgh _ [4,-4,1] [4,-4,1] (by decide +kernel) (by decide +kernel)) J J J K1 Zgo (Zb 4 J J J Ze) J hw) fun v_4 _=>tt (Zh (n:=6) (k_od2 _) J J J K1 call12 (Zb 5 J J J Ze) J hw) fun _ _=>mv J<|dt (Yf J J J)<|dt (Yf J J J)<|as_ J<|as_ J<|Zf<|Za<|Zc<|Zg<|tt (Pn (i:=7) (ivs:=[(0,_)]) (enc:=Ay) ([-7]:List Int) J J K2 Ny ti3 J J J J J pZ.cells J J hw) (fun v_5 _=>?_)
 refine Pr (Qz 7 J J pZ)<|tt (Zh (n:=8) (Zgh _ [-7] [-7] (by decide +kernel) (by decide +kernel)) J J J K1 Zgo (Zb 7 J J J Ze) J hw) fun v_6 _=>tt (Zh (n:=9) (k_od3 _) J J J K1 call12 (Zb 8 J J J Ze) J hw) fun _ _=>mv J<|dt (Yf J J J)<|dt (Yf J J J)<|as_ J<|as_ J<|Zf<|Za<|Zc<|Zc<|Zg<|mv J<|tt (Pn (i:=10) (ivs:=[(0,_),(1,_)]) (enc:=Ay) ([-1,1]:List Int) J J K4 Ny ti3 J J J J J pZ.cells J J hw) fun v_7 _=>Pr (Qz 10 J J pZ)<|tt (Zh (n:=11) (Zgh _ [-1,1] [-1,1] (by decide +kernel) (by decide +kernel)) J J J K1 Zgo (Zb 10 J J J Ze) J hw) fun v_8 _=>tt (Zh (n:=11) (Zen _ _ _ _) J J J K2 call17 (Zb 3 J J J (Zb 11 J J J Ze)) J hw) fun _ _=>dt (Yc (r':= .bool false) (Ze6 J J) (congrArg Value.bool (by decide)))<|mv J<|gdt (Ym J J) J J<|gdt (Yc (r':= .bool false) (Qb J J J) (congrArg Value.bool (by decide))) J J<|dt (Yh J J J)<|mv J<|gdt (Ym J J) J J<|gtt (Pn (i:=12) (ivs:=[(0,_)]) (enc:=Ay) ([1]:List Int) J J K2 Ny ti3 J J J J J pZ.cells J J hw) J J J fun v_9 _=>Pr (Qz 12 J J pZ) ?_
 refine gtt (Zh (n:=13) (Zgh _ [1] [1] (by decide +kernel) (by decide +kernel)) J J J K1 Zgo (Zb 12 J J J Ze) J hw) J J J fun v_10 _=>gtt (Zh (n:=13) (Zen _ _ _ _) J J J K2 call17 (Zb 6 J J J (Zb 13 J J J Ze)) J hw) J J J fun _ _=>gdt (Yc (r':= .bool false) (Ze6 J J) (congrArg Value.bool (by decide))) J J<|dt (Yh J J J)<|mv J<|gdt (Ym J J) J J<|gdt (Yc (r':= .bool false) (Qb J J J) (congrArg Value.bool (by decide))) J J<|dt (Yh J J J)<|mv J<|gdt (Ym J J) J J<|gtt (Pn (i:=14) (ivs:=[(0,_)]) (enc:=Ay) ([1]:List Int) J J K2 Ny ti3 J J J J J pZ.cells J J hw) J J J fun v_11 _=>Pr (Qz 14 J J pZ)<|gtt (Zh (n:=15) (Zgh _ [1] [1] (by decide +kernel) (by decide +kernel)) J J J K1 Zgo (Zb 14 J J J Ze) J hw) J J J fun v_12 _=>gtt (Zh (n:=15) (Zen _ _ _ _) J J J K2 call17 (Zb 9 J J J (Zb 15 J J J Ze)) J hw) J J J fun _ _=>gdt (Yc (r':= .bool false) (Ze6 J J) (congrArg Value.bool (by decide))) J J<|dt (Yh J J J)<|mv J<|gdt (Ym J J) J J<|gdt (Yc (r':= .bool false) (Qb J J J) (congrArg Value.bool (by decide))) J J<|dt (Yh J J J)<|Zf<|Za<|Ye J<|Zj<|Za<|Zc<|Zg ?_
 refine tt (Pn (i:=16) (ivs:=[(0,_),(1,_),(2,_)]) (enc:=Ay) ([1,-2,1]:List Int) J J K6 Ny ti3 J J J J J pZ.cells J J hw) fun v_13 _=>Pr (Qz 16 J J pZ)<|tt (Zh (n:=17) (Zgh _ [1,-2,1] [1,-2,1] (by decide +kernel) (by decide +kernel)) J J J K1 Zgo (Zb 16 J J J Ze) J hw) fun v_14 _=>tt (Zh (n:=17) (La _ _ ⟨by decide,by decide⟩ ⟨by decide,by decide⟩) J J J K2 Zct Ze J hw) fun _ _=>tt (Zh (n:=17) (La _ _ ⟨by decide,by decide⟩ ⟨by decide,by decide⟩) J J J K2 Zct Ze J hw) fun _ _=>tt (Zh (n:=17) (k_ng1 _) J J J K3 call21 (Zb 17 J J J Ze) J hw) fun _ _=>mv J<|dt (Yf J J J)<|dt (Yf J J J)<|dt (Yf J J J)<|tt (Zo (i:=18) J J zeroValue41 J J hw) fun bx _=>tt (Zm (i:=18) J J J J J (by decide) J Xz J J ⟨Zd J,Zd J,Zd J,Zd J,trivial⟩ J hw trivial) fun _ _=>as_ J<|as_ J<|Zf<|Za<|Zc<|Zg<|tt (Pn (i:=19) (ivs:=[(0,_),(1,_),(2,_)]) (enc:=Ay) ([-2,0,1]:List Int) J J K6 Ny ti3 J J J J J pZ.cells J J hw) fun v_15 _=>Pr (Qz 19 J J pZ) ?_
 refine tt (Zh (n:=20) (Zgh _ [-2,0,1] [-2,0,1] (by decide +kernel) (by decide +kernel)) J J J K1 Zgo (Zb 19 J J J Ze) J hw) fun v_16 _=>tt (Zh (n:=20) (La _ _ ⟨by decide,by decide⟩ ⟨by decide,by decide⟩) J J J K2 Zct Ze J hw) fun _ _=>tt (Zh (n:=20) (La _ _ ⟨by decide,by decide⟩ ⟨by decide,by decide⟩) J J J K2 Zct Ze J hw) fun _ _=>tt (Zh (n:=20) (k_ng2 _) J J J K3 call21 (Zb 20 J J J Ze) J hw) fun _ _=>mv J<|dt (Yf J J J)<|dt (Yf J J J)<|dt (Yf J J J)<|tt (Zo (i:=21) J J zeroValue41 J J hw) fun bx_2 _=>tt (Zm (i:=21) J J J J J (by decide) J Xz J J ⟨Zd J,Zd J,Zd J,Zd J,trivial⟩ J hw trivial) fun _ _=>as_ J<|as_ J<|Zf<|Za<|Zc<|Zg<|tt (Pn (i:=22) (ivs:=[(0,_),(1,_),(2,_)]) (enc:=Ay) ([-2,0,1]:List Int) J J K6 Ny ti3 J J J J J pZ.cells J J hw) fun v_17 _=>Pr (Qz 22 J J pZ)<|tt (Zh (n:=23) (Zgh _ [-2,0,1] [-2,0,1] (by decide +kernel) (by decide +kernel)) J J J K1 Zgo (Zb 22 J J J Ze) J hw) fun v_18 _=>tt (Zh (n:=23) (La _ _ ⟨by decide,by decide⟩ ⟨by decide,by decide⟩) J J J K2 Zct Ze J hw) (fun _ _=>?_)
 refine tt (Zh (n:=23) (La _ _ ⟨by decide,by decide⟩ ⟨by decide,by decide⟩) J J J K2 Zct Ze J hw) fun _ _=>tt (Zh (n:=23) (k_ng3 _) J J J K3 call21 (Zb 23 J J J Ze) J hw) fun _ _=>mv J<|dt (Yf J J J)<|dt (Yf J J J)<|dt (Yf J J J)<|tt (Zo (i:=24) J J zeroValue41 J J hw) fun bx_3 _=>tt (Zm (i:=24) J J J J J (by decide) J Xz J J ⟨Zd J,Zd J,Zd J,Zd J,trivial⟩ J hw trivial) fun _ _=>as_ J<|as_ J<|Zf<|Za<|Zc<|Zc<|Zg<|mv J<|mv J<|gdt (Ym J J) J J<|gdt (Yc (r':= .bool false) (Qb J J J) (congrArg Value.bool (by decide))) J J<|dt (Yh J J J)<|mv J<|gdt (Ym J J) J J<|gdt (Yc (r':= .bool false) (Xp J J) (congrArg Value.bool (by decide))) J J<|dt (Yh J J J)<|mv J<|gdt (Ym J J) J J<|gdt (Yc (r':= .bool false) (Qb J J J) (congrArg Value.bool (by decide))) J J<|dt (Yh J J J)<|mv J<|gdt (Ym J J) J J<|dt (Yh J J J)<|mv J<|gdt (Ym J J) J J<|gdt (Yc (r':= .bool false) (Qb J J J) (congrArg Value.bool (by decide))) J J<|dt (Yh J J J)<|Zf<|Za<|Ye J<|Zj<|Za<|Zc<|Zg<|tt (Pn (i:=25) (ivs:=[(0,_),(1,_)]) (enc:=Ay) ([-1,1]:List Int) J J K4 Ny ti3 J J J J J pZ.cells J J hw) (fun v_19 _=>?_)
 refine Pr (Qz 25 J J pZ)<|tt (Zh (n:=26) (Zgh _ [-1,1] [-1,1] (by decide +kernel) (by decide +kernel)) J J J K1 Zgo (Zb 25 J J J Ze) J hw) fun v_20 _=>tt (Zh (n:=26) (La _ _ ⟨by decide,by decide⟩ ⟨by decide,by decide⟩) J J J K2 Zct Ze J hw) fun _ _=>tt (Zh (n:=26) (La _ _ ⟨by decide,by decide⟩ ⟨by decide,by decide⟩) J J J K2 Zct Ze J hw) fun _ _=>tt (Zh (n:=26) (k_fs1 _) J J J K4 call31 (Zb 26 J J J Ze) J hw) fun _ _=>mv J<|dt (Yf J J J)<|dt (Yf J J J)<|tt (Zo (i:=27) J J zeroValue62 J J hw) fun bx_4 _=>tt (Zm (i:=27) J J J J J (by decide) J Bl J J ⟨Zd J,Zd J,Zd J,Zd J,Zd J,Zd J,Zd J,Zd J,trivial⟩ J hw trivial) fun _ _=>as_ J<|Zf<|Za<|Zc<|Zg<|tt (Pn (i:=28) (ivs:=[(0,_),(1,_)]) (enc:=Ay) ([1,-1]:List Int) J J K4 Ny ti3 J J J J J pZ.cells J J hw) fun v_21 _=>Pr (Qz 28 J J pZ)<|tt (Zh (n:=29) (Zgh _ [1,-1] [1,-1] (by decide +kernel) (by decide +kernel)) J J J K1 Zgo (Zb 28 J J J Ze) J hw) fun v_22 _=>tt (Zh (n:=29) (La _ _ ⟨by decide,by decide⟩ ⟨by decide,by decide⟩) J J J K2 Zct Ze J hw) (fun _ _=>?_)
 refine tt (Zh (n:=29) (La _ _ ⟨by decide,by decide⟩ ⟨by decide,by decide⟩) J J J K2 Zct Ze J hw) fun _ _=>tt (Zh (n:=29) (k_fs2 _) J J J K4 call31 (Zb 29 J J J Ze) J hw) fun _ _=>mv J<|dt (Yf J J J)<|dt (Yf J J J)<|tt (Zo (i:=30) J J zeroValue62 J J hw) fun bx_5 _=>tt (Zm (i:=30) J J J J J (by decide) J Bl J J ⟨Zd J,Zd J,Zd J,Zd J,Zd J,Zd J,Zd J,Zd J,trivial⟩ J hw trivial) fun _ _=>as_ J<|Zf<|Za<|Zc<|Zg<|tt (Pn (i:=31) (ivs:=[(0,_),(1,_),(2,_)]) (enc:=Ay) ([1,0,1]:List Int) J J K6 Ny ti3 J J J J J pZ.cells J J hw) fun v_23 _=>Pr (Qz 31 J J pZ)<|tt (Zh (n:=32) (Zgh _ [1,0,1] [1,0,1] (by decide +kernel) (by decide +kernel)) J J J K1 Zgo (Zb 31 J J J Ze) J hw) fun v_24 _=>tt (Zh (n:=32) (La _ _ ⟨by decide,by decide⟩ ⟨by decide,by decide⟩) J J J K2 Zct Ze J hw) fun _ _=>tt (Zh (n:=32) (La _ _ ⟨by decide,by decide⟩ ⟨by decide,by decide⟩) J J J K2 Zct Ze J hw) fun _ _=>tt (Zh (n:=32) (k_fs3 _) J J J K4 call31 (Zb 32 J J J Ze) J hw) fun _ _=>mv J<|dt (Yf J J J)<|dt (Yf J J J)<|as_ J<|Zf<|Za<|Zc ?_
 refine Zc<|Ql (fun _=>False) [(0,0),(1,1),(2,0),(3,0),(4,0),(5,0),(6,0),(7,0),(8,0),(9,1),(10,0),(11,0),(12,0),(13,0),(14,0),(15,0),(16,0),(17,0),(18,0),(19,0)] ?_ ?_
 ·kernel_rfl
 refine r0' J J (st0 (Zfq (i:=27) J J J Ziw Bl J J J J J J J J))<|r1' J (Zh (n:=32) (Za4 _ _ ⟨by decide,by decide⟩ ⟨by decide,by decide⟩) J J J K2 call46 Ze J hw) fun _ _=>r0' J J (st0 (Yc (r':= .bool false) (Zii J J J eg62 (fun w=>neq62 w _ _ _ _ _ _ _ _ _ _ _ _ _ _ _ _)) (congrArg Value.bool (by simp [Hz]))))<|r0' J J (st0 (Ym J J))<|r0g (st0 (Ym J J)) J J J J J<|r0g (st0 (Yc (r':= .bool false) (Qb J J J) (congrArg Value.bool (by decide)))) J J J J J<|r0' J J (st0 (Yh J J J))<|r0' J J (st0 (Ym J J))<|r0g (st0 (Zfq (i:=30) J J J Ziw Bl J J J J J J J J)) J J J J J<|r1g' J J J J J (Zh (n:=32) (Za4 _ _ ⟨by decide,by decide⟩ ⟨by decide,by decide⟩) J J J K2 call46 Ze J hw) fun _ _=>r0g (st0 (Yc (r':= .bool false) (Zii J J J eg62 (fun w=>neq62 w _ _ _ _ _ _ _ _ _ _ _ _ _ _ _ _)) (congrArg Value.bool (by simp [Hz])))) J J J J J<|r0' J J (st0 (Yh J J J))<|r0' J J (st0 (Ym J J))<|r0g (st0 (Ym J J)) J J J J J<|r0g (st0 (Yc (r':= .bool false) (Qb J J J) (congrArg Value.bool (by decide)))) J J J J J<|r0' J J (st0 (Yh J J J))<|r0' J J (st0 (Ym J J))<|r0g (st0 (Ym J J)) J J J J J<|r0g (st0 (Yc (r':= .bool false) (Qb J J J) (congrArg Value.bool (by decide)))) J J J J J<|r0' J J (st0 (Yh J J J)) ?_
 refine Og<|Za<|Ye J<|Zj<|Za<|Zc<|Zg<|tt (Pn (i:=33) (ivs:=[(0,_),(1,_),(2,_)]) (enc:=Ay) ([0,-1,1]:List Int) J J K6 Ny ti3 J J J J J pZ.cells J J hw) fun v_25 _=>Pr (Qz 33 J J pZ)<|tt (Zh (n:=34) (Zgh _ [0,-1,1] [0,-1,1] (by decide +kernel) (by decide +kernel)) J J J K1 Zgo (Zb 33 J J J Ze) J hw) fun v_26 _=>tt (Zh (n:=34) (k_fc1 _) J J J K1 call33 (Zb 34 J J J Ze) J hw) fun k1 hk1=>mv J<|dt (Yf J J J)<|dt (Yf J J J)<|tt (Zo (i:=35) J J zeroValue31 J J hw) fun bx_6 _=>tt (Zm (i:=35) J J J J J (by decide) J Yj J J ⟨Zd J,Zd J,trivial⟩ J hw trivial) fun _ _=>as_ J<|Zf<|Za<|Zc<|Zg<|tt (Pn (i:=36) (ivs:=[(0,_)]) (enc:=Ay) ([7]:List Int) J J K2 Ny ti3 J J J J J pZ.cells J J hw) fun v_27 _=>Pr (Qz 36 J J pZ)<|tt (Zh (n:=37) (Zgh _ [7] [7] (by decide +kernel) (by decide +kernel)) J J J K1 Zgo (Zb 36 J J J Ze) J hw) fun v_28 _=>tt (Zh (n:=37) (k_fc2 _) J J J K1 call33 (Zb 37 J J J Ze) J hw) fun k2 hk2=>mv J<|dt (Yf J J J)<|dt (Yf J J J)<|tt (Zo (i:=38) J J zeroValue31 J J hw) (fun bx_7 _=>?_)
 refine tt (Zm (i:=38) J J J J J (by decide) J Yj J J ⟨Zd J,Zd J,trivial⟩ J hw trivial) fun _ _=>as_ J<|Zf<|Za<|Zc<|Zg<|tt (Pn (i:=39) (ivs:=[(0,_),(1,_)]) (enc:=Ay) ([3,-1]:List Int) J J K4 Ny ti3 J J J J J pZ.cells J J hw) fun v_29 _=>Pr (Qz 39 J J pZ)<|tt (Zh (n:=40) (Zgh _ [3,-1] [3,-1] (by decide +kernel) (by decide +kernel)) J J J K1 Zgo (Zb 39 J J J Ze) J hw) fun v_30 _=>tt (Zh (n:=40) (k_fc3 _) J J J K1 call33 (Zb 40 J J J Ze) J hw) fun k3 hk3=>mv J<|dt (Yf J J J)<|dt (Yf J J J)<|tt (Zo (i:=41) J J zeroValue31 J J hw) fun bx_8 _=>tt (Zm (i:=41) J J J J J (by decide) J Yj J J ⟨Zd J,Zd J,trivial⟩ J hw trivial) fun _ _=>as_ J<|Zf<|Za<|Zc<|Zc<|Ql (fun _=>False) [(0,0),(1,1),(2,0),(3,0),(4,0),(5,0),(6,0),(7,0),(8,0),(9,1),(10,0),(11,0),(12,0),(13,0),(14,0),(15,0),(16,0),(17,0),(18,1),(19,0),(20,0),(21,0),(22,0),(23,0),(24,0)] ?_ ?_
 ·kernel_rfl
 refine r0' J J (st0 (Zz (i:=35) J J J Qj Yj J J))<|r1' J (Zh (n:=41) (Zjz _ ⟨by decide,by decide⟩) J J J K1 call47 Ze J hw) fun _ _=>r0' J J (st0 (Yc (r':= .bool false) (Zii J J J eg31 (fun w=>Zxa w _ _ _ _)) (congrArg Value.bool (by obtain rfl:=k_fl1 _ hk1;simp [Hz]))))<|r0' J J (st0 (Ym J J))<|r0g (st0 (Ym J J)) J J J J J<|r0g (st0 (Yc (r':= .bool false) (Qb J J J) (congrArg Value.bool (by decide)))) J J J J J<|r0' J J (st0 (Yh J J J))<|r0' J J (st0 (Ym J J))<|r0g (st0 (Zz (i:=38) J J J Qj Yj J J)) J J J J J<|r1g' J J J J J (Zh (n:=41) (Zjz _ ⟨by decide,by decide⟩) J J J K1 call47 Ze J hw) fun _ _=>r0g (st0 (Yc (r':= .bool false) (Zii J J J eg31 (fun w=>Zxa w _ _ _ _)) (congrArg Value.bool (by obtain rfl:=k_fl2 _ hk2;simp [Hz])))) J J J J J<|r0' J J (st0 (Yh J J J))<|r0' J J (st0 (Ym J J))<|r0g (st0 (Ym J J)) J J J J J<|r0g (st0 (Yc (r':= .bool false) (Qb J J J) (congrArg Value.bool (by decide)))) J J J J J<|r0' J J (st0 (Yh J J J))<|r0' J J (st0 (Ym J J))<|r0g (st0 (Zz (i:=41) J J J Qj Yj J J)) J J J J J<|r1g' J J J J J (Zh (n:=41) (Zjz _ ⟨by decide,by decide⟩) J J J K1 call47 Ze J hw) (fun _ _=>?_)
 refine r0g (st0 (Yc (r':= .bool false) (Zii J J J eg31 (fun w=>Zxa w _ _ _ _)) (congrArg Value.bool (by obtain rfl:=k_fl3 _ hk3;simp [Hz])))) J J J J J<|r0' J J (st0 (Yh J J J))<|r0' J J (st0 (Ym J J))<|r0g (st0 (Ym J J)) J J J J J<|r0g (st0 (Yc (r':= .bool false) (Qb J J J) (congrArg Value.bool (by decide)))) J J J J J<|r0' J J (st0 (Yh J J J))<|Og<|Za<|Ye J<|Zj<|Za<|Zc<|Zg<|tt (Pn (i:=42) (ivs:=[(0,_),(1,_)]) (enc:=Ay) ([-1,1]:List Int) J J K4 Ny ti3 J J J J J pZ.cells J J hw) fun v_31 _=>Pr (Qz 42 J J pZ)<|tt (Zh (n:=43) (Zgh _ [-1,1] [-1,1] (by decide +kernel) (by decide +kernel)) J J J K1 Zgo (Zb 42 J J J Ze) J hw) fun v_32 _=>tt (Zh (n:=43) (La _ _ ⟨by decide,by decide⟩ ⟨by decide,by decide⟩) J J J K2 Zct Ze J hw) fun _ _=>tt (Zh (n:=43) (La _ _ ⟨by decide,by decide⟩ ⟨by decide,by decide⟩) J J J K2 Zct Ze J hw) fun _ _=>tt (Zh (n:=43) (k_pv _) J J J K3 call38 (Zb 43 J J J Ze) J hw) fun _ _=>mv J<|dt (Yf J J J)<|dt (Yf J J J)<|as_ J<|Zf<|Za<|Zc<|Zg<|mv J<|dt (Yc (r':= .bool true) (Pm J J J) (congrArg Value.bool (by decide)))<|mv J ?_
 refine gtt (Pn (i:=44) (ivs:=[(0,_),(1,_),(2,_)]) (enc:=Ay) ([1,-2,1]:List Int) J J K6 Ny ti3 J J J J J pZ.cells J J hw) J J J fun v_33 _=>Pr (Qz 44 J J pZ)<|gtt (Zh (n:=45) (Zgh _ [1,-2,1] [1,-2,1] (by decide +kernel) (by decide +kernel)) J J J K1 Zgo (Zb 44 J J J Ze) J hw) J J J fun v_34 _=>gtt (Zh (n:=45) (La _ _ ⟨by decide,by decide⟩ ⟨by decide,by decide⟩) J J J K2 Zct Ze J hw) J J J fun _ _=>gtt (Zh (n:=45) (La _ _ ⟨by decide,by decide⟩ ⟨by decide,by decide⟩) J J J K2 Zct Ze J hw) J J J fun _ _=>gtt (Zh (n:=46) (Za3 _ _ _ ⟨by decide,by decide⟩ ⟨by decide,by decide⟩) J J J K3 call48 Ze J hw) J J J fun v_35 _=>gtt (Zh (n:=46) (k_ck1 _ _) J J J K4 call41 (Zb 45 J J J (Zb 46 J J J Ze)) J hw) J J J fun _ _=>gdt (Yc (r':= .bool true) (Pm J J J) (congrArg Value.bool (by decide))) J J<|dt (Xh J J J)<|mv J<|gtt (Pn (i:=47) (ivs:=[(0,_),(1,_)]) (enc:=Ay) ([1,1]:List Int) J J K4 Ny ti3 J J J J J pZ.cells J J hw) J J J fun v_36 _=>Pr (Qz 47 J J pZ) ?_
 refine gtt (Zh (n:=48) (Zgh _ [1,1] [1,1] (by decide +kernel) (by decide +kernel)) J J J K1 Zgo (Zb 47 J J J Ze) J hw) J J J fun v_37 _=>gtt (Zh (n:=48) (La _ _ ⟨by decide,by decide⟩ ⟨by decide,by decide⟩) J J J K2 Zct Ze J hw) J J J fun _ _=>gtt (Zh (n:=48) (La _ _ ⟨by decide,by decide⟩ ⟨by decide,by decide⟩) J J J K2 Zct Ze J hw) J J J fun _ _=>gtt (Zh (n:=49) (Za3 _ _ _ ⟨by decide,by decide⟩ ⟨by decide,by decide⟩) J J J K3 call48 Ze J hw) J J J fun v_38 _=>gtt (Zh (n:=49) (k_ck2 _ _) J J J K4 call41 (Zb 48 J J J (Zb 49 J J J Ze)) J hw) J J J fun _ _=>gdt (Yc (r':= .bool true) (Pm J J J) (congrArg Value.bool (by decide))) J J<|dt (Xh J J J)<|mv J<|gtt (Pn (i:=50) (ivs:=[(0,_),(1,_),(2,_)]) (enc:=Ay) ([1,-2,1]:List Int) J J K6 Ny ti3 J J J J J pZ.cells J J hw) J J J fun v_39 _=>Pr (Qz 50 J J pZ)<|gtt (Zh (n:=51) (Zgh _ [1,-2,1] [1,-2,1] (by decide +kernel) (by decide +kernel)) J J J K1 Zgo (Zb 50 J J J Ze) J hw) J J J fun v_40 _=>gtt (Zh (n:=51) (La _ _ ⟨by decide,by decide⟩ ⟨by decide,by decide⟩) J J J K2 Zct Ze J hw) J J J (fun _ _=>?_)
 refine gtt (Zh (n:=51) (La _ _ ⟨by decide,by decide⟩ ⟨by decide,by decide⟩) J J J K2 Zct Ze J hw) J J J fun _ _=>gtt (Zh (n:=52) (Za3 _ _ _ ⟨by decide,by decide⟩ ⟨by decide,by decide⟩) J J J K3 call48 Ze J hw) J J J fun v_41 _=>gtt (Zh (n:=52) (k_ck3 _ _) J J J K4 call41 (Zb 51 J J J (Zb 52 J J J Ze)) J hw) J J J fun _ _=>gdt (Yc (r':= .bool true) (Pm J J J) (congrArg Value.bool (by decide))) J J<|dt (Xh J J J)<|mv J<|gtt (Pn (i:=53) (ivs:=[(0,_),(1,_)]) (enc:=Ay) ([1,1]:List Int) J J K4 Ny ti3 J J J J J pZ.cells J J hw) J J J fun v_42 _=>Pr (Qz 53 J J pZ)<|gtt (Zh (n:=54) (Zgh _ [1,1] [1,1] (by decide +kernel) (by decide +kernel)) J J J K1 Zgo (Zb 53 J J J Ze) J hw) J J J fun v_43 _=>gtt (Zh (n:=54) (La _ _ ⟨by decide,by decide⟩ ⟨by decide,by decide⟩) J J J K2 Zct Ze J hw) J J J fun _ _=>gtt (Zh (n:=54) (La _ _ ⟨by decide,by decide⟩ ⟨by decide,by decide⟩) J J J K2 Zct Ze J hw) J J J fun _ _=>gtt (Zh (n:=55) (Za3 _ _ _ ⟨by decide,by decide⟩ ⟨by decide,by decide⟩) J J J K3 call48 Ze J hw) J J J (fun v_44 _=>?_)
 exact gtt (Zh (n:=55) (k_ck4 _ _) J J J K4 call41 (Zb 54 J J J (Zb 55 J J J Ze)) J hw) J J J fun _ _=>gdt (Yc (r':= .bool true) (Pm J J J) (congrArg Value.bool (by decide))) J J<|dt (Xh J J J)<|as_ J<|Zf<|Za<|Zv<|xU hsc results11 J J J
theorem ch13r{xs:List Int}(hx:Tr xs)(h0:xs≠[])(hs:Sz 260 xs)(hl:xs.length≤8):Zfh 13 xs∧Sz 390 (sqf 13 xs)∧(sqf 13 xs).length≤8:=by
 obtain⟨h1,h2,h3,h4⟩:=chF 13 hx h0 hs (by omega) (by omega) (by omega)
 exact⟨h1,h2,by omega⟩
theorem Zi9{xs:List Int}(hv:Vp xs)(h0:xs≠[])(hs:Sz 260 xs)(hl:xs.length≤8) :
  Vp (nrm xs)∧Vp (Pf (nrm xs))∧eok 13 (nrm xs) (Pf (nrm xs))∧Ki (Yx (eu 13 (nrm xs) (Pf (nrm xs))))=Ku 13 (nrm xs) (Pf (nrm xs))∧
  Vp (Ku 13 (nrm xs) (Pf (nrm xs)))∧Ku 13 (nrm xs) (Pf (nrm xs))≠[]∧pdv (nrm xs) (Ku 13 (nrm xs) (Pf (nrm xs)))∧
  msz (nrm xs)≤260∧msz (Ku 13 (nrm xs) (Pf (nrm xs)))≤390∧(nrm xs).length≤8∧Vp (sqf 13 xs)∧sqf 13 xs≠[]∧nrm (sqf 13 xs)=sqf 13 xs∧(Ku 13 (nrm xs) (Pf (nrm xs))).length≤8:=by
 have hn:=Zm1 hs
 have hln:=Pt hv.tr
 have ht:Tr (nrm xs):=Nk (Xi hv.tr)
 have hd:=He hn (by omega)
 have hld:=Oj (nrm xs)
 have htd:Tr (Pf (nrm xs)):=Nv ht
 have m1:=Ps hn
 have m2:=Ps hd
 have l0:=List.length_pos_iff.2 h0
 obtain⟨hC,hq,hql⟩:=ch13r hv.tr h0 hs hl
 have hok:eok 13 (gA (nrm xs) (Pf (nrm xs))) (gB (nrm xs) (Pf (nrm xs))):=hC.1.2.2.1
 have hok2:eok 13 (nrm xs) (Pf (nrm xs)):=
  (Ztr (n:=265) (s:=5) (K:=271) (by omega) ht htd (hn.mono (by omega)) hd (by omega) (by omega) (num13 (by omega) (by omega) (by omega)) (Nat.le_trans (Nat.mul_le_mul (show(nrm xs).length+1≤9 by omega) (show 265+1≤300 by omega)) (by decide)) (by omega)).1
 obtain⟨f1,f2,f3,f4,f5,f6⟩:=Nh (F:=13) hv.tr h0 hok
 have hg:=Zbt (F:=13) ht htd
 have hn0:=Zgd hv.tr h0
 have hK:kkR 24 13*(24+1)^13<2^130:=by decide +kernel
 have hgs:=Iy (L:=13) (R:=24) hg f2 hn hn0 ht (by omega) (by decide) hK (by rw [Ee];exact f4)
 have hvn:=Zql hv
 have hvd:Vp (Pf (nrm xs)):=⟨hd.mono (by omega),htd,by omega⟩
 have hlq:=Oe f2 hg f3 f5
 rw [←f4]at hlq
 have lq:=List.length_pos_iff.2 f3
 exact⟨hvn,hvd,hok2,gcd_two ht htd hok2 hok,Zqj hvn hvd hok,f5,f1,m1,Ps hgs,by omega,Zi0 hv h0 hC.1,f3,f6,by omega⟩
structure RI (xs q:List Int):Prop where
 v:Vp q
 ne:q≠[]
 s:Sz 200 q
 l:q.length≤7
 d:Dp xs (nrm q)
theorem RI.start{xs:List Int}(h:Cvd xs)(h0:xs≠[]):RI xs xs:=⟨h.v,h0,h.s.mono (by omega),h.l,Dp.start h.v.tr h0⟩
theorem sz_pm1{q:List Int}{n:Nat}{e:Int}(he:e=1∨e=-1)(h:Sz n q):Sz n (Xj q e):=fun i=>by
 rw [Xn]
 have:=h i
 rcases he with rfl | rfl
 ·rw [Int.mul_one];exact this
 ·rw [Int.mul_neg_one,Int.natAbs_neg];exact this
theorem RI.step{xs q:List Int}(h:Cvd xs)(h0:xs≠[])(hI:RI xs q) :
  Tr (sqf 13 q)∧msz (sqf 13 q)≤330∧(sqf 13 q).length≤7∧0<(sqf 13 q).length∧Qc q≠0∧Sz 200 (Xj (Yx q) 1)∧Tr (Xj (Yx q) 1)∧(Xj (Yx q) 1).length=q.length∧pdv (Xj (Yx q) 1) (sqf 13 q)∧
  Vp (Mq 13 q)∧Mq 13 q≠[]∧Sz 200 (Mq 13 q)∧(Mq 13 q).length≤7∧Qc (Mq 13 q)≠0∧Yx (Mq 13 q)=Mq 13 q∧
  Tr (sqf 13 (Mq 13 q))∧msz (sqf 13 (Mq 13 q))≤330∧(sqf 13 (Mq 13 q)).length≤7∧0<(sqf 13 (Mq 13 q)).length∧pdv (sqf 13 q) (sqf 13 (Mq 13 q))∧Sz 500 (Kn (sqf 13 q) (sqf 13 (Mq 13 q)))∧(Kn (sqf 13 q) (sqf 13 (Mq 13 q))).length≤7∧
  pdv (Mq 13 q) (sqf 13 (Mq 13 q))∧RI xs (Af 13 q)∧((sqf 13 q).length≠1→(Af 13 q).length<q.length):=by
 have hl:=h.l
 have hD:=hI.d
 have hok0:=(hD.ok h.v.tr h0 h.s (by omega) (by omega) (show xs.length≤13+1 by omega)).2
 have hok:Za8 13 q:=by unfold Za8 at hok0 ⊢;rwa [hD.2.2.1]at hok0
 have hg:=hD.next hok0
 have hgn:gcf 13 (nrm q)=gcf 13 q:=Zib hD.2.2.1
 have hsn:sqf 13 (nrm q)=sqf 13 q:=Fg hD.2.2.1
 rw [hgn]at hg
 have hok2:=(hg.ok h.v.tr h0 h.s (by omega) (by omega) (show xs.length≤13+1 by omega)).2
 have hg2:=hg.next hok2
 obtain⟨⟨e,he,r1,r2,r3,r4,r5,r6⟩,r7,r8,r9,r10,r11,r12⟩:=Zf3 hI.v.tr hI.ne hok hok2
 obtain⟨-,-,-,-,-,-,-,-,-,-,-,a12,a13,a14,-,a16,-,-⟩:=Zb1 h h0 hD
 obtain⟨-,-,-,-,-,-,-,-,-,-,-,b12,b13,b14,-,b16,b17,-⟩:=Zb1 h h0 hg
 rw [hsn]at a12 a13 a14 a16
 have hsl:sqf 13 (Mq 13 q)=sqf 13 (gcf 13 q):=Fg (by rw [r7,hg.2.2.1])
 obtain⟨g1,g2⟩:=Ze3 h h0 hg
 obtain⟨g3,g4⟩:=Ze3 h h0 hg2
 have e0:e≠0:=by rcases he with rfl | rfl<;>decide
 have hLs:Sz 200 (Mq 13 q):=by rw [r3];exact sz_pm1 he g1
 have hLl:(Mq 13 q).length≤7:=by rw [r3];have:=Kt (gcf 13 q) e;omega
 have hLv:Vp (Mq 13 q):=⟨hLs.mono (by omega),r9,by omega⟩
 have hRs:Sz 200 (Af 13 q):=by rw [r6];exact sz_pm1 he g3
 have hRl:(Af 13 q).length≤(gcf 13 (gcf 13 q)).length:=by rw [r6];exact Kt _ e
 obtain⟨o1,o2,o3,o4⟩:=Gh hI.v.tr hI.ne hok hok2
 have hK:kkR 24 13*(24+1)^13<2^130:=by decide +kernel
 have hos:=Iy (L:=13) (R:=24) o3 b12.tr a13 a16 a12.tr (by omega) (by decide) hK o2
 have hlq:=Oe o3 b12.tr o4 b16
 rw [←o2]at hlq
 have lb:=List.length_pos_iff.2 b16
 have la:=List.length_pos_iff.2 a16
 have lo:=List.length_pos_iff.2 o4
 have hm:Xj (Yx q) 1=Yx q:=by
  refine(Qw _ _).ext (Xi hI.v.tr) fun i=>?_
  rw [Xn,Int.mul_one]
 have hx:=Pp hI.v.tr hI.ne hok
 have hx2:=Pp hg.1 hg.2.1 hok2
 rw [hsl]
 refine⟨a12.tr,Ps a13,by omega,la,hI.v.ne hI.ne,by rw [hm];exact Hd hI.s,Qw _ _,by rw [hm,Yi],by rw [r1];exact r2,hLv,r10,hLs,hLl,hLv.ne r10,r4,b12.tr,Ps b13,b14,lb,o1,hos.mono (by omega),?_,r5,⟨⟨hRs.mono (by omega),r11,by omega⟩,r12,hRs,by omega,by rw [r8];exact hg2⟩,fun hne=>?_⟩
 ·show(Bp 13 q).length≤7;omega
 ·have h1:=hx.2.2.2.2
  have h2:=hx2.2.2.2.2
  omega
theorem rodd_1{F f:Nat}{p:List Int}(h:(sqf F p).length=1):Zjh F f p=sqf F p:=by
 cases f with
 | zero=>rfl
 | succ f=>unfold Zjh;rw [if_pos h]
theorem rodd_s{F f:Nat}{p:List Int}(h:(sqf F p).length≠1):Zjh F (f+1) p=Mb (Kn (sqf F p) (sqf F (Mq F p))) (Zjh F f (Af F p)):=by
 conv=>lhs;unfold Zjh
 rw [if_neg h]
theorem Zwv{F n:Nat}{p:List Int}(hp:Tr p)(h0:p≠[])(hs:Sz n p)(hn:n≤130)(hl:p.length≤13)(hF:p.length≤F+1):∀(f:Nat) (q:List Int),Dp p q→q.length≤f→∃a:List Int,Tr a∧q=Mb a (Zcz F f q):=by
 intro f
 induction f with
 | zero=>intro q hq hlq;have:=List.length_pos_iff.2 hq.2.1;omega
 | succ f ih=>
  intro q hq hlq
  have hok:=(hq.ok hp h0 hs hn hl hF).2
  have hg:=hq.next hok
  have hok2:=(hg.ok hp h0 hs hn hl hF).2
  have hg2:=hg.next hok2
  unfold Zcz
  by_cases c1:(sqf F q).length=1
  ·rw [if_pos c1]
   obtain⟨s1,s2,s3⟩:=Zd9 hq.1 hq.2.1 hok c1
   refine⟨[1],.inr (show cf [1] 0≠0 by decide),hq.1.ext (Pi _ _) fun i=>Mh (fun x=>?_) i⟩
   rw [Yz,s1,nrm1 hq.1 hq.2.2.1 s2,Ot];push_cast;grind
  ·rw [if_neg c1]
   have lq:2≤q.length:=by
    obtain⟨f1,f2,f3,f4,f5,f6⟩:=Nh (F:=F) hq.1 hq.2.1 hok
    obtain⟨a1,a2,a3,a4,a5⟩:=Pp hq.1 hq.2.1 hok
    have l1:=List.length_pos_iff.2 f3
    have l2:=List.length_pos_iff.2 a2
    omega
   have lt1:=Zj4 hq.1 hq.2.1 hok lq
   obtain⟨a1,a2,a3,a4,a5⟩:=Pp hq.1 hq.2.1 hok
   obtain⟨b1,b2,b3,b4,b5⟩:=Pp hg.1 hg.2.1 hok2
   obtain⟨-,t2,t3,-,-,-⟩:=Nh (F:=F) hg.1 hg.2.1 hok2
   have lb:=List.length_pos_iff.2 t3
   obtain⟨A,hA,hB⟩:=ih _ hg2 (by omega)
   obtain⟨-,o2,o3,o4⟩:=Gh hq.1 hq.2.1 hok hok2
   rw [hq.2.2.1]at a4
   rw [a3]at b4
   refine⟨Mb (Mb (sqf F (gcf F q)) (sqf F (gcf F q))) A,Pi _ _,hq.1.ext (Pi _ _) fun i=>Mh (fun x=>?_) i⟩
   have e1:rev q x=rev (sqf F q) x*rev (gcf F q) x:=by rw [←Yz,←a4]
   have e2:rev (sqf F q) x=rev (Bp F q) x*rev (sqf F (gcf F q)) x:=by rw [←Yz,←o2]
   have e3:rev (gcf F q) x=rev (sqf F (gcf F q)) x*rev (gcf F (gcf F q)) x:=by rw [←Yz,←b4]
   have e4:rev (gcf F (gcf F q)) x=rev A x*rev (Zcz F f (gcf F (gcf F q))) x:=by rw [←Yz,←hB]
   rw [Yz,Yz,Yz,Yz,e1,e2,e3,e4]
   show _=_*(rev (Bp F q) x*_)
   generalize rev (sqf F (gcf F q)) x=S
   grind
theorem RI.size{xs q:List Int}(h:Cvd xs)(h0:xs≠[])(hI:RI xs q){f:Nat}(hf:q.length≤f):Tr (Zjh 13 f q)∧Sz 400 (Zjh 13 f q)∧(Zjh 13 f q).length≤7:=by
 have hl:=h.l
 have hD:=hI.d
 have e:Zjh 13 f q=Zcz 13 f (nrm q):=by
  rw [Zrk h.v.tr h0 h.s (by omega) (by omega) (by omega) f q hI.v.tr hI.ne hD]
  exact Zhy hD.2.2.1.symm f
 have hlq:=Pt hI.v.tr
 have hll:=hI.l
 obtain⟨A,hA,hB⟩:=Zwv h.v.tr h0 h.s (by omega) (by omega) (show xs.length≤13+1 by omega) f (nrm q) hD (by omega)
 obtain⟨d1,d2⟩:=Ze3 h h0 hD
 have hok0:=(hD.ok h.v.tr h0 h.s (by omega) (by omega) (show xs.length≤13+1 by omega)).2
 have ht:=Zhx (F:=13) (p:=xs) (f:=f) hD.1 hD.2.1 hok0
 rw [e]
 have hK:kkR 24 13*(24+1)^13<2^130:=by decide +kernel
 have p0:Zcz 13 f (nrm q)≠[]:=fun e2=>hD.2.1 (by rw [hB,e2,Zb3])
 have a0:A≠[]:=fun e2=>hD.2.1 (by rw [hB,e2,Iw])
 have hl2:=Oe hA ht a0 p0
 rw [←hB]at hl2
 have:=List.length_pos_iff.2 a0
 exact⟨ht,(Iy (L:=13) (R:=24) ht hA d1 hD.2.1 hD.1 (by omega) (by decide) hK (by rw [Ee];exact hB)).mono (by omega),by omega⟩
theorem Zrj{xs:List Int}(h:Cvd xs)(h0:xs≠[]):Zjh 13 xs.length xs=Hq xs:=by
 have hl:=h.l
 exact(Zw2 h.v.tr h0 h.s (by omega) (by omega) (show xs.length≤13+1 by omega)).symm
end Go.Sky

