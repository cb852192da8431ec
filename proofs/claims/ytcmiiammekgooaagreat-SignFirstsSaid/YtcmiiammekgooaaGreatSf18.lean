/- rules, arithmetic and contracts: part 19
   Proved without conditions of its own: each theorem bears its own. -/
import Derived.Test.YtcmiiammekgooaaGreatSf03
import Derived.Test.YtcmiiammekgooaaGreatSf02
import Derived.Test.YtcmiiammekgooaaGreatSf01
import Derived.Test.YtcmiiammekgooaaGreatSf17
import Derived.Test.YtcmiiammekgooaaGreatSf12
import Derived.Test.YtcmiiammekgooaaGreatSf15
import Derived.Test.YtcmiiammekgooaaGreatSf10
import Derived.Test.YtcmiiammekgooaaGreatSf11
set_option linter.all false
namespace Go.Sky
open Go.Proofs.Tryz
open Go.Proofs
set_option maxRecDepth 20000
set_option maxHeartbeats 4000000
set_option linter.unusedSimpArgs false
set_option maxHeartbeats 4000000 in
theorem Dh(v u:Value)(xs:List Int)(ps:List PTs)(a b:R2)(hd:Cvd xs)(ha:E32 a)(hb:E32 b)(hp:ValP ps)(hc:¬0<cmp a b)(hl:ps.length≤200:=by decide):Mc prog 41 #[v,rX a.1 a.2,rX b.1 b.2,u] [slp 2 wv v xs,slp 9 Ziy u ps] (.int .i64 (if Zvx xs ps a b=true then 0 else 10)):=by
 refine Yc func41 J ntmps41 J K2 ?_
 intro w0 sc hw hsc
 simp only [Zq,Zp]
 have hv:=hd.v
 have ha1:=ha.b1
 have ha2:=ha.b2
 have hap:=ha.p
 have hb1:=hb.b1
 have hb2:=hb.b2
 have hbp:=hb.p
 refine Md (Ge (i:=2) J Zi) fun hlen=>Zd<|Zg<|tt (Yu (i:=3) J J J J J hw) fun bx _=>tt (Yu (i:=4) J J J J J hw) fun bx_2 _=>as_ J<|Zf<|Za<|e_scope<|Zd<|Zd<|Zg<|mv J<|dt (Yp (i:=3) J J J Qp Xk J J J J)<|dt (Yp (i:=4) J J J Qp Xk J J J J)<|mv J<|tt (Zh (n:=4) (Zfy _ _ xs ps a b hd ha hb hp hl) J J J K4 call58 (Zc 1 J J J (Zc 2 J J J Ze)) J hw) fun _ _=>as_ J<|Zf<|Za<|Zd<|Zg<|mv J<|dt (Ya (r':= .bool false) (Qc J J J) (congrArg Value.bool (decide_eq_false (fun h=>h (if_neg hc)))))<|Zf<|Za<|Ye J<|Zj<|Za<|Zd<|Zg<|mv J<|tt (Zh (n:=5) (Zlp _ _ hd) J J J K1 call59 (Zc 1 J J J Ze) J hw) (fun g hg=>?_)
 obtain⟨hgl,hgc⟩:=hg
 refine mv J<|dt (Yh J J J)<|dt (Yh J J J)<|tt (Zn (i:=7) J J zeroValue98 J J hw) fun bx_3 _=>tt (Zm (i:=7) J J J J J (by decide) J Bb J J ⟨Zl (i:=5) J Yb,Zl (i:=6) J Yb,trivial⟩ J hw trivial) fun _ _=>as_ J<|Zf<|Za<|Zd<|Zd<|Zg<|mv J<|dt (Ya (r':= .bool false) (Qc J J J) (congrArg Value.bool (by decide)))<|Zf<|Za<|Ye J<|Zj<|Za<|Zd<|Zg<|tt (Zn (i:=8) J J zeroValue102 J J hw) fun bx_4 _=>Zf<|Za<|Zd<|Zg<|dt (Yp (i:=3) J J J Qp Xk J J J J)<|mv J<|dt (Yd J J (i:=2) J Zi Zvs)<|dt (Pm J J J)<|tt (Zn (i:=9) J J zeroValue41 J J hw) fun bx_5 _=>tt (Zm (i:=9) J J J J J (by decide) J Xk J J ⟨Zb J,Zb J,Zb J,Zb J,trivial⟩ J hw trivial) fun _ _=>as_ J<|Zf<|Za<|Zd<|e_label<|Za<|Ez [(6,_),(12,_),(13,_)] [(0,_),(1,_),(2,_),(3,_),(4,_),(5,_),(6,_),(7,_),(8,_)] (fun(q:Bool×R2)=>[(14,.bool q.1)]) (fun(q:Bool×R2)=>[(9,box bx_5 41 #[.bool (decide (q.2.1<0)),.string (Qo q.2.1.natAbs),.bool (decide (q.2.2<0)),.string (Qo q.2.2.natAbs)])]) (fun(q:Bool×R2)=>(Zvx xs ps a b=(q.1 && decide (cmp q.2 b=0)))∧(Ef q.2)) K3 K9 ?_ ?_
 ·refine Zd<|Zg<|mv J<|dt (Yd J J (i:=2) J Zi Zvs)<|mv J<|Zf<|Za<|Zo<|Nt [(0,_),(6,_),(10,_),(12,_),(13,_),(38,_),(39,_)] [(0,_),(1,_),(2,_),(3,_),(4,_),(5,_),(6,_),(7,_),(8,_)] (fun(i:Nat)=>[(40,.int .i64 (i:Int)),(11,.int .i64 0),(14,.bool (decide (0<ps.length)))]) (fun(i:Nat)=>[(9,box bx_5 41 #[.bool (decide ((lst a ps i).1<0)),.string (Qo (lst a ps i).1.natAbs),.bool (decide ((lst a ps i).2<0)),.string (Qo (lst a ps i).2.natAbs)])]) (fun(i:Nat)=>(i≤ps.length)∧(∀k,k<i→Zst xs (lst a ps k) (ps.getD k P0)=true)) (fun(i:Nat)=>ps.length-i) 0 ⟨by first | omega | (dsimp only<;>omega),fun k hk=>absurd hk (Nat.not_lt_zero k)⟩ ⟨J,J,(congrArg (fun z=>some (Value.bool z)) (decide_eq_decide.2 (by omega))),J,J,J,J,J,J,J,trivial⟩ K10 ?_
  rintro i ⟨hi,hK⟩
  simp only [CA,NA]
  have hlE:=lst_ef ha.ef hp hi
  have hl1:=hlE.b1
  have hl2:=hlE.b2
  refine Zd<|Zg<|dt (Xr J J J)<|Zf<|Za<|Zd<|Zs J (fun h450=>?_) (fun h450=>?_)
  ·refine Zj<|Za<|Zd<|Zo<|Zd<|Zg<|dt (Xb (ii:=2) J J J J Zi Zvs sizeOf79 J (by first | omega | (simp only [List.length_set];omega)))<|dt (Xv (ii:=2) P0 J J J Zi pP9 (by first | omega | (simp only [List.length_set];omega)))<|tt (Zn (i:=10) J J zeroValue79 J J hw) fun bx_6 _=>tt (Zm (i:=10) J J J J J (by decide) J sizeOf79 J J ⟨Zb J,Zb J,Zb J,Zb J,Zb J,Zb J,Zb J,Zb J,Zb J,trivial⟩ J hw trivial) fun _ _=>Zf<|Za<|Zd ?_
   obtain⟨hk,hf1,hf2⟩:=hp (ps.getD i P0) (Yz)
   have hf11:=hf1.b1
   have hf12:=hf1.b2
   have hf1p:=hf1.p
   have hf21:=hf2.b1
   have hf22:=hf2.b2
   have hf2p:=hf2.p
   refine Zg<|dt (Xs J J Zfu J Xk J J)<|dt (Yp (i:=10) J J J Qp Xk J J J J)<|dt (Xs J J Zfu J Xk J J)<|dt (Yp (i:=10) J J J Qp Xk J J J J)<|tt (Zh (n:=10) (Gh (ps.getD i P0).2.1.1 (ps.getD i P0).2.1.2 (ps.getD i P0).2.2.1 (ps.getD i P0).2.2.2 hf1p hf2p) J J J K2 call96 Ze J hw) fun _ _=>as_ J<|Zf<|Za<|Zd<|Zd<|Zg<|dt (Yp (i:=9) J J J Qp Xk J J J J)<|dt (Xs J J Zfu J Xk J J)<|dt (Yp (i:=10) J J J Qp Xk J J J J)<|tt (Zh (n:=10) (Gh (lst a ps i).1 (lst a ps i).2 (ps.getD i P0).2.1.1 (ps.getD i P0).2.1.2 hlE.p hf1p) J J J K2 call96 Ze J hw) fun _ _=>dt (Qc J J J)<|mv J<|Qm (d:=54) J (fun s452=>?_) (fun s452=>?_)
   ·exact gsk J J J<|gsk J J J<|dt (Ys J J J)<|Zf<|Za<|Pf J<|Zd<|Zg<|as_ J<|Zf<|Za<|Yv<|Zv<|Zps<|Zv<|Zv<|Ox<|Qt (false,(lst a ps i)) ⟨Dz (k:=i) (by omega) (by first | exact okp_c ‹_› | exact okp_o ‹_›) _,hlE⟩ K4 K10
   ·refine gdt (Yo J J) J J<|gdt (Pm J J J) J J<|dt (Zz J J J)<|Zf<|Za<|Zs J (fun h452=>?_) (fun h452=>?_)
    ·exact Zd<|Zg<|as_ J<|Zf<|Za<|Yv<|Zv<|Zps<|Zv<|Zv<|Ox<|Qt (false,(lst a ps i)) ⟨Dz (k:=i) (by omega) (by first | exact okp_c ‹_› | exact okp_o ‹_›) _,hlE⟩ K4 K10
    ·refine Zj<|Za<|Zd ?_
     have hc1:=Decidable.byContradiction (by assumption:¬¬cmp (lst a ps i) (ps.getD i P0).2.1=0)
     have hc2:¬0<cmp (ps.getD i P0).2.1 (ps.getD i P0).2.2:=by assumption
     refine Zg<|dt (Xs J J Zfu J Xk J J)<|dt (Yp (i:=10) J J J Qp Xk J J J J)<|tt (Zm (i:=9) J J J J J (by decide) J Xk J J ⟨Zb J,Zb J,Zb J,Zb J,trivial⟩ J hw trivial) fun _ _=>Zf<|Za<|Zd<|Zo<|Zd<|Zg<|dt (Xs J J Zfu J sizeOf77 J J)<|dt (Oj (i:=10) J J J isAgg77 J)<|dt (Pg J J J)<|as_ J<|Zf<|Za<|Zs J (fun h458=>?_) (fun h458=>?_)
     ·refine Zg<|mv J<|dt (Xs J J Zfu J Xk J J)<|dt (Yp (i:=10) J J J Qp Xk J J J J)<|dt (Xs J J Zfu J Xk J J)<|dt (Yp (i:=10) J J J Qp Xk J J J J)<|tt (Zh (n:=10) (Zwr _ xs (ps.getD i P0).2.1 (ps.getD i P0).2.2 hd hf1 hf2) J J J K3 call93 (Zc 1 J J J Ze) J hw) fun _ _=>mv J<|dt (Yh J J J)<|dt (Yh J J J)<|as_ J<|as_ J<|Zf<|Oe<|Za<|Zd<|Zd<|Zg<|mv J<|dt (Ya (r':= .bool false) (Qc J J J) (congrArg Value.bool (by decide)))<|Zf<|Za<|Ye J<|Zj<|Za<|Zd<|Zg<|mv J<|dt (Xg J J)<|Zf<|Za<|Mm J (fun h468=>?_) (fun h468=>?_)
      ·exact Yv<|Zps<|Zv<|Zv<|Ox<|Qt (false,(ps.getD i P0).2.2) ⟨Dz (k:=i) (by omega) ((Zii hc1 hc2).trans (by first | exact Eq.trans (Zhx (xs:=xs) (z:=ps.getD i P0) ‹_›) (Iw ‹_›) | (rw [(Zhv (xs:=xs) (z:=ps.getD i P0) ‹_› (by first | exact .inl (by omega) | exact .inr ‹_›)),←hgl];exact decide_eq_false ‹_›) | (rw [(Zhw (xs:=xs) (z:=ps.getD i P0) ‹_› (by omega) ‹_›),←hgl,←hgc];exact(by first | exact Zlc ‹_› | exact Zb1 ‹_› (Iw ‹_›))))) _,hf2⟩ ⟨by first | rfl | exact congrArg (fun z=>some (Value.bool z)) (Iw ‹_›) | exact congrArg (fun z=>some (Value.bool z)) (decide_eq_false ‹_›),J,J,J,trivial⟩ K10
      ·exact Zj<|Oe<|Za<|Zg<|dt (Yx J J J ⟨by omega,by omega⟩)<|mv J<|Zf<|Xn (i+1) ⟨by first | omega | (dsimp only<;>omega),fun k hk2=>by rcases Nat.lt_succ_iff_lt_or_eq.1 hk2 with h9 | h9;exact hK k h9;rw [h9];exact(Zii hc1 hc2).trans (by first | exact Eq.trans (Zhx (xs:=xs) (z:=ps.getD i P0) ‹_›) (Fm ‹_›) | (rw [(Zhv (xs:=xs) (z:=ps.getD i P0) ‹_› (by first | exact .inl (by omega) | exact .inr ‹_›)),←hgl];exact decide_eq_true (Classical.not_not.1 ‹_›)) | (rw [(Zhw (xs:=xs) (z:=ps.getD i P0) ‹_› (by omega) ‹_›),←hgl,←hgc];exact(Zb1 ‹_› (Fm ‹_›))))⟩ (by first | omega | (dsimp only<;>omega)) ⟨J,J,(congrArg (fun z=>some (Value.bool z)) (Eq.trans (by first | exact Fm ‹_› | exact decide_eq_true (Classical.not_not.1 ‹_›) | assumption) (decide_eq_true (by omega)).symm)),J,J,J,J,J,J,J,trivial⟩ K10
     ·refine Zd<|Zg<|mv J<|dt (Yd J J (i:=1) J Zi Qx)<|dt (Pg J J J)<|mv J<|Qm (d:=91) J (fun s460=>?_) (fun s460=>?_)
      ·refine gsk J J J<|gsk J J J<|dt (Ys J J J)<|as_ J<|Zf<|Za<|Pf J<|Zg<|dt (Zy (i:=7) J J J Zdk Bb J J)<|dt (Xs J J Zfu J Xk J J)<|dt (Yp (i:=10) J J J Qp Xk J J J J)<|tt (Zh (n:=10) (Zav _ _ _ _ _ (ps.getD i P0).2.1.1 (ps.getD i P0).2.1.2 hf1p (Qb hgl (fun q hq=>(Mb hd q hq).1)) (Qb hgl (Kw hd (m:=(ps.getD i P0).2.1) (Nat.le_trans hf1.b1 (by decide)) (Nat.le_trans hf1.b2 (by decide))).1)) J J J K3 call62 (Zc 5 J J J (Zc 6 J J J (Nr 8 J J Ze))) J hw) fun _ _=>dt (Ke J J J)<|as_ J<|Zf<|Oe<|Za<|Zd<|Zd<|Zg<|mv J<|dt (Ya (r':= .bool false) (Qc J J J) (congrArg Value.bool (by decide)))<|Zf<|Za<|Ye J<|Zj<|Za<|Zd<|Zg<|mv J<|dt (Zf6 J J)<|Zf<|Za<|Zs J (fun h468_2=>?_) (fun h468_2=>?_)
       ·exact Yv<|Zps<|Zv<|Zv<|Ox<|Qt (false,(ps.getD i P0).2.2) ⟨Dz (k:=i) (by omega) ((Zii hc1 hc2).trans (by first | exact Eq.trans (Zhx (xs:=xs) (z:=ps.getD i P0) ‹_›) (Iw ‹_›) | (rw [(Zhv (xs:=xs) (z:=ps.getD i P0) ‹_› (by first | exact .inl (by omega) | exact .inr ‹_›)),←hgl];exact decide_eq_false ‹_›) | (rw [(Zhw (xs:=xs) (z:=ps.getD i P0) ‹_› (by omega) ‹_›),←hgl,←hgc];exact(by first | exact Zlc ‹_› | exact Zb1 ‹_› (Iw ‹_›))))) _,hf2⟩ ⟨by first | rfl | exact congrArg (fun z=>some (Value.bool z)) (Iw ‹_›) | exact congrArg (fun z=>some (Value.bool z)) (decide_eq_false ‹_›),J,J,J,trivial⟩ K10
       ·exact Zj<|Oe<|Za<|Zg<|dt (Yx J J J ⟨by omega,by omega⟩)<|mv J<|Zf<|Xn (i+1) ⟨by first | omega | (dsimp only<;>omega),fun k hk2=>by rcases Nat.lt_succ_iff_lt_or_eq.1 hk2 with h9 | h9;exact hK k h9;rw [h9];exact(Zii hc1 hc2).trans (by first | exact Eq.trans (Zhx (xs:=xs) (z:=ps.getD i P0) ‹_›) (Fm ‹_›) | (rw [(Zhv (xs:=xs) (z:=ps.getD i P0) ‹_› (by first | exact .inl (by omega) | exact .inr ‹_›)),←hgl];exact decide_eq_true (Classical.not_not.1 ‹_›)) | (rw [(Zhw (xs:=xs) (z:=ps.getD i P0) ‹_› (by omega) ‹_›),←hgl,←hgc];exact(Zb1 ‹_› (Fm ‹_›))))⟩ (by first | omega | (dsimp only<;>omega)) ⟨J,J,(congrArg (fun z=>some (Value.bool z)) (Eq.trans (by first | exact Fm ‹_› | exact decide_eq_true (Classical.not_not.1 ‹_›) | assumption) (decide_eq_true (by omega)).symm)),J,J,J,J,J,J,J,trivial⟩ K10
      ·refine gdt (Yo J J) J J<|gdt (Pg J J J) J J<|dt (Zz J J J)<|as_ J<|Zf<|Za<|Zs J (fun h460=>?_) (fun h460=>?_)
       ·refine Zg<|dt (Zy (i:=7) J J J Zdk Bb J J)<|dt (Xs J J Zfu J Xk J J)<|dt (Yp (i:=10) J J J Qp Xk J J J J)<|tt (Zh (n:=10) (Zav _ _ _ _ _ (ps.getD i P0).2.1.1 (ps.getD i P0).2.1.2 hf1p (Qb hgl (fun q hq=>(Mb hd q hq).1)) (Qb hgl (Kw hd (m:=(ps.getD i P0).2.1) (Nat.le_trans hf1.b1 (by decide)) (Nat.le_trans hf1.b2 (by decide))).1)) J J J K3 call62 (Zc 5 J J J (Zc 6 J J J (Nr 8 J J Ze))) J hw) fun _ _=>dt (Ke J J J)<|as_ J<|Zf<|Oe<|Za<|Zd<|Zd<|Zg<|mv J<|dt (Ya (r':= .bool false) (Qc J J J) (congrArg Value.bool (by decide)))<|Zf<|Za<|Ye J<|Zj<|Za<|Zd<|Zg<|mv J<|dt (Zf6 J J)<|Zf<|Za<|Zs J (fun h468_3=>?_) (fun h468_3=>?_)
        ·exact Yv<|Zps<|Zv<|Zv<|Ox<|Qt (false,(ps.getD i P0).2.2) ⟨Dz (k:=i) (by omega) ((Zii hc1 hc2).trans (by first | exact Eq.trans (Zhx (xs:=xs) (z:=ps.getD i P0) ‹_›) (Iw ‹_›) | (rw [(Zhv (xs:=xs) (z:=ps.getD i P0) ‹_› (by first | exact .inl (by omega) | exact .inr ‹_›)),←hgl];exact decide_eq_false ‹_›) | (rw [(Zhw (xs:=xs) (z:=ps.getD i P0) ‹_› (by omega) ‹_›),←hgl,←hgc];exact(by first | exact Zlc ‹_› | exact Zb1 ‹_› (Iw ‹_›))))) _,hf2⟩ ⟨by first | rfl | exact congrArg (fun z=>some (Value.bool z)) (Iw ‹_›) | exact congrArg (fun z=>some (Value.bool z)) (decide_eq_false ‹_›),J,J,J,trivial⟩ K10
        ·exact Zj<|Oe<|Za<|Zg<|dt (Yx J J J ⟨by omega,by omega⟩)<|mv J<|Zf<|Xn (i+1) ⟨by first | omega | (dsimp only<;>omega),fun k hk2=>by rcases Nat.lt_succ_iff_lt_or_eq.1 hk2 with h9 | h9;exact hK k h9;rw [h9];exact(Zii hc1 hc2).trans (by first | exact Eq.trans (Zhx (xs:=xs) (z:=ps.getD i P0) ‹_›) (Fm ‹_›) | (rw [(Zhv (xs:=xs) (z:=ps.getD i P0) ‹_› (by first | exact .inl (by omega) | exact .inr ‹_›)),←hgl];exact decide_eq_true (Classical.not_not.1 ‹_›)) | (rw [(Zhw (xs:=xs) (z:=ps.getD i P0) ‹_› (by omega) ‹_›),←hgl,←hgc];exact(Zb1 ‹_› (Fm ‹_›))))⟩ (by first | omega | (dsimp only<;>omega)) ⟨J,J,(congrArg (fun z=>some (Value.bool z)) (Eq.trans (by first | exact Fm ‹_› | exact decide_eq_true (Classical.not_not.1 ‹_›) | assumption) (decide_eq_true (by omega)).symm)),J,J,J,J,J,J,J,trivial⟩ K10
       ·refine Zg<|dt (Zy (i:=7) J J J Zdk Bb J J)<|dt (Xs J J Zfu J Xk J J)<|dt (Yp (i:=10) J J J Qp Xk J J J J)<|tt (Zh (n:=10) (Znv _ _ _ _ _ (ps.getD i P0).2.1.1 (ps.getD i P0).2.1.2 (by omega) (by omega) hf1p (Qb hgl (fun q hq=>(Mb hd q hq).1)) (Qb hgl (Kw hd (m:=(ps.getD i P0).2.1) (Nat.le_trans hf1.b1 (by decide)) (Nat.le_trans hf1.b2 (by decide))).1)) J J J K3 call99 (Zc 5 J J J (Zc 6 J J J (Nr 8 J J Ze))) J hw) fun _ _=>dt (Pm J J J)<|mv J<|Qm (d:=65) J (fun s463=>?_) (fun s463=>?_)
        ·refine gdt (Zy (i:=7) J J J Zdk Bb J J) J J<|gdt (Xs J J Zfu J Xk J J) J J<|gdt (Yp (i:=10) J J J Qp Xk J J J J) J J<|gdt (Xs J J Zfu J Xk J J) J J<|gdt (Yp (i:=10) J J J Qp Xk J J J J) J J<|gtt (Zh (n:=10) (Zgg _ _ _ _ _ (ps.getD i P0).2.1.1 (ps.getD i P0).2.1.2 (ps.getD i P0).2.2.1 (ps.getD i P0).2.2.2 (by omega) (by omega) (by omega) (by omega) hf1p hf2p (Qb hgc (fun q hq=>(Gr hd q hq).1)) (Qb hgc (Kw hd (m:=(ps.getD i P0).2.1) (Nat.le_trans hf1.b1 (by decide)) (Nat.le_trans hf1.b2 (by decide))).2) (Qb hgc (Kw hd (m:=(ps.getD i P0).2.2) (Nat.le_trans hf2.b1 (by decide)) (Nat.le_trans hf2.b2 (by decide))).2) (by have h7:=congrArg List.length hgc;rw [List.length_map]at h7;have:=Fu xs;omega)) J J J K4 call100 (Zc 5 J J J (Zc 6 J J J (Nr 8 J J Ze))) J hw) J J J fun _ _=>gdt (Xg J J) J J<|dt (Ys J J J)<|as_ J<|Zf<|Oe<|Za<|Zd<|Zd<|Zg<|mv J<|dt (Ya (r':= .bool false) (Qc J J J) (congrArg Value.bool (by decide)))<|Zf<|Za<|Ye J<|Zj<|Za<|Zd<|Zg<|mv J<|dt (Xg J J)<|Zf<|Za<|Mm J (fun h468_4=>?_) (fun h468_4=>?_)
         ·exact Yv<|Zps<|Zv<|Zv<|Ox<|Qt (false,(ps.getD i P0).2.2) ⟨Dz (k:=i) (by omega) ((Zii hc1 hc2).trans (by first | exact Eq.trans (Zhx (xs:=xs) (z:=ps.getD i P0) ‹_›) (Iw ‹_›) | (rw [(Zhv (xs:=xs) (z:=ps.getD i P0) ‹_› (by first | exact .inl (by omega) | exact .inr ‹_›)),←hgl];exact decide_eq_false ‹_›) | (rw [(Zhw (xs:=xs) (z:=ps.getD i P0) ‹_› (by omega) ‹_›),←hgl,←hgc];exact(by first | exact Zlc ‹_› | exact Zb1 ‹_› (Iw ‹_›))))) _,hf2⟩ ⟨by first | rfl | exact congrArg (fun z=>some (Value.bool z)) (Iw ‹_›) | exact congrArg (fun z=>some (Value.bool z)) (decide_eq_false ‹_›),J,J,J,trivial⟩ K10
         ·exact Zj<|Oe<|Za<|Zg<|dt (Yx J J J ⟨by omega,by omega⟩)<|mv J<|Zf<|Xn (i+1) ⟨by first | omega | (dsimp only<;>omega),fun k hk2=>by rcases Nat.lt_succ_iff_lt_or_eq.1 hk2 with h9 | h9;exact hK k h9;rw [h9];exact(Zii hc1 hc2).trans (by first | exact Eq.trans (Zhx (xs:=xs) (z:=ps.getD i P0) ‹_›) (Fm ‹_›) | (rw [(Zhv (xs:=xs) (z:=ps.getD i P0) ‹_› (by first | exact .inl (by omega) | exact .inr ‹_›)),←hgl];exact decide_eq_true (Classical.not_not.1 ‹_›)) | (rw [(Zhw (xs:=xs) (z:=ps.getD i P0) ‹_› (by omega) ‹_›),←hgl,←hgc];exact(Zb1 ‹_› (Fm ‹_›))))⟩ (by first | omega | (dsimp only<;>omega)) ⟨J,J,(congrArg (fun z=>some (Value.bool z)) (Eq.trans (by first | exact Fm ‹_› | exact decide_eq_true (Classical.not_not.1 ‹_›) | assumption) (decide_eq_true (by omega)).symm)),J,J,J,J,J,J,J,trivial⟩ K10
        ·exact gsk J J J<|gsk J J J<|gsk J J J<|gsk J J J<|gsk J J J<|gsk J J J<|gsk J J J<|dt (Zz J J J)<|as_ J<|Zf<|Oe<|Za<|Zd<|Zd<|Zg<|mv J<|dt (Ya (r':= .bool false) (Qc J J J) (congrArg Value.bool (by decide)))<|Zf<|Za<|Ye J<|Zj<|Za<|Zd<|Zg<|mv J<|dt (Xg J J)<|Zf<|Za<|Pf J<|Yv<|Zps<|Zv<|Zv<|Ox<|Qt (false,(ps.getD i P0).2.2) ⟨Dz (k:=i) (by omega) ((Zii hc1 hc2).trans (by first | exact Eq.trans (Zhx (xs:=xs) (z:=ps.getD i P0) ‹_›) (Iw ‹_›) | (rw [(Zhv (xs:=xs) (z:=ps.getD i P0) ‹_› (by first | exact .inl (by omega) | exact .inr ‹_›)),←hgl];exact decide_eq_false ‹_›) | (rw [(Zhw (xs:=xs) (z:=ps.getD i P0) ‹_› (by omega) ‹_›),←hgl,←hgc];exact(by first | exact Zlc ‹_› | exact Zb1 ‹_› (Iw ‹_›))))) _,hf2⟩ ⟨by first | rfl | exact congrArg (fun z=>some (Value.bool z)) (Iw ‹_›) | exact congrArg (fun z=>some (Value.bool z)) (decide_eq_false ‹_›),J,J,J,trivial⟩ K10
  ·exact Yv<|Zv<|Zv<|Ox<|Qt (decide (0<ps.length),(lst a ps i)) ⟨chk_all (by omega) hK,hlE⟩ K4 K10
 ·rintro⟨sh,lz⟩ ⟨hJ,hE⟩
  dsimp only at hJ hE
  simp only [CA,NA]
  have hz1:=hE.b1
  have hz2:=hE.b2
  have hzp:=hE.p
  refine Zd<|Zo<|Zd<|Zg<|dt (Xs J J Ig J Gw J J)<|dt (Oj (i:=8) J J J Zag J)<|dt (Ya (r':= .bool false) (Qc J J J) (congrArg Value.bool (by decide)))<|as_ J<|Zf<|Za<|Ye J<|Zd<|Zg<|mv J<|dt (Xg J J)<|mv J<|Ll (d:=115) J (fun s475=>?_) (fun s475=>?_)
  ·exact gsk J J J<|gsk J J J<|gsk J J J<|gsk J J J<|dt (Ys J J J)<|as_ J<|Zf<|Za<|Pf J<|Zd<|Zg<|as_ J<|Zf<|Za<|Zu<|Ix<|Xa<|x_ngr<|xU hsc results41 J J (by rw [hJ];first | (rw [Iw (b:=sh) ‹_›];rfl) | (rw [decide_eq_false ‹_›,Bool.and_false];rfl))
  ·refine gdt (Yp (i:=9) J J J Qp Xk J J J J) J J<|gdt (Yp (i:=4) J J J Qp Xk J J J J) J J<|gtt (Zh (n:=10) (Gh lz.1 lz.2 b.1 b.2 hzp hbp) J J J K2 call96 Ze J hw) J J J fun _ _=>gdt (Qc J J J) J J<|dt (Zz J J J)<|as_ J<|Zf<|Za<|Zs J (fun h475=>?_) (fun h475=>?_)
   ·exact Zd<|Zg<|as_ J<|Zf<|Za<|Zu<|Ix<|Xa<|x_ngr<|xU hsc results41 J J (by rw [hJ];first | (rw [Iw (b:=sh) ‹_›];rfl) | (rw [decide_eq_false ‹_›,Bool.and_false];rfl))
   ·exact Zj<|Oe<|Za<|Zd<|Zg<|as_ J<|Zf<|Za<|Zu<|x_ngr<|xU hsc results41 J J (by rw [hJ,Fm (b:=sh) ‹_›,decide_eq_true (Decidable.byContradiction ‹_›)];rfl)
theorem fill19(u0 u1 u2 u3 u4 u5 u6 u7 u8 a0 a1 a2 a3 a4 a5 a6 a7 a8:Value):Instr.fill (fun i=>some (i*9,9)) ((List.range (1*9)).map ((Value.agg #[u0,u1,u2,u3,u4,u5,u6,u7,u8]).cells[· % (Value.agg #[u0,u1,u2,u3,u4,u5,u6,u7,u8]).cells.size]!)).toArray [(0,.agg #[a0,a1,a2,a3,a4,a5,a6,a7,a8])]=some #[a0,a1,a2,a3,a4,a5,a6,a7,a8]:=by
 simp [Instr.fill,Value.cells,List.range,List.range.loop]
 try rfl
theorem sz_lit{l:List Int}(h:litb l=true):Sz 40 l:=Sz.of_mem fun x hx=>by
 unfold litb at h
 rw [Bool.and_eq_true]at h
 have h1:=List.all_eq_true.1 h.1 x hx
 simp only [Bool.and_eq_true,decide_eq_true_eq]at h1
 exact(Mp 40 _).2 (by omega)
theorem Zfl{l:List Int}(h:litb l=true)(h2:l.length≤7:=by decide):Cvd l:=⟨vp_b h,(sz_lit h).mono (by omega),h2⟩
theorem Zrf{l:List Int}(h:litb l=true):Sz 40 l:=sz_lit h
theorem Zv3{k:Int}{a b:R2}(ha:Ef a)(hb:Ef b)(h:k=1∨k=2:=by decide):ValP [(k,a,b)]:=fun z hz=>by
 rw [List.mem_singleton.1 hz];exact⟨h,ha,hb⟩
theorem Ztz{xs:List Int}{r m:Int}(h:¬Zai xs r∧Zai xs (r+1)∧bl r.natAbs≤60)(c1:Cvd (Eu xs m))(c2:Cvd (Eu xs (m+1)))(h1:ngb (Pq (Eu xs m)) (chx (Eu xs m)) (0,1) (1,1)=false)(h2:ngb (Pq (Eu xs (m+1))) (chx (Eu xs (m+1))) (0,1) (1,1)=true):r=m:=by
 have l1:¬Zai xs m:=fun e=>by rw [(Bp c1).2 e]at h1;exact absurd h1 (by decide)
 have l2:Zai xs (m+1):=(Bp c2).1 h2
 have a1:=Zmg h.1 l2
 have a2:=Zmg l1 h.2.1
 omega
def smR(r:RWL):Bool:=(r.all fun c=>decide (c.2.size≤4)) && decide (r.length≤7)
theorem smR_no{r:RWL}{i:Nat}(hi:i<r.length)(h:(4:Int)<((r.getD i (false,⟨#[]⟩)).2.size:Int)):smR r=false:=by
 unfold smR
 rw [show(r.all fun c=>decide (c.2.size≤4))=false from ?_]
 ·simp
 ·rw [List.all_eq_false]
  refine⟨r.getD i (false,⟨#[]⟩),Yz hi,?_⟩
  rw [decide_eq_false (by omega)];decide
theorem smR_yes{r:RWL}(h:∀k,k<r.length→(r.getD k (false,⟨#[]⟩)).2.size≤4):smR r=decide ((r.length:Int)≤7):=by
 unfold smR
 rw [show(r.all fun c=>decide (c.2.size≤4))=true from ?_,Bool.true_and]
 ·exact decide_eq_decide.2 (by omega)
 ·rw [List.all_eq_true]
  intro c hc
  obtain⟨k,hk,rfl⟩:=List.mem_iff_getElem.1 hc
  have:=h k hk
  rw [List.getD_eq_getElem?_getD,List.getElem?_eq_getElem hk]at this
  exact decide_eq_true this
theorem smR_le{r:RWL}(h:smR r=true):r.length≤7∧∀c∈r,c.2.size≤4:=by
 unfold smR at h
 rw [Bool.and_eq_true,List.all_eq_true]at h
 exact⟨of_decide_eq_true h.2,fun c hc=>of_decide_eq_true (h.1 c hc)⟩
def enR(z:RZ):Bool:=decide (z.1.2.size≤4) && decide (z.2.2.size≤4)
theorem enR_1{z:RZ}(h:(4:Int)<(z.1.2.size:Int)):enR z=false:=by unfold enR;rw [decide_eq_false (by omega),Bool.false_and]
theorem enR_2{z:RZ}(h:(4:Int)<(z.2.2.size:Int)):enR z=false:=by unfold enR;rw [decide_eq_false (p:=z.2.2.size≤4) (by omega),Bool.and_false]
theorem enR_3{z:RZ}(h1:¬(4:Int)<(z.1.2.size:Int))(h2:¬(4:Int)<(z.2.2.size:Int)):enR z=true:=by unfold enR;rw [decide_eq_true (by omega),decide_eq_true (by omega)];rfl
theorem Zo3{zs:List RZ}{i:Nat}(hi:i<zs.length)(h:enR (zs.getD i Q0)=false):zs.all enR=false:=by
 rw [List.all_eq_false];exact⟨zs.getD i Q0,Yz hi,by rw [h];decide⟩
theorem enL_yes{zs:List RZ}(h:∀k,k<zs.length→enR (zs.getD k Q0)=true):zs.all enR=true:=by
 rw [List.all_eq_true]
 intro c hc
 obtain⟨k,hk,rfl⟩:=List.mem_iff_getElem.1 hc
 have:=h k hk
 rwa [List.getD_eq_getElem?_getD,List.getElem?_eq_getElem hk]at this
theorem Zki(x:Int)(hx:inI x):Mc prog 47 #[.int .i64 x] [] (wv x):=by
 refine Yc func47 J ntmps47 J trivial ?_
 intro w0 sc hw hsc
 simp only [Zq,Zp]
 have hxa:=hx.1
 have hxb:=hx.2
 have hbx:=inI_bl hx
 exact Zd<|Zg<|tt (Zn (i:=1) J J zeroValue31 J J hw) fun b _=>Zf<|Za<|Zd<|Zg<|mv J<|tt (Zh (n:=2) (Zf1 _ hx) J J J K1 call34 Ze J hw) fun v _=>tt (Zh (n:=2) (r_to _ _) J J J K1 call53 (Zc 2 J J J Ze) J hw) fun _ _=>tt (Zm (i:=1) J J J J J (by decide) J Yq J J ⟨Zb J,Zb J,trivial⟩ J hw trivial) fun _ _=>Zf<|Za<|Zu<|Ym (.inl J) hsc () _ (fun a w hs=>Ni hs results47 (Yn (i:=1) J J Qq Yq J)) J trivial J Zk
theorem law4_p(v:Value)(l:List Int)(hl:∀x∈l,inI x)(hlen:l.length≤1000):Cal prog 44 #[v] [slp 1 Zah v l] true (G:=Value) (fun r=>True) (fun r=>r) (fun r=>[slp 2 wv r (tzl l)]):=by
 refine Yc func44 J ntmps44 J K1 ?_
 intro w0 sc hw hsc
 simp only [Zq,Zp]
 have hsz:=Zel hl
 exact Zd<|Zg<|as_ J<|Zf<|Za<|Zd<|Zg<|mv J<|tt (Zh (n:=2) (rp_nums _ _ hl hlen) J J J K1 call102 (Zc 1 J J J Ze) J hw) fun g hg=>tt (Zh (n:=3) (rp_to _ _ (by rw [hg];exact(Sz.tzl hsz).mono (by omega)) (by have h7:=congrArg List.length hg;rw [Zw]at h7;have h8:=Gm l;omega)) J J J K1 call18 (Zc 2 J J J Ze) J hw) fun v _=>as_ J<|Zf<|Za<|Zu<|Ym (.inl J) hsc _ _ (fun a w hs=>Ni hs results44 J) J trivial J (Yi 3 J J J (congrArg (slp 2 wv _) hg) Zk)
theorem Lg(x y:Int)(hx:inI x)(hy:inI y):Mc prog 45 #[.int .i64 x,.int .i64 y] [] (rX x y):=by
 refine Yc func45 J ntmps45 J trivial ?_
 intro w0 sc hw hsc
 simp only [Zq,Zp]
 exact Zd<|Zg<|tt (Zn (i:=1) J J zeroValue41 J J hw) fun b _=>Zf<|Za<|Zd<|Zg<|mv J<|tt (Zh (n:=1) (Zki _ hx) J J J K1 call47 Ze J hw) fun _ _=>mv J<|tt (Zh (n:=1) (Zki _ hy) J J J K1 call47 Ze J hw) fun _ _=>dt (Pv (ivs:=[(0,_),(1,_)]) J K4 (fun a w hs=>Zdd))<|tt (Zm (i:=1) J J J J J (by decide) J Xk J J ⟨Zb J,Zb J,Zb J,Zb J,trivial⟩ J hw trivial) fun _ _=>Zf<|Za<|Zu<|Ym (.inl J) hsc () _ (fun a w hs=>Ni hs results45 (Yn (i:=1) J J Qp Xk J)) J trivial J Zk
theorem Zbe(k x y:Int)(hx:inI x)(hy:inI y):Cal prog 48 #[.int .i64 k,.int .i64 x,.int .i64 y] [] true (G:=Value) (fun r=>True) (fun r=>r) (fun r=>[slp 9 Ziy r [(k,(x,1),(y,1))]]):=by
 refine Yc func48 J ntmps48 J trivial ?_
 intro w0 sc hw hsc
 simp only [Zq,Zp]
 exact Zd<|Zg<|as_ J<|Zf<|Za<|Zd<|Zg<|mv J<|mv J<|tt (Zh (n:=0) (Lg _ _ hx ⟨by decide,by decide⟩) J J J K2 Zdc Ze J hw) fun _ _=>mv J<|tt (Zh (n:=0) (Lg _ _ hy ⟨by decide,by decide⟩) J J J K2 Zdc Ze J hw) fun _ _=>dt (Pv (ivs:=[(0,_),(1,_),(2,_)]) J K6 (fun a w hs=>b79_012 ((Zb J) a w hs)))<|tt (Po (i:=1) (ivs:=[(0,_)]) (enc:=Ziy) [(k,(x,1),(y,1))] J J K2 Zvs ti79 J J (fill19 _ _ _ _ _ _ _ _ _ _ _ _ _ _ _ _ _ _) J J pP9.cells J J hw) fun v _=>as_ J<|Zf<|Za<|Zu<|Ym (.inl J) hsc _ _ (fun a w hs=>Ni hs results48 J) J trivial J (Zov 1 J J pP9 Zk)
theorem Zbf(x y:Int)(hx:inI x)(hy:inI y):Mc prog 46 #[.int .i64 x,.int .i64 y] [] (.agg #[.bool (decide (x<0)),.string (Qo x.natAbs),.bool (decide ((1:Int)<0)),.string (Qo (1:Int).natAbs),.bool (decide (y<0)),.string (Qo y.natAbs),.bool (decide ((1:Int)<0)),.string (Qo (1:Int).natAbs)]):=by
 refine Yc func46 J ntmps46 J trivial ?_
 intro w0 sc hw hsc
 simp only [Zq,Zp]
 exact Zd<|Zg<|tt (Zn (i:=1) J J zeroValue62 J J hw) fun bx _=>Zf<|Za<|Zd<|Zg<|mv J<|tt (Zh (n:=1) (Lg _ _ hx ⟨by decide,by decide⟩) J J J K2 Zdc Ze J hw) fun _ _=>mv J<|tt (Zh (n:=1) (Lg _ _ hy ⟨by decide,by decide⟩) J J J K2 Zdc Ze J hw) fun _ _=>dt (Pv (ivs:=[(0,_),(1,_)]) J K4 (fun a w hs=>Zvj))<|tt (Zm (i:=1) J J J J J (by decide) J Km J J ⟨Zb J,Zb J,Zb J,Zb J,Zb J,Zb J,Zb J,Zb J,trivial⟩ J hw trivial) fun _ _=>Zf<|Za<|Zu<|Ym (.inl J) hsc () _ (fun a w hs=>Ni hs results46 (Yn (i:=1) J J Ce Km J)) J trivial J Zk
theorem Ew(v:Value)(r:List (Bool×ByteArray)):Mc prog 10 #[v] [slp 2 Zfg v r] (.bool (smR r)):=by
 refine Yc func10 J ntmps10 J K1 ?_
 intro w0 sc hw hsc
 simp only [Zq,Zp]
 refine Md (Ge (i:=1) J Zi) fun hlen=>Zd<|Zg<|as_ J<|Zf<|Za<|Zd<|Zd<|Zg<|mv J<|dt (Yd J J (i:=1) J Zi Qx)<|mv J<|Zf<|Za<|Zo<|Nt [(0,_),(5,_),(6,_)] [(0,_),(1,_)] (fun(i:Nat)=>[(7,.int .i64 (i:Int))]) (fun(i:Nat)=>[]) (fun(i:Nat)=>(i≤r.length)∧(∀k,k<i→(r.getD k (false,⟨#[]⟩)).2.size≤4)) (fun(i:Nat)=>r.length-i) 0 ⟨by first | omega | (dsimp only<;>omega),fun k hk=>absurd hk (Nat.not_lt_zero k)⟩ K4 K2 ?_
 rintro i ⟨hi,hk⟩
 simp only [CA,NA]
 refine Zd<|Zg<|dt (Xr J J J)<|Zf<|Za<|Zd<|Zs J (fun h56=>?_) (fun h56=>?_)
 ·refine Zj<|Za<|Zd<|Zo<|Zd<|Zg<|dt (Xb (ii:=1) J J J J Zi Qx Yq J (by first | omega | (simp only [List.length_set];omega)))<|dt (Xv (ii:=1) (false,⟨#[]⟩) J J J Zi pW (by first | omega | (simp only [List.length_set];omega)))<|tt (Zn (i:=2) J J zeroValue31 J J hw) fun b _=>tt (Zm (i:=2) J J J J J (by decide) J Yq J J ⟨Zb J,Zb J,trivial⟩ J hw trivial) fun _ _=>Zf<|Za<|Zd<|Zg<|dt (Xs J J Zam J zT9 J J)<|dt (Oj (i:=2) J J J iA9 J)<|dt (Fi J J uT9)<|dt (Pm J J J)<|Zf<|Za<|Zs J (fun h57=>?_) (fun h57=>?_)
  ·exact Zd<|Zg<|as_ J<|Zf<|Za<|Zu<|Ix<|Xa<|Xa<|Ix<|Xa<|xU hsc results10 J J (by rw [smR_no (i:=i) (by omega) ‹_›])
  ·exact Zj<|Oe<|Za<|Zg<|dt (Yx J J J ⟨by omega,by omega⟩)<|mv J<|Zf<|Xn (i+1) ⟨by first | omega | (dsimp only<;>omega),fun k hk2=>by rcases Nat.lt_succ_iff_lt_or_eq.1 hk2 with h9 | h9;exact hk k h9;subst h9;omega⟩ (by first | omega | (dsimp only<;>omega)) K4 K2
 ·exact Yv<|Zv<|Zv<|Ox<|Za<|Zd<|Zg<|mv J<|dt (Yd J J (i:=1) J Zi Qx)<|dt (Cf J J J)<|as_ J<|Zf<|Za<|Zu<|xU hsc results10 J J (by rw [smR_yes fun k hk2=>hk k (by omega)])
theorem Zbh(v:Value)(zs:List RZ):Mc prog 20 #[v] [slp 4 encQ v zs] (.bool (zs.all enR)):=by
 refine Yc func20 J ntmps20 J K1 ?_
 intro w0 sc hw hsc
 simp only [Zq,Zp]
 refine Md (Ge (i:=1) J Zi) fun hlen=>Zd<|Zg<|as_ J<|Zf<|Za<|Zd<|Zd<|Zg<|mv J<|dt (Yd J J (i:=1) J Zi Zqr)<|mv J<|Zf<|Za<|Zo<|Nt [(5,_),(6,_)] [(0,_),(1,_)] (fun(i:Nat)=>[(7,.int .i64 (i:Int))]) (fun(i:Nat)=>[]) (fun(i:Nat)=>(i≤zs.length)∧(∀k,k<i→enR (zs.getD k Q0)=true)) (fun(i:Nat)=>zs.length-i) 0 ⟨by first | omega | (dsimp only<;>omega),fun k hk=>absurd hk (Nat.not_lt_zero k)⟩ K3 K2 ?_
 rintro i ⟨hi,hk⟩
 simp only [CA,NA]
 refine Zd<|Zg<|dt (Xr J J J)<|Zf<|Za<|Zd<|Zs J (fun h66=>?_) (fun h66=>?_)
 ·refine Zj<|Za<|Zd<|Zo<|Zd<|Zg<|dt (Xb (ii:=1) J J J J Zi Zqr Xk J (by first | omega | (simp only [List.length_set];omega)))<|dt (Xv (ii:=1) ((false,⟨#[]⟩),(false,⟨#[]⟩)) J J J Zi pR (by first | omega | (simp only [List.length_set];omega)))<|tt (Zn (i:=2) J J zeroValue41 J J hw) fun bx _=>tt (Zm (i:=2) J J J J J (by decide) J Xk J J ⟨Zb J,Zb J,Zb J,Zb J,trivial⟩ J hw trivial) fun _ _=>Zf<|Za<|Zd<|Zg<|dt (Xs J J Cd J Yq J J)<|dt (Xs J J Zam J zT9 J J)<|dt (Oj (i:=2) J J J iA9 J)<|dt (Fi J J uT9)<|dt (Pm J J J)<|mv J<|Qm (d:=16) J (fun s67=>?_) (fun s67=>?_)
  ·exact gsk J J J<|gsk J J J<|gsk J J J<|gsk J J J<|gsk J J J<|dt (Ys J J J)<|Zf<|Za<|Pf J<|Zd<|Zg<|as_ J<|Zf<|Za<|Zu<|Ix<|Xa<|Xa<|Ix<|Xa<|xU hsc results20 J J (by first | rw [Zo3 (i:=i) (by omega) (enR_1 ‹_›)] | rw [Zo3 (i:=i) (by omega) (enR_2 ‹_›)])
  ·refine gdt (Xs J J Cd J Yq J J) J J<|gdt (Xs J J Zam J zT9 J J) J J<|gdt (Oj (i:=2) J J J iA9 J) J J<|gdt (Fi J J uT9) J J<|gdt (Pm J J J) J J<|dt (Zz J J J)<|Zf<|Za<|Zs J (fun h67=>?_) (fun h67=>?_)
   ·exact Zd<|Zg<|as_ J<|Zf<|Za<|Zu<|Ix<|Xa<|Xa<|Ix<|Xa<|xU hsc results20 J J (by first | rw [Zo3 (i:=i) (by omega) (enR_1 ‹_›)] | rw [Zo3 (i:=i) (by omega) (enR_2 ‹_›)])
   ·exact Zj<|Oe<|Za<|Zg<|dt (Yx J J J ⟨by omega,by omega⟩)<|mv J<|Zf<|Xn (i+1) ⟨by first | omega | (dsimp only<;>omega),fun k hk2=>by rcases Nat.lt_succ_iff_lt_or_eq.1 hk2 with h9 | h9;exact hk k h9;subst h9;exact enR_3 ‹_› ‹_›⟩ (by first | omega | (dsimp only<;>omega)) K3 K2
 ·exact Yv<|Zv<|Zv<|Ox<|Za<|Zd<|Zg<|as_ J<|Zf<|Za<|Zu<|xU hsc results20 J J (by rw [enL_yes fun k hk2=>hk k (by omega)])
theorem Zf3(v:Value)(r:List (Bool×ByteArray))(z1 z2:RZ)(hbad:(okP r && qOK z1 && qOK z2)=false):Mc prog 22 #[v,.agg #[.bool z1.1.1,.string z1.1.2,.bool z1.2.1,.string z1.2.2],.agg #[.bool z2.1.1,.string z2.1.2,.bool z2.2.1,.string z2.2.2]] [slp 2 Zfg v r] (.int .i64 2):=by
 refine Yc func22 J ntmps22 J K1 ?_
 intro w0 sc hw hsc
 simp only [Zq,Zp]
 refine Zd<|Zg<|tt (Yu (i:=2) J J J J J hw) fun bx _=>tt (Yu (i:=3) J J J J J hw) fun bx_2 _=>as_ J<|Zf<|Za<|Zd<|Zd<|Zg<|mv J<|tt (Zh (n:=3) (Znz _ _) J J J K1 call13 (Zc 1 J J J Ze) J hw) fun _ _=>dt (Xg J J)<|mv J<|Ll (d:=10) J (fun s76=>?_) (fun s76=>?_)
 ·exact gsk J J J<|gsk J J J<|gsk J J J<|dt (Ys J J J)<|mv J<|gsk J J J<|gsk J J J<|gsk J J J<|dt (Ys J J J)<|Zf<|Za<|Pf J<|Zd<|Zg<|as_ J<|Zf<|Za<|Zu<|Xa<|xU hsc results22 J J J
 ·refine gdt (Yp (i:=2) J J J Qp Xk J J J J) J J<|gtt (Zh (n:=3) (Fd _ _ _ _) J J J K1 call25 Ze J hw) J J J fun _ _=>gdt (Xg J J) J J<|dt (Zz J J J)<|mv J<|Ll (d:=15) J (fun s76_2=>?_) (fun s76_2=>?_)
  ·exact gsk J J J<|gsk J J J<|gsk J J J<|dt (Ys J J J)<|Zf<|Za<|Pf J<|Zd<|Zg<|as_ J<|Zf<|Za<|Zu<|Xa<|xU hsc results22 J J J
  ·refine gdt (Yp (i:=3) J J J Qp Xk J J J J) J J<|gtt (Zh (n:=3) (Fd _ _ _ _) J J J K1 call25 Ze J hw) J J J fun _ _=>gdt (Xg J J) J J<|dt (Zz J J J)<|Zf<|Za<|Mm J (fun h76=>?_) (fun h76=>?_)
   ·exact Zd<|Zg<|as_ J<|Zf<|Za<|Zu<|Xa<|xU hsc results22 J J J
   ·refine Zj<|Za<|Zd<|Zd ?_
    exfalso;simp_all [qOK]
theorem Zbg(v:Value)(r:List (Bool×ByteArray))(a b:R2)(hok:okP r=true)(ha:E32 a)(hb:E32 b):Mc prog 22 #[v,rX a.1 a.2,rX b.1 b.2] [slp 2 Zfg v r] (.int .i64 (if 0<cmp a b then 3 else 0)):=by
 refine Yc func22 J ntmps22 J K1 ?_
 intro w0 sc hw hsc
 simp only [Zq,Zp]
 have ha1:=ha.b1
 have ha2:=ha.b2
 have hap:=ha.p
 have hb1:=hb.b1
 have hb2:=hb.b2
 have hbp:=hb.p
 refine Zd<|Zg<|tt (Yu (i:=2) J J J J J hw) fun bx _=>tt (Yu (i:=3) J J J J J hw) fun bx_2 _=>as_ J<|Zf<|Za<|Zd<|Zd<|Zg<|mv J<|tt (Zh (n:=3) (Znz _ _) J J J K1 call13 (Zc 1 J J J Ze) J hw) fun _ _=>dt (Ya (r':= .bool false) (Xg J J) (congrArg Value.bool (by rw [hok];rfl)))<|mv J<|gdt (Yp (i:=2) J J J Qp Xk J J J J) J J<|gtt (Zh (n:=3) (Fd _ _ _ _) J J J K1 call25 Ze J hw) J J J fun _ _=>gdt (Ya (r':= .bool false) (Xg J J) (congrArg Value.bool (by rw [Zsu (show bl a.1.natAbs≤65536 by omega) (by omega) hap];rfl))) J J<|dt (Zz J J J)<|mv J<|gdt (Yp (i:=3) J J J Qp Xk J J J J) J J<|gtt (Zh (n:=3) (Fd _ _ _ _) J J J K1 call25 Ze J hw) J J J fun _ _=>gdt (Ya (r':= .bool false) (Xg J J) (congrArg Value.bool (by rw [Zsu (show bl b.1.natAbs≤65536 by omega) (by omega) hbp];rfl))) J J<|dt (Zz J J J)<|Zf<|Za<|Ye J<|Zj<|Za<|Zd<|Zd<|Qi (fun _=>False) [(0,0),(2,0),(1,1),(3,1),(4,1),(5,0)] ?_ ?_
 ·kernel_rfl
 refine r0' J J (st0 (Yp (i:=2) J J J Qp Xk J J J J))<|r0' J J (st0 (Yp (i:=3) J J J Qp Xk J J J J))<|r1' J (Zh (n:=4) (Xl _ _) J J J K1 Ai Ze J hw) fun g _=>r1' J (Zh (n:=6) (Xl _ _) J J J K1 Ai Ze J hw) fun g_2 _=>r1' J (Zh (n:=7) (Zgo _ _ _ _ a.1 a.2 b.1 b.2) J J J K2 call27 (Zc 4 J J J (Zc 5 J J J (Zc 6 J J J (Zc 7 J J J Ze)))) J hw) fun _ _=>r0' J J (st0 (Pm J J J))<|Of<|Za<|Zs J (fun h79=>?_) (fun h79=>?_)
 ·exact Zd<|Zg<|as_ J<|Zf<|Za<|Zu<|Xa<|xU hsc results22 J J (by rw [if_pos (show 0<cmp a b from by assumption)])
 ·exact Zj<|Za<|Zd<|Zg<|as_ J<|Zf<|Za<|Zu<|xU hsc results22 J J (by rw [if_neg (show ¬0<cmp a b from by assumption)])
theorem k_od1(v:Value):Cal Tryz.prog 12 #[v] [slp 2 wv v [0,0,-1,1]] true (G:=Value) (fun r=>True) (fun r=> .tuple #[r,.int .i64 0]) (fun r=>[slp 2 wv r [-1,1]]):=by
 have h:=Zlq v [0,0,-1,1] (Zfl (by decide +kernel)) 
 rw [show Hu [0,0,-1,1]=[-1,1] by decide +kernel]at h
 exact h
theorem k_od2(v:Value):Cal Tryz.prog 12 #[v] [slp 2 wv v [4,-4,1]] true (G:=Value) (fun r=>True) (fun r=> .tuple #[r,.int .i64 0]) (fun r=>[slp 2 wv r [1]]):=by
 have h:=Zlq v [4,-4,1] (Zfl (by decide +kernel)) 
 rw [show Hu [4,-4,1]=[1] by decide +kernel]at h
 exact h
theorem k_od3(v:Value):Cal Tryz.prog 12 #[v] [slp 2 wv v [-7]] true (G:=Value) (fun r=>True) (fun r=> .tuple #[r,.int .i64 0]) (fun r=>[slp 2 wv r [1]]):=by
 have h:=Zlq v [-7] (Zfl (by decide +kernel)) 
 rw [show Hu [-7]=[1] by decide +kernel]at h
 exact h
theorem k_ng1(v:Value):Cal Tryz.prog 21 #[v,.agg #[.bool (decide ((0:Int)<0)),.string (Qo (0:Int).natAbs),.bool (decide ((1:Int)<0)),.string (Qo (1:Int).natAbs)],.agg #[.bool (decide ((2:Int)<0)),.string (Qo (2:Int).natAbs),.bool (decide ((1:Int)<0)),.string (Qo (1:Int).natAbs)]] [slp 2 wv v [1,-2,1]] false (G:=Unit) (fun _=>True) (fun _=> .tuple #[.agg #[.bool false,.string ⟨#[]⟩,.bool false,.string ⟨#[]⟩],.bool false,.int .i64 0]) (fun _=>[]):=by
 have h:=Ab v [1,-2,1] ((0:Int),(1:Int)) ((2:Int),(1:Int)) (Zfl (by decide +kernel)) ⟨by decide,by decide +kernel,by decide +kernel⟩ ⟨by decide,by decide +kernel,by decide +kernel⟩ (by decide +kernel) (by decide +kernel)
 exact h
theorem k_ng2(v:Value):Cal Tryz.prog 21 #[v,.agg #[.bool (decide ((-1:Int)<0)),.string (Qo (-1:Int).natAbs),.bool (decide ((1:Int)<0)),.string (Qo (1:Int).natAbs)],.agg #[.bool (decide ((1:Int)<0)),.string (Qo (1:Int).natAbs),.bool (decide ((1:Int)<0)),.string (Qo (1:Int).natAbs)]] [slp 2 wv v [-2,0,1]] false (G:=R2) (fun r=>Fnd [-2,0,1] (qv ((-1:Int),(1:Int))) (qv ((1:Int),(1:Int))) r) (fun r=> .tuple #[.agg #[.bool (decide (r.1<0)),.string (Qo r.1.natAbs),.bool (decide (r.2<0)),.string (Qo r.2.natAbs)],.bool true,.int .i64 0]) (fun r=>[]):=by
 have h:=Cj v [-2,0,1] ((-1:Int),(1:Int)) ((1:Int),(1:Int)) (Zfl (by decide +kernel)) ⟨by decide,by decide +kernel,by decide +kernel⟩ ⟨by decide,by decide +kernel,by decide +kernel⟩ (by decide +kernel) (by decide +kernel)
 exact h
theorem k_ng3(v:Value):Cal Tryz.prog 21 #[v,.agg #[.bool (decide ((2:Int)<0)),.string (Qo (2:Int).natAbs),.bool (decide ((1:Int)<0)),.string (Qo (1:Int).natAbs)],.agg #[.bool (decide ((3:Int)<0)),.string (Qo (3:Int).natAbs),.bool (decide ((1:Int)<0)),.string (Qo (1:Int).natAbs)]] [slp 2 wv v [-2,0,1]] false (G:=Unit) (fun _=>True) (fun _=> .tuple #[.agg #[.bool false,.string ⟨#[]⟩,.bool false,.string ⟨#[]⟩],.bool false,.int .i64 0]) (fun _=>[]):=by
 have h:=Ab v [-2,0,1] ((2:Int),(1:Int)) ((3:Int),(1:Int)) (Zfl (by decide +kernel)) ⟨by decide,by decide +kernel,by decide +kernel⟩ ⟨by decide,by decide +kernel,by decide +kernel⟩ (by decide +kernel) (by decide +kernel)
 exact h
theorem k_fs1(v:Value):Cal Tryz.prog 31 #[v,.agg #[.bool (decide ((0:Int)<0)),.string (Qo (0:Int).natAbs),.bool (decide ((1:Int)<0)),.string (Qo (1:Int).natAbs)],.agg #[.bool (decide ((2:Int)<0)),.string (Qo (2:Int).natAbs),.bool (decide ((1:Int)<0)),.string (Qo (1:Int).natAbs)],.int .i64 1] [slp 2 wv v [-1,1]] false (G:=Unit) (fun _=>True) (fun _=> .tuple #[.agg #[.bool (decide ((0:Int)<0)),.string (Qo (0:Int).natAbs),.bool (decide ((1:Int)<0)),.string (Qo (1:Int).natAbs),.bool (decide ((1:Int)<0)),.string (Qo (1:Int).natAbs),.bool (decide ((1:Int)<0)),.string (Qo (1:Int).natAbs)],.int .i64 0]) (fun _=>[]):=by
 have h:=An v [-1,1] ((0:Int),(1:Int)) ((2:Int),(1:Int)) (Zfl (by decide +kernel)) ⟨by decide,by decide +kernel,by decide +kernel⟩ ⟨by decide,by decide +kernel,by decide +kernel⟩ 1 (by decide +kernel) (by decide +kernel)
 rw [show frs [-1,1] 1 (slow ((0:Int),(1:Int))) (slow ((2:Int),(1:Int)))=(((0:Int),(1:Int)),((1:Int),(1:Int))) by decide +kernel]at h
 exact h
theorem k_fs2(v:Value):Cal Tryz.prog 31 #[v,.agg #[.bool (decide ((0:Int)<0)),.string (Qo (0:Int).natAbs),.bool (decide ((1:Int)<0)),.string (Qo (1:Int).natAbs)],.agg #[.bool (decide ((4:Int)<0)),.string (Qo (4:Int).natAbs),.bool (decide ((1:Int)<0)),.string (Qo (1:Int).natAbs)],.int .i64 2] [slp 2 wv v [1,-1]] false (G:=Unit) (fun _=>True) (fun _=> .tuple #[.agg #[.bool (decide ((1:Int)<0)),.string (Qo (1:Int).natAbs),.bool (decide ((1:Int)<0)),.string (Qo (1:Int).natAbs),.bool (decide ((2:Int)<0)),.string (Qo (2:Int).natAbs),.bool (decide ((1:Int)<0)),.string (Qo (1:Int).natAbs)],.int .i64 0]) (fun _=>[]):=by
 have h:=An v [1,-1] ((0:Int),(1:Int)) ((4:Int),(1:Int)) (Zfl (by decide +kernel)) ⟨by decide,by decide +kernel,by decide +kernel⟩ ⟨by decide,by decide +kernel,by decide +kernel⟩ 2 (by decide +kernel) (by decide +kernel)
 rw [show frs [1,-1] 2 (slow ((0:Int),(1:Int))) (slow ((4:Int),(1:Int)))=(((1:Int),(1:Int)),((2:Int),(1:Int))) by decide +kernel]at h
 exact h
theorem k_fs3(v:Value):Cal Tryz.prog 31 #[v,.agg #[.bool (decide ((0:Int)<0)),.string (Qo (0:Int).natAbs),.bool (decide ((1:Int)<0)),.string (Qo (1:Int).natAbs)],.agg #[.bool (decide ((1:Int)<0)),.string (Qo (1:Int).natAbs),.bool (decide ((1:Int)<0)),.string (Qo (1:Int).natAbs)],.int .i64 3] [slp 2 wv v [1,0,1]] false (G:=Unit) (fun _=>True) (fun _=> .tuple #[.agg #[.bool false,.string ⟨#[]⟩,.bool false,.string ⟨#[]⟩,.bool false,.string ⟨#[]⟩,.bool false,.string ⟨#[]⟩],.int .i64 9]) (fun _=>[]):=by
 have h:=Zax v [1,0,1] ((0:Int),(1:Int)) ((1:Int),(1:Int)) (Zfl (by decide +kernel)) ⟨by decide,by decide +kernel,by decide +kernel⟩ ⟨by decide,by decide +kernel,by decide +kernel⟩ 3 (by decide) (by decide +kernel) (by decide +kernel)
 exact h
theorem k_pv(v:Value):Cal Tryz.prog 38 #[v,.agg #[.bool (decide ((0:Int)<0)),.string (Qo (0:Int).natAbs),.bool (decide ((1:Int)<0)),.string (Qo (1:Int).natAbs)],.agg #[.bool (decide ((2:Int)<0)),.string (Qo (2:Int).natAbs),.bool (decide ((1:Int)<0)),.string (Qo (1:Int).natAbs)]] [slp 2 wv v [-1,1]] false (G:=Unit) (fun _=>True) (fun _=> .tuple #[.slice none 0 0,.int .i64 10]) (fun _=>[]):=by
 have h:=Zls v [-1,1] ((0:Int),(1:Int)) ((2:Int),(1:Int)) (Zfl (by decide +kernel)) ⟨by decide,by decide +kernel,by decide +kernel⟩ ⟨by decide,by decide +kernel,by decide +kernel⟩ (by decide +kernel) (by decide +kernel)
 exact h
theorem k_ck1(v u:Value):Cal Tryz.prog 41 #[v,.agg #[.bool (decide ((0:Int)<0)),.string (Qo (0:Int).natAbs),.bool (decide ((1:Int)<0)),.string (Qo (1:Int).natAbs)],.agg #[.bool (decide ((2:Int)<0)),.string (Qo (2:Int).natAbs),.bool (decide ((1:Int)<0)),.string (Qo (1:Int).natAbs)],u] [slp 2 wv v [1,-2,1],slp 9 Ziy u [((2:Int),((0:Int),(1:Int)),((2:Int),(1:Int)))]] false (G:=Unit) (fun _=>True) (fun _=> .int .i64 0) (fun _=>[]):=by
 have h:=Dh v u [1,-2,1] [((2:Int),((0:Int),(1:Int)),((2:Int),(1:Int)))] ((0:Int),(1:Int)) ((2:Int),(1:Int)) (Zfl (by decide +kernel)) ⟨by decide,by decide +kernel,by decide +kernel⟩ ⟨by decide,by decide +kernel,by decide +kernel⟩ (Zv3 ⟨by decide,by decide +kernel,by decide +kernel⟩ ⟨by decide,by decide +kernel,by decide +kernel⟩) (by decide +kernel)
 rw [show Zvx [1,-2,1] [((2:Int),((0:Int),(1:Int)),((2:Int),(1:Int)))] ((0:Int),(1:Int)) ((2:Int),(1:Int))=true by decide +kernel]at h
 exact h
theorem k_ck2(v u:Value):Cal Tryz.prog 41 #[v,.agg #[.bool (decide ((0:Int)<0)),.string (Qo (0:Int).natAbs),.bool (decide ((1:Int)<0)),.string (Qo (1:Int).natAbs)],.agg #[.bool (decide ((2:Int)<0)),.string (Qo (2:Int).natAbs),.bool (decide ((1:Int)<0)),.string (Qo (1:Int).natAbs)],u] [slp 2 wv v [1,1],slp 9 Ziy u [((1:Int),((0:Int),(1:Int)),((2:Int),(1:Int)))]] false (G:=Unit) (fun _=>True) (fun _=> .int .i64 0) (fun _=>[]):=by
 have h:=Dh v u [1,1] [((1:Int),((0:Int),(1:Int)),((2:Int),(1:Int)))] ((0:Int),(1:Int)) ((2:Int),(1:Int)) (Zfl (by decide +kernel)) ⟨by decide,by decide +kernel,by decide +kernel⟩ ⟨by decide,by decide +kernel,by decide +kernel⟩ (Zv3 ⟨by decide,by decide +kernel,by decide +kernel⟩ ⟨by decide,by decide +kernel,by decide +kernel⟩) (by decide +kernel)
 rw [show Zvx [1,1] [((1:Int),((0:Int),(1:Int)),((2:Int),(1:Int)))] ((0:Int),(1:Int)) ((2:Int),(1:Int))=true by decide +kernel]at h
 exact h
theorem k_ck3(v u:Value):Cal Tryz.prog 41 #[v,.agg #[.bool (decide ((0:Int)<0)),.string (Qo (0:Int).natAbs),.bool (decide ((1:Int)<0)),.string (Qo (1:Int).natAbs)],.agg #[.bool (decide ((2:Int)<0)),.string (Qo (2:Int).natAbs),.bool (decide ((1:Int)<0)),.string (Qo (1:Int).natAbs)],u] [slp 2 wv v [1,-2,1],slp 9 Ziy u [((1:Int),((0:Int),(1:Int)),((2:Int),(1:Int)))]] false (G:=Unit) (fun _=>True) (fun _=> .int .i64 10) (fun _=>[]):=by
 have h:=Dh v u [1,-2,1] [((1:Int),((0:Int),(1:Int)),((2:Int),(1:Int)))] ((0:Int),(1:Int)) ((2:Int),(1:Int)) (Zfl (by decide +kernel)) ⟨by decide,by decide +kernel,by decide +kernel⟩ ⟨by decide,by decide +kernel,by decide +kernel⟩ (Zv3 ⟨by decide,by decide +kernel,by decide +kernel⟩ ⟨by decide,by decide +kernel,by decide +kernel⟩) (by decide +kernel)
 rw [show Zvx [1,-2,1] [((1:Int),((0:Int),(1:Int)),((2:Int),(1:Int)))] ((0:Int),(1:Int)) ((2:Int),(1:Int))=false by decide +kernel]at h
 exact h
theorem k_ck4(v u:Value):Cal Tryz.prog 41 #[v,.agg #[.bool (decide ((0:Int)<0)),.string (Qo (0:Int).natAbs),.bool (decide ((1:Int)<0)),.string (Qo (1:Int).natAbs)],.agg #[.bool (decide ((2:Int)<0)),.string (Qo (2:Int).natAbs),.bool (decide ((1:Int)<0)),.string (Qo (1:Int).natAbs)],u] [slp 2 wv v [1,1],slp 9 Ziy u [((1:Int),((0:Int),(1:Int)),((1:Int),(1:Int)))]] false (G:=Unit) (fun _=>True) (fun _=> .int .i64 10) (fun _=>[]):=by
 have h:=Dh v u [1,1] [((1:Int),((0:Int),(1:Int)),((1:Int),(1:Int)))] ((0:Int),(1:Int)) ((2:Int),(1:Int)) (Zfl (by decide +kernel)) ⟨by decide,by decide +kernel,by decide +kernel⟩ ⟨by decide,by decide +kernel,by decide +kernel⟩ (Zv3 ⟨by decide,by decide +kernel,by decide +kernel⟩ ⟨by decide,by decide +kernel,by decide +kernel⟩) (by decide +kernel)
 rw [show Zvx [1,1] [((1:Int),((0:Int),(1:Int)),((1:Int),(1:Int)))] ((0:Int),(1:Int)) ((2:Int),(1:Int))=false by decide +kernel]at h
 exact h
theorem k_fl1(r:Int)(h:¬Zai [0,-1,1] r∧Zai [0,-1,1] (r+1)∧bl r.natAbs≤60):r=-1:=Ztz (m:=-1) h (Zfl (by decide +kernel)) (Zfl (by decide +kernel)) (by decide +kernel) (by decide +kernel)
theorem k_fc1(v:Value):Cal Tryz.prog 33 #[v] [slp 2 wv v [0,-1,1]] false (G:=Int) (fun r=>¬Zai [0,-1,1] r∧Zai [0,-1,1] (r+1)∧bl r.natAbs≤60) (fun r=> .tuple #[wv r,.int .i64 0]) (fun r=>[]):=by
 have h:=Zhz v [0,-1,1] (Zfl (by decide +kernel)) (Zrf (by decide +kernel))
 exact h
theorem k_fl2(r:Int)(h:¬Zai [7] r∧Zai [7] (r+1)∧bl r.natAbs≤60):r=7:=Ztz (m:=7) h (Zfl (by decide +kernel)) (Zfl (by decide +kernel)) (by decide +kernel) (by decide +kernel)
theorem k_fc2(v:Value):Cal Tryz.prog 33 #[v] [slp 2 wv v [7]] false (G:=Int) (fun r=>¬Zai [7] r∧Zai [7] (r+1)∧bl r.natAbs≤60) (fun r=> .tuple #[wv r,.int .i64 0]) (fun r=>[]):=by
 have h:=Zhz v [7] (Zfl (by decide +kernel)) (Zrf (by decide +kernel))
 exact h
theorem k_fl3(r:Int)(h:¬Zai [3,-1] r∧Zai [3,-1] (r+1)∧bl r.natAbs≤60):r=2:=Ztz (m:=2) h (Zfl (by decide +kernel)) (Zfl (by decide +kernel)) (by decide +kernel) (by decide +kernel)
theorem k_fc3(v:Value):Cal Tryz.prog 33 #[v] [slp 2 wv v [3,-1]] false (G:=Int) (fun r=>¬Zai [3,-1] r∧Zai [3,-1] (r+1)∧bl r.natAbs≤60) (fun r=> .tuple #[wv r,.int .i64 0]) (fun r=>[]):=by
 have h:=Zhz v [3,-1] (Zfl (by decide +kernel)) (Zrf (by decide +kernel))
 exact h
theorem Zg1(v:Value)(l xs:List Int)(h1:(l.all fun x=>decide (-1000000≤x) && decide (x≤1000000))=true)(hx:tzl l=xs)(h2:l.length≤1000:=by decide):Cal Tryz.prog 44 #[v] [slp 1 Zah v l] true (G:=Value) (fun r=>True) (fun r=>r) (fun r=>[slp 2 wv r xs]):=by
 subst hx;exact law4_p v l (Ztu h1) h2
set_option maxHeartbeats 4000000 in
theorem La:Mc prog 11 #[] [] (.bool true):=by
 refine Yc func11 J ntmps11 J trivial ?_
 intro w0 sc hw hsc
 simp only [Zq,Zp]
 refine Yr (Na 999 2 31 wv)<|Yr (Pd 999 J J pV)<|Zd<|Zg<|as_ J<|Zf<|Za<|Zd<|Zg<|tt (Po (i:=1) (ivs:=[(0,_),(1,_),(2,_),(3,_)]) (enc:=Zah) ([0,0,-1,1]:List Int) J J K8 Me ti3 J J J J J pZ.cells J J hw) fun v _=>Oc (Pd 1 J J pZ)<|tt (Zh (n:=2) (Zg1 _ [0,0,-1,1] [0,0,-1,1] (by decide +kernel) (by decide +kernel)) J J J K1 Zg9 (Zc 1 J J J Ze) J hw) fun v_2 _=>tt (Zh (n:=3) (k_od1 _) J J J K1 call12 (Zc 2 J J J Ze) J hw) fun _ _=>mv J<|dt (Yh J J J)<|dt (Yh J J J)<|as_ J<|as_ J<|Zf<|Za<|Zd<|Zg<|tt (Po (i:=4) (ivs:=[(0,_),(1,_),(2,_)]) (enc:=Zah) ([4,-4,1]:List Int) J J K6 Me ti3 J J J J J pZ.cells J J hw) fun v_3 _=>Oc (Pd 4 J J pZ)<|tt (Zh (n:=5) (Zg1 _ [4,-4,1] [4,-4,1] (by decide +kernel) (by decide +kernel)) J J J K1 Zg9 (Zc 4 J J J Ze) J hw) fun v_4 _=>tt (Zh (n:=6) (k_od2 _) J J J K1 call12 (Zc 5 J J J Ze) J hw) fun _ _=>mv J<|dt (Yh J J J)<|dt (Yh J J J)<|as_ J<|as_ J<|Zf<|Za<|Zd<|Zg<|tt (Po (i:=7) (ivs:=[(0,_)]) (enc:=Zah) ([-7]:List Int) J J K2 Me ti3 J J J J J pZ.cells J J hw) (fun v_5 _=>?_)
 refine Oc (Pd 7 J J pZ)<|tt (Zh (n:=8) (Zg1 _ [-7] [-7] (by decide +kernel) (by decide +kernel)) J J J K1 Zg9 (Zc 7 J J J Ze) J hw) fun v_6 _=>tt (Zh (n:=9) (k_od3 _) J J J K1 call12 (Zc 8 J J J Ze) J hw) fun _ _=>mv J<|dt (Yh J J J)<|dt (Yh J J J)<|as_ J<|as_ J<|Zf<|Za<|Zd<|Zd<|Zg<|mv J<|tt (Po (i:=10) (ivs:=[(0,_),(1,_)]) (enc:=Zah) ([-1,1]:List Int) J J K4 Me ti3 J J J J J pZ.cells J J hw) fun v_7 _=>Oc (Pd 10 J J pZ)<|tt (Zh (n:=11) (Zg1 _ [-1,1] [-1,1] (by decide +kernel) (by decide +kernel)) J J J K1 Zg9 (Zc 10 J J J Ze) J hw) fun v_8 _=>tt (Zh (n:=11) (Ze1 _ _ _ _) J J J K2 call17 (Zc 3 J J J (Zc 11 J J J Ze)) J hw) fun _ _=>dt (Ya (r':= .bool false) (Zf6 J J) (congrArg Value.bool (by decide)))<|mv J<|gdt (Yo J J) J J<|gdt (Ya (r':= .bool false) (Qc J J J) (congrArg Value.bool (by decide))) J J<|dt (Zz J J J)<|mv J<|gdt (Yo J J) J J<|gtt (Po (i:=12) (ivs:=[(0,_)]) (enc:=Zah) ([1]:List Int) J J K2 Me ti3 J J J J J pZ.cells J J hw) J J J fun v_9 _=>Oc (Pd 12 J J pZ) ?_
 refine gtt (Zh (n:=13) (Zg1 _ [1] [1] (by decide +kernel) (by decide +kernel)) J J J K1 Zg9 (Zc 12 J J J Ze) J hw) J J J fun v_10 _=>gtt (Zh (n:=13) (Ze1 _ _ _ _) J J J K2 call17 (Zc 6 J J J (Zc 13 J J J Ze)) J hw) J J J fun _ _=>gdt (Ya (r':= .bool false) (Zf6 J J) (congrArg Value.bool (by decide))) J J<|dt (Zz J J J)<|mv J<|gdt (Yo J J) J J<|gdt (Ya (r':= .bool false) (Qc J J J) (congrArg Value.bool (by decide))) J J<|dt (Zz J J J)<|mv J<|gdt (Yo J J) J J<|gtt (Po (i:=14) (ivs:=[(0,_)]) (enc:=Zah) ([1]:List Int) J J K2 Me ti3 J J J J J pZ.cells J J hw) J J J fun v_11 _=>Oc (Pd 14 J J pZ)<|gtt (Zh (n:=15) (Zg1 _ [1] [1] (by decide +kernel) (by decide +kernel)) J J J K1 Zg9 (Zc 14 J J J Ze) J hw) J J J fun v_12 _=>gtt (Zh (n:=15) (Ze1 _ _ _ _) J J J K2 call17 (Zc 9 J J J (Zc 15 J J J Ze)) J hw) J J J fun _ _=>gdt (Ya (r':= .bool false) (Zf6 J J) (congrArg Value.bool (by decide))) J J<|dt (Zz J J J)<|mv J<|gdt (Yo J J) J J<|gdt (Ya (r':= .bool false) (Qc J J J) (congrArg Value.bool (by decide))) J J<|dt (Zz J J J)<|Zf<|Za<|Ye J<|Zj<|Za<|Zd<|Zg ?_
 refine tt (Po (i:=16) (ivs:=[(0,_),(1,_),(2,_)]) (enc:=Zah) ([1,-2,1]:List Int) J J K6 Me ti3 J J J J J pZ.cells J J hw) fun v_13 _=>Oc (Pd 16 J J pZ)<|tt (Zh (n:=17) (Zg1 _ [1,-2,1] [1,-2,1] (by decide +kernel) (by decide +kernel)) J J J K1 Zg9 (Zc 16 J J J Ze) J hw) fun v_14 _=>tt (Zh (n:=17) (Lg _ _ ⟨by decide,by decide⟩ ⟨by decide,by decide⟩) J J J K2 Zdc Ze J hw) fun _ _=>tt (Zh (n:=17) (Lg _ _ ⟨by decide,by decide⟩ ⟨by decide,by decide⟩) J J J K2 Zdc Ze J hw) fun _ _=>tt (Zh (n:=17) (k_ng1 _) J J J K3 call21 (Zc 17 J J J Ze) J hw) fun _ _=>mv J<|dt (Yh J J J)<|dt (Yh J J J)<|dt (Yh J J J)<|tt (Zn (i:=18) J J zeroValue41 J J hw) fun bx _=>tt (Zm (i:=18) J J J J J (by decide) J Xk J J ⟨Zb J,Zb J,Zb J,Zb J,trivial⟩ J hw trivial) fun _ _=>as_ J<|as_ J<|Zf<|Za<|Zd<|Zg<|tt (Po (i:=19) (ivs:=[(0,_),(1,_),(2,_)]) (enc:=Zah) ([-2,0,1]:List Int) J J K6 Me ti3 J J J J J pZ.cells J J hw) fun v_15 _=>Oc (Pd 19 J J pZ) ?_
 refine tt (Zh (n:=20) (Zg1 _ [-2,0,1] [-2,0,1] (by decide +kernel) (by decide +kernel)) J J J K1 Zg9 (Zc 19 J J J Ze) J hw) fun v_16 _=>tt (Zh (n:=20) (Lg _ _ ⟨by decide,by decide⟩ ⟨by decide,by decide⟩) J J J K2 Zdc Ze J hw) fun _ _=>tt (Zh (n:=20) (Lg _ _ ⟨by decide,by decide⟩ ⟨by decide,by decide⟩) J J J K2 Zdc Ze J hw) fun _ _=>tt (Zh (n:=20) (k_ng2 _) J J J K3 call21 (Zc 20 J J J Ze) J hw) fun _ _=>mv J<|dt (Yh J J J)<|dt (Yh J J J)<|dt (Yh J J J)<|tt (Zn (i:=21) J J zeroValue41 J J hw) fun bx_2 _=>tt (Zm (i:=21) J J J J J (by decide) J Xk J J ⟨Zb J,Zb J,Zb J,Zb J,trivial⟩ J hw trivial) fun _ _=>as_ J<|as_ J<|Zf<|Za<|Zd<|Zg<|tt (Po (i:=22) (ivs:=[(0,_),(1,_),(2,_)]) (enc:=Zah) ([-2,0,1]:List Int) J J K6 Me ti3 J J J J J pZ.cells J J hw) fun v_17 _=>Oc (Pd 22 J J pZ)<|tt (Zh (n:=23) (Zg1 _ [-2,0,1] [-2,0,1] (by decide +kernel) (by decide +kernel)) J J J K1 Zg9 (Zc 22 J J J Ze) J hw) fun v_18 _=>tt (Zh (n:=23) (Lg _ _ ⟨by decide,by decide⟩ ⟨by decide,by decide⟩) J J J K2 Zdc Ze J hw) (fun _ _=>?_)
 refine tt (Zh (n:=23) (Lg _ _ ⟨by decide,by decide⟩ ⟨by decide,by decide⟩) J J J K2 Zdc Ze J hw) fun _ _=>tt (Zh (n:=23) (k_ng3 _) J J J K3 call21 (Zc 23 J J J Ze) J hw) fun _ _=>mv J<|dt (Yh J J J)<|dt (Yh J J J)<|dt (Yh J J J)<|tt (Zn (i:=24) J J zeroValue41 J J hw) fun bx_3 _=>tt (Zm (i:=24) J J J J J (by decide) J Xk J J ⟨Zb J,Zb J,Zb J,Zb J,trivial⟩ J hw trivial) fun _ _=>as_ J<|as_ J<|Zf<|Za<|Zd<|Zd<|Zg<|mv J<|mv J<|gdt (Yo J J) J J<|gdt (Ya (r':= .bool false) (Qc J J J) (congrArg Value.bool (by decide))) J J<|dt (Zz J J J)<|mv J<|gdt (Yo J J) J J<|gdt (Ya (r':= .bool false) (Xg J J) (congrArg Value.bool (by decide))) J J<|dt (Zz J J J)<|mv J<|gdt (Yo J J) J J<|gdt (Ya (r':= .bool false) (Qc J J J) (congrArg Value.bool (by decide))) J J<|dt (Zz J J J)<|mv J<|gdt (Yo J J) J J<|dt (Zz J J J)<|mv J<|gdt (Yo J J) J J<|gdt (Ya (r':= .bool false) (Qc J J J) (congrArg Value.bool (by decide))) J J<|dt (Zz J J J)<|Zf<|Za<|Ye J<|Zj<|Za<|Zd<|Zg<|tt (Po (i:=25) (ivs:=[(0,_),(1,_)]) (enc:=Zah) ([-1,1]:List Int) J J K4 Me ti3 J J J J J pZ.cells J J hw) (fun v_19 _=>?_)
 refine Oc (Pd 25 J J pZ)<|tt (Zh (n:=26) (Zg1 _ [-1,1] [-1,1] (by decide +kernel) (by decide +kernel)) J J J K1 Zg9 (Zc 25 J J J Ze) J hw) fun v_20 _=>tt (Zh (n:=26) (Lg _ _ ⟨by decide,by decide⟩ ⟨by decide,by decide⟩) J J J K2 Zdc Ze J hw) fun _ _=>tt (Zh (n:=26) (Lg _ _ ⟨by decide,by decide⟩ ⟨by decide,by decide⟩) J J J K2 Zdc Ze J hw) fun _ _=>tt (Zh (n:=26) (k_fs1 _) J J J K4 call31 (Zc 26 J J J Ze) J hw) fun _ _=>mv J<|dt (Yh J J J)<|dt (Yh J J J)<|tt (Zn (i:=27) J J zeroValue62 J J hw) fun bx_4 _=>tt (Zm (i:=27) J J J J J (by decide) J Km J J ⟨Zb J,Zb J,Zb J,Zb J,Zb J,Zb J,Zb J,Zb J,trivial⟩ J hw trivial) fun _ _=>as_ J<|Zf<|Za<|Zd<|Zg<|tt (Po (i:=28) (ivs:=[(0,_),(1,_)]) (enc:=Zah) ([1,-1]:List Int) J J K4 Me ti3 J J J J J pZ.cells J J hw) fun v_21 _=>Oc (Pd 28 J J pZ)<|tt (Zh (n:=29) (Zg1 _ [1,-1] [1,-1] (by decide +kernel) (by decide +kernel)) J J J K1 Zg9 (Zc 28 J J J Ze) J hw) fun v_22 _=>tt (Zh (n:=29) (Lg _ _ ⟨by decide,by decide⟩ ⟨by decide,by decide⟩) J J J K2 Zdc Ze J hw) (fun _ _=>?_)
 refine tt (Zh (n:=29) (Lg _ _ ⟨by decide,by decide⟩ ⟨by decide,by decide⟩) J J J K2 Zdc Ze J hw) fun _ _=>tt (Zh (n:=29) (k_fs2 _) J J J K4 call31 (Zc 29 J J J Ze) J hw) fun _ _=>mv J<|dt (Yh J J J)<|dt (Yh J J J)<|tt (Zn (i:=30) J J zeroValue62 J J hw) fun bx_5 _=>tt (Zm (i:=30) J J J J J (by decide) J Km J J ⟨Zb J,Zb J,Zb J,Zb J,Zb J,Zb J,Zb J,Zb J,trivial⟩ J hw trivial) fun _ _=>as_ J<|Zf<|Za<|Zd<|Zg<|tt (Po (i:=31) (ivs:=[(0,_),(1,_),(2,_)]) (enc:=Zah) ([1,0,1]:List Int) J J K6 Me ti3 J J J J J pZ.cells J J hw) fun v_23 _=>Oc (Pd 31 J J pZ)<|tt (Zh (n:=32) (Zg1 _ [1,0,1] [1,0,1] (by decide +kernel) (by decide +kernel)) J J J K1 Zg9 (Zc 31 J J J Ze) J hw) fun v_24 _=>tt (Zh (n:=32) (Lg _ _ ⟨by decide,by decide⟩ ⟨by decide,by decide⟩) J J J K2 Zdc Ze J hw) fun _ _=>tt (Zh (n:=32) (Lg _ _ ⟨by decide,by decide⟩ ⟨by decide,by decide⟩) J J J K2 Zdc Ze J hw) fun _ _=>tt (Zh (n:=32) (k_fs3 _) J J J K4 call31 (Zc 32 J J J Ze) J hw) fun _ _=>mv J<|dt (Yh J J J)<|dt (Yh J J J)<|as_ J<|Zf<|Za<|Zd ?_
 refine Zd<|Qi (fun _=>False) [(0,0),(1,1),(2,0),(3,0),(4,0),(5,0),(6,0),(7,0),(8,0),(9,1),(10,0),(11,0),(12,0),(13,0),(14,0),(15,0),(16,0),(17,0),(18,0),(19,0)] ?_ ?_
 ·kernel_rfl
 refine r0' J J (st0 (Hz (i:=27) J J J Ce Km J J J J J J J J))<|r1' J (Zh (n:=32) (Zbf _ _ ⟨by decide,by decide⟩ ⟨by decide,by decide⟩) J J J K2 call46 Ze J hw) fun _ _=>r0' J J (st0 (Ya (r':= .bool false) (Zbs J J J Zvv (fun w=>neq62 w _ _ _ _ _ _ _ _ _ _ _ _ _ _ _ _)) (congrArg Value.bool (by simp [Lz]))))<|r0' J J (st0 (Yo J J))<|r0g (st0 (Yo J J)) J J J J J<|r0g (st0 (Ya (r':= .bool false) (Qc J J J) (congrArg Value.bool (by decide)))) J J J J J<|r0' J J (st0 (Zz J J J))<|r0' J J (st0 (Yo J J))<|r0g (st0 (Hz (i:=30) J J J Ce Km J J J J J J J J)) J J J J J<|r1g' J J J J J (Zh (n:=32) (Zbf _ _ ⟨by decide,by decide⟩ ⟨by decide,by decide⟩) J J J K2 call46 Ze J hw) fun _ _=>r0g (st0 (Ya (r':= .bool false) (Zbs J J J Zvv (fun w=>neq62 w _ _ _ _ _ _ _ _ _ _ _ _ _ _ _ _)) (congrArg Value.bool (by simp [Lz])))) J J J J J<|r0' J J (st0 (Zz J J J))<|r0' J J (st0 (Yo J J))<|r0g (st0 (Yo J J)) J J J J J<|r0g (st0 (Ya (r':= .bool false) (Qc J J J) (congrArg Value.bool (by decide)))) J J J J J<|r0' J J (st0 (Zz J J J))<|r0' J J (st0 (Yo J J))<|r0g (st0 (Yo J J)) J J J J J<|r0g (st0 (Ya (r':= .bool false) (Qc J J J) (congrArg Value.bool (by decide)))) J J J J J<|r0' J J (st0 (Zz J J J)) ?_
 refine Of<|Za<|Ye J<|Zj<|Za<|Zd<|Zg<|tt (Po (i:=33) (ivs:=[(0,_),(1,_),(2,_)]) (enc:=Zah) ([0,-1,1]:List Int) J J K6 Me ti3 J J J J J pZ.cells J J hw) fun v_25 _=>Oc (Pd 33 J J pZ)<|tt (Zh (n:=34) (Zg1 _ [0,-1,1] [0,-1,1] (by decide +kernel) (by decide +kernel)) J J J K1 Zg9 (Zc 33 J J J Ze) J hw) fun v_26 _=>tt (Zh (n:=34) (k_fc1 _) J J J K1 call33 (Zc 34 J J J Ze) J hw) fun k1 hk1=>mv J<|dt (Yh J J J)<|dt (Yh J J J)<|tt (Zn (i:=35) J J zeroValue31 J J hw) fun bx_6 _=>tt (Zm (i:=35) J J J J J (by decide) J Yq J J ⟨Zb J,Zb J,trivial⟩ J hw trivial) fun _ _=>as_ J<|Zf<|Za<|Zd<|Zg<|tt (Po (i:=36) (ivs:=[(0,_)]) (enc:=Zah) ([7]:List Int) J J K2 Me ti3 J J J J J pZ.cells J J hw) fun v_27 _=>Oc (Pd 36 J J pZ)<|tt (Zh (n:=37) (Zg1 _ [7] [7] (by decide +kernel) (by decide +kernel)) J J J K1 Zg9 (Zc 36 J J J Ze) J hw) fun v_28 _=>tt (Zh (n:=37) (k_fc2 _) J J J K1 call33 (Zc 37 J J J Ze) J hw) fun k2 hk2=>mv J<|dt (Yh J J J)<|dt (Yh J J J)<|tt (Zn (i:=38) J J zeroValue31 J J hw) (fun bx_7 _=>?_)
 refine tt (Zm (i:=38) J J J J J (by decide) J Yq J J ⟨Zb J,Zb J,trivial⟩ J hw trivial) fun _ _=>as_ J<|Zf<|Za<|Zd<|Zg<|tt (Po (i:=39) (ivs:=[(0,_),(1,_)]) (enc:=Zah) ([3,-1]:List Int) J J K4 Me ti3 J J J J J pZ.cells J J hw) fun v_29 _=>Oc (Pd 39 J J pZ)<|tt (Zh (n:=40) (Zg1 _ [3,-1] [3,-1] (by decide +kernel) (by decide +kernel)) J J J K1 Zg9 (Zc 39 J J J Ze) J hw) fun v_30 _=>tt (Zh (n:=40) (k_fc3 _) J J J K1 call33 (Zc 40 J J J Ze) J hw) fun k3 hk3=>mv J<|dt (Yh J J J)<|dt (Yh J J J)<|tt (Zn (i:=41) J J zeroValue31 J J hw) fun bx_8 _=>tt (Zm (i:=41) J J J J J (by decide) J Yq J J ⟨Zb J,Zb J,trivial⟩ J hw trivial) fun _ _=>as_ J<|Zf<|Za<|Zd<|Zd<|Qi (fun _=>False) [(0,0),(1,1),(2,0),(3,0),(4,0),(5,0),(6,0),(7,0),(8,0),(9,1),(10,0),(11,0),(12,0),(13,0),(14,0),(15,0),(16,0),(17,0),(18,1),(19,0),(20,0),(21,0),(22,0),(23,0),(24,0)] ?_ ?_
 ·kernel_rfl
 refine r0' J J (st0 (Zy (i:=35) J J J Qq Yq J J))<|r1' J (Zh (n:=41) (Zki _ ⟨by decide,by decide⟩) J J J K1 call47 Ze J hw) fun _ _=>r0' J J (st0 (Ya (r':= .bool false) (Zbs J J J eg31 (fun w=>Zxt w _ _ _ _)) (congrArg Value.bool (by obtain rfl:=k_fl1 _ hk1;simp [Lz]))))<|r0' J J (st0 (Yo J J))<|r0g (st0 (Yo J J)) J J J J J<|r0g (st0 (Ya (r':= .bool false) (Qc J J J) (congrArg Value.bool (by decide)))) J J J J J<|r0' J J (st0 (Zz J J J))<|r0' J J (st0 (Yo J J))<|r0g (st0 (Zy (i:=38) J J J Qq Yq J J)) J J J J J<|r1g' J J J J J (Zh (n:=41) (Zki _ ⟨by decide,by decide⟩) J J J K1 call47 Ze J hw) fun _ _=>r0g (st0 (Ya (r':= .bool false) (Zbs J J J eg31 (fun w=>Zxt w _ _ _ _)) (congrArg Value.bool (by obtain rfl:=k_fl2 _ hk2;simp [Lz])))) J J J J J<|r0' J J (st0 (Zz J J J))<|r0' J J (st0 (Yo J J))<|r0g (st0 (Yo J J)) J J J J J<|r0g (st0 (Ya (r':= .bool false) (Qc J J J) (congrArg Value.bool (by decide)))) J J J J J<|r0' J J (st0 (Zz J J J))<|r0' J J (st0 (Yo J J))<|r0g (st0 (Zy (i:=41) J J J Qq Yq J J)) J J J J J<|r1g' J J J J J (Zh (n:=41) (Zki _ ⟨by decide,by decide⟩) J J J K1 call47 Ze J hw) (fun _ _=>?_)
 refine r0g (st0 (Ya (r':= .bool false) (Zbs J J J eg31 (fun w=>Zxt w _ _ _ _)) (congrArg Value.bool (by obtain rfl:=k_fl3 _ hk3;simp [Lz])))) J J J J J<|r0' J J (st0 (Zz J J J))<|r0' J J (st0 (Yo J J))<|r0g (st0 (Yo J J)) J J J J J<|r0g (st0 (Ya (r':= .bool false) (Qc J J J) (congrArg Value.bool (by decide)))) J J J J J<|r0' J J (st0 (Zz J J J))<|Of<|Za<|Ye J<|Zj<|Za<|Zd<|Zg<|tt (Po (i:=42) (ivs:=[(0,_),(1,_)]) (enc:=Zah) ([-1,1]:List Int) J J K4 Me ti3 J J J J J pZ.cells J J hw) fun v_31 _=>Oc (Pd 42 J J pZ)<|tt (Zh (n:=43) (Zg1 _ [-1,1] [-1,1] (by decide +kernel) (by decide +kernel)) J J J K1 Zg9 (Zc 42 J J J Ze) J hw) fun v_32 _=>tt (Zh (n:=43) (Lg _ _ ⟨by decide,by decide⟩ ⟨by decide,by decide⟩) J J J K2 Zdc Ze J hw) fun _ _=>tt (Zh (n:=43) (Lg _ _ ⟨by decide,by decide⟩ ⟨by decide,by decide⟩) J J J K2 Zdc Ze J hw) fun _ _=>tt (Zh (n:=43) (k_pv _) J J J K3 call38 (Zc 43 J J J Ze) J hw) fun _ _=>mv J<|dt (Yh J J J)<|dt (Yh J J J)<|as_ J<|Zf<|Za<|Zd<|Zg<|mv J<|dt (Ya (r':= .bool true) (Pg J J J) (congrArg Value.bool (by decide)))<|mv J ?_
 refine gtt (Po (i:=44) (ivs:=[(0,_),(1,_),(2,_)]) (enc:=Zah) ([1,-2,1]:List Int) J J K6 Me ti3 J J J J J pZ.cells J J hw) J J J fun v_33 _=>Oc (Pd 44 J J pZ)<|gtt (Zh (n:=45) (Zg1 _ [1,-2,1] [1,-2,1] (by decide +kernel) (by decide +kernel)) J J J K1 Zg9 (Zc 44 J J J Ze) J hw) J J J fun v_34 _=>gtt (Zh (n:=45) (Lg _ _ ⟨by decide,by decide⟩ ⟨by decide,by decide⟩) J J J K2 Zdc Ze J hw) J J J fun _ _=>gtt (Zh (n:=45) (Lg _ _ ⟨by decide,by decide⟩ ⟨by decide,by decide⟩) J J J K2 Zdc Ze J hw) J J J fun _ _=>gtt (Zh (n:=46) (Zbe _ _ _ ⟨by decide,by decide⟩ ⟨by decide,by decide⟩) J J J K3 call48 Ze J hw) J J J fun v_35 _=>gtt (Zh (n:=46) (k_ck1 _ _) J J J K4 call41 (Zc 45 J J J (Zc 46 J J J Ze)) J hw) J J J fun _ _=>gdt (Ya (r':= .bool true) (Pg J J J) (congrArg Value.bool (by decide))) J J<|dt (Ys J J J)<|mv J<|gtt (Po (i:=47) (ivs:=[(0,_),(1,_)]) (enc:=Zah) ([1,1]:List Int) J J K4 Me ti3 J J J J J pZ.cells J J hw) J J J fun v_36 _=>Oc (Pd 47 J J pZ) ?_
 refine gtt (Zh (n:=48) (Zg1 _ [1,1] [1,1] (by decide +kernel) (by decide +kernel)) J J J K1 Zg9 (Zc 47 J J J Ze) J hw) J J J fun v_37 _=>gtt (Zh (n:=48) (Lg _ _ ⟨by decide,by decide⟩ ⟨by decide,by decide⟩) J J J K2 Zdc Ze J hw) J J J fun _ _=>gtt (Zh (n:=48) (Lg _ _ ⟨by decide,by decide⟩ ⟨by decide,by decide⟩) J J J K2 Zdc Ze J hw) J J J fun _ _=>gtt (Zh (n:=49) (Zbe _ _ _ ⟨by decide,by decide⟩ ⟨by decide,by decide⟩) J J J K3 call48 Ze J hw) J J J fun v_38 _=>gtt (Zh (n:=49) (k_ck2 _ _) J J J K4 call41 (Zc 48 J J J (Zc 49 J J J Ze)) J hw) J J J fun _ _=>gdt (Ya (r':= .bool true) (Pg J J J) (congrArg Value.bool (by decide))) J J<|dt (Ys J J J)<|mv J<|gtt (Po (i:=50) (ivs:=[(0,_),(1,_),(2,_)]) (enc:=Zah) ([1,-2,1]:List Int) J J K6 Me ti3 J J J J J pZ.cells J J hw) J J J fun v_39 _=>Oc (Pd 50 J J pZ)<|gtt (Zh (n:=51) (Zg1 _ [1,-2,1] [1,-2,1] (by decide +kernel) (by decide +kernel)) J J J K1 Zg9 (Zc 50 J J J Ze) J hw) J J J fun v_40 _=>gtt (Zh (n:=51) (Lg _ _ ⟨by decide,by decide⟩ ⟨by decide,by decide⟩) J J J K2 Zdc Ze J hw) J J J (fun _ _=>?_)
 refine gtt (Zh (n:=51) (Lg _ _ ⟨by decide,by decide⟩ ⟨by decide,by decide⟩) J J J K2 Zdc Ze J hw) J J J fun _ _=>gtt (Zh (n:=52) (Zbe _ _ _ ⟨by decide,by decide⟩ ⟨by decide,by decide⟩) J J J K3 call48 Ze J hw) J J J fun v_41 _=>gtt (Zh (n:=52) (k_ck3 _ _) J J J K4 call41 (Zc 51 J J J (Zc 52 J J J Ze)) J hw) J J J fun _ _=>gdt (Ya (r':= .bool true) (Pg J J J) (congrArg Value.bool (by decide))) J J<|dt (Ys J J J)<|mv J<|gtt (Po (i:=53) (ivs:=[(0,_),(1,_)]) (enc:=Zah) ([1,1]:List Int) J J K4 Me ti3 J J J J J pZ.cells J J hw) J J J fun v_42 _=>Oc (Pd 53 J J pZ)<|gtt (Zh (n:=54) (Zg1 _ [1,1] [1,1] (by decide +kernel) (by decide +kernel)) J J J K1 Zg9 (Zc 53 J J J Ze) J hw) J J J fun v_43 _=>gtt (Zh (n:=54) (Lg _ _ ⟨by decide,by decide⟩ ⟨by decide,by decide⟩) J J J K2 Zdc Ze J hw) J J J fun _ _=>gtt (Zh (n:=54) (Lg _ _ ⟨by decide,by decide⟩ ⟨by decide,by decide⟩) J J J K2 Zdc Ze J hw) J J J fun _ _=>gtt (Zh (n:=55) (Zbe _ _ _ ⟨by decide,by decide⟩ ⟨by decide,by decide⟩) J J J K3 call48 Ze J hw) J J J (fun v_44 _=>?_)
 exact gtt (Zh (n:=55) (k_ck4 _ _) J J J K4 call41 (Zc 54 J J J (Zc 55 J J J Ze)) J hw) J J J fun _ _=>gdt (Ya (r':= .bool true) (Pg J J J) (congrArg Value.bool (by decide))) J J<|dt (Ys J J J)<|as_ J<|Zf<|Za<|Zu<|xU hsc results11 J J J
theorem ch13r{xs:List Int}(hx:Tr xs)(h0:xs≠[])(hs:Sz 260 xs)(hl:xs.length≤8):Zfv 13 xs∧Sz 390 (sqf 13 xs)∧(sqf 13 xs).length≤8:=by
 obtain⟨h1,h2,h3,h4⟩:=chF 13 hx h0 hs (by omega) (by omega) (by omega)
 exact⟨h1,h2,by omega⟩
theorem Zjp{xs:List Int}(hv:Vp xs)(h0:xs≠[])(hs:Sz 260 xs)(hl:xs.length≤8) :
  Vp (nrm xs)∧Vp (Pk (nrm xs))∧eok 13 (nrm xs) (Pk (nrm xs))∧Kp (Xc (eu 13 (nrm xs) (Pk (nrm xs))))=Ib 13 (nrm xs) (Pk (nrm xs))∧
  Vp (Ib 13 (nrm xs) (Pk (nrm xs)))∧Ib 13 (nrm xs) (Pk (nrm xs))≠[]∧pdv (nrm xs) (Ib 13 (nrm xs) (Pk (nrm xs)))∧
  msz (nrm xs)≤260∧msz (Ib 13 (nrm xs) (Pk (nrm xs)))≤390∧(nrm xs).length≤8∧Vp (sqf 13 xs)∧sqf 13 xs≠[]∧nrm (sqf 13 xs)=sqf 13 xs∧(Ib 13 (nrm xs) (Pk (nrm xs))).length≤8:=by
 have hn:=Znn hs
 have hln:=Px hv.tr
 have ht:Tr (nrm xs):=No (Xj hv.tr)
 have hd:=Hl hn (by omega)
 have hld:=Om (nrm xs)
 have htd:Tr (Pk (nrm xs)):=Nz ht
 have m1:=Ob hn
 have m2:=Ob hd
 have l0:=List.length_pos_iff.2 h0
 obtain⟨hC,hq,hql⟩:=ch13r hv.tr h0 hs hl
 have hok:eok 13 (gA (nrm xs) (Pk (nrm xs))) (gB (nrm xs) (Pk (nrm xs))):=hC.1.2.2.1
 have hok2:eok 13 (nrm xs) (Pk (nrm xs)):=
  (Zub (n:=265) (s:=5) (K:=271) (by omega) ht htd (hn.mono (by omega)) hd (by omega) (by omega) (num13 (by omega) (by omega) (by omega)) (Nat.le_trans (Nat.mul_le_mul (show(nrm xs).length+1≤9 by omega) (show 265+1≤300 by omega)) (by decide)) (by omega)).1
 obtain⟨f1,f2,f3,f4,f5,f6⟩:=Nh (F:=13) hv.tr h0 hok
 have hg:=Zb7 (F:=13) ht htd
 have hn0:=Zgx hv.tr h0
 have hK:kkR 24 13*(24+1)^13<2^130:=by decide +kernel
 have hgs:=Hf (L:=13) (R:=24) hg f2 hn hn0 ht (by omega) (by decide) hK (by rw [Ep];exact f4)
 have hvn:=Zq6 hv
 have hvd:Vp (Pk (nrm xs)):=⟨hd.mono (by omega),htd,by omega⟩
 have hlq:=Ok f2 hg f3 f5
 rw [←f4]at hlq
 have lq:=List.length_pos_iff.2 f3
 exact⟨hvn,hvd,hok2,gcd_two ht htd hok2 hok,Zq4 hvn hvd hok,f5,f1,m1,Ob hgs,by omega,Zjg hv h0 hC.1,f3,f6,by omega⟩
structure RI (xs q:List Int):Prop where
 v:Vp q
 ne:q≠[]
 s:Sz 200 q
 l:q.length≤7
 d:Dp xs (nrm q)
theorem RI.start{xs:List Int}(h:Cvd xs)(h0:xs≠[]):RI xs xs:=⟨h.v,h0,h.s.mono (by omega),h.l,Dp.start h.v.tr h0⟩
theorem sz_pm1{q:List Int}{n:Nat}{e:Int}(he:e=1∨e=-1)(h:Sz n q):Sz n (Xo q e):=fun i=>by
 rw [Xt]
 have:=h i
 rcases he with rfl | rfl
 ·rw [Int.mul_one];exact this
 ·rw [Int.mul_neg_one,Int.natAbs_neg];exact this
theorem RI.step{xs q:List Int}(h:Cvd xs)(h0:xs≠[])(hI:RI xs q) :
  Tr (sqf 13 q)∧msz (sqf 13 q)≤330∧(sqf 13 q).length≤7∧0<(sqf 13 q).length∧Qf q≠0∧Sz 200 (Xo (Xc q) 1)∧Tr (Xo (Xc q) 1)∧(Xo (Xc q) 1).length=q.length∧pdv (Xo (Xc q) 1) (sqf 13 q)∧
  Vp (Mu 13 q)∧Mu 13 q≠[]∧Sz 200 (Mu 13 q)∧(Mu 13 q).length≤7∧Qf (Mu 13 q)≠0∧Xc (Mu 13 q)=Mu 13 q∧
  Tr (sqf 13 (Mu 13 q))∧msz (sqf 13 (Mu 13 q))≤330∧(sqf 13 (Mu 13 q)).length≤7∧0<(sqf 13 (Mu 13 q)).length∧pdv (sqf 13 q) (sqf 13 (Mu 13 q))∧Sz 500 (Ku (sqf 13 q) (sqf 13 (Mu 13 q)))∧(Ku (sqf 13 q) (sqf 13 (Mu 13 q))).length≤7∧
  pdv (Mu 13 q) (sqf 13 (Mu 13 q))∧RI xs (Ap 13 q)∧((sqf 13 q).length≠1→(Ap 13 q).length<q.length):=by
 have hl:=h.l
 have hD:=hI.d
 have hok0:=(hD.ok h.v.tr h0 h.s (by omega) (by omega) (show xs.length≤13+1 by omega)).2
 have hok:Zbl 13 q:=by unfold Zbl at hok0 ⊢;rwa [hD.2.2.1]at hok0
 have hg:=hD.next hok0
 have hgn:gcf 13 (nrm q)=gcf 13 q:=Ziv hD.2.2.1
 have hsn:sqf 13 (nrm q)=sqf 13 q:=Fp hD.2.2.1
 rw [hgn]at hg
 have hok2:=(hg.ok h.v.tr h0 h.s (by omega) (by omega) (show xs.length≤13+1 by omega)).2
 have hg2:=hg.next hok2
 obtain⟨⟨e,he,r1,r2,r3,r4,r5,r6⟩,r7,r8,r9,r10,r11,r12⟩:=Zgk hI.v.tr hI.ne hok hok2
 obtain⟨-,-,-,-,-,-,-,-,-,-,-,a12,a13,a14,-,a16,-,-⟩:=Zcg h h0 hD
 obtain⟨-,-,-,-,-,-,-,-,-,-,-,b12,b13,b14,-,b16,b17,-⟩:=Zcg h h0 hg
 rw [hsn]at a12 a13 a14 a16
 have hsl:sqf 13 (Mu 13 q)=sqf 13 (gcf 13 q):=Fp (by rw [r7,hg.2.2.1])
 obtain⟨g1,g2⟩:=Zfh h h0 hg
 obtain⟨g3,g4⟩:=Zfh h h0 hg2
 have e0:e≠0:=by rcases he with rfl | rfl<;>decide
 have hLs:Sz 200 (Mu 13 q):=by rw [r3];exact sz_pm1 he g1
 have hLl:(Mu 13 q).length≤7:=by rw [r3];have:=Ia (gcf 13 q) e;omega
 have hLv:Vp (Mu 13 q):=⟨hLs.mono (by omega),r9,by omega⟩
 have hRs:Sz 200 (Ap 13 q):=by rw [r6];exact sz_pm1 he g3
 have hRl:(Ap 13 q).length≤(gcf 13 (gcf 13 q)).length:=by rw [r6];exact Ia _ e
 obtain⟨o1,o2,o3,o4⟩:=Gq hI.v.tr hI.ne hok hok2
 have hK:kkR 24 13*(24+1)^13<2^130:=by decide +kernel
 have hos:=Hf (L:=13) (R:=24) o3 b12.tr a13 a16 a12.tr (by omega) (by decide) hK o2
 have hlq:=Ok o3 b12.tr o4 b16
 rw [←o2]at hlq
 have lb:=List.length_pos_iff.2 b16
 have la:=List.length_pos_iff.2 a16
 have lo:=List.length_pos_iff.2 o4
 have hm:Xo (Xc q) 1=Xc q:=by
  refine(Qz _ _).ext (Xj hI.v.tr) fun i=>?_
  rw [Xt,Int.mul_one]
 have hx:=Pu hI.v.tr hI.ne hok
 have hx2:=Pu hg.1 hg.2.1 hok2
 rw [hsl]
 refine⟨a12.tr,Ob a13,by omega,la,hI.v.ne hI.ne,by rw [hm];exact Hk hI.s,Qz _ _,by rw [hm,Yl],by rw [r1];exact r2,hLv,r10,hLs,hLl,hLv.ne r10,r4,b12.tr,Ob b13,b14,lb,o1,hos.mono (by omega),?_,r5,⟨⟨hRs.mono (by omega),r11,by omega⟩,r12,hRs,by omega,by rw [r8];exact hg2⟩,fun hne=>?_⟩
 ·show(Bx 13 q).length≤7;omega
 ·have h1:=hx.2.2.2.2
  have h2:=hx2.2.2.2.2
  omega
theorem rodd_1{F f:Nat}{p:List Int}(h:(sqf F p).length=1):Zjz F f p=sqf F p:=by
 cases f with
 | zero=>rfl
 | succ f=>unfold Zjz;rw [if_pos h]
theorem rodd_s{F f:Nat}{p:List Int}(h:(sqf F p).length≠1):Zjz F (f+1) p=Mg (Ku (sqf F p) (sqf F (Mu F p))) (Zjz F f (Ap F p)):=by
 conv=>lhs;unfold Zjz
 rw [if_neg h]
theorem Zxf{F n:Nat}{p:List Int}(hp:Tr p)(h0:p≠[])(hs:Sz n p)(hn:n≤130)(hl:p.length≤13)(hF:p.length≤F+1):∀(f:Nat) (q:List Int),Dp p q→q.length≤f→∃a:List Int,Tr a∧q=Mg a (Zdh F f q):=by
 intro f
 induction f with
 | zero=>intro q hq hlq;have:=List.length_pos_iff.2 hq.2.1;omega
 | succ f ih=>
  intro q hq hlq
  have hok:=(hq.ok hp h0 hs hn hl hF).2
  have hg:=hq.next hok
  have hok2:=(hg.ok hp h0 hs hn hl hF).2
  have hg2:=hg.next hok2
  unfold Zdh
  by_cases c1:(sqf F q).length=1
  ·rw [if_pos c1]
   obtain⟨s1,s2,s3⟩:=Zep hq.1 hq.2.1 hok c1
   refine⟨[1],.inr (show cf [1] 0≠0 by decide),hq.1.ext (Pr _ _) fun i=>Mj (fun x=>?_) i⟩
   rw [Xd,s1,nrm1 hq.1 hq.2.2.1 s2,Oq];push_cast;grind
  ·rw [if_neg c1]
   have lq:2≤q.length:=by
    obtain⟨f1,f2,f3,f4,f5,f6⟩:=Nh (F:=F) hq.1 hq.2.1 hok
    obtain⟨a1,a2,a3,a4,a5⟩:=Pu hq.1 hq.2.1 hok
    have l1:=List.length_pos_iff.2 f3
    have l2:=List.length_pos_iff.2 a2
    omega
   have lt1:=Zko hq.1 hq.2.1 hok lq
   obtain⟨a1,a2,a3,a4,a5⟩:=Pu hq.1 hq.2.1 hok
   obtain⟨b1,b2,b3,b4,b5⟩:=Pu hg.1 hg.2.1 hok2
   obtain⟨-,t2,t3,-,-,-⟩:=Nh (F:=F) hg.1 hg.2.1 hok2
   have lb:=List.length_pos_iff.2 t3
   obtain⟨A,hA,hB⟩:=ih _ hg2 (by omega)
   obtain⟨-,o2,o3,o4⟩:=Gq hq.1 hq.2.1 hok hok2
   rw [hq.2.2.1]at a4
   rw [a3]at b4
   refine⟨Mg (Mg (sqf F (gcf F q)) (sqf F (gcf F q))) A,Pr _ _,hq.1.ext (Pr _ _) fun i=>Mj (fun x=>?_) i⟩
   have e1:rev q x=rev (sqf F q) x*rev (gcf F q) x:=by rw [←Xd,←a4]
   have e2:rev (sqf F q) x=rev (Bx F q) x*rev (sqf F (gcf F q)) x:=by rw [←Xd,←o2]
   have e3:rev (gcf F q) x=rev (sqf F (gcf F q)) x*rev (gcf F (gcf F q)) x:=by rw [←Xd,←b4]
   have e4:rev (gcf F (gcf F q)) x=rev A x*rev (Zdh F f (gcf F (gcf F q))) x:=by rw [←Xd,←hB]
   rw [Xd,Xd,Xd,Xd,e1,e2,e3,e4]
   show _=_*(rev (Bx F q) x*_)
   generalize rev (sqf F (gcf F q)) x=S
   grind
theorem RI.size{xs q:List Int}(h:Cvd xs)(h0:xs≠[])(hI:RI xs q){f:Nat}(hf:q.length≤f):Tr (Zjz 13 f q)∧Sz 400 (Zjz 13 f q)∧(Zjz 13 f q).length≤7:=by
 have hl:=h.l
 have hD:=hI.d
 have e:Zjz 13 f q=Zdh 13 f (nrm q):=by
  rw [Zr5 h.v.tr h0 h.s (by omega) (by omega) (by omega) f q hI.v.tr hI.ne hD]
  exact Zih hD.2.2.1.symm f
 have hlq:=Px hI.v.tr
 have hll:=hI.l
 obtain⟨A,hA,hB⟩:=Zxf h.v.tr h0 h.s (by omega) (by omega) (show xs.length≤13+1 by omega) f (nrm q) hD (by omega)
 obtain⟨d1,d2⟩:=Zfh h h0 hD
 have hok0:=(hD.ok h.v.tr h0 h.s (by omega) (by omega) (show xs.length≤13+1 by omega)).2
 have ht:=Zig (F:=13) (p:=xs) (f:=f) hD.1 hD.2.1 hok0
 rw [e]
 have hK:kkR 24 13*(24+1)^13<2^130:=by decide +kernel
 have p0:Zdh 13 f (nrm q)≠[]:=fun e2=>hD.2.1 (by rw [hB,e2,Zcj])
 have a0:A≠[]:=fun e2=>hD.2.1 (by rw [hB,e2,Hd])
 have hl2:=Ok hA ht a0 p0
 rw [←hB]at hl2
 have:=List.length_pos_iff.2 a0
 exact⟨ht,(Hf (L:=13) (R:=24) ht hA d1 hD.2.1 hD.1 (by omega) (by decide) hK (by rw [Ep];exact hB)).mono (by omega),by omega⟩
theorem Zr4{xs:List Int}(h:Cvd xs)(h0:xs≠[]):Zjz 13 xs.length xs=Hu xs:=by
 have hl:=h.l
 exact(Zxm h.v.tr h0 h.s (by omega) (by omega) (show xs.length≤13+1 by omega)).symm
end Go.Sky

