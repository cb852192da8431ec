/- rules, arithmetic and contracts: part 19
   Proved without conditions of its own: each theorem bears its own. -/
import Derived.Test.YtcmiiammekgooaaGreatSo03
import Derived.Test.YtcmiiammekgooaaGreatSo02
import Derived.Test.YtcmiiammekgooaaGreatSo01
import Derived.Test.YtcmiiammekgooaaGreatSo17
import Derived.Test.YtcmiiammekgooaaGreatSo12
import Derived.Test.YtcmiiammekgooaaGreatSo15
import Derived.Test.YtcmiiammekgooaaGreatSo10
import Derived.Test.YtcmiiammekgooaaGreatSo11
set_option linter.all false
namespace Go.Sky
open Go.Proofs
set_option maxRecDepth 20000
set_option maxHeartbeats 4000000
set_option linter.unusedSimpArgs false
set_option maxHeartbeats 4000000 in
theorem Ej(v u:Value)(xs:List Int)(ps:List PTs)(a b:R2)(hd:Cvd xs)(ha:E32 a)(hb:E32 b)(hp:ValP ps)(hl:ps.length≤200)(hc:¬0<cmp a b):Cal Tryz.prog 41 #[v,.agg #[.bool (decide (a.1<0)),.string (Xd a.1.natAbs),.bool (decide (a.2<0)),.string (Xd a.2.natAbs)],.agg #[.bool (decide (b.1<0)),.string (Xd b.1.natAbs),.bool (decide (b.2<0)),.string (Xd b.2.natAbs)],u] [slp 2 wv v xs,slp 9 Zhx u ps] false (G:=Unit) (fun _=>True) (fun _=> .int .i64 (if Zui xs ps a b=true then 0 else 10)) (fun _=>[]):=by
 refine Yd Tryz.func41 J Tryz.ntmps41 J K2 ?_
 intro w0 sc hw hsc
 simp only [Zp,Zn]
 have hv:=hd.v
 have ha1:=ha.b1
 have ha2:=ha.b2
 have hap:=ha.p
 have hb1:=hb.b1
 have hb2:=hb.b2
 have hbp:=hb.p
 refine Nw (Hz (i:=2) J Zi) fun hlen=>Zb<|Zg<|tt (Xl (i:=3) J J J J J J hw) J fun bx _=>tt (Xl (i:=4) J J J J J J hw) J fun bx_2 _=>as_ J J<|Zf<|Za<|e_scope<|Zb<|Zb<|Zg<|mv J J<|dt (Xi (i:=3) J J J Pp Xx J J J J) J<|dt (Xi (i:=4) J J J Pp Xx J J J J) J<|mv J J<|tt (Zh (n:=4) (Zex _ _ xs ps a b hd ha hb hp hl) J J J K4 cF58 (Zd 1 J J J (Zd 2 J J J Ze)) J hw) J fun _ _=>as_ J J<|Zf<|Za<|Zb<|Zg<|mv J J<|dt (Ye (r':= .bool false) (Qd J J J) (congrArg Value.bool (decide_eq_false (fun h=>h (if_neg hc))))) J<|Zf<|Za<|Yf J<|Zk<|Za<|Zb<|Zg<|mv J J<|tt (Zh (n:=5) (Zki _ _ hd) J J J K1 cF59 (Zd 1 J J J Ze) J hw) J (fun g hg=>?_)
 obtain⟨hgl,hgc⟩:=hg
 refine mv J J<|dt (Yg J J J) J<|dt (Yg J J J) J<|tt (Zo (i:=7) J J J Tryz.zeroValue98 J J hw) J fun bx_3 _=>tt (Zm (i:=7) J J J J J (by decide) J Ce J J ⟨Zr (i:=5) J Zz,Zr (i:=6) J Zz,trivial⟩ J hw trivial) J fun _ _=>as_ J J<|Zf<|Za<|Zb<|Zb<|Zg<|mv J J<|dt (Ye (r':= .bool false) (Qd J J J) (congrArg Value.bool (by decide))) J<|Zf<|Za<|Yf J<|Zk<|Za<|Zb<|Zg<|tt (Zo (i:=8) J J J Tryz.zeroValue102 J J hw) J fun bx_4 _=>Zf<|Za<|Zb<|Zg<|dt (Xi (i:=3) J J J Pp Xx J J J J) J<|mv J J<|dt (Zy J J (i:=2) J Zi Zus) J<|dt (On J J J) J<|tt (Zo (i:=9) J J J Tryz.zeroValue41 J J hw) J fun bx_5 _=>tt (Zm (i:=9) J J J J J (by decide) J Xx J J ⟨Zc J,Zc J,Zc J,Zc J,trivial⟩ J hw trivial) J fun _ _=>as_ J J<|Zf<|Za<|Zb<|e_label<|Za ?_
 refine Dd [(6,_),(12,_),(13,_)] [(0,_),(1,_),(2,_),(3,_),(4,_),(5,_),(6,_),(7,_),(8,_)] (fun(q:Bool×R2)=>[(14,.bool q.1)]) (fun(q:Bool×R2)=>[(9,box bx_5 41 #[.bool (decide (q.2.1<0)),.string (Xd q.2.1.natAbs),.bool (decide (q.2.2<0)),.string (Xd q.2.2.natAbs)])]) (fun(q:Bool×R2)=>(Zui xs ps a b=(q.1 && decide (cmp q.2 b=0)))∧(Ef q.2)) K3 K9 ?_ ?_
 ·refine Zb<|Zg<|mv J J<|dt (Zy J J (i:=2) J Zi Zus) J<|mv J J<|Zf<|Za<|Zl<|Nt [(0,_),(6,_),(10,_),(12,_),(13,_),(38,_),(39,_)] [(0,_),(1,_),(2,_),(3,_),(4,_),(5,_),(6,_),(7,_),(8,_)] (fun(i:Nat)=>[(40,.int .i64 (i:Int)),(11,.int .i64 0),(14,.bool (decide (0<ps.length)))]) (fun(i:Nat)=>[(9,box bx_5 41 #[.bool (decide ((lst a ps i).1<0)),.string (Xd (lst a ps i).1.natAbs),.bool (decide ((lst a ps i).2<0)),.string (Xd (lst a ps i).2.natAbs)])]) (fun(i:Nat)=>(i≤ps.length)∧(∀k,k<i→Zrj xs (lst a ps k) (ps.getD k P0)=true)) (fun(i:Nat)=>ps.length-i) 0 ⟨by first | omega | (dsimp only<;>omega),fun k hk=>absurd hk (Nat.not_lt_zero k)⟩ ⟨J,J,(congrArg (fun z=>some (Value.bool z)) (decide_eq_decide.2 (by omega))),J,J,J,J,J,J,J,trivial⟩ K10 ?_
  rintro i ⟨hi,hK⟩
  simp only [List.cons_append,List.nil_append]
  have hlE:=lst_ef ha.ef hp hi
  have hl1:=hlE.b1
  have hl2:=hlE.b2
  refine Zb<|Zg<|dt (Qb J J J) J<|Zf<|Za<|Zb<|Zq J (fun h450=>?_) (fun h450=>?_)
  ·refine Zk<|Za<|Zb<|Zl<|Zb<|Zg<|dt (Yz (ii:=2) J J J J Zi Zus zT79 J (by first | omega | (simp only [List.length_set];omega))) J<|dt (Xs (ii:=2) P0 J J J Zi pP9 (by first | omega | (simp only [List.length_set];omega))) J<|tt (Zo (i:=10) J J J Tryz.zeroValue79 J J hw) J fun bx_6 _=>tt (Zm (i:=10) J J J J J (by decide) J zT79 J J ⟨Zc J,Zc J,Zc J,Zc J,Zc J,Zc J,Zc J,Zc J,Zc J,trivial⟩ J hw trivial) J fun _ _=>Zf<|Za<|Zb ?_
   obtain⟨hk,hf1,hf2⟩:=hp (ps.getD i P0) (Yv (by omega))
   have hf11:=hf1.b1
   have hf12:=hf1.b2
   have hf1p:=hf1.p
   have hf21:=hf2.b1
   have hf22:=hf2.b2
   have hf2p:=hf2.p
   refine Zg<|dt (Xy J J Zet J Xx J J) J<|dt (Xi (i:=10) J J J Pp Xx J J J J) J<|dt (Xy J J Zet J Xx J J) J<|dt (Xi (i:=10) J J J Pp Xx J J J J) J<|tt (Zh (n:=10) (Hr (ps.getD i P0).2.1.1 (ps.getD i P0).2.1.2 (ps.getD i P0).2.2.1 (ps.getD i P0).2.2.2 (by omega) (by omega) (by omega) (by omega) hf1p hf2p) J J J K2 cF96 Ze J hw) J fun _ _=>as_ J J<|Zf<|Za<|Zb<|Zb<|Zg<|dt (Xi (i:=9) J J J Pp Xx J J J J) J<|dt (Xy J J Zet J Xx J J) J<|dt (Xi (i:=10) J J J Pp Xx J J J J) J<|tt (Zh (n:=10) (Hr (lst a ps i).1 (lst a ps i).2 (ps.getD i P0).2.1.1 (ps.getD i P0).2.1.2 (by omega) (by omega) (by omega) (by omega) hlE.p hf1p) J J J K2 cF96 Ze J hw) J fun _ _=>dt (Qd J J J) J<|mv J J<|Qx (d:=54) J (fun s452=>?_) (fun s452=>?_)
   ·exact gsk J J J J J<|gsk J J J J J<|dt (Xh J J J) J<|Zf<|Za<|Nf J<|Zb<|Zg<|as_ J J<|Zf<|Za<|Yu<|Zs<|Zoj (by decide)<|Zs<|Zs<|Ox<|Qv (false,(lst a ps i)) ⟨Ez (k:=i) (by omega) (by first | exact okp_c (by assumption) | exact okp_o (by assumption)) _,hlE⟩ K4 K10
   ·refine gdt (Ym J J) J J J J<|gdt (On J J J) J J J J<|dt (Yh J J J) J<|Zf<|Za<|Zq J (fun h452=>?_) (fun h452=>?_)
    ·exact Zb<|Zg<|as_ J J<|Zf<|Za<|Yu<|Zs<|Zoj (by decide)<|Zs<|Zs<|Ox<|Qv (false,(lst a ps i)) ⟨Ez (k:=i) (by omega) (by first | exact okp_c (by assumption) | exact okp_o (by assumption)) _,hlE⟩ K4 K10
    ·refine Zk<|Za<|Zb ?_
     have hc1:=Decidable.byContradiction (by assumption:¬¬cmp (lst a ps i) (ps.getD i P0).2.1=0)
     have hc2:¬0<cmp (ps.getD i P0).2.1 (ps.getD i P0).2.2:=by assumption
     refine Zg<|dt (Xy J J Zet J Xx J J) J<|dt (Xi (i:=10) J J J Pp Xx J J J J) J<|tt (Zm (i:=9) J J J J J (by decide) J Xx J J ⟨Zc J,Zc J,Zc J,Zc J,trivial⟩ J hw trivial) J fun _ _=>Zf<|Za<|Zb<|Zl<|Zb<|Zg<|dt (Xy J J Zet J zT77 J J) J<|dt (Oa (i:=10) J J J iA77 J) J<|dt (Pi J J J) J<|as_ J J<|Zf<|Za<|Zq J (fun h458=>?_) (fun h458=>?_)
     ·refine Zg<|mv J J<|dt (Xy J J Zet J Xx J J) J<|dt (Xi (i:=10) J J J Pp Xx J J J J) J<|dt (Xy J J Zet J Xx J J) J<|dt (Xi (i:=10) J J J Pp Xx J J J J) J<|tt (Zh (n:=10) (Zvg _ xs (ps.getD i P0).2.1 (ps.getD i P0).2.2 hd hf1 hf2) J J J K3 cF93 (Zd 1 J J J Ze) J hw) J fun _ _=>mv J J<|dt (Yg J J J) J<|dt (Yg J J J) J<|as_ J J<|as_ J J<|Zf<|Ob<|Za<|Zb<|Zb<|Zg<|mv J J<|dt (Ye (r':= .bool false) (Qd J J J) (congrArg Value.bool (by decide))) J<|Zf<|Za<|Yf J<|Zk<|Za<|Zb<|Zg<|mv J J<|dt (Xo J J) J<|Zf<|Za<|Mq J (fun h468=>?_) (fun h468=>?_)
      ·exact Yu<|Zoj (by decide)<|Zs<|Zs<|Ox<|Qv (false,(ps.getD i P0).2.2) ⟨Ez (k:=i) (by omega) ((Zhi hc1 hc2).trans (by first | exact Eq.trans (Zgu (xs:=xs) (z:=ps.getD i P0) (by assumption)) (Hf (by assumption)) | (rw [(Zgs (xs:=xs) (z:=ps.getD i P0) (by assumption) (by first | exact .inl (by omega) | exact .inr (by assumption))),←hgl];exact decide_eq_false (by assumption)) | (rw [(Zgt (xs:=xs) (z:=ps.getD i P0) (by assumption) (by omega) (by assumption)),←hgl,←hgc];exact(by first | exact Zj5 (by assumption) | exact Zaw (by assumption) (Hf (by assumption)))))) _,hf2⟩ ⟨(by first | rfl | exact congrArg (fun z=>some (Value.bool z)) (Hf (by assumption)) | exact congrArg (fun z=>some (Value.bool z)) (decide_eq_false (by assumption))),J,J,J,trivial⟩ K10
      ·exact Zk<|Ob<|Za<|Zg<|dt (Yt J J J ⟨by omega,by omega⟩) J<|mv J J<|Zf<|Xq (i+1) ⟨by first | omega | (dsimp only<;>omega),fun k hk2=>by rcases Nat.lt_succ_iff_lt_or_eq.1 hk2 with h9 | h9;exact hK k h9;rw [h9];exact(Zhi hc1 hc2).trans (by first | exact Eq.trans (Zgu (xs:=xs) (z:=ps.getD i P0) (by assumption)) (Eb (by assumption)) | (rw [(Zgs (xs:=xs) (z:=ps.getD i P0) (by assumption) (by first | exact .inl (by omega) | exact .inr (by assumption))),←hgl];exact decide_eq_true (Classical.not_not.1 (by assumption))) | (rw [(Zgt (xs:=xs) (z:=ps.getD i P0) (by assumption) (by omega) (by assumption)),←hgl,←hgc];exact(Zaw (by assumption) (Eb (by assumption)))))⟩ (by first | omega | (dsimp only<;>omega)) ⟨J,J,(congrArg (fun z=>some (Value.bool z)) (Eq.trans (by first | exact Eb (by assumption) | exact decide_eq_true (Classical.not_not.1 (by assumption)) | assumption) (decide_eq_true (by omega)).symm)),J,J,J,J,J,J,J,trivial⟩ K10
     ·refine Zb<|Zg<|mv J J<|dt (Zy J J (i:=1) J Zi Qn) J<|dt (Pi J J J) J<|mv J J<|Qx (d:=91) J (fun s460=>?_) (fun s460=>?_)
      ·refine gsk J J J J J<|gsk J J J J J<|dt (Xh J J J) J<|as_ J J<|Zf<|Za<|Nf J<|Zg<|dt (Yc (i:=7) J J J Zce Ce J J) J<|dt (Xy J J Zet J Xx J J) J<|dt (Xi (i:=10) J J J Pp Xx J J J J) J<|tt (Zh (n:=10) (Ah _ _ _ _ _ (ps.getD i P0).2.1.1 (ps.getD i P0).2.1.2 (by omega) (by omega) hf1p (Xw hgl (fun q hq=>(Ns hd q hq).1)) (Xw hgl (Kl hd (m:=(ps.getD i P0).2.1) (Nat.le_trans hf1.b1 (by decide)) (Nat.le_trans hf1.b2 (by decide))).1)) J J J K3 cF62 (Zd 5 J J J (Zd 6 J J J (Ng 8 J J Ze))) J hw) J fun _ _=>dt (Lq J J J) J<|as_ J J<|Zf<|Ob<|Za<|Zb<|Zb<|Zg<|mv J J<|dt (Ye (r':= .bool false) (Qd J J J) (congrArg Value.bool (by decide))) J<|Zf<|Za<|Yf J<|Zk<|Za<|Zb<|Zg<|mv J J<|dt (Ze2 J J) J<|Zf<|Za<|Zq J (fun h468_2=>?_) (fun h468_2=>?_)
       ·exact Yu<|Zoj (by decide)<|Zs<|Zs<|Ox<|Qv (false,(ps.getD i P0).2.2) ⟨Ez (k:=i) (by omega) ((Zhi hc1 hc2).trans (by first | exact Eq.trans (Zgu (xs:=xs) (z:=ps.getD i P0) (by assumption)) (Hf (by assumption)) | (rw [(Zgs (xs:=xs) (z:=ps.getD i P0) (by assumption) (by first | exact .inl (by omega) | exact .inr (by assumption))),←hgl];exact decide_eq_false (by assumption)) | (rw [(Zgt (xs:=xs) (z:=ps.getD i P0) (by assumption) (by omega) (by assumption)),←hgl,←hgc];exact(by first | exact Zj5 (by assumption) | exact Zaw (by assumption) (Hf (by assumption)))))) _,hf2⟩ ⟨(by first | rfl | exact congrArg (fun z=>some (Value.bool z)) (Hf (by assumption)) | exact congrArg (fun z=>some (Value.bool z)) (decide_eq_false (by assumption))),J,J,J,trivial⟩ K10
       ·exact Zk<|Ob<|Za<|Zg<|dt (Yt J J J ⟨by omega,by omega⟩) J<|mv J J<|Zf<|Xq (i+1) ⟨by first | omega | (dsimp only<;>omega),fun k hk2=>by rcases Nat.lt_succ_iff_lt_or_eq.1 hk2 with h9 | h9;exact hK k h9;rw [h9];exact(Zhi hc1 hc2).trans (by first | exact Eq.trans (Zgu (xs:=xs) (z:=ps.getD i P0) (by assumption)) (Eb (by assumption)) | (rw [(Zgs (xs:=xs) (z:=ps.getD i P0) (by assumption) (by first | exact .inl (by omega) | exact .inr (by assumption))),←hgl];exact decide_eq_true (Classical.not_not.1 (by assumption))) | (rw [(Zgt (xs:=xs) (z:=ps.getD i P0) (by assumption) (by omega) (by assumption)),←hgl,←hgc];exact(Zaw (by assumption) (Eb (by assumption)))))⟩ (by first | omega | (dsimp only<;>omega)) ⟨J,J,(congrArg (fun z=>some (Value.bool z)) (Eq.trans (by first | exact Eb (by assumption) | exact decide_eq_true (Classical.not_not.1 (by assumption)) | assumption) (decide_eq_true (by omega)).symm)),J,J,J,J,J,J,J,trivial⟩ K10
      ·refine gdt (Ym J J) J J J J<|gdt (Pi J J J) J J J J<|dt (Yh J J J) J<|as_ J J<|Zf<|Za<|Zq J (fun h460=>?_) (fun h460=>?_)
       ·refine Zg<|dt (Yc (i:=7) J J J Zce Ce J J) J<|dt (Xy J J Zet J Xx J J) J<|dt (Xi (i:=10) J J J Pp Xx J J J J) J<|tt (Zh (n:=10) (Ah _ _ _ _ _ (ps.getD i P0).2.1.1 (ps.getD i P0).2.1.2 (by omega) (by omega) hf1p (Xw hgl (fun q hq=>(Ns hd q hq).1)) (Xw hgl (Kl hd (m:=(ps.getD i P0).2.1) (Nat.le_trans hf1.b1 (by decide)) (Nat.le_trans hf1.b2 (by decide))).1)) J J J K3 cF62 (Zd 5 J J J (Zd 6 J J J (Ng 8 J J Ze))) J hw) J fun _ _=>dt (Lq J J J) J<|as_ J J<|Zf<|Ob<|Za<|Zb<|Zb<|Zg<|mv J J<|dt (Ye (r':= .bool false) (Qd J J J) (congrArg Value.bool (by decide))) J<|Zf<|Za<|Yf J<|Zk<|Za<|Zb<|Zg<|mv J J<|dt (Ze2 J J) J<|Zf<|Za<|Zq J (fun h468_3=>?_) (fun h468_3=>?_)
        ·exact Yu<|Zoj (by decide)<|Zs<|Zs<|Ox<|Qv (false,(ps.getD i P0).2.2) ⟨Ez (k:=i) (by omega) ((Zhi hc1 hc2).trans (by first | exact Eq.trans (Zgu (xs:=xs) (z:=ps.getD i P0) (by assumption)) (Hf (by assumption)) | (rw [(Zgs (xs:=xs) (z:=ps.getD i P0) (by assumption) (by first | exact .inl (by omega) | exact .inr (by assumption))),←hgl];exact decide_eq_false (by assumption)) | (rw [(Zgt (xs:=xs) (z:=ps.getD i P0) (by assumption) (by omega) (by assumption)),←hgl,←hgc];exact(by first | exact Zj5 (by assumption) | exact Zaw (by assumption) (Hf (by assumption)))))) _,hf2⟩ ⟨(by first | rfl | exact congrArg (fun z=>some (Value.bool z)) (Hf (by assumption)) | exact congrArg (fun z=>some (Value.bool z)) (decide_eq_false (by assumption))),J,J,J,trivial⟩ K10
        ·exact Zk<|Ob<|Za<|Zg<|dt (Yt J J J ⟨by omega,by omega⟩) J<|mv J J<|Zf<|Xq (i+1) ⟨by first | omega | (dsimp only<;>omega),fun k hk2=>by rcases Nat.lt_succ_iff_lt_or_eq.1 hk2 with h9 | h9;exact hK k h9;rw [h9];exact(Zhi hc1 hc2).trans (by first | exact Eq.trans (Zgu (xs:=xs) (z:=ps.getD i P0) (by assumption)) (Eb (by assumption)) | (rw [(Zgs (xs:=xs) (z:=ps.getD i P0) (by assumption) (by first | exact .inl (by omega) | exact .inr (by assumption))),←hgl];exact decide_eq_true (Classical.not_not.1 (by assumption))) | (rw [(Zgt (xs:=xs) (z:=ps.getD i P0) (by assumption) (by omega) (by assumption)),←hgl,←hgc];exact(Zaw (by assumption) (Eb (by assumption)))))⟩ (by first | omega | (dsimp only<;>omega)) ⟨J,J,(congrArg (fun z=>some (Value.bool z)) (Eq.trans (by first | exact Eb (by assumption) | exact decide_eq_true (Classical.not_not.1 (by assumption)) | assumption) (decide_eq_true (by omega)).symm)),J,J,J,J,J,J,J,trivial⟩ K10
       ·refine Zg<|dt (Yc (i:=7) J J J Zce Ce J J) J<|dt (Xy J J Zet J Xx J J) J<|dt (Xi (i:=10) J J J Pp Xx J J J J) J<|tt (Zh (n:=10) (Zmw _ _ _ _ _ (ps.getD i P0).2.1.1 (ps.getD i P0).2.1.2 (by omega) (by omega) hf1p (Xw hgl (fun q hq=>(Ns hd q hq).1)) (Xw hgl (Kl hd (m:=(ps.getD i P0).2.1) (Nat.le_trans hf1.b1 (by decide)) (Nat.le_trans hf1.b2 (by decide))).1)) J J J K3 cF99 (Zd 5 J J J (Zd 6 J J J (Ng 8 J J Ze))) J hw) J fun _ _=>dt (On J J J) J<|mv J J<|Qx (d:=65) J (fun s463=>?_) (fun s463=>?_)
        ·refine gdt (Yc (i:=7) J J J Zce Ce J J) J J J J<|gdt (Xy J J Zet J Xx J J) J J J J<|gdt (Xi (i:=10) J J J Pp Xx J J J J) J J J J<|gdt (Xy J J Zet J Xx J J) J J J J<|gdt (Xi (i:=10) J J J Pp Xx J J J J) J J J J<|gtt (Zh (n:=10) (Zfd _ _ _ _ _ (ps.getD i P0).2.1.1 (ps.getD i P0).2.1.2 (ps.getD i P0).2.2.1 (ps.getD i P0).2.2.2 (by omega) (by omega) (by omega) (by omega) hf1p hf2p (Xw hgc (fun q hq=>(Gb hd q hq).1)) (Xw hgc (Kl hd (m:=(ps.getD i P0).2.1) (Nat.le_trans hf1.b1 (by decide)) (Nat.le_trans hf1.b2 (by decide))).2) (Xw hgc (Kl hd (m:=(ps.getD i P0).2.2) (Nat.le_trans hf2.b1 (by decide)) (Nat.le_trans hf2.b2 (by decide))).2) (by have h7:=congrArg List.length hgc;rw [List.length_map]at h7;have:=Ey xs;omega)) J J J K4 cF100 (Zd 5 J J J (Zd 6 J J J (Ng 8 J J Ze))) J hw) J J J J fun _ _=>gdt (Xo J J) J J J J<|dt (Xh J J J) J<|as_ J J<|Zf<|Ob<|Za<|Zb<|Zb<|Zg<|mv J J<|dt (Ye (r':= .bool false) (Qd J J J) (congrArg Value.bool (by decide))) J<|Zf<|Za<|Yf J<|Zk<|Za<|Zb<|Zg<|mv J J<|dt (Xo J J) J<|Zf<|Za<|Mq J (fun h468_4=>?_) (fun h468_4=>?_)
         ·exact Yu<|Zoj (by decide)<|Zs<|Zs<|Ox<|Qv (false,(ps.getD i P0).2.2) ⟨Ez (k:=i) (by omega) ((Zhi hc1 hc2).trans (by first | exact Eq.trans (Zgu (xs:=xs) (z:=ps.getD i P0) (by assumption)) (Hf (by assumption)) | (rw [(Zgs (xs:=xs) (z:=ps.getD i P0) (by assumption) (by first | exact .inl (by omega) | exact .inr (by assumption))),←hgl];exact decide_eq_false (by assumption)) | (rw [(Zgt (xs:=xs) (z:=ps.getD i P0) (by assumption) (by omega) (by assumption)),←hgl,←hgc];exact(by first | exact Zj5 (by assumption) | exact Zaw (by assumption) (Hf (by assumption)))))) _,hf2⟩ ⟨(by first | rfl | exact congrArg (fun z=>some (Value.bool z)) (Hf (by assumption)) | exact congrArg (fun z=>some (Value.bool z)) (decide_eq_false (by assumption))),J,J,J,trivial⟩ K10
         ·exact Zk<|Ob<|Za<|Zg<|dt (Yt J J J ⟨by omega,by omega⟩) J<|mv J J<|Zf<|Xq (i+1) ⟨by first | omega | (dsimp only<;>omega),fun k hk2=>by rcases Nat.lt_succ_iff_lt_or_eq.1 hk2 with h9 | h9;exact hK k h9;rw [h9];exact(Zhi hc1 hc2).trans (by first | exact Eq.trans (Zgu (xs:=xs) (z:=ps.getD i P0) (by assumption)) (Eb (by assumption)) | (rw [(Zgs (xs:=xs) (z:=ps.getD i P0) (by assumption) (by first | exact .inl (by omega) | exact .inr (by assumption))),←hgl];exact decide_eq_true (Classical.not_not.1 (by assumption))) | (rw [(Zgt (xs:=xs) (z:=ps.getD i P0) (by assumption) (by omega) (by assumption)),←hgl,←hgc];exact(Zaw (by assumption) (Eb (by assumption)))))⟩ (by first | omega | (dsimp only<;>omega)) ⟨J,J,(congrArg (fun z=>some (Value.bool z)) (Eq.trans (by first | exact Eb (by assumption) | exact decide_eq_true (Classical.not_not.1 (by assumption)) | assumption) (decide_eq_true (by omega)).symm)),J,J,J,J,J,J,J,trivial⟩ K10
        ·exact gsk J J J J J<|gsk J J J J J<|gsk J J J J J<|gsk J J J J J<|gsk J J J J J<|gsk J J J J J<|gsk J J J J J<|dt (Yh J J J) J<|as_ J J<|Zf<|Ob<|Za<|Zb<|Zb<|Zg<|mv J J<|dt (Ye (r':= .bool false) (Qd J J J) (congrArg Value.bool (by decide))) J<|Zf<|Za<|Yf J<|Zk<|Za<|Zb<|Zg<|mv J J<|dt (Xo J J) J<|Zf<|Za<|Nf J<|Yu<|Zoj (by decide)<|Zs<|Zs<|Ox<|Qv (false,(ps.getD i P0).2.2) ⟨Ez (k:=i) (by omega) ((Zhi hc1 hc2).trans (by first | exact Eq.trans (Zgu (xs:=xs) (z:=ps.getD i P0) (by assumption)) (Hf (by assumption)) | (rw [(Zgs (xs:=xs) (z:=ps.getD i P0) (by assumption) (by first | exact .inl (by omega) | exact .inr (by assumption))),←hgl];exact decide_eq_false (by assumption)) | (rw [(Zgt (xs:=xs) (z:=ps.getD i P0) (by assumption) (by omega) (by assumption)),←hgl,←hgc];exact(by first | exact Zj5 (by assumption) | exact Zaw (by assumption) (Hf (by assumption)))))) _,hf2⟩ ⟨(by first | rfl | exact congrArg (fun z=>some (Value.bool z)) (Hf (by assumption)) | exact congrArg (fun z=>some (Value.bool z)) (decide_eq_false (by assumption))),J,J,J,trivial⟩ K10
  ·exact Yu<|Zs<|Zs<|Ox<|Qv (decide (0<ps.length),(lst a ps i)) ⟨chk_all (by omega) hK,hlE⟩ K4 K10
 ·rintro⟨sh,lz⟩ ⟨hJ,hE⟩
  dsimp only at hJ hE
  simp only [List.cons_append,List.nil_append]
  have hz1:=hE.b1
  have hz2:=hE.b2
  have hzp:=hE.p
  refine Zb<|Zl<|Zb<|Zg<|dt (Xy J J Kq J Gg J J) J<|dt (Oa (i:=8) J J J Bv J) J<|dt (Ye (r':= .bool false) (Qd J J J) (congrArg Value.bool (by decide))) J<|as_ J J<|Zf<|Za<|Yf J<|Zb<|Zg<|mv J J<|dt (Xo J J) J<|mv J J<|Es (d:=115) J (fun s475=>?_) (fun s475=>?_)
  ·exact gsk J J J J J<|gsk J J J J J<|gsk J J J J J<|gsk J J J J J<|dt (Xh J J J) J<|as_ J J<|Zf<|Za<|Nf J<|Zb<|Zg<|as_ J J<|Zf<|Za<|Zu<|Iw<|Xe<|x_ngr<|Zv (.inl J) hsc () _ (fun a w hs=>Qj hs Tryz.results41 J) (by rw [hJ];first | (rw [Hf (b:=sh) (by assumption)];rfl) | (rw [decide_eq_false (by assumption),Bool.and_false];rfl)) trivial J Zj
  ·refine gdt (Xi (i:=9) J J J Pp Xx J J J J) J J J J<|gdt (Xi (i:=4) J J J Pp Xx J J J J) J J J J<|gtt (Zh (n:=10) (Hr lz.1 lz.2 b.1 b.2 (by omega) (by omega) (by omega) (by omega) hzp hbp) J J J K2 cF96 Ze J hw) J J J J fun _ _=>gdt (Qd J J J) J J J J<|dt (Yh J J J) J<|as_ J J<|Zf<|Za<|Zq J (fun h475=>?_) (fun h475=>?_)
   ·exact Zb<|Zg<|as_ J J<|Zf<|Za<|Zu<|Iw<|Xe<|x_ngr<|Zv (.inl J) hsc () _ (fun a w hs=>Qj hs Tryz.results41 J) (by rw [hJ];first | (rw [Hf (b:=sh) (by assumption)];rfl) | (rw [decide_eq_false (by assumption),Bool.and_false];rfl)) trivial J Zj
   ·exact Zk<|Ob<|Za<|Zb<|Zg<|as_ J J<|Zf<|Za<|Zu<|x_ngr<|Zv (.inl J) hsc () _ (fun a w hs=>Qj hs Tryz.results41 J) (by rw [hJ,Eb (b:=sh) (by assumption),decide_eq_true (Decidable.byContradiction (by assumption))];rfl) trivial J Zj
end Go.Sky
namespace Go.Sky
theorem fill19(u0 u1 u2 u3 u4 u5 u6 u7 u8 a0 a1 a2 a3 a4 a5 a6 a7 a8:Value):Instr.fill (fun i=>some (i*9,9)) ((List.range (1*9)).map ((Value.agg #[u0,u1,u2,u3,u4,u5,u6,u7,u8]).cells[· % (Value.agg #[u0,u1,u2,u3,u4,u5,u6,u7,u8]).cells.size]!)).toArray [(0,.agg #[a0,a1,a2,a3,a4,a5,a6,a7,a8])]=some #[a0,a1,a2,a3,a4,a5,a6,a7,a8]:=by
 simp [Instr.fill,Value.cells,List.range,List.range.loop]
 try rfl
theorem sz_lit{l:List Int}(h:litb l=true):Sz 40 l:=Sz.of_mem fun x hx=>by
 unfold litb at h
 rw [Bool.and_eq_true]at h
 have h1:=List.all_eq_true.1 h.1 x hx
 simp only [Bool.and_eq_true,decide_eq_true_eq]at h1
 exact(Mf 40 _).2 (by omega)
theorem Zej{l:List Int}(h:litb l=true)(h2:l.length≤7):Cvd l:=⟨vp_b h,(sz_lit h).mono (by omega),h2⟩
theorem Zp5{l:List Int}(h:litb l=true):Sz 40 l:=sz_lit h
theorem Zuq{k:Int}{a b:R2}(h:k=1∨k=2)(ha:Ef a)(hb:Ef b):ValP [(k,a,b)]:=fun z hz=>by
 rw [List.mem_singleton.1 hz];exact⟨h,ha,hb⟩
theorem Zsn{xs:List Int}{r m:Int}(h:¬Bw xs r∧Bw xs (r+1)∧bl r.natAbs≤60)(c1:Cvd (Fv xs m))(c2:Cvd (Fv xs (m+1)))(h1:ngb (Nm (Fv xs m)) (chx (Fv xs m)) (0,1) (1,1)=false)(h2:ngb (Nm (Fv xs (m+1))) (chx (Fv xs (m+1))) (0,1) (1,1)=true):r=m:=by
 have l1:¬Bw xs m:=fun e=>by rw [(Cq c1).2 e]at h1;exact absurd h1 (by decide)
 have l2:Bw xs (m+1):=(Cq c2).1 h2
 have a1:=Zlc h.1 l2
 have a2:=Zlc l1 h.2.1
 omega
end Go.Sky
namespace Go.Sky
def smR(r:RWL):Bool:=(r.all fun c=>decide (c.2.size≤4)) && decide (r.length≤7)
theorem smR_no{r:RWL}{i:Nat}(hi:i<r.length)(h:(4:Int)<((r.getD i (false,⟨#[]⟩)).2.size:Int)):smR r=false:=by
 unfold smR
 rw [show(r.all fun c=>decide (c.2.size≤4))=false from ?_]
 ·simp
 ·rw [List.all_eq_false]
  refine⟨r.getD i (false,⟨#[]⟩),Yv hi,?_⟩
  rw [decide_eq_false (by omega)];decide
theorem smR_yes{r:RWL}(h:∀k,k<r.length→(r.getD k (false,⟨#[]⟩)).2.size≤4):smR r=decide ((r.length:Int)≤7):=by
 unfold smR
 rw [show(r.all fun c=>decide (c.2.size≤4))=true from ?_,Bool.true_and]
 ·exact decide_eq_decide.2 (by omega)
 ·rw [List.all_eq_true]
  intro c hc
  obtain⟨k,hk,rfl⟩:=List.mem_iff_getElem.1 hc
  have:=h k hk
  rw [List.getD_eq_getElem?_getD,List.getElem?_eq_getElem hk]at this
  exact decide_eq_true this
theorem smR_le{r:RWL}(h:smR r=true):r.length≤7∧∀c∈r,c.2.size≤4:=by
 unfold smR at h
 rw [Bool.and_eq_true,List.all_eq_true]at h
 exact⟨of_decide_eq_true h.2,fun c hc=>of_decide_eq_true (h.1 c hc)⟩
def enR(z:RZ):Bool:=decide (z.1.2.size≤4) && decide (z.2.2.size≤4)
end Go.Sky
namespace Go.Sky
open Go.Proofs
set_option maxRecDepth 20000
set_option maxHeartbeats 4000000
set_option linter.unusedSimpArgs false
theorem Zjg(x:Int)(hx:inI x):Cal Tryz.prog 47 #[.int .i64 x] [] false (G:=Unit) (fun _=>True) (fun _=>wv x) (fun _=>[]):=by
 refine Yd Tryz.func47 J Tryz.ntmps47 J trivial ?_
 intro w0 sc hw hsc
 simp only [Zp,Zn]
 have hxa:=hx.1
 have hxb:=hx.2
 have hbx:=inI_bl hx
 exact Zb<|Zg<|tt (Zo (i:=1) J J J Tryz.zeroValue31 J J hw) J fun b _=>Zf<|Za<|Zb<|Zg<|mv J J<|tt (Zh (n:=2) (Zi2 _ hx) J J J K1 cF34 Ze J hw) J fun v _=>tt (Zh (n:=2) (r_to _ _ (by omega)) J J J K1 cF53 (Zd 2 J J J Ze) J hw) J fun _ _=>tt (Zm (i:=1) J J J J J (by decide) J Yk J J ⟨Zc J,Zc J,trivial⟩ J hw trivial) J fun _ _=>Zf<|Za<|Zu<|Zv (.inl J) hsc () _ (fun a w hs=>Qj hs Tryz.results47 (Yp (i:=1) J J Qo Yk J)) J trivial J Zj
theorem law4_p(v:Value)(l:List Int)(hl:∀x∈l,inI x)(hlen:l.length≤1000):Cal Tryz.prog 44 #[v] [slp 1 Zb4 v l] true (G:=Value) (fun r=>True) (fun r=>r) (fun r=>[slp 2 wv r (tzl l)]):=by
 refine Yd Tryz.func44 J Tryz.ntmps44 J K1 ?_
 intro w0 sc hw hsc
 simp only [Zp,Zn]
 have hsz:=Zdh hl
 exact Zb<|Zg<|as_ J J<|Zf<|Za<|Zb<|Zg<|mv J J<|tt (Zh (n:=2) (rp_nums _ _ hl hlen) J J J K1 cF102 (Zd 1 J J J Ze) J hw) J fun g hg=>tt (Zh (n:=3) (rp_to _ _ (by rw [hg];exact(Sz.tzl hsz).mono (by omega)) (by have h7:=congrArg List.length hg;rw [Ya]at h7;have h8:=Hu l;omega)) J J J K1 cF18 (Zd 2 J J J Ze) J hw) J fun v _=>as_ J J<|Zf<|Za<|Zu<|Zv (.inl J) hsc _ _ (fun a w hs=>Qj hs Tryz.results44 J) J trivial J (Yj 3 J J J (congrArg (slp 2 wv _) hg) Zj)
theorem Mw(x y:Int)(hx:inI x)(hy:inI y):Cal Tryz.prog 45 #[.int .i64 x,.int .i64 y] [] false (G:=Unit) (fun _=>True) (fun _=> .agg #[.bool (decide (x<0)),.string (Xd x.natAbs),.bool (decide (y<0)),.string (Xd y.natAbs)]) (fun _=>[]):=by
 refine Yd Tryz.func45 J Tryz.ntmps45 J trivial ?_
 intro w0 sc hw hsc
 simp only [Zp,Zn]
 exact Zb<|Zg<|tt (Zo (i:=1) J J J Tryz.zeroValue41 J J hw) J fun b _=>Zf<|Za<|Zb<|Zg<|mv J J<|tt (Zh (n:=1) (Zjg _ hx) J J J K1 cF47 Ze J hw) J fun _ _=>mv J J<|tt (Zh (n:=1) (Zjg _ hy) J J J K1 cF47 Ze J hw) J fun _ _=>dt (Oh (ivs:=[(0,_),(1,_)]) J K4 (fun a w hs=>Zeq)) J<|tt (Zm (i:=1) J J J J J (by decide) J Xx J J ⟨Zc J,Zc J,Zc J,Zc J,trivial⟩ J hw trivial) J fun _ _=>Zf<|Za<|Zu<|Zv (.inl J) hsc () _ (fun a w hs=>Qj hs Tryz.results45 (Yp (i:=1) J J Pp Xx J)) J trivial J Zj
theorem Zac(k x y:Int)(hx:inI x)(hy:inI y):Cal Tryz.prog 48 #[.int .i64 k,.int .i64 x,.int .i64 y] [] true (G:=Value) (fun r=>True) (fun r=>r) (fun r=>[slp 9 Zhx r [(k,(x,1),(y,1))]]):=by
 refine Yd Tryz.func48 J Tryz.ntmps48 J trivial ?_
 intro w0 sc hw hsc
 simp only [Zp,Zn]
 exact Zb<|Zg<|as_ J J<|Zf<|Za<|Zb<|Zg<|mv J J<|mv J J<|tt (Zh (n:=0) (Mw _ _ hx ⟨by decide,by decide⟩) J J J K2 Zb7 Ze J hw) J fun _ _=>mv J J<|tt (Zh (n:=0) (Mw _ _ hy ⟨by decide,by decide⟩) J J J K2 Zb7 Ze J hw) J fun _ _=>dt (Oh (ivs:=[(0,_),(1,_),(2,_)]) J K6 (fun a w hs=>b79_012 ((Zc J) a w hs))) J<|tt (Pt (i:=1) (ivs:=[(0,_)]) (enc:=Zhx) [(k,(x,1),(y,1))] J J J K2 Zus Tryz.ti79 J J J (fill19 _ _ _ _ _ _ _ _ _ _ _ _ _ _ _ _ _ _) J J pP9.cells J J hw) J fun v _=>as_ J J<|Zf<|Za<|Zu<|Zv (.inl J) hsc _ _ (fun a w hs=>Qj hs Tryz.results48 J) J trivial J (Znq 1 J J pP9 Zj)
theorem Zad(x y:Int)(hx:inI x)(hy:inI y):Cal Tryz.prog 46 #[.int .i64 x,.int .i64 y] [] false (G:=Unit) (fun _=>True) (fun _=> .agg #[.bool (decide (x<0)),.string (Xd x.natAbs),.bool (decide ((1:Int)<0)),.string (Xd (1:Int).natAbs),.bool (decide (y<0)),.string (Xd y.natAbs),.bool (decide ((1:Int)<0)),.string (Xd (1:Int).natAbs)]) (fun _=>[]):=by
 refine Yd Tryz.func46 J Tryz.ntmps46 J trivial ?_
 intro w0 sc hw hsc
 simp only [Zp,Zn]
 exact Zb<|Zg<|tt (Zo (i:=1) J J J Tryz.zeroValue62 J J hw) J fun bx _=>Zf<|Za<|Zb<|Zg<|mv J J<|tt (Zh (n:=1) (Mw _ _ hx ⟨by decide,by decide⟩) J J J K2 Zb7 Ze J hw) J fun _ _=>mv J J<|tt (Zh (n:=1) (Mw _ _ hy ⟨by decide,by decide⟩) J J J K2 Zb7 Ze J hw) J fun _ _=>dt (Oh (ivs:=[(0,_),(1,_)]) J K4 (fun a w hs=>b62_01)) J<|tt (Zm (i:=1) J J J J J (by decide) J Cw J J ⟨Zc J,Zc J,Zc J,Zc J,Zc J,Zc J,Zc J,Zc J,trivial⟩ J hw trivial) J fun _ _=>Zf<|Za<|Zu<|Zv (.inl J) hsc () _ (fun a w hs=>Qj hs Tryz.results46 (Yp (i:=1) J J Zif Cw J)) J trivial J Zj
theorem Zfw(v:Value)(r:List (Bool×ByteArray)):Cal Tryz.prog 10 #[v] [slp 2 Zf0 v r] false (G:=Unit) (fun _=>True) (fun _=> .bool (smR r)) (fun _=>[]):=by
 refine Yd Tryz.func10 J Tryz.ntmps10 J K1 ?_
 intro w0 sc hw hsc
 simp only [Zp,Zn]
 refine Nw (Hz (i:=1) J Zi) fun hlen=>Zb<|Zg<|as_ J J<|Zf<|Za<|Zb<|Zb<|Zg<|mv J J<|dt (Zy J J (i:=1) J Zi Qn) J<|mv J J<|Zf<|Za<|Zl<|Nt [(0,_),(5,_),(6,_)] [(0,_),(1,_)] (fun(i:Nat)=>[(7,.int .i64 (i:Int))]) (fun(i:Nat)=>[]) (fun(i:Nat)=>(i≤r.length)∧(∀k,k<i→(r.getD k (false,⟨#[]⟩)).2.size≤4)) (fun(i:Nat)=>r.length-i) 0 ⟨by first | omega | (dsimp only<;>omega),fun k hk=>absurd hk (Nat.not_lt_zero k)⟩ K4 K2 ?_
 rintro i ⟨hi,hk⟩
 simp only [List.cons_append,List.nil_append]
 refine Zb<|Zg<|dt (Qb J J J) J<|Zf<|Za<|Zb<|Zq J (fun h56=>?_) (fun h56=>?_)
 ·refine Zk<|Za<|Zb<|Zl<|Zb<|Zg<|dt (Yz (ii:=1) J J J J Zi Qn Yk J (by first | omega | (simp only [List.length_set];omega))) J<|dt (Xs (ii:=1) (false,⟨#[]⟩) J J J Zi pW (by first | omega | (simp only [List.length_set];omega))) J<|tt (Zo (i:=2) J J J Tryz.zeroValue31 J J hw) J fun b _=>tt (Zm (i:=2) J J J J J (by decide) J Yk J J ⟨Zc J,Zc J,trivial⟩ J hw trivial) J fun _ _=>Zf<|Za<|Zb<|Zg<|dt (Xy J J Zca J zT9 J J) J<|dt (Oa (i:=2) J J J iA9 J) J<|dt (Ca J J uT9) J<|dt (On J J J) J<|Zf<|Za<|Zq J (fun h57=>?_) (fun h57=>?_)
  ·exact Zb<|Zg<|as_ J J<|Zf<|Za<|Zu<|Iw<|Xe<|Xe<|Iw<|Xe<|Zv (.inl J) hsc () _ (fun a w hs=>Qj hs Tryz.results10 J) (by rw [smR_no (i:=i) (by omega) (by assumption)]) trivial J Zj
  ·exact Zk<|Ob<|Za<|Zg<|dt (Yt J J J ⟨by omega,by omega⟩) J<|mv J J<|Zf<|Xq (i+1) ⟨by first | omega | (dsimp only<;>omega),fun k hk2=>by rcases Nat.lt_succ_iff_lt_or_eq.1 hk2 with h9 | h9;exact hk k h9;subst h9;omega⟩ (by first | omega | (dsimp only<;>omega)) K4 K2
 ·exact Yu<|Zs<|Zs<|Ox<|Za<|Zb<|Zg<|mv J J<|dt (Zy J J (i:=1) J Zi Qn) J<|dt (De J J J) J<|as_ J J<|Zf<|Za<|Zu<|Zv (.inl J) hsc () _ (fun a w hs=>Qj hs Tryz.results10 J) (by rw [smR_yes fun k hk2=>hk k (by omega)]) trivial J Zj
end Go.Sky
namespace Go.Sky
open Go.Proofs
set_option maxRecDepth 20000
theorem k_od1(v:Value):Cal Tryz.prog 12 #[v] [slp 2 wv v [0,0,-1,1]] true (G:=Value) (fun r=>True) (fun r=> .tuple #[r,.int .i64 0]) (fun r=>[slp 2 wv r [-1,1]]):=by
 have h:=Zgv v [0,0,-1,1] (Zej (by decide +kernel) (by decide)) (by decide)
 rw [show Gx [0,0,-1,1]=[-1,1] by decide +kernel]at h
 exact h
theorem k_od2(v:Value):Cal Tryz.prog 12 #[v] [slp 2 wv v [4,-4,1]] true (G:=Value) (fun r=>True) (fun r=> .tuple #[r,.int .i64 0]) (fun r=>[slp 2 wv r [1]]):=by
 have h:=Zgv v [4,-4,1] (Zej (by decide +kernel) (by decide)) (by decide)
 rw [show Gx [4,-4,1]=[1] by decide +kernel]at h
 exact h
theorem k_od3(v:Value):Cal Tryz.prog 12 #[v] [slp 2 wv v [-7]] true (G:=Value) (fun r=>True) (fun r=> .tuple #[r,.int .i64 0]) (fun r=>[slp 2 wv r [1]]):=by
 have h:=Zgv v [-7] (Zej (by decide +kernel) (by decide)) (by decide)
 rw [show Gx [-7]=[1] by decide +kernel]at h
 exact h
theorem k_ng1(v:Value):Cal Tryz.prog 21 #[v,.agg #[.bool (decide ((0:Int)<0)),.string (Xd (0:Int).natAbs),.bool (decide ((1:Int)<0)),.string (Xd (1:Int).natAbs)],.agg #[.bool (decide ((2:Int)<0)),.string (Xd (2:Int).natAbs),.bool (decide ((1:Int)<0)),.string (Xd (1:Int).natAbs)]] [slp 2 wv v [1,-2,1]] false (G:=Unit) (fun _=>True) (fun _=> .tuple #[.agg #[.bool false,.string ⟨#[]⟩,.bool false,.string ⟨#[]⟩],.bool false,.int .i64 0]) (fun _=>[]):=by
 have h:=Bc v [1,-2,1] ((0:Int),(1:Int)) ((2:Int),(1:Int)) (Zej (by decide +kernel) (by decide)) ⟨by decide,by decide +kernel,by decide +kernel⟩ ⟨by decide,by decide +kernel,by decide +kernel⟩ (by decide +kernel) (by decide +kernel)
 exact h
theorem k_ng2(v:Value):Cal Tryz.prog 21 #[v,.agg #[.bool (decide ((-1:Int)<0)),.string (Xd (-1:Int).natAbs),.bool (decide ((1:Int)<0)),.string (Xd (1:Int).natAbs)],.agg #[.bool (decide ((1:Int)<0)),.string (Xd (1:Int).natAbs),.bool (decide ((1:Int)<0)),.string (Xd (1:Int).natAbs)]] [slp 2 wv v [-2,0,1]] false (G:=R2) (fun r=>Fnd [-2,0,1] (qv ((-1:Int),(1:Int))) (qv ((1:Int),(1:Int))) r) (fun r=> .tuple #[.agg #[.bool (decide (r.1<0)),.string (Xd r.1.natAbs),.bool (decide (r.2<0)),.string (Xd r.2.natAbs)],.bool true,.int .i64 0]) (fun r=>[]):=by
 have h:=Di v [-2,0,1] ((-1:Int),(1:Int)) ((1:Int),(1:Int)) (Zej (by decide +kernel) (by decide)) ⟨by decide,by decide +kernel,by decide +kernel⟩ ⟨by decide,by decide +kernel,by decide +kernel⟩ (by decide +kernel) (by decide +kernel)
 exact h
theorem k_ng3(v:Value):Cal Tryz.prog 21 #[v,.agg #[.bool (decide ((2:Int)<0)),.string (Xd (2:Int).natAbs),.bool (decide ((1:Int)<0)),.string (Xd (1:Int).natAbs)],.agg #[.bool (decide ((3:Int)<0)),.string (Xd (3:Int).natAbs),.bool (decide ((1:Int)<0)),.string (Xd (1:Int).natAbs)]] [slp 2 wv v [-2,0,1]] false (G:=Unit) (fun _=>True) (fun _=> .tuple #[.agg #[.bool false,.string ⟨#[]⟩,.bool false,.string ⟨#[]⟩],.bool false,.int .i64 0]) (fun _=>[]):=by
 have h:=Bc v [-2,0,1] ((2:Int),(1:Int)) ((3:Int),(1:Int)) (Zej (by decide +kernel) (by decide)) ⟨by decide,by decide +kernel,by decide +kernel⟩ ⟨by decide,by decide +kernel,by decide +kernel⟩ (by decide +kernel) (by decide +kernel)
 exact h
theorem k_fs1(v:Value):Cal Tryz.prog 31 #[v,.agg #[.bool (decide ((0:Int)<0)),.string (Xd (0:Int).natAbs),.bool (decide ((1:Int)<0)),.string (Xd (1:Int).natAbs)],.agg #[.bool (decide ((2:Int)<0)),.string (Xd (2:Int).natAbs),.bool (decide ((1:Int)<0)),.string (Xd (1:Int).natAbs)],.int .i64 1] [slp 2 wv v [-1,1]] false (G:=Unit) (fun _=>True) (fun _=> .tuple #[.agg #[.bool (decide ((0:Int)<0)),.string (Xd (0:Int).natAbs),.bool (decide ((1:Int)<0)),.string (Xd (1:Int).natAbs),.bool (decide ((1:Int)<0)),.string (Xd (1:Int).natAbs),.bool (decide ((1:Int)<0)),.string (Xd (1:Int).natAbs)],.int .i64 0]) (fun _=>[]):=by
 have h:=Zds v [-1,1] ((0:Int),(1:Int)) ((2:Int),(1:Int)) (Zej (by decide +kernel) (by decide)) ⟨by decide,by decide +kernel,by decide +kernel⟩ ⟨by decide,by decide +kernel,by decide +kernel⟩ 1 (by decide) (by decide +kernel) (by decide +kernel)
 rw [show frs [-1,1] 1 (slow ((0:Int),(1:Int))) (slow ((2:Int),(1:Int)))=(((0:Int),(1:Int)),((1:Int),(1:Int))) by decide +kernel]at h
 exact h
theorem k_fs2(v:Value):Cal Tryz.prog 31 #[v,.agg #[.bool (decide ((0:Int)<0)),.string (Xd (0:Int).natAbs),.bool (decide ((1:Int)<0)),.string (Xd (1:Int).natAbs)],.agg #[.bool (decide ((4:Int)<0)),.string (Xd (4:Int).natAbs),.bool (decide ((1:Int)<0)),.string (Xd (1:Int).natAbs)],.int .i64 2] [slp 2 wv v [1,-1]] false (G:=Unit) (fun _=>True) (fun _=> .tuple #[.agg #[.bool (decide ((1:Int)<0)),.string (Xd (1:Int).natAbs),.bool (decide ((1:Int)<0)),.string (Xd (1:Int).natAbs),.bool (decide ((2:Int)<0)),.string (Xd (2:Int).natAbs),.bool (decide ((1:Int)<0)),.string (Xd (1:Int).natAbs)],.int .i64 0]) (fun _=>[]):=by
 have h:=Zds v [1,-1] ((0:Int),(1:Int)) ((4:Int),(1:Int)) (Zej (by decide +kernel) (by decide)) ⟨by decide,by decide +kernel,by decide +kernel⟩ ⟨by decide,by decide +kernel,by decide +kernel⟩ 2 (by decide) (by decide +kernel) (by decide +kernel)
 rw [show frs [1,-1] 2 (slow ((0:Int),(1:Int))) (slow ((4:Int),(1:Int)))=(((1:Int),(1:Int)),((2:Int),(1:Int))) by decide +kernel]at h
 exact h
theorem k_fs3(v:Value):Cal Tryz.prog 31 #[v,.agg #[.bool (decide ((0:Int)<0)),.string (Xd (0:Int).natAbs),.bool (decide ((1:Int)<0)),.string (Xd (1:Int).natAbs)],.agg #[.bool (decide ((1:Int)<0)),.string (Xd (1:Int).natAbs),.bool (decide ((1:Int)<0)),.string (Xd (1:Int).natAbs)],.int .i64 3] [slp 2 wv v [1,0,1]] false (G:=Unit) (fun _=>True) (fun _=> .tuple #[.agg #[.bool false,.string ⟨#[]⟩,.bool false,.string ⟨#[]⟩,.bool false,.string ⟨#[]⟩,.bool false,.string ⟨#[]⟩],.int .i64 9]) (fun _=>[]):=by
 have h:=Zgz v [1,0,1] ((0:Int),(1:Int)) ((1:Int),(1:Int)) (Zej (by decide +kernel) (by decide)) ⟨by decide,by decide +kernel,by decide +kernel⟩ ⟨by decide,by decide +kernel,by decide +kernel⟩ 3 (by decide) (by decide +kernel) (by decide +kernel)
 exact h
theorem k_pv(v:Value):Cal Tryz.prog 38 #[v,.agg #[.bool (decide ((0:Int)<0)),.string (Xd (0:Int).natAbs),.bool (decide ((1:Int)<0)),.string (Xd (1:Int).natAbs)],.agg #[.bool (decide ((2:Int)<0)),.string (Xd (2:Int).natAbs),.bool (decide ((1:Int)<0)),.string (Xd (1:Int).natAbs)]] [slp 2 wv v [-1,1]] false (G:=Unit) (fun _=>True) (fun _=> .tuple #[.slice none 0 0,.int .i64 10]) (fun _=>[]):=by
 have h:=Zkm v [-1,1] ((0:Int),(1:Int)) ((2:Int),(1:Int)) (Zej (by decide +kernel) (by decide)) ⟨by decide,by decide +kernel,by decide +kernel⟩ ⟨by decide,by decide +kernel,by decide +kernel⟩ (by decide +kernel) (by decide +kernel)
 exact h
theorem k_ck1(v u:Value):Cal Tryz.prog 41 #[v,.agg #[.bool (decide ((0:Int)<0)),.string (Xd (0:Int).natAbs),.bool (decide ((1:Int)<0)),.string (Xd (1:Int).natAbs)],.agg #[.bool (decide ((2:Int)<0)),.string (Xd (2:Int).natAbs),.bool (decide ((1:Int)<0)),.string (Xd (1:Int).natAbs)],u] [slp 2 wv v [1,-2,1],slp 9 Zhx u [((2:Int),((0:Int),(1:Int)),((2:Int),(1:Int)))]] false (G:=Unit) (fun _=>True) (fun _=> .int .i64 0) (fun _=>[]):=by
 have h:=Ej v u [1,-2,1] [((2:Int),((0:Int),(1:Int)),((2:Int),(1:Int)))] ((0:Int),(1:Int)) ((2:Int),(1:Int)) (Zej (by decide +kernel) (by decide)) ⟨by decide,by decide +kernel,by decide +kernel⟩ ⟨by decide,by decide +kernel,by decide +kernel⟩ (Zuq (by decide) ⟨by decide,by decide +kernel,by decide +kernel⟩ ⟨by decide,by decide +kernel,by decide +kernel⟩) (by decide) (by decide +kernel)
 rw [show Zui [1,-2,1] [((2:Int),((0:Int),(1:Int)),((2:Int),(1:Int)))] ((0:Int),(1:Int)) ((2:Int),(1:Int))=true by decide +kernel]at h
 exact h
theorem k_ck2(v u:Value):Cal Tryz.prog 41 #[v,.agg #[.bool (decide ((0:Int)<0)),.string (Xd (0:Int).natAbs),.bool (decide ((1:Int)<0)),.string (Xd (1:Int).natAbs)],.agg #[.bool (decide ((2:Int)<0)),.string (Xd (2:Int).natAbs),.bool (decide ((1:Int)<0)),.string (Xd (1:Int).natAbs)],u] [slp 2 wv v [1,1],slp 9 Zhx u [((1:Int),((0:Int),(1:Int)),((2:Int),(1:Int)))]] false (G:=Unit) (fun _=>True) (fun _=> .int .i64 0) (fun _=>[]):=by
 have h:=Ej v u [1,1] [((1:Int),((0:Int),(1:Int)),((2:Int),(1:Int)))] ((0:Int),(1:Int)) ((2:Int),(1:Int)) (Zej (by decide +kernel) (by decide)) ⟨by decide,by decide +kernel,by decide +kernel⟩ ⟨by decide,by decide +kernel,by decide +kernel⟩ (Zuq (by decide) ⟨by decide,by decide +kernel,by decide +kernel⟩ ⟨by decide,by decide +kernel,by decide +kernel⟩) (by decide) (by decide +kernel)
 rw [show Zui [1,1] [((1:Int),((0:Int),(1:Int)),((2:Int),(1:Int)))] ((0:Int),(1:Int)) ((2:Int),(1:Int))=true by decide +kernel]at h
 exact h
theorem k_ck3(v u:Value):Cal Tryz.prog 41 #[v,.agg #[.bool (decide ((0:Int)<0)),.string (Xd (0:Int).natAbs),.bool (decide ((1:Int)<0)),.string (Xd (1:Int).natAbs)],.agg #[.bool (decide ((2:Int)<0)),.string (Xd (2:Int).natAbs),.bool (decide ((1:Int)<0)),.string (Xd (1:Int).natAbs)],u] [slp 2 wv v [1,-2,1],slp 9 Zhx u [((1:Int),((0:Int),(1:Int)),((2:Int),(1:Int)))]] false (G:=Unit) (fun _=>True) (fun _=> .int .i64 10) (fun _=>[]):=by
 have h:=Ej v u [1,-2,1] [((1:Int),((0:Int),(1:Int)),((2:Int),(1:Int)))] ((0:Int),(1:Int)) ((2:Int),(1:Int)) (Zej (by decide +kernel) (by decide)) ⟨by decide,by decide +kernel,by decide +kernel⟩ ⟨by decide,by decide +kernel,by decide +kernel⟩ (Zuq (by decide) ⟨by decide,by decide +kernel,by decide +kernel⟩ ⟨by decide,by decide +kernel,by decide +kernel⟩) (by decide) (by decide +kernel)
 rw [show Zui [1,-2,1] [((1:Int),((0:Int),(1:Int)),((2:Int),(1:Int)))] ((0:Int),(1:Int)) ((2:Int),(1:Int))=false by decide +kernel]at h
 exact h
theorem k_ck4(v u:Value):Cal Tryz.prog 41 #[v,.agg #[.bool (decide ((0:Int)<0)),.string (Xd (0:Int).natAbs),.bool (decide ((1:Int)<0)),.string (Xd (1:Int).natAbs)],.agg #[.bool (decide ((2:Int)<0)),.string (Xd (2:Int).natAbs),.bool (decide ((1:Int)<0)),.string (Xd (1:Int).natAbs)],u] [slp 2 wv v [1,1],slp 9 Zhx u [((1:Int),((0:Int),(1:Int)),((1:Int),(1:Int)))]] false (G:=Unit) (fun _=>True) (fun _=> .int .i64 10) (fun _=>[]):=by
 have h:=Ej v u [1,1] [((1:Int),((0:Int),(1:Int)),((1:Int),(1:Int)))] ((0:Int),(1:Int)) ((2:Int),(1:Int)) (Zej (by decide +kernel) (by decide)) ⟨by decide,by decide +kernel,by decide +kernel⟩ ⟨by decide,by decide +kernel,by decide +kernel⟩ (Zuq (by decide) ⟨by decide,by decide +kernel,by decide +kernel⟩ ⟨by decide,by decide +kernel,by decide +kernel⟩) (by decide) (by decide +kernel)
 rw [show Zui [1,1] [((1:Int),((0:Int),(1:Int)),((1:Int),(1:Int)))] ((0:Int),(1:Int)) ((2:Int),(1:Int))=false by decide +kernel]at h
 exact h
theorem k_fl1(r:Int)(h:¬Bw [0,-1,1] r∧Bw [0,-1,1] (r+1)∧bl r.natAbs≤60):r=-1:=Zsn (m:=-1) h (Zej (by decide +kernel) (by decide)) (Zej (by decide +kernel) (by decide)) (by decide +kernel) (by decide +kernel)
theorem k_fc1(v:Value):Cal Tryz.prog 33 #[v] [slp 2 wv v [0,-1,1]] false (G:=Int) (fun r=>¬Bw [0,-1,1] r∧Bw [0,-1,1] (r+1)∧bl r.natAbs≤60) (fun r=> .tuple #[wv r,.int .i64 0]) (fun r=>[]):=by
 have h:=Zgx v [0,-1,1] (Zej (by decide +kernel) (by decide)) (Zp5 (by decide +kernel))
 exact h
theorem k_fl2(r:Int)(h:¬Bw [7] r∧Bw [7] (r+1)∧bl r.natAbs≤60):r=7:=Zsn (m:=7) h (Zej (by decide +kernel) (by decide)) (Zej (by decide +kernel) (by decide)) (by decide +kernel) (by decide +kernel)
theorem k_fc2(v:Value):Cal Tryz.prog 33 #[v] [slp 2 wv v [7]] false (G:=Int) (fun r=>¬Bw [7] r∧Bw [7] (r+1)∧bl r.natAbs≤60) (fun r=> .tuple #[wv r,.int .i64 0]) (fun r=>[]):=by
 have h:=Zgx v [7] (Zej (by decide +kernel) (by decide)) (Zp5 (by decide +kernel))
 exact h
theorem k_fl3(r:Int)(h:¬Bw [3,-1] r∧Bw [3,-1] (r+1)∧bl r.natAbs≤60):r=2:=Zsn (m:=2) h (Zej (by decide +kernel) (by decide)) (Zej (by decide +kernel) (by decide)) (by decide +kernel) (by decide +kernel)
theorem k_fc3(v:Value):Cal Tryz.prog 33 #[v] [slp 2 wv v [3,-1]] false (G:=Int) (fun r=>¬Bw [3,-1] r∧Bw [3,-1] (r+1)∧bl r.natAbs≤60) (fun r=> .tuple #[wv r,.int .i64 0]) (fun r=>[]):=by
 have h:=Zgx v [3,-1] (Zej (by decide +kernel) (by decide)) (Zp5 (by decide +kernel))
 exact h
theorem Zfx(v:Value)(l xs:List Int)(h1:(l.all fun x=>decide (-1000000≤x) && decide (x≤1000000))=true)(h2:l.length≤1000)(hx:tzl l=xs):Cal Tryz.prog 44 #[v] [slp 1 Zb4 v l] true (G:=Value) (fun r=>True) (fun r=>r) (fun r=>[slp 2 wv r xs]):=by
 subst hx;exact law4_p v l (Zsi h1) h2
end Go.Sky
namespace Go.Sky
open Go.Proofs
set_option maxRecDepth 20000
set_option maxHeartbeats 4000000
set_option linter.unusedSimpArgs false
set_option maxHeartbeats 4000000 in
theorem Cr  : Cal Tryz.prog 11 #[] [] false (G:=Unit) (fun _=>True) (fun _=> .bool true) (fun _=>[]):=by
 refine Yd Tryz.func11 J Tryz.ntmps11 J trivial ?_
 intro w0 sc hw hsc
 simp only [Zp,Zn]
 refine Ys (Nj 999 2 31 wv)<|Ys (Po 999 J J pV)<|Zb<|Zg<|as_ J J<|Zf<|Za<|Zb<|Zg<|tt (Pt (i:=1) (ivs:=[(0,_),(1,_),(2,_),(3,_)]) (enc:=Zb4) ([0,0,-1,1]:List Int) J J J K8 Mi Tryz.ti3 J J J J J J pZ.cells J J hw) J fun v _=>Pq (Po 1 J J pZ)<|tt (Zh (n:=2) (Zfx _ [0,0,-1,1] [0,0,-1,1] (by decide +kernel) (by decide) (by decide +kernel)) J J J K1 Zf4 (Zd 1 J J J Ze) J hw) J fun v_2 _=>tt (Zh (n:=3) (k_od1 _) J J J K1 cF12 (Zd 2 J J J Ze) J hw) J fun _ _=>mv J J<|dt (Yg J J J) J<|dt (Yg J J J) J<|as_ J J<|as_ J J<|Zf<|Za<|Zb<|Zg<|tt (Pt (i:=4) (ivs:=[(0,_),(1,_),(2,_)]) (enc:=Zb4) ([4,-4,1]:List Int) J J J K6 Mi Tryz.ti3 J J J J J J pZ.cells J J hw) J fun v_3 _=>Pq (Po 4 J J pZ)<|tt (Zh (n:=5) (Zfx _ [4,-4,1] [4,-4,1] (by decide +kernel) (by decide) (by decide +kernel)) J J J K1 Zf4 (Zd 4 J J J Ze) J hw) J fun v_4 _=>tt (Zh (n:=6) (k_od2 _) J J J K1 cF12 (Zd 5 J J J Ze) J hw) J fun _ _=>mv J J<|dt (Yg J J J) J<|dt (Yg J J J) J<|as_ J J<|as_ J J<|Zf<|Za<|Zb<|Zg ?_
 refine tt (Pt (i:=7) (ivs:=[(0,_)]) (enc:=Zb4) ([-7]:List Int) J J J K2 Mi Tryz.ti3 J J J J J J pZ.cells J J hw) J fun v_5 _=>Pq (Po 7 J J pZ)<|tt (Zh (n:=8) (Zfx _ [-7] [-7] (by decide +kernel) (by decide) (by decide +kernel)) J J J K1 Zf4 (Zd 7 J J J Ze) J hw) J fun v_6 _=>tt (Zh (n:=9) (k_od3 _) J J J K1 cF12 (Zd 8 J J J Ze) J hw) J fun _ _=>mv J J<|dt (Yg J J J) J<|dt (Yg J J J) J<|as_ J J<|as_ J J<|Zf<|Za<|Zb<|Zb<|Zg<|mv J J<|tt (Pt (i:=10) (ivs:=[(0,_),(1,_)]) (enc:=Zb4) ([-1,1]:List Int) J J J K4 Mi Tryz.ti3 J J J J J J pZ.cells J J hw) J fun v_7 _=>Pq (Po 10 J J pZ)<|tt (Zh (n:=11) (Zfx _ [-1,1] [-1,1] (by decide +kernel) (by decide) (by decide +kernel)) J J J K1 Zf4 (Zd 10 J J J Ze) J hw) J fun v_8 _=>tt (Zh (n:=11) (Am _ _ _ _) J J J K2 cF17 (Zd 3 J J J (Zd 11 J J J Ze)) J hw) J fun _ _=>dt (Ye (r':= .bool false) (Ze2 J J) (congrArg Value.bool (by decide))) J<|mv J J<|gdt (Ym J J) J J J J<|gdt (Ye (r':= .bool false) (Qd J J J) (congrArg Value.bool (by decide))) J J J J<|dt (Yh J J J) J<|mv J J<|gdt (Ym J J) J J J J ?_
 refine gtt (Pt (i:=12) (ivs:=[(0,_)]) (enc:=Zb4) ([1]:List Int) J J J K2 Mi Tryz.ti3 J J J J J J pZ.cells J J hw) J J J J fun v_9 _=>Pq (Po 12 J J pZ)<|gtt (Zh (n:=13) (Zfx _ [1] [1] (by decide +kernel) (by decide) (by decide +kernel)) J J J K1 Zf4 (Zd 12 J J J Ze) J hw) J J J J fun v_10 _=>gtt (Zh (n:=13) (Am _ _ _ _) J J J K2 cF17 (Zd 6 J J J (Zd 13 J J J Ze)) J hw) J J J J fun _ _=>gdt (Ye (r':= .bool false) (Ze2 J J) (congrArg Value.bool (by decide))) J J J J<|dt (Yh J J J) J<|mv J J<|gdt (Ym J J) J J J J<|gdt (Ye (r':= .bool false) (Qd J J J) (congrArg Value.bool (by decide))) J J J J<|dt (Yh J J J) J<|mv J J<|gdt (Ym J J) J J J J<|gtt (Pt (i:=14) (ivs:=[(0,_)]) (enc:=Zb4) ([1]:List Int) J J J K2 Mi Tryz.ti3 J J J J J J pZ.cells J J hw) J J J J fun v_11 _=>Pq (Po 14 J J pZ)<|gtt (Zh (n:=15) (Zfx _ [1] [1] (by decide +kernel) (by decide) (by decide +kernel)) J J J K1 Zf4 (Zd 14 J J J Ze) J hw) J J J J fun v_12 _=>gtt (Zh (n:=15) (Am _ _ _ _) J J J K2 cF17 (Zd 9 J J J (Zd 15 J J J Ze)) J hw) J J J J fun _ _=>gdt (Ye (r':= .bool false) (Ze2 J J) (congrArg Value.bool (by decide))) J J J J ?_
 refine dt (Yh J J J) J<|mv J J<|gdt (Ym J J) J J J J<|gdt (Ye (r':= .bool false) (Qd J J J) (congrArg Value.bool (by decide))) J J J J<|dt (Yh J J J) J<|Zf<|Za<|Yf J<|Zk<|Za<|Zb<|Zg<|tt (Pt (i:=16) (ivs:=[(0,_),(1,_),(2,_)]) (enc:=Zb4) ([1,-2,1]:List Int) J J J K6 Mi Tryz.ti3 J J J J J J pZ.cells J J hw) J fun v_13 _=>Pq (Po 16 J J pZ)<|tt (Zh (n:=17) (Zfx _ [1,-2,1] [1,-2,1] (by decide +kernel) (by decide) (by decide +kernel)) J J J K1 Zf4 (Zd 16 J J J Ze) J hw) J fun v_14 _=>tt (Zh (n:=17) (Mw _ _ ⟨by decide,by decide⟩ ⟨by decide,by decide⟩) J J J K2 Zb7 Ze J hw) J fun _ _=>tt (Zh (n:=17) (Mw _ _ ⟨by decide,by decide⟩ ⟨by decide,by decide⟩) J J J K2 Zb7 Ze J hw) J fun _ _=>tt (Zh (n:=17) (k_ng1 _) J J J K3 cF21 (Zd 17 J J J Ze) J hw) J fun _ _=>mv J J<|dt (Yg J J J) J<|dt (Yg J J J) J<|dt (Yg J J J) J<|tt (Zo (i:=18) J J J Tryz.zeroValue41 J J hw) J fun bx _=>tt (Zm (i:=18) J J J J J (by decide) J Xx J J ⟨Zc J,Zc J,Zc J,Zc J,trivial⟩ J hw trivial) J fun _ _=>as_ J J<|as_ J J<|Zf<|Za<|Zb<|Zg ?_
 refine tt (Pt (i:=19) (ivs:=[(0,_),(1,_),(2,_)]) (enc:=Zb4) ([-2,0,1]:List Int) J J J K6 Mi Tryz.ti3 J J J J J J pZ.cells J J hw) J fun v_15 _=>Pq (Po 19 J J pZ)<|tt (Zh (n:=20) (Zfx _ [-2,0,1] [-2,0,1] (by decide +kernel) (by decide) (by decide +kernel)) J J J K1 Zf4 (Zd 19 J J J Ze) J hw) J fun v_16 _=>tt (Zh (n:=20) (Mw _ _ ⟨by decide,by decide⟩ ⟨by decide,by decide⟩) J J J K2 Zb7 Ze J hw) J fun _ _=>tt (Zh (n:=20) (Mw _ _ ⟨by decide,by decide⟩ ⟨by decide,by decide⟩) J J J K2 Zb7 Ze J hw) J fun _ _=>tt (Zh (n:=20) (k_ng2 _) J J J K3 cF21 (Zd 20 J J J Ze) J hw) J fun _ _=>mv J J<|dt (Yg J J J) J<|dt (Yg J J J) J<|dt (Yg J J J) J<|tt (Zo (i:=21) J J J Tryz.zeroValue41 J J hw) J fun bx_2 _=>tt (Zm (i:=21) J J J J J (by decide) J Xx J J ⟨Zc J,Zc J,Zc J,Zc J,trivial⟩ J hw trivial) J fun _ _=>as_ J J<|as_ J J<|Zf<|Za<|Zb<|Zg<|tt (Pt (i:=22) (ivs:=[(0,_),(1,_),(2,_)]) (enc:=Zb4) ([-2,0,1]:List Int) J J J K6 Mi Tryz.ti3 J J J J J J pZ.cells J J hw) J fun v_17 _=>Pq (Po 22 J J pZ) ?_
 refine tt (Zh (n:=23) (Zfx _ [-2,0,1] [-2,0,1] (by decide +kernel) (by decide) (by decide +kernel)) J J J K1 Zf4 (Zd 22 J J J Ze) J hw) J fun v_18 _=>tt (Zh (n:=23) (Mw _ _ ⟨by decide,by decide⟩ ⟨by decide,by decide⟩) J J J K2 Zb7 Ze J hw) J fun _ _=>tt (Zh (n:=23) (Mw _ _ ⟨by decide,by decide⟩ ⟨by decide,by decide⟩) J J J K2 Zb7 Ze J hw) J fun _ _=>tt (Zh (n:=23) (k_ng3 _) J J J K3 cF21 (Zd 23 J J J Ze) J hw) J fun _ _=>mv J J<|dt (Yg J J J) J<|dt (Yg J J J) J<|dt (Yg J J J) J<|tt (Zo (i:=24) J J J Tryz.zeroValue41 J J hw) J fun bx_3 _=>tt (Zm (i:=24) J J J J J (by decide) J Xx J J ⟨Zc J,Zc J,Zc J,Zc J,trivial⟩ J hw trivial) J fun _ _=>as_ J J<|as_ J J<|Zf<|Za<|Zb<|Zb<|Zg<|mv J J<|mv J J<|gdt (Ym J J) J J J J<|gdt (Ye (r':= .bool false) (Qd J J J) (congrArg Value.bool (by decide))) J J J J<|dt (Yh J J J) J<|mv J J<|gdt (Ym J J) J J J J<|gdt (Ye (r':= .bool false) (Xo J J) (congrArg Value.bool (by decide))) J J J J<|dt (Yh J J J) J<|mv J J<|gdt (Ym J J) J J J J<|gdt (Ye (r':= .bool false) (Qd J J J) (congrArg Value.bool (by decide))) J J J J<|dt (Yh J J J) J<|mv J J<|gdt (Ym J J) J J J J ?_
 refine dt (Yh J J J) J<|mv J J<|gdt (Ym J J) J J J J<|gdt (Ye (r':= .bool false) (Qd J J J) (congrArg Value.bool (by decide))) J J J J<|dt (Yh J J J) J<|Zf<|Za<|Yf J<|Zk<|Za<|Zb<|Zg<|tt (Pt (i:=25) (ivs:=[(0,_),(1,_)]) (enc:=Zb4) ([-1,1]:List Int) J J J K4 Mi Tryz.ti3 J J J J J J pZ.cells J J hw) J fun v_19 _=>Pq (Po 25 J J pZ)<|tt (Zh (n:=26) (Zfx _ [-1,1] [-1,1] (by decide +kernel) (by decide) (by decide +kernel)) J J J K1 Zf4 (Zd 25 J J J Ze) J hw) J fun v_20 _=>tt (Zh (n:=26) (Mw _ _ ⟨by decide,by decide⟩ ⟨by decide,by decide⟩) J J J K2 Zb7 Ze J hw) J fun _ _=>tt (Zh (n:=26) (Mw _ _ ⟨by decide,by decide⟩ ⟨by decide,by decide⟩) J J J K2 Zb7 Ze J hw) J fun _ _=>tt (Zh (n:=26) (k_fs1 _) J J J K4 cF31 (Zd 26 J J J Ze) J hw) J fun _ _=>mv J J<|dt (Yg J J J) J<|dt (Yg J J J) J<|tt (Zo (i:=27) J J J Tryz.zeroValue62 J J hw) J fun bx_4 _=>tt (Zm (i:=27) J J J J J (by decide) J Cw J J ⟨Zc J,Zc J,Zc J,Zc J,Zc J,Zc J,Zc J,Zc J,trivial⟩ J hw trivial) J fun _ _=>as_ J J<|Zf<|Za<|Zb<|Zg ?_
 refine tt (Pt (i:=28) (ivs:=[(0,_),(1,_)]) (enc:=Zb4) ([1,-1]:List Int) J J J K4 Mi Tryz.ti3 J J J J J J pZ.cells J J hw) J fun v_21 _=>Pq (Po 28 J J pZ)<|tt (Zh (n:=29) (Zfx _ [1,-1] [1,-1] (by decide +kernel) (by decide) (by decide +kernel)) J J J K1 Zf4 (Zd 28 J J J Ze) J hw) J fun v_22 _=>tt (Zh (n:=29) (Mw _ _ ⟨by decide,by decide⟩ ⟨by decide,by decide⟩) J J J K2 Zb7 Ze J hw) J fun _ _=>tt (Zh (n:=29) (Mw _ _ ⟨by decide,by decide⟩ ⟨by decide,by decide⟩) J J J K2 Zb7 Ze J hw) J fun _ _=>tt (Zh (n:=29) (k_fs2 _) J J J K4 cF31 (Zd 29 J J J Ze) J hw) J fun _ _=>mv J J<|dt (Yg J J J) J<|dt (Yg J J J) J<|tt (Zo (i:=30) J J J Tryz.zeroValue62 J J hw) J fun bx_5 _=>tt (Zm (i:=30) J J J J J (by decide) J Cw J J ⟨Zc J,Zc J,Zc J,Zc J,Zc J,Zc J,Zc J,Zc J,trivial⟩ J hw trivial) J fun _ _=>as_ J J<|Zf<|Za<|Zb<|Zg<|tt (Pt (i:=31) (ivs:=[(0,_),(1,_),(2,_)]) (enc:=Zb4) ([1,0,1]:List Int) J J J K6 Mi Tryz.ti3 J J J J J J pZ.cells J J hw) J fun v_23 _=>Pq (Po 31 J J pZ) ?_
 refine tt (Zh (n:=32) (Zfx _ [1,0,1] [1,0,1] (by decide +kernel) (by decide) (by decide +kernel)) J J J K1 Zf4 (Zd 31 J J J Ze) J hw) J fun v_24 _=>tt (Zh (n:=32) (Mw _ _ ⟨by decide,by decide⟩ ⟨by decide,by decide⟩) J J J K2 Zb7 Ze J hw) J fun _ _=>tt (Zh (n:=32) (Mw _ _ ⟨by decide,by decide⟩ ⟨by decide,by decide⟩) J J J K2 Zb7 Ze J hw) J fun _ _=>tt (Zh (n:=32) (k_fs3 _) J J J K4 cF31 (Zd 32 J J J Ze) J hw) J fun _ _=>mv J J<|dt (Yg J J J) J<|dt (Yg J J J) J<|as_ J J<|Zf<|Za<|Zb<|Zb<|Qs (fun _=>False) [(0,0),(1,1),(2,0),(3,0),(4,0),(5,0),(6,0),(7,0),(8,0),(9,1),(10,0),(11,0),(12,0),(13,0),(14,0),(15,0),(16,0),(17,0),(18,0),(19,0)] (by kernel_rfl) ?_ ?_
 ·kernel_rfl
 refine r0' J J J J (st0 (Ze4 (i:=27) J J J Zif Cw J J J J J J J J))<|r1' J J (Zh (n:=32) (Zad _ _ ⟨by decide,by decide⟩ ⟨by decide,by decide⟩) J J J K2 cF46 Ze J hw) fun _ _=>r0' J J J J (st0 (Ye (r':= .bool false) (Zpc J J J eg62 (fun w=>neq62 w _ _ _ _ _ _ _ _ _ _ _ _ _ _ _ _)) (congrArg Value.bool (by simp [Cs]))))<|r0' J J J J (st0 (Ym J J))<|r0g (st0 (Ym J J)) J J J J J J J<|r0g (st0 (Ye (r':= .bool false) (Qd J J J) (congrArg Value.bool (by decide)))) J J J J J J J<|r0' J J J J (st0 (Yh J J J))<|r0' J J J J (st0 (Ym J J))<|r0g (st0 (Ze4 (i:=30) J J J Zif Cw J J J J J J J J)) J J J J J J J<|r1g' J J J J J (Zh (n:=32) (Zad _ _ ⟨by decide,by decide⟩ ⟨by decide,by decide⟩) J J J K2 cF46 Ze J hw) fun _ _=>r0g (st0 (Ye (r':= .bool false) (Zpc J J J eg62 (fun w=>neq62 w _ _ _ _ _ _ _ _ _ _ _ _ _ _ _ _)) (congrArg Value.bool (by simp [Cs])))) J J J J J J J<|r0' J J J J (st0 (Yh J J J))<|r0' J J J J (st0 (Ym J J))<|r0g (st0 (Ym J J)) J J J J J J J<|r0g (st0 (Ye (r':= .bool false) (Qd J J J) (congrArg Value.bool (by decide)))) J J J J J J J<|r0' J J J J (st0 (Yh J J J))<|r0' J J J J (st0 (Ym J J))<|r0g (st0 (Ym J J)) J J J J J J J ?_
 refine r0g (st0 (Ye (r':= .bool false) (Qd J J J) (congrArg Value.bool (by decide)))) J J J J J J J<|r0' J J J J (st0 (Yh J J J))<|Og<|Za<|Yf J<|Zk<|Za<|Zb<|Zg<|tt (Pt (i:=33) (ivs:=[(0,_),(1,_),(2,_)]) (enc:=Zb4) ([0,-1,1]:List Int) J J J K6 Mi Tryz.ti3 J J J J J J pZ.cells J J hw) J fun v_25 _=>Pq (Po 33 J J pZ)<|tt (Zh (n:=34) (Zfx _ [0,-1,1] [0,-1,1] (by decide +kernel) (by decide) (by decide +kernel)) J J J K1 Zf4 (Zd 33 J J J Ze) J hw) J fun v_26 _=>tt (Zh (n:=34) (k_fc1 _) J J J K1 cF33 (Zd 34 J J J Ze) J hw) J fun k1 hk1=>mv J J<|dt (Yg J J J) J<|dt (Yg J J J) J<|tt (Zo (i:=35) J J J Tryz.zeroValue31 J J hw) J fun bx_6 _=>tt (Zm (i:=35) J J J J J (by decide) J Yk J J ⟨Zc J,Zc J,trivial⟩ J hw trivial) J fun _ _=>as_ J J<|Zf<|Za<|Zb<|Zg<|tt (Pt (i:=36) (ivs:=[(0,_)]) (enc:=Zb4) ([7]:List Int) J J J K2 Mi Tryz.ti3 J J J J J J pZ.cells J J hw) J fun v_27 _=>Pq (Po 36 J J pZ)<|tt (Zh (n:=37) (Zfx _ [7] [7] (by decide +kernel) (by decide) (by decide +kernel)) J J J K1 Zf4 (Zd 36 J J J Ze) J hw) J (fun v_28 _=>?_)
 refine tt (Zh (n:=37) (k_fc2 _) J J J K1 cF33 (Zd 37 J J J Ze) J hw) J fun k2 hk2=>mv J J<|dt (Yg J J J) J<|dt (Yg J J J) J<|tt (Zo (i:=38) J J J Tryz.zeroValue31 J J hw) J fun bx_7 _=>tt (Zm (i:=38) J J J J J (by decide) J Yk J J ⟨Zc J,Zc J,trivial⟩ J hw trivial) J fun _ _=>as_ J J<|Zf<|Za<|Zb<|Zg<|tt (Pt (i:=39) (ivs:=[(0,_),(1,_)]) (enc:=Zb4) ([3,-1]:List Int) J J J K4 Mi Tryz.ti3 J J J J J J pZ.cells J J hw) J fun v_29 _=>Pq (Po 39 J J pZ)<|tt (Zh (n:=40) (Zfx _ [3,-1] [3,-1] (by decide +kernel) (by decide) (by decide +kernel)) J J J K1 Zf4 (Zd 39 J J J Ze) J hw) J fun v_30 _=>tt (Zh (n:=40) (k_fc3 _) J J J K1 cF33 (Zd 40 J J J Ze) J hw) J fun k3 hk3=>mv J J<|dt (Yg J J J) J<|dt (Yg J J J) J<|tt (Zo (i:=41) J J J Tryz.zeroValue31 J J hw) J fun bx_8 _=>tt (Zm (i:=41) J J J J J (by decide) J Yk J J ⟨Zc J,Zc J,trivial⟩ J hw trivial) J fun _ _=>as_ J J<|Zf<|Za<|Zb<|Zb<|Qs (fun _=>False) [(0,0),(1,1),(2,0),(3,0),(4,0),(5,0),(6,0),(7,0),(8,0),(9,1),(10,0),(11,0),(12,0),(13,0),(14,0),(15,0),(16,0),(17,0),(18,1),(19,0),(20,0),(21,0),(22,0),(23,0),(24,0)] (by kernel_rfl) ?_ ?_
 ·kernel_rfl
 refine r0' J J J J (st0 (Yc (i:=35) J J J Qo Yk J J))<|r1' J J (Zh (n:=41) (Zjg _ ⟨by decide,by decide⟩) J J J K1 cF47 Ze J hw) fun _ _=>r0' J J J J (st0 (Ye (r':= .bool false) (Zpc J J J eg31 (fun w=>Zv7 w _ _ _ _)) (congrArg Value.bool (by obtain rfl:=k_fl1 _ hk1;simp [Cs]))))<|r0' J J J J (st0 (Ym J J))<|r0g (st0 (Ym J J)) J J J J J J J<|r0g (st0 (Ye (r':= .bool false) (Qd J J J) (congrArg Value.bool (by decide)))) J J J J J J J<|r0' J J J J (st0 (Yh J J J))<|r0' J J J J (st0 (Ym J J))<|r0g (st0 (Yc (i:=38) J J J Qo Yk J J)) J J J J J J J<|r1g' J J J J J (Zh (n:=41) (Zjg _ ⟨by decide,by decide⟩) J J J K1 cF47 Ze J hw) fun _ _=>r0g (st0 (Ye (r':= .bool false) (Zpc J J J eg31 (fun w=>Zv7 w _ _ _ _)) (congrArg Value.bool (by obtain rfl:=k_fl2 _ hk2;simp [Cs])))) J J J J J J J<|r0' J J J J (st0 (Yh J J J))<|r0' J J J J (st0 (Ym J J))<|r0g (st0 (Ym J J)) J J J J J J J<|r0g (st0 (Ye (r':= .bool false) (Qd J J J) (congrArg Value.bool (by decide)))) J J J J J J J<|r0' J J J J (st0 (Yh J J J))<|r0' J J J J (st0 (Ym J J))<|r0g (st0 (Yc (i:=41) J J J Qo Yk J J)) J J J J J J J<|r1g' J J J J J (Zh (n:=41) (Zjg _ ⟨by decide,by decide⟩) J J J K1 cF47 Ze J hw) (fun _ _=>?_)
 refine r0g (st0 (Ye (r':= .bool false) (Zpc J J J eg31 (fun w=>Zv7 w _ _ _ _)) (congrArg Value.bool (by obtain rfl:=k_fl3 _ hk3;simp [Cs])))) J J J J J J J<|r0' J J J J (st0 (Yh J J J))<|r0' J J J J (st0 (Ym J J))<|r0g (st0 (Ym J J)) J J J J J J J<|r0g (st0 (Ye (r':= .bool false) (Qd J J J) (congrArg Value.bool (by decide)))) J J J J J J J<|r0' J J J J (st0 (Yh J J J))<|Og<|Za<|Yf J<|Zk<|Za<|Zb<|Zg<|tt (Pt (i:=42) (ivs:=[(0,_),(1,_)]) (enc:=Zb4) ([-1,1]:List Int) J J J K4 Mi Tryz.ti3 J J J J J J pZ.cells J J hw) J fun v_31 _=>Pq (Po 42 J J pZ)<|tt (Zh (n:=43) (Zfx _ [-1,1] [-1,1] (by decide +kernel) (by decide) (by decide +kernel)) J J J K1 Zf4 (Zd 42 J J J Ze) J hw) J fun v_32 _=>tt (Zh (n:=43) (Mw _ _ ⟨by decide,by decide⟩ ⟨by decide,by decide⟩) J J J K2 Zb7 Ze J hw) J fun _ _=>tt (Zh (n:=43) (Mw _ _ ⟨by decide,by decide⟩ ⟨by decide,by decide⟩) J J J K2 Zb7 Ze J hw) J fun _ _=>tt (Zh (n:=43) (k_pv _) J J J K3 cF38 (Zd 43 J J J Ze) J hw) J fun _ _=>mv J J<|dt (Yg J J J) J<|dt (Yg J J J) J<|as_ J J<|Zf<|Za<|Zb<|Zg<|mv J J ?_
 refine dt (Ye (r':= .bool true) (Pi J J J) (congrArg Value.bool (by decide))) J<|mv J J<|gtt (Pt (i:=44) (ivs:=[(0,_),(1,_),(2,_)]) (enc:=Zb4) ([1,-2,1]:List Int) J J J K6 Mi Tryz.ti3 J J J J J J pZ.cells J J hw) J J J J fun v_33 _=>Pq (Po 44 J J pZ)<|gtt (Zh (n:=45) (Zfx _ [1,-2,1] [1,-2,1] (by decide +kernel) (by decide) (by decide +kernel)) J J J K1 Zf4 (Zd 44 J J J Ze) J hw) J J J J fun v_34 _=>gtt (Zh (n:=45) (Mw _ _ ⟨by decide,by decide⟩ ⟨by decide,by decide⟩) J J J K2 Zb7 Ze J hw) J J J J fun _ _=>gtt (Zh (n:=45) (Mw _ _ ⟨by decide,by decide⟩ ⟨by decide,by decide⟩) J J J K2 Zb7 Ze J hw) J J J J fun _ _=>gtt (Zh (n:=46) (Zac _ _ _ ⟨by decide,by decide⟩ ⟨by decide,by decide⟩) J J J K3 cF48 Ze J hw) J J J J fun v_35 _=>gtt (Zh (n:=46) (k_ck1 _ _) J J J K4 cF41 (Zd 45 J J J (Zd 46 J J J Ze)) J hw) J J J J fun _ _=>gdt (Ye (r':= .bool true) (Pi J J J) (congrArg Value.bool (by decide))) J J J J<|dt (Xh J J J) J<|mv J J<|gtt (Pt (i:=47) (ivs:=[(0,_),(1,_)]) (enc:=Zb4) ([1,1]:List Int) J J J K4 Mi Tryz.ti3 J J J J J J pZ.cells J J hw) J J J J fun v_36 _=>Pq (Po 47 J J pZ) ?_
 refine gtt (Zh (n:=48) (Zfx _ [1,1] [1,1] (by decide +kernel) (by decide) (by decide +kernel)) J J J K1 Zf4 (Zd 47 J J J Ze) J hw) J J J J fun v_37 _=>gtt (Zh (n:=48) (Mw _ _ ⟨by decide,by decide⟩ ⟨by decide,by decide⟩) J J J K2 Zb7 Ze J hw) J J J J fun _ _=>gtt (Zh (n:=48) (Mw _ _ ⟨by decide,by decide⟩ ⟨by decide,by decide⟩) J J J K2 Zb7 Ze J hw) J J J J fun _ _=>gtt (Zh (n:=49) (Zac _ _ _ ⟨by decide,by decide⟩ ⟨by decide,by decide⟩) J J J K3 cF48 Ze J hw) J J J J fun v_38 _=>gtt (Zh (n:=49) (k_ck2 _ _) J J J K4 cF41 (Zd 48 J J J (Zd 49 J J J Ze)) J hw) J J J J fun _ _=>gdt (Ye (r':= .bool true) (Pi J J J) (congrArg Value.bool (by decide))) J J J J<|dt (Xh J J J) J<|mv J J<|gtt (Pt (i:=50) (ivs:=[(0,_),(1,_),(2,_)]) (enc:=Zb4) ([1,-2,1]:List Int) J J J K6 Mi Tryz.ti3 J J J J J J pZ.cells J J hw) J J J J fun v_39 _=>Pq (Po 50 J J pZ)<|gtt (Zh (n:=51) (Zfx _ [1,-2,1] [1,-2,1] (by decide +kernel) (by decide) (by decide +kernel)) J J J K1 Zf4 (Zd 50 J J J Ze) J hw) J J J J (fun v_40 _=>?_)
 refine gtt (Zh (n:=51) (Mw _ _ ⟨by decide,by decide⟩ ⟨by decide,by decide⟩) J J J K2 Zb7 Ze J hw) J J J J fun _ _=>gtt (Zh (n:=51) (Mw _ _ ⟨by decide,by decide⟩ ⟨by decide,by decide⟩) J J J K2 Zb7 Ze J hw) J J J J fun _ _=>gtt (Zh (n:=52) (Zac _ _ _ ⟨by decide,by decide⟩ ⟨by decide,by decide⟩) J J J K3 cF48 Ze J hw) J J J J fun v_41 _=>gtt (Zh (n:=52) (k_ck3 _ _) J J J K4 cF41 (Zd 51 J J J (Zd 52 J J J Ze)) J hw) J J J J fun _ _=>gdt (Ye (r':= .bool true) (Pi J J J) (congrArg Value.bool (by decide))) J J J J<|dt (Xh J J J) J<|mv J J<|gtt (Pt (i:=53) (ivs:=[(0,_),(1,_)]) (enc:=Zb4) ([1,1]:List Int) J J J K4 Mi Tryz.ti3 J J J J J J pZ.cells J J hw) J J J J fun v_42 _=>Pq (Po 53 J J pZ)<|gtt (Zh (n:=54) (Zfx _ [1,1] [1,1] (by decide +kernel) (by decide) (by decide +kernel)) J J J K1 Zf4 (Zd 53 J J J Ze) J hw) J J J J fun v_43 _=>gtt (Zh (n:=54) (Mw _ _ ⟨by decide,by decide⟩ ⟨by decide,by decide⟩) J J J K2 Zb7 Ze J hw) J J J J fun _ _=>gtt (Zh (n:=54) (Mw _ _ ⟨by decide,by decide⟩ ⟨by decide,by decide⟩) J J J K2 Zb7 Ze J hw) J J J J (fun _ _=>?_)
 exact gtt (Zh (n:=55) (Zac _ _ _ ⟨by decide,by decide⟩ ⟨by decide,by decide⟩) J J J K3 cF48 Ze J hw) J J J J fun v_44 _=>gtt (Zh (n:=55) (k_ck4 _ _) J J J K4 cF41 (Zd 54 J J J (Zd 55 J J J Ze)) J hw) J J J J fun _ _=>gdt (Ye (r':= .bool true) (Pi J J J) (congrArg Value.bool (by decide))) J J J J<|dt (Xh J J J) J<|as_ J J<|Zf<|Za<|Zu<|Zv (.inl J) hsc () _ (fun a w hs=>Qj hs Tryz.results11 J) J trivial J Zj
end Go.Sky
namespace Go.Sky
theorem ch13r{xs:List Int}(hx:Tr xs)(h0:xs≠[])(hs:Sz 260 xs)(hl:xs.length≤8):Zeu 13 xs∧Sz 390 (sqf 13 xs)∧(sqf 13 xs).length≤8:=by
 obtain⟨h1,h2,h3,h4⟩:=chF 13 hx h0 hs (by omega) (by omega) (by omega)
 exact⟨h1,h2,by omega⟩
theorem Zp9{xs:List Int}(hv:Vp xs)(h0:xs≠[])(hs:Sz 260 xs)(hl:xs.length≤8) :
  Vp (nrm xs)∧Vp (Pj (nrm xs))∧eok 13 (nrm xs) (Pj (nrm xs))∧Kd (Yx (eu 13 (nrm xs) (Pj (nrm xs))))=Ko 13 (nrm xs) (Pj (nrm xs))∧
  Vp (Ko 13 (nrm xs) (Pj (nrm xs)))∧Ko 13 (nrm xs) (Pj (nrm xs))≠[]∧pdv (nrm xs) (Ko 13 (nrm xs) (Pj (nrm xs)))∧
  msz (nrm xs)≤260∧msz (Ko 13 (nrm xs) (Pj (nrm xs)))≤390∧(nrm xs).length≤8∧Vp (sqf 13 xs)∧sqf 13 xs≠[]∧nrm (sqf 13 xs)=sqf 13 xs∧(Ko 13 (nrm xs) (Pj (nrm xs))).length≤8:=by
 have hn:=Zmo hs
 have hln:=Pn hv.tr
 have ht:Tr (nrm xs):=Nb (Xg hv.tr)
 have hd:=Eh hn (by omega)
 have hld:=Nh (nrm xs)
 have htd:Tr (Pj (nrm xs)):=Ma ht
 have m1:=Pz hn
 have m2:=Pz hd
 have l0:=List.length_pos_iff.2 h0
 obtain⟨hC,hq,hql⟩:=ch13r hv.tr h0 hs hl
 have hok:eok 13 (gA (nrm xs) (Pj (nrm xs))) (gB (nrm xs) (Pj (nrm xs))):=hC.1.2.2.1
 have hok2:eok 13 (nrm xs) (Pj (nrm xs)):=
  (Zsy (n:=265) (s:=5) (K:=271) (by omega) ht htd (hn.mono (by omega)) hd (by omega) (by omega) (num13 (by omega) (by omega) (by omega)) (Nat.le_trans (Nat.mul_le_mul (show(nrm xs).length+1≤9 by omega) (show 265+1≤300 by omega)) (by decide)) (by omega)).1
 obtain⟨f1,f2,f3,f4,f5,f6⟩:=Oz (F:=13) hv.tr h0 hok
 have hg:=Za2 (F:=13) ht htd
 have hn0:=Zfs hv.tr h0
 have hK:kkR 24 13*(24+1)^13<2^130:=by decide +kernel
 have hgs:=Ip (L:=13) (R:=24) hg f2 hn hn0 ht (by omega) (by decide) hK (by rw [Fr];exact f4)
 have hvn:=Zpw hv
 have hvd:Vp (Pj (nrm xs)):=⟨hd.mono (by omega),htd,by omega⟩
 have hlq:=Px f2 hg f3 f5
 rw [←f4]at hlq
 have lq:=List.length_pos_iff.2 f3
 exact⟨hvn,hvd,hok2,gcd_two ht htd hok2 hok,Zpv hvn hvd hok,f5,f1,m1,Pz hgs,by omega,Zmf hv h0 hC.1,f3,f6,by omega⟩
structure RI (xs q:List Int):Prop where
 v:Vp q
 ne:q≠[]
 s:Sz 200 q
 l:q.length≤7
 d:Dp xs (nrm q)
theorem RI.start{xs:List Int}(h:Cvd xs)(h0:xs≠[]):RI xs xs:=⟨h.v,h0,h.s.mono (by omega),h.l,Dp.start h.v.tr h0⟩
theorem sz_pm1{q:List Int}{n:Nat}{e:Int}(he:e=1∨e=-1)(h:Sz n q):Sz n (Xk q e):=fun i=>by
 rw [Xp]
 have:=h i
 rcases he with rfl | rfl
 ·rw [Int.mul_one];exact this
 ·rw [Int.mul_neg_one,Int.natAbs_neg];exact this
theorem RI.step{xs q:List Int}(h:Cvd xs)(h0:xs≠[])(hI:RI xs q) :
  Tr (sqf 13 q)∧msz (sqf 13 q)≤330∧(sqf 13 q).length≤7∧0<(sqf 13 q).length∧Qa q≠0∧Sz 200 (Xk (Yx q) 1)∧Tr (Xk (Yx q) 1)∧(Xk (Yx q) 1).length=q.length∧pdv (Xk (Yx q) 1) (sqf 13 q)∧
  Vp (Ml 13 q)∧Ml 13 q≠[]∧Sz 200 (Ml 13 q)∧(Ml 13 q).length≤7∧Qa (Ml 13 q)≠0∧Yx (Ml 13 q)=Ml 13 q∧
  Tr (sqf 13 (Ml 13 q))∧msz (sqf 13 (Ml 13 q))≤330∧(sqf 13 (Ml 13 q)).length≤7∧0<(sqf 13 (Ml 13 q)).length∧pdv (sqf 13 q) (sqf 13 (Ml 13 q))∧Sz 500 (Ki (sqf 13 q) (sqf 13 (Ml 13 q)))∧(Ki (sqf 13 q) (sqf 13 (Ml 13 q))).length≤7∧
  pdv (Ml 13 q) (sqf 13 (Ml 13 q))∧RI xs (Bk 13 q)∧((sqf 13 q).length≠1→(Bk 13 q).length<q.length):=by
 have hl:=h.l
 have hD:=hI.d
 have hok0:=(hD.ok h.v.tr h0 h.s (by omega) (by omega) (show xs.length≤13+1 by omega)).2
 have hok:Zag 13 q:=by unfold Zag at hok0 ⊢;rwa [hD.2.2.1]at hok0
 have hg:=hD.next hok0
 have hgn:gcf 13 (nrm q)=gcf 13 q:=Zhu hD.2.2.1
 have hsn:sqf 13 (nrm q)=sqf 13 q:=Gu hD.2.2.1
 rw [hgn]at hg
 have hok2:=(hg.ok h.v.tr h0 h.s (by omega) (by omega) (show xs.length≤13+1 by omega)).2
 have hg2:=hg.next hok2
 obtain⟨⟨e,he,r1,r2,r3,r4,r5,r6⟩,r7,r8,r9,r10,r11,r12⟩:=Zfh hI.v.tr hI.ne hok hok2
 obtain⟨-,-,-,-,-,-,-,-,-,-,-,a12,a13,a14,-,a16,-,-⟩:=Zbb h h0 hD
 obtain⟨-,-,-,-,-,-,-,-,-,-,-,b12,b13,b14,-,b16,b17,-⟩:=Zbb h h0 hg
 rw [hsn]at a12 a13 a14 a16
 have hsl:sqf 13 (Ml 13 q)=sqf 13 (gcf 13 q):=Gu (by rw [r7,hg.2.2.1])
 obtain⟨g1,g2⟩:=Zee h h0 hg
 obtain⟨g3,g4⟩:=Zee h h0 hg2
 have e0:e≠0:=by rcases he with rfl | rfl<;>decide
 have hLs:Sz 200 (Ml 13 q):=by rw [r3];exact sz_pm1 he g1
 have hLl:(Ml 13 q).length≤7:=by rw [r3];have:=Fo (gcf 13 q) e;omega
 have hLv:Vp (Ml 13 q):=⟨hLs.mono (by omega),r9,by omega⟩
 have hRs:Sz 200 (Bk 13 q):=by rw [r6];exact sz_pm1 he g3
 have hRl:(Bk 13 q).length≤(gcf 13 (gcf 13 q)).length:=by rw [r6];exact Fo _ e
 obtain⟨o1,o2,o3,o4⟩:=Hx hI.v.tr hI.ne hok hok2
 have hK:kkR 24 13*(24+1)^13<2^130:=by decide +kernel
 have hos:=Ip (L:=13) (R:=24) o3 b12.tr a13 a16 a12.tr (by omega) (by decide) hK o2
 have hlq:=Px o3 b12.tr o4 b16
 rw [←o2]at hlq
 have lb:=List.length_pos_iff.2 b16
 have la:=List.length_pos_iff.2 a16
 have lo:=List.length_pos_iff.2 o4
 have hm:Xk (Yx q) 1=Yx q:=by
  refine(Qu _ _).ext (Xg hI.v.tr) fun i=>?_
  rw [Xp,Int.mul_one]
 have hx:=Pk hI.v.tr hI.ne hok
 have hx2:=Pk hg.1 hg.2.1 hok2
 rw [hsl]
 refine⟨a12.tr,Pz a13,by omega,la,hI.v.ne hI.ne,by rw [hm];exact Iv hI.s,Qu _ _,by rw [hm,Yi],by rw [r1];exact r2,hLv,r10,hLs,hLl,hLv.ne r10,r4,b12.tr,Pz b13,b14,lb,o1,hos.mono (by omega),?_,r5,⟨⟨hRs.mono (by omega),r11,by omega⟩,r12,hRs,by omega,by rw [r8];exact hg2⟩,fun hne=>?_⟩
 ·show(Cy 13 q).length≤7;omega
 ·have h1:=hx.2.2.2.2
  have h2:=hx2.2.2.2.2
  omega
theorem rodd_1{F f:Nat}{p:List Int}(h:(sqf F p).length=1):Zix F f p=sqf F p:=by
 cases f with
 | zero=>rfl
 | succ f=>unfold Zix;rw [if_pos h]
theorem rodd_s{F f:Nat}{p:List Int}(h:(sqf F p).length≠1):Zix F (f+1) p=Nv (Ki (sqf F p) (sqf F (Ml F p))) (Zix F f (Bk F p)):=by
 conv=>lhs;unfold Zix
 rw [if_neg h]
theorem Zvx{F n:Nat}{p:List Int}(hp:Tr p)(h0:p≠[])(hs:Sz n p)(hn:n≤130)(hl:p.length≤13)(hF:p.length≤F+1):∀(f:Nat) (q:List Int),Dp p q→q.length≤f→∃a:List Int,Tr a∧q=Nv a (Zcc F f q):=by
 intro f
 induction f with
 | zero=>intro q hq hlq;have:=List.length_pos_iff.2 hq.2.1;omega
 | succ f ih=>
  intro q hq hlq
  have hok:=(hq.ok hp h0 hs hn hl hF).2
  have hg:=hq.next hok
  have hok2:=(hg.ok hp h0 hs hn hl hF).2
  have hg2:=hg.next hok2
  unfold Zcc
  by_cases c1:(sqf F q).length=1
  ·rw [if_pos c1]
   obtain⟨s1,s2,s3⟩:=Zdl hq.1 hq.2.1 hok c1
   refine⟨[1],.inr (show cf [1] 0≠0 by decide),hq.1.ext (Pg _ _) fun i=>Mb (fun x=>?_) i⟩
   rw [Yw,s1,nrm1 hq.1 hq.2.2.1 s2,Oe];push_cast;grind
  ·rw [if_neg c1]
   have lq:2≤q.length:=by
    obtain⟨f1,f2,f3,f4,f5,f6⟩:=Oz (F:=F) hq.1 hq.2.1 hok
    obtain⟨a1,a2,a3,a4,a5⟩:=Pk hq.1 hq.2.1 hok
    have l1:=List.length_pos_iff.2 f3
    have l2:=List.length_pos_iff.2 a2
    omega
   have lt1:=Zjk hq.1 hq.2.1 hok lq
   obtain⟨a1,a2,a3,a4,a5⟩:=Pk hq.1 hq.2.1 hok
   obtain⟨b1,b2,b3,b4,b5⟩:=Pk hg.1 hg.2.1 hok2
   obtain⟨-,t2,t3,-,-,-⟩:=Oz (F:=F) hg.1 hg.2.1 hok2
   have lb:=List.length_pos_iff.2 t3
   obtain⟨A,hA,hB⟩:=ih _ hg2 (by omega)
   obtain⟨-,o2,o3,o4⟩:=Hx hq.1 hq.2.1 hok hok2
   rw [hq.2.2.1]at a4
   rw [a3]at b4
   refine⟨Nv (Nv (sqf F (gcf F q)) (sqf F (gcf F q))) A,Pg _ _,hq.1.ext (Pg _ _) fun i=>Mb (fun x=>?_) i⟩
   have e1:rev q x=rev (sqf F q) x*rev (gcf F q) x:=by rw [←Yw,←a4]
   have e2:rev (sqf F q) x=rev (Cy F q) x*rev (sqf F (gcf F q)) x:=by rw [←Yw,←o2]
   have e3:rev (gcf F q) x=rev (sqf F (gcf F q)) x*rev (gcf F (gcf F q)) x:=by rw [←Yw,←b4]
   have e4:rev (gcf F (gcf F q)) x=rev A x*rev (Zcc F f (gcf F (gcf F q))) x:=by rw [←Yw,←hB]
   rw [Yw,Yw,Yw,Yw,e1,e2,e3,e4]
   show _=_*(rev (Cy F q) x*_)
   generalize rev (sqf F (gcf F q)) x=S
   grind
theorem RI.size{xs q:List Int}(h:Cvd xs)(h0:xs≠[])(hI:RI xs q){f:Nat}(hf:q.length≤f):Tr (Zix 13 f q)∧Sz 400 (Zix 13 f q)∧(Zix 13 f q).length≤7:=by
 have hl:=h.l
 have hD:=hI.d
 have e:Zix 13 f q=Zcc 13 f (nrm q):=by
  rw [Zqy h.v.tr h0 h.s (by omega) (by omega) (by omega) f q hI.v.tr hI.ne hD]
  exact Zhh hD.2.2.1.symm f
 have hlq:=Pn hI.v.tr
 have hll:=hI.l
 obtain⟨A,hA,hB⟩:=Zvx h.v.tr h0 h.s (by omega) (by omega) (show xs.length≤13+1 by omega) f (nrm q) hD (by omega)
 obtain⟨d1,d2⟩:=Zee h h0 hD
 have hok0:=(hD.ok h.v.tr h0 h.s (by omega) (by omega) (show xs.length≤13+1 by omega)).2
 have ht:=Zhg (F:=13) (p:=xs) (f:=f) hD.1 hD.2.1 hok0
 rw [e]
 have hK:kkR 24 13*(24+1)^13<2^130:=by decide +kernel
 have p0:Zcc 13 f (nrm q)≠[]:=fun e2=>hD.2.1 (by rw [hB,e2,Zbe])
 have a0:A≠[]:=fun e2=>hD.2.1 (by rw [hB,e2,Ik])
 have hl2:=Px hA ht a0 p0
 rw [←hB]at hl2
 have:=List.length_pos_iff.2 a0
 exact⟨ht,(Ip (L:=13) (R:=24) ht hA d1 hD.2.1 hD.1 (by omega) (by decide) hK (by rw [Fr];exact hB)).mono (by omega),by omega⟩
theorem Zqx{xs:List Int}(h:Cvd xs)(h0:xs≠[]):Zix 13 xs.length xs=Gx xs:=by
 have hl:=h.l
 exact(Zv4 h.v.tr h0 h.s (by omega) (by omega) (show xs.length≤13+1 by omega)).symm
end Go.Sky

