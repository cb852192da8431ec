/- Rules, arithmetic and contracts: part 15. No conditions but those that each theorem names. -/
import Derived.Test.YtljmhpopdmadkaaGreatLw13
set_option linter.all false
set_option maxHeartbeats 4000000
namespace Go.Sky
open Go.Proofs
set_option synthInstance.maxHeartbeats 0
set_option synthInstance.maxSize 100000
set_option maxRecDepth 20000
set_option maxHeartbeats 4000000
set_option linter.unusedSimpArgs false
theorem Zf9(a b k:Int)(ha:-4194304≤a∧a≤4194304)(hb:-4194304≤b∧b≤4194304):Cal Tryz.prog 70 #[.int .i64 a,.int .i64 b,.int .i64 k] [] true (G:=SL) (fun r=>True) (fun r=>Qo r) (fun r=>[Ym 1 Yl (Qo r) (Km a b k)]):=by
 refine Zd Tryz.func70 Tryz.ntmps70 fun w0 sc hw hsc=>?_
 refine go 19 ⟨O,?_⟩
 refine Yu (d:=13) rfl (fun s36=>?_) (fun s36=>?_)
 ·refine go 9 ?_
  refine tt (Qd (i:=1) (ivs:=[(0,_)]) (enc:=Yl) ([a]:List Int) rfl rfl ⟨rfl,rfl,trivial⟩ Tryz.underlying22 Tryz.ti3 rfl rfl rfl rfl rfl pZ.cells rfl rfl hw.h) rfl (fun v _=>?_)
  refine go 5 ?_
  refine Yn (Pf 1 rfl rfl pZ) ?_
  refine Zyl (Mp 1 rfl Zo) (fun sl hsl=>?_)
  subst hsl
  exact Xj hsc sl Tryz.results70 rfl trivial (Mm 1 Za (congrArg (Ym 1 Yl (Qo sl)) (tmL_0 (a:=a) (b:=b) (k:=k) O).symm))
 ·refine go 5 ?_
  refine Zc rfl (fun h36=>?_) (fun h36=>?_)
  ·refine go 3 ?_
   refine tt (Qd (i:=2) (ivs:=[(0,_)]) (enc:=Yl) ([a]:List Int) rfl rfl ⟨rfl,rfl,trivial⟩ Tryz.underlying22 Tryz.ti3 rfl rfl rfl rfl rfl pZ.cells rfl rfl hw.h) rfl (fun v_2 _=>?_)
   refine go 5 ?_
   refine Yn (Pf 2 rfl rfl pZ) ?_
   refine Zyl (Mp 2 rfl Zo) (fun sl hsl=>?_)
   subst hsl
   exact Xj hsc sl Tryz.results70 rfl trivial (Mm 2 Za (congrArg (Ym 1 Yl (Qo sl)) (tmL_0 (a:=a) (b:=b) (k:=k) O).symm))
  ·refine go 9 ?_
   refine Zc rfl (fun h39=>?_) (fun h39=>?_)
   ·refine go 4 ?_
    refine tt (Qd (i:=3) (ivs:=[(0,_),(1,_)]) (enc:=Yl) ([a,b-a]:List Int) rfl rfl ⟨rfl,rfl,rfl,rfl,trivial⟩ Tryz.underlying22 Tryz.ti3 rfl rfl rfl rfl rfl pZ.cells rfl rfl hw.h) rfl (fun v_3 _=>?_)
    refine go 5 ?_
    refine Yn (Pf 3 rfl rfl pZ) ?_
    refine Zyl (Mp 3 rfl Zo) (fun sl hsl=>?_)
    subst hsl
    exact Xj hsc sl Tryz.results70 rfl trivial (Mm 3 Za (congrArg (Ym 1 Yl (Qo sl)) (tmL_1 (a:=a) (b:=b) (k:=k) O O).symm))
   ·refine go 11 ⟨O,O,O,?_⟩
    refine tt (Qd (i:=4) (ivs:=[(0,_),(1,_),(2,_),(3,_),(4,_),(5,_)]) (enc:=Yl) ([a,0,0,10*(b-a),-15*(b-a),6*(b-a)]:List Int) rfl rfl ⟨rfl,rfl,rfl,rfl,rfl,rfl,rfl,rfl,rfl,rfl,rfl,rfl,trivial⟩ Tryz.underlying22 Tryz.ti3 rfl rfl rfl rfl rfl pZ.cells rfl rfl hw.h) rfl (fun v_4 _=>?_)
    refine go 4 ?_
    refine Yn (Pf 4 rfl rfl pZ) ?_
    refine Zyl (Mp 4 rfl Zo) (fun sl hsl=>?_)
    subst hsl
    exact Xj hsc sl Tryz.results70 rfl trivial (Mm 4 Za (congrArg (Ym 1 Yl (Qo sl)) (tmL_2 (a:=a) (b:=b) (k:=k) O O).symm))
theorem Zv7(ax ay az bx by_ bz fr to k:Int)(hax:-4194304≤ax∧ax≤4194304)(hay:-4194304≤ay∧ay≤4194304)(haz:-4194304≤az∧az≤4194304)(hbx:-4194304≤bx∧bx≤4194304)(hby_:-4194304≤by_∧by_≤4194304)(hbz:-4194304≤bz∧bz≤4194304):Cal Tryz.prog 35 #[.agg #[.int .i64 ax,.int .i64 ay,.int .i64 az],.agg #[.int .i64 bx,.int .i64 by_,.int .i64 bz],.int .i64 fr,.int .i64 to,.int .i64 k] [] true (G:=SL×SL×SL) (fun r=>True) (fun r=> .agg #[.int .i64 fr,.int .i64 to,.int .i64 1,Qo r.1,Qo r.2.1,Qo r.2.2]) (fun r=>[Ym 1 Yl (Qo r.1) (Km ax bx k),Ym 1 Yl (Qo r.2.1) (Km ay by_ k),Ym 1 Yl (Qo r.2.2) (Km az bz k)]):=by
 refine Zd Tryz.func35 Tryz.ntmps35 fun w0 sc hw hsc=>?_
 refine go 2 ?_
 refine Yd (Yg 1) fun bq _=>?_
 refine Yd (Yg 2) fun bq_2 _=>?_
 refine Yd (Zs 3) fun bq_3 _=>?_
 refine go 3 ?_
 refine Xw (fun _=>False) [(0,0),(1,0),(2,0),(3,0),(4,0),(5,0),(6,0),(8,0),(9,0),(10,0),(11,0),(12,0),(14,0),(15,0),(16,0),(17,0),(18,0),(7,1),(13,1),(19,1),(20,0),(21,3)] ?_
 refine go 17 ?_
 refine Yx (Zh 4 [] (Zf9 ax bx k hax hbx)) fun sl _=>?_
 refine Yx (Zh 5 [] (Zf9 ay by_ k hay hby_)) fun sl_2 _=>?_
 refine Yx (Zh 6 [] (Zf9 az bz k haz hbz)) fun sl_3 _=>?_
 refine Qe rfl rfl (Qa (Xl (ivs:=[(0,_),(1,_),(2,_),(3,_),(4,_),(5,_)]) rfl ⟨rfl,rfl,rfl,rfl,rfl,rfl,rfl,rfl,rfl,rfl,rfl,rfl,trivial⟩ (fun a w hs=>Zu3 ((Zn rfl) a w hs) ((Zn rfl) a w hs) ((Zn rfl) a w hs) ((Pt (i:=4) rfl Zo) a w hs) ((Pt (i:=5) rfl Zo) a w hs) ((Pt (i:=6) rfl Zo) a w hs)))) ?_
 refine go 4 ?_
 exact Xj hsc (sl,sl_2,sl_3) Tryz.results35 rfl trivial (Mm 4 (Mm 5 (Mm 6 Za)))
theorem eg52:Tryz.prog.eqGuardType Tryz.prog.depth 52=false:=O6
theorem eg26:Tryz.prog.eqGuardType Tryz.prog.depth 26=false:=O6
theorem in52(d:Nat)(w:World)(a b c e:Int):(Op.equalIn (d+2) 52 (.agg #[.int .i64 a,.int .i64 b]) (.agg #[.int .i64 c,.int .i64 e])).run Tryz.prog w= .ok (decide (a=c∧b=e)) w:=by
 have sh:Tryz.prog.stoodInHeld 52=false:=O6
 have hu:Tryz.prog.underlying 52=some (.struct (Tryz.prog.fieldsOf 52)):=by unfold Program.fieldsOf;rw [Tryz.underlying52]
 rw [run_equalIn_agg w (d+1) 52 _ _ hu sh]
 unfold Program.fieldsOf
 rw [Tryz.underlying52]
 simp [Op.eqFields,part,Tryz.isAgg3,Tryz.isAgg50,run_equalIn_int _ _ _ _ _ _ _ Tryz.underlying3,run_equalIn_int _ _ _ _ _ _ _ Tryz.underlying50]
 by_cases h1:a=c<;>by_cases h2:b=e<;>simp_all
theorem in26(d:Nat)(w:World)(a b c e:Int):(Op.equalIn (d+2) 26 (.agg #[.int .i64 a,.int .i64 b]) (.agg #[.int .i64 c,.int .i64 e])).run Tryz.prog w= .ok (decide (a=c∧b=e)) w:=by
 have sh:Tryz.prog.stoodInHeld 26=false:=O6
 have hu:Tryz.prog.underlying 26=some (.struct (Tryz.prog.fieldsOf 26)):=by unfold Program.fieldsOf;rw [Tryz.underlying26]
 rw [run_equalIn_agg w (d+1) 26 _ _ hu sh]
 unfold Program.fieldsOf
 rw [Tryz.underlying26]
 simp [Op.eqFields,part,Tryz.isAgg3,run_equalIn_int _ _ _ _ _ _ _ Tryz.underlying3]
 by_cases h1:a=c<;>by_cases h2:b=e<;>simp_all
theorem neB52(w:World)(a b c e:Int):(binOp .neq 52 (.agg #[.int .i64 a,.int .i64 b]) (.agg #[.int .i64 c,.int .i64 e])).run Tryz.prog w= .ok (.bool (!decide (a=c∧b=e))) w:=by
 rw [run_neq_struct,in52];rfl
theorem neB26(w:World)(a b c e:Int):(binOp .neq 26 (.agg #[.int .i64 a,.int .i64 b]) (.agg #[.int .i64 c,.int .i64 e])).run Tryz.prog w= .ok (.bool (!decide (a=c∧b=e))) w:=by
 rw [run_neq_struct,in26];rfl
theorem li_brk(v:Value)(ps:List Zz)(b1 b2:Nat)(sp ac:Int)(hg:∀g∈ps,SgG g)(hs0:0≤sp)(hs1:sp≤10000)(ha0:0≤ac)(ha1:ac≤10000):Yki Tryz.prog 96 [.pointer (some ⟨b1,0,none⟩),.pointer (some ⟨b2,0,none⟩)] [Kr b1 29 #[v],Kr b2 26 #[.int .i64 sp,.int .i64 ac],Pq 6 Mj qG v ps] (fiB ps sp ac=none) (G:=Nat×Int) (fun g=>fiB ps sp ac=some g) (fun g=> .agg #[.int .i64 (g.1:Int),.int .i64 g.2]):=by
 refine Yj3 Tryz.func96 rfl Tryz.ntmps96 rfl ⟨rfl,rfl,rfl,trivial⟩ ?_
 intro l J w0 sc hw hY;have hw:=Hw.mk hw
 simp only [Po,Xx]
 refine Nd (Hq (i:=3) rfl Zi) (fun hlen=>?_)
 refine go 8 ?_
 refine lp (G:=Nat) [0,1,2,6,7] [0,1,2,3] (fun i=>[(8,.int .i64 (i:Int))]) (fun i=>[]) (fun i=>(i≤ps.length)∧(∀k,k<i→frB ps sp ac k=0)) (fun i=>ps.length-i) 0 ⟨O1,fun k hk=>absurd hk (Nat.not_lt_zero k)⟩ ⟨rfl,trivial⟩ trivial ?_
 rintro i ⟨hi,hk⟩
 refine go 6 ?_
 refine Zc rfl (fun h140=>?_) (fun h140=>?_)
 ·refine go 5 ?_
  have hgi:=hg _ (Zf (d:=G0) (show i<ps.length by omega))
  refine Ze (Xv (g:=(ps.getD i G0)) (z:=(ps.getD i G0).2.1) 3 51 rfl rfl (Zf) O5) ?_
  refine Ze (Xv (g:=(ps.getD i G0)) (z:=(ps.getD i G0).2.2.1) 3 52 rfl rfl (Zf) O5) ?_
  refine Ze (Xv (g:=(ps.getD i G0)) (z:=(ps.getD i G0).2.2.2) 3 53 rfl rfl (Zf) O5) ?_
  refine go 3 ⟨O2,?_⟩
  refine dt (Pj (ii:=3) G0 rfl rfl rfl Zi pG O2) ?_
  refine Yd (Zs 4) fun bx _=>?_
  refine go 4 ?_
  refine jn (G:=Unit) [0,1,2,4,5,6,7,8] [0,1,2,3,51,52,53,4] (fun _=>[]) (fun _=>[]) (fun _=>¬(0<i∧joG (ps.getD (i-1) G0) (ps.getD i G0)=false)) ?_ ?_
  ·refine go 1 ?_
   rcases Yei ps i with hc1 | ⟨hc1,hc2⟩ | ⟨hc1,hc2⟩
   ·refine Xw (fun _=>False) [(0,0),(1,0),(2,0),(3,2),(4,2),(5,2),(6,2),(7,2),(8,2),(9,2),(10,2),(11,0),(12,0),(13,2),(14,2),(15,2),(16,2),(17,2),(18,0)] ?_
    refine go 2 ?_
    refine Qe rfl rfl (Qa (Zj (r':= .bool false) (Zlh rfl rfl) (congrArg Value.bool (decide_eq_false O)))) ?_
    refine go 20 ?_
    exact Qu () ((fun h=>absurd h.1 O)) trivial trivial
   ·refine Ze (Xv (g:=(ps.getD (i-1) G0)) (z:=(ps.getD (i-1) G0).2.1) 3 54 rfl rfl (Zf) O5) ?_
    refine Ze (Xv (g:=(ps.getD (i-1) G0)) (z:=(ps.getD (i-1) G0).2.2.1) 3 55 rfl rfl (Zf) O5) ?_
    refine Ze (Xv (g:=(ps.getD (i-1) G0)) (z:=(ps.getD (i-1) G0).2.2.2) 3 56 rfl rfl (Zf) O5) ?_
    refine Xw (fun _=>False) [(0,0),(1,0),(2,0),(3,0),(4,0),(5,0),(6,0),(7,0),(8,0),(9,1),(10,0),(11,0),(12,0),(13,2),(14,2),(15,2),(16,2),(17,2),(18,0)] ?_
    refine go 2 ?_
    refine Qe rfl rfl (Qa (Zj (r':= .bool true) (Zlh rfl rfl) (congrArg Value.bool (decide_eq_true O)))) ?_
    refine go 3 ⟨O,?_⟩
    refine Bu (Qa (Yf (ii:=3) (i:=(i-1)) rfl rfl rfl rfl Zi Tryz.underlying29 Tryz.sizeOf24)) rfl rfl rfl rfl rfl ?_
    refine Bu (Qa (Pj (ii:=3) G0 rfl rfl rfl Zi pG O2)) rfl rfl rfl rfl rfl ?_
    refine go 1 ?_
    refine Zhl rfl rfl rfl rfl rfl (Pk (n:=4) (Ze8 _ _ _ _ _ _ _ _ _ _ _ _ _ _ _ _ _ _ (hg _ (Zf)) hgi) rfl rfl rfl ⟨rfl,rfl,trivial⟩ Tryz.call37 (Zk 54 rfl rfl rfl (Zk 55 rfl rfl rfl (Zk 56 rfl rfl rfl (Zk 51 rfl rfl rfl (Zk 52 rfl rfl rfl (Zk 53 rfl rfl rfl Zw)))))) rfl hw.h) (fun _ _=>?_)
    refine Bu (Qa (Zj (r':= .bool false) (Yp rfl rfl) (congrArg (fun b=>Value.bool (!b)) hc2))) rfl rfl rfl rfl rfl ?_
    refine go 12 ?_
    exact Qu () ((fun h=>by rw [hc2]at h;cases h.2)) trivial trivial
   ·refine Ze (Xv (g:=(ps.getD (i-1) G0)) (z:=(ps.getD (i-1) G0).2.1) 3 54 rfl rfl (Zf) O5) ?_
    refine Ze (Xv (g:=(ps.getD (i-1) G0)) (z:=(ps.getD (i-1) G0).2.2.1) 3 55 rfl rfl (Zf) O5) ?_
    refine Ze (Xv (g:=(ps.getD (i-1) G0)) (z:=(ps.getD (i-1) G0).2.2.2) 3 56 rfl rfl (Zf) O5) ?_
    refine Zo0 [(0,0),(1,0),(2,0),(3,0),(4,0),(5,0),(6,0),(7,0),(8,0),(9,1),(10,0),(11,0),(12,0),(13,0),(14,0),(15,0)] [16,17,18] 2 ?_
    refine go 2 ?_
    refine Qe rfl rfl (Qa (Zj (r':= .bool true) (Zlh rfl rfl) (congrArg Value.bool (decide_eq_true O)))) ?_
    refine go 3 ⟨O,?_⟩
    refine Bu (Qa (Yf (ii:=3) (i:=(i-1)) rfl rfl rfl rfl Zi Tryz.underlying29 Tryz.sizeOf24)) rfl rfl rfl rfl rfl ?_
    refine Bu (Qa (Pj (ii:=3) G0 rfl rfl rfl Zi pG O2)) rfl rfl rfl rfl rfl ?_
    refine go 1 ?_
    refine Zhl rfl rfl rfl rfl rfl (Pk (n:=4) (Ze8 _ _ _ _ _ _ _ _ _ _ _ _ _ _ _ _ _ _ (hg _ (Zf)) hgi) rfl rfl rfl ⟨rfl,rfl,trivial⟩ Tryz.call37 (Zk 54 rfl rfl rfl (Zk 55 rfl rfl rfl (Zk 56 rfl rfl rfl (Zk 51 rfl rfl rfl (Zk 52 rfl rfl rfl (Zk 53 rfl rfl rfl Zw)))))) rfl hw.h) (fun _ _=>?_)
    refine Bu (Qa (Zj (r':= .bool true) (Yp rfl rfl) (congrArg (fun b=>Value.bool (!b)) hc2))) rfl rfl rfl rfl rfl ?_
    refine go 4 ?_
    refine Zy8 rfl rfl rfl rfl rfl (Qa (Xl (ivs:=[(0,_),(1,_)]) rfl ⟨rfl,rfl,rfl,rfl,trivial⟩ (fun a w hs=>Zu2 ((Zn rfl) a w hs) ((Zn rfl) a w hs)))) ?_
    refine r_y ?_
    refine Zst (i:=16) (d3:=31) O6 rfl rfl rfl rfl rfl rfl rfl rfl rfl rfl (fun a w hs=>hY (i,1) (Zkf O hk (frB_1 hc1 hc2) O3) w (Pz (hs.hold 0 _ rfl))) ?_ (fun a w ht hd hJ=>wp_cond_true ht (wp_ret (Zds hd Tryz.results96 hJ)))
    refine Zy8 rfl rfl rfl rfl rfl (Qa (Yp rfl rfl)) ?_
    refine go 1 ?_
    exact rfl
  ·rintro _ hj
   refine go 2 ?_
   rcases tf (Hm (Lr 1 sp (ps.getD i G0)))with hc3 | hc3
   ·refine Xw (fun _=>False) [(1,0),(2,0),(3,0),(0,1),(4,1),(5,1),(6,0),(7,2),(8,2),(9,2),(10,2),(11,2),(12,0)] ?_
    refine go 3 ?_
    refine Yx (Zh 4 [] (Ze7)) fun _ _=>?_
    refine Yx (Zh 5 [51,52,53] (Zco 1 _ _ _ _ _ _ _ _ _ _ _ _ (.inl rfl) hgi hs0 hs1)) fun v _=>?_
    refine Yx (Zh 5 [5] (Zjy _ _ (Cl hgi hs0 hs1 (.inl rfl)).2.2)) fun _ _=>?_
    refine Qe rfl rfl (Qa (Zj (r':= .bool false) (Zlh rfl rfl) (congrArg Value.bool hc3))) ?_
    refine go 12 ?_
    rcases tf (Hm (Lr 2 ac (ps.getD i G0)))with hc4 | hc4
    ·refine Xw (fun _=>False) [(1,0),(2,0),(3,0),(0,1),(4,1),(5,1),(6,0),(7,2),(8,2),(9,2),(10,2),(11,2),(12,0)] ?_
     refine go 3 ?_
     refine Yx (Zh 5 [] (Hu)) fun _ _=>?_
     refine Yx (Zh 6 [51,52,53] (Zco 2 _ _ _ _ _ _ _ _ _ _ _ _ (.inr rfl) hgi ha0 ha1)) fun v_2 _=>?_
     refine Yx (Zh 6 [6] (Zjy _ _ (Cl hgi ha0 ha1 (.inr rfl)).2.2)) fun _ _=>?_
     refine Qe rfl rfl (Qa (Zj (r':= .bool false) (Zlh rfl rfl) (congrArg Value.bool hc4))) ?_
     refine go 16 ⟨O,?_⟩
     exact Xb (i+1) ⟨O1,fun k h9=>by rcases Nat.lt_succ_iff_lt_or_eq.1 h9 with h8 | h8;exact hk k h8;subst h8;exact Zw5 hj hc3 hc4⟩ O1 ⟨rfl,trivial⟩ trivial
    ·refine Zo0 [(1,0),(2,0),(3,0),(0,1),(4,1),(5,1),(6,0),(7,0),(8,0),(9,0)] [10,11,12] 2 ?_
     refine go 3 ?_
     refine Yx (Zh 6 [] (Hu)) fun _ _=>?_
     refine Yx (Zh 7 [51,52,53] (Zco 2 _ _ _ _ _ _ _ _ _ _ _ _ (.inr rfl) hgi ha0 ha1)) fun v_3 _=>?_
     refine Yx (Zh 7 [7] (Zjy _ _ (Cl hgi ha0 ha1 (.inr rfl)).2.2)) fun _ _=>?_
     refine Qe rfl rfl (Qa (Zj (r':= .bool true) (Zlh rfl rfl) (congrArg Value.bool hc4))) ?_
     refine go 2 ?_
     refine Zy8 rfl rfl rfl rfl rfl (Qa (Xl (ivs:=[(0,_),(1,_)]) rfl ⟨rfl,rfl,rfl,rfl,trivial⟩ (fun a w hs=>Zu2 ((Zn rfl) a w hs) ((Zn rfl) a w hs)))) ?_
     refine r_y ?_
     refine Zst (i:=10) (d3:=57) O6 rfl rfl rfl rfl rfl rfl rfl rfl rfl rfl (fun a w hs=>hY (i,3) (Zkf O hk (frB_3 hj hc3 hc4) O3) w (Pz (hs.hold 0 _ rfl))) ?_ (fun a w ht hd hJ=>wp_cond_true ht (wp_ret (Zds hd Tryz.results96 hJ)))
     refine Zy8 rfl rfl rfl rfl rfl (Qa (Yp rfl rfl)) ?_
     refine go 1 ?_
     exact rfl
   ·refine Zo0 [(1,0),(2,0),(3,0),(0,1),(4,1),(5,1),(6,0),(7,0),(8,0),(9,0)] [10,11,12] 2 ?_
    refine go 3 ?_
    refine Yx (Zh 7 [] (Ze7)) fun _ _=>?_
    refine Yx (Zh 8 [51,52,53] (Zco 1 _ _ _ _ _ _ _ _ _ _ _ _ (.inl rfl) hgi hs0 hs1)) fun v_4 _=>?_
    refine Yx (Zh 8 [8] (Zjy _ _ (Cl hgi hs0 hs1 (.inl rfl)).2.2)) fun _ _=>?_
    refine Qe rfl rfl (Qa (Zj (r':= .bool true) (Zlh rfl rfl) (congrArg Value.bool hc3))) ?_
    refine go 2 ?_
    refine Zy8 rfl rfl rfl rfl rfl (Qa (Xl (ivs:=[(0,_),(1,_)]) rfl ⟨rfl,rfl,rfl,rfl,trivial⟩ (fun a w hs=>Zu2 ((Zn rfl) a w hs) ((Zn rfl) a w hs)))) ?_
    refine r_y ?_
    refine Zst (i:=10) (d3:=44) O6 rfl rfl rfl rfl rfl rfl rfl rfl rfl rfl (fun a w hs=>hY (i,2) (Zkf O hk (frB_2 hj hc3) O3) w (Pz (hs.hold 0 _ rfl))) ?_ (fun a w ht hd hJ=>wp_cond_true ht (wp_ret (Zds hd Tryz.results96 hJ)))
    refine Zy8 rfl rfl rfl rfl rfl (Qa (Yp rfl rfl)) ?_
    refine go 1 ?_
    exact rfl
 ·obtain rfl:i=ps.length:=O
  refine go 4 ?_
  exact x_endy (.inr rfl) Tryz.results96 rfl (Zrm (Nat.le_refl _) hk)
theorem Zq8(v:Value)(ps:List Zz)(sp ac:Int):Cal Tryz.prog 53 #[v,.agg #[.int .i64 sp,.int .i64 ac]] [Pq 6 Mj qG v ps] true (G:=Nat×Nat) (fun g=>True) (fun g=> .func (.func 96) #[] #[.pointer (some ⟨g.1,0,none⟩),.pointer (some ⟨g.2,0,none⟩)]) (fun g=>[Kr g.1 29 #[v],Kr g.2 26 #[.int .i64 sp,.int .i64 ac]]):=by
 refine Zd Tryz.func53 Tryz.ntmps53 fun w0 sc hw hsc=>?_
 refine Zrq (Mp 1 rfl Zi) (fun sl hsl=>?_)
 subst hsl
 refine go 2 ?_
 refine Yd (Yg 2) fun bx _=>?_
 refine Yd (Yg 3) fun bx_2 _=>?_
 refine go 5 ?_
 refine dt (Yfg (vs:=[]) (us:=[_,_]) rfl trivial ⟨rfl,rfl,trivial⟩) ?_
 refine go 4 ?_
 refine Yn (Zdi 2 rfl rfl) ?_
 refine Yn (Zdi 3 rfl rfl) ?_
 exact Xj hsc (_,_) Tryz.results53 rfl trivial (Mm 2 (Mm 3 Za))
theorem Cj(v:Value)(ps:List Zz)(sp ac:Int)(hp:∀g∈ps,Gin g)(hb:Me ps=true)(hl:(1≤sp∧sp≤10000∧1≤ac∧ac≤10000)):Cal Tryz.prog 24 #[v,.agg #[.int .i64 sp,.int .i64 ac]] [Pq 6 Mj qG v ps] false (G:=Unit) (fun _=>True) (fun _=>firV (fiB ps sp ac)) (fun _=>[]):=by
 refine Zx4 Tryz.func24 rfl Tryz.ntmps24 rfl ⟨rfl,trivial⟩ ?_
 intro w0 sc hw hsc;have hw:=Hw.mk hw
 simp only [Po,Xx]
 refine Nd (Hq (i:=1) rfl Zi) (fun hlen=>?_)
 have hg:=Dd hp hb
 refine go 2 ?_
 refine Yd (Yg 2) fun bx _=>?_
 refine Yd (Zs 3) fun bx_2 _=>?_
 refine Yd (Zs 4) fun bx_3 _=>?_
 refine Yd (Zs 5) fun bx_4 _=>?_
 refine go 6 ?_
 refine cl 5 [1] (Aw _ _ hp) fun _ _=>?_
 refine dt (Zj (r':= .bool false) (Yp rfl rfl) (congrArg (fun b=>Value.bool (!b)) hb)) ?_
 refine go 2 ?_
 refine Fl 5 [] (Yd9 _ _) fun _ _=>?_
 refine Ly (Zj (r':= .bool false) (Yp rfl rfl) (congrArg (fun b=>Value.bool (!b)) (decide_eq_true hl))) rfl rfl ?_
 refine go 11 ?_
 refine cl 6 [1] (Zq8 _ _ _ _) fun⟨b,b_2⟩ _=>?_
 refine go 3 ?_
 have hwa:Hw w0 ALL:=⟨fun _ _=>trivial⟩
 refine e_rf (pre:=[Kr b 29 #[v],Kr b_2 26 #[.int .i64 sp,.int .i64 ac],Pq 6 Mj qG v ps]) (φ0:=fiB ps sp ac=none) (φ1:=fun g=>fiB ps sp ac=some g) (xv:=fun x=> .agg #[.int .i64 (x.1:Int),.int .i64 x.2]) (w0:=w0) (env1:=fun x b=>[(7,.pointer (some ⟨b,0,none⟩)),(4,.pointer (some ⟨bx_2,0,none⟩)),(5,.pointer (some ⟨bx_3,0,none⟩)),(6,.pointer (some ⟨bx_4,0,none⟩))]) (H1:=fun x b=>[(0,Xf w0 (fun _=>False)),(8,box b 52 #[.int .i64 (x.1:Int),.int .i64 x.2]),(3,box bx_2 52 #[.int .i64 0,.int .i64 0]),(4,box bx_3 4 #[.bool false]),(5,box bx_4 31 #[.int .i64 0])]) (Hr:=fun x=>[(0,Xf w0 (fun _=>False)),(3,box bx_2 52 #[.int .i64 (x.1:Int),.int .i64 x.2]),(4,box bx_3 4 #[.bool true]),(5,box bx_4 31 #[.int .i64 0])]) (Hn:=[(0,Xf w0 (fun _=>False)),(3,box bx_2 52 #[.int .i64 0,.int .i64 0]),(4,box bx_3 4 #[.bool false]),(5,box bx_4 31 #[.int .i64 0])]) rfl (by intro args w;first | exact enters_of Tryz.func96 O6 rfl args w | exact Tryz.call96 args w) (li_brk v ps b b_2 sp ac hg O O O O) ?_ rfl rfl rfl rfl rfl (fun x hx l o D od=>?_) (fun x b hx l o D od=>?_) (fun h l o D od=>?_) (fun x b=>?_) (fun x=>⟨rfl,rfl⟩) ⟨rfl,rfl⟩ (fun x=>?_) ?_ (fun x=>rfl) rfl (fun x hx a w hs=>?_) (fun h a w hs=>?_)
 ·intro p hp
  simp only [List.mem_cons,List.not_mem_nil,or_false]at hp
  rcases hp with rfl | rfl | rfl
  ·exact⟨6,rfl⟩
  ·exact⟨7,rfl⟩
  ·exact⟨1,rfl⟩
 ·refine Yd (Zs 8) fun b7 _=>?_
  refine go 1 ?_
  refine go 1 ?_
  exact fun a w hs=>⟨rfl,b7,hs.weaken ⟨rfl,rfl,rfl,rfl,trivial⟩ ⟨rfl,rfl,rfl,rfl,rfl,rfl,rfl,trivial⟩⟩
 ·refine go 4 ?_
  refine go 1 ?_
  exact fun a w hs=>⟨rfl,hs.weaken trivial ⟨rfl,rfl,rfl,rfl,rfl,rfl,trivial⟩⟩
 ·refine dt (Xl (ivs:=[]) rfl trivial (fun a w hs=>b52_)) ?_
  refine go 3 ?_
  refine go 1 ?_
  exact fun a w hs=>⟨rfl,hs.weaken ⟨rfl,rfl,rfl,rfl,rfl,rfl,rfl,rfl,rfl,rfl,rfl,rfl,rfl,rfl,rfl,rfl,rfl,trivial⟩ ⟨rfl,rfl,rfl,rfl,rfl,rfl,trivial⟩⟩
 ·exact⟨.inr ⟨_,rfl,fun _ h=>h⟩,.inl rfl,.inl rfl,.inl rfl,.inl rfl,trivial⟩
 ·exact⟨⟨_,rfl,rfl,fun _ h=>h⟩,⟨_,rfl,rfl,fun _ h=>h⟩,⟨_,rfl,rfl,fun _ h=>h⟩,⟨_,rfl,rfl,fun _ h=>h⟩,trivial⟩
 ·exact⟨⟨_,rfl,rfl,fun _ h=>h⟩,⟨_,rfl,rfl,fun _ h=>h⟩,⟨_,rfl,rfl,fun _ h=>h⟩,⟨_,rfl,rfl,fun _ h=>h⟩,trivial⟩
 ·rw [hx];exact res3 hs Tryz.results24 (Kb (i:=3) rfl rfl Tryz.isAgg52 Tryz.sizeOf52 rfl) (Zbe (i:=4) rfl rfl Tryz.isAgg4) (Zbe (i:=5) rfl rfl Tryz.isAgg31)
 ·rw [h];exact res3 hs Tryz.results24 (Kb (i:=3) rfl rfl Tryz.isAgg52 Tryz.sizeOf52 rfl) (Zbe (i:=4) rfl rfl Tryz.isAgg4) (Zbe (i:=5) rfl rfl Tryz.isAgg31)
theorem Ko(v:Value)(ps:List Zz)(sp ac:Int)(hp:∀g∈ps,Gin g)(hb:Me ps=true)(hl:(1≤sp∧sp≤10000∧1≤ac∧ac≤10000)):Cal Tryz.prog 23 #[v,.agg #[.int .i64 sp,.int .i64 ac]] [Pq 6 Mj qG v ps] false (G:=Unit) (fun _=>True) (fun _=> .tuple #[.bool (!(fiB ps sp ac).isSome),.int .i64 0]) (fun _=>[]):=by
 refine Zd Tryz.func23 Tryz.ntmps23 fun w0 sc hw hsc=>?_
 refine go 2 ?_
 refine Yd (Yg 2) fun bx _=>?_
 refine go 8 ?_
 refine cl 2 [1] (Cj _ _ _ _ hp hb hl) fun _ _=>?_
 refine go 4 ?_
 refine Yd (Zs 3) fun bx_2 _=>?_
 refine go 8 ?_
 refine kt (decide_eq_true O3) ?_
 refine go 10 ?_
 exact Nz hsc () Tryz.results23 rfl trivial Za
theorem Zrg(k:Int)(hk:k=0∨k=1):Cal Tryz.prog 32 #[.int .i64 k] [] true (G:=Value×(SL×SL×SL)) (fun r=>True) (fun r=>r.1) (fun r=>[Pq 6 Mj qG r.1 [Qc k r.2]]):=by
 refine Zd Tryz.func32 Tryz.ntmps32 fun w0 sc hw hsc=>?_
 refine go 7 ?_
 refine dt (Xl (ivs:=[]) rfl trivial (fun a w hs=>b64_)) ?_
 refine dt (Xl (ivs:=[(0,_),(1,_)]) rfl ⟨rfl,rfl,rfl,rfl,trivial⟩ (fun a w hs=>b64_01 ((Zn rfl) a w hs) ((Zn rfl) a w hs))) ?_
 refine go 1 ?_
 refine cl 1 [] (Zv7 0 0 0 300 400 0 0 1000 k ⟨O3,O3⟩ ⟨O3,O3⟩ ⟨O3,O3⟩ ⟨O3,O3⟩ ⟨O3,O3⟩ ⟨O3,O3⟩) fun⟨sl,sl_2,sl_3⟩ _=>?_
 refine tt (Qd (i:=4) (ivs:=[(0,_)]) (enc:=Mj) [Qc k (sl,sl_2,sl_3)] rfl rfl ⟨rfl,rfl,trivial⟩ Tryz.underlying29 Tryz.ti24 rfl rfl (Yev _ _ _ _ _ _ _ _ _ _ _ _) rfl rfl pG.cells rfl rfl hw.h) rfl (fun v _=>?_)
 refine go 4 ?_
 refine Yn (Pf 4 rfl rfl pG) ?_
 refine Yn (Oc qC 71) ?_
 refine Yn (Xt (q:=qC) (z:=(Qc k (sl,sl_2,sl_3)).2.1) 71 1 71 rfl rfl rfl rfl rfl) ?_
 refine Yn (Xt (q:=qC) (z:=(Qc k (sl,sl_2,sl_3)).2.2.1) 71 2 71 rfl rfl rfl rfl rfl) ?_
 refine Yn (Xt (q:=qC) (z:=(Qc k (sl,sl_2,sl_3)).2.2.2) 71 3 71 rfl rfl rfl rfl rfl) ?_
 refine Yn (Oc qG 73) ?_
 refine Yn (Xt (q:=qG) (z:=(Qc k (sl,sl_2,sl_3))) 73 71 73 rfl rfl rfl rfl rfl) ?_
 refine Yn (Hi 4 73 72 rfl rfl rfl rfl) ?_
 exact Xj hsc (_,sl,sl_2,sl_3) Tryz.results32 rfl trivial (Mm 72 Za)
theorem Zcp(v:Value)(xs:List Int)(want:Int)(hwt:Qx want):Cal Tryz.prog 33 #[v,.int .i64 0,.int .i64 want] [Ym 2 wv v xs] false (G:=Unit) (fun _=>True) (fun _=> .bool (decide (xs=tzl [want]))) (fun _=>[]):=by
 refine Zd Tryz.func33 Tryz.ntmps33 fun w0 sc hw hsc=>?_
 have hws:∀x∈[want],Qx x:=fun x hx=>by rw [List.mem_singleton.1 hx];exact hwt
 have hsz:=Zm9 hws
 refine go 8 ?_
 refine kt (decide_eq_true O3) ?_
 refine go 3 ?_
 refine gtt (Qd (i:=2) (ivs:=[(0,_)]) (enc:=Yl) ([want]:List Int) rfl rfl ⟨rfl,rfl,trivial⟩ Tryz.underlying22 Tryz.ti3 rfl rfl rfl rfl rfl pZ.cells rfl rfl hw.h) rfl rfl rfl rfl (fun v _=>?_)
 refine Qn (Pf 2 rfl rfl pZ) ?_
 refine Fl 3 [2] (Yho _ [want] hws O5) fun g hg=>?_
 refine Fl 4 [3] (rp_to _ _ (by rw [hg];exact(Sz.tzl hsz).mono O) (by have h7:=congrArg List.length hg;rw [Ij]at h7;have h8:=Kx [want];have h9:[want].length=1:=rfl;omega)) fun v_2 _=>?_
 refine Fl 4 [1,4] (Zy7 _ _ _ _) fun _ _=>?_
 refine go 5 ?_
 exact Xj hsc () Tryz.results33 (by rw [hg]) trivial Za
theorem Zj6(v:Value)(ps:List Zz)(sp ac:Int)(want:Bool)(hp:∀g∈ps,Gin g)(hb:Me ps=true)(hl:1≤sp∧sp≤10000∧1≤ac∧ac≤10000)(hwt:(!(fiB ps sp ac).isSome)=want):Cal Tryz.prog 34 #[v,.int .i64 sp,.int .i64 ac,.bool want] [Pq 6 Mj qG v ps] false (G:=Unit) (fun _=>True) (fun _=> .bool true) (fun _=>[]):=by
 refine Zd Tryz.func34 Tryz.ntmps34 fun w0 sc hw hsc=>?_
 refine go 10 ?_
 refine dt (Xl (ivs:=[(0,_),(1,_)]) rfl ⟨rfl,rfl,rfl,rfl,trivial⟩ (fun a w hs=>Zd2 ((Zn rfl) a w hs) ((Zn rfl) a w hs))) ?_
 refine cl 1 [1] (Ko _ _ _ _ hp hb hl) fun _ _=>?_
 refine go 10 ?_
 refine kt (decide_eq_true O3) ?_
 refine go 9 ?_
 exact Xj hsc () Tryz.results34 (by rw [hwt];cases want<;>rfl) trivial Za
theorem Zzr:Ey 1 500 1 (1000-0) (Km 0 300 1) (Km 0 400 1) (Km 0 0 1)=tzl [0]:=O7
theorem Zzq:Ey 1 501 1 (1000-0) (Km 0 300 1) (Km 0 400 1) (Km 0 0 1)=tzl [1]:=O7
theorem Zzs:Ey 1 499 1 (1000-0) (Km 0 300 1) (Km 0 400 1) (Km 0 0 1)=tzl [-1]:=O7
theorem Yil:Ey 2 7 1 (1000-0) (Km 0 300 1) (Km 0 400 1) (Km 0 0 1)=tzl [1]:=O7
abbrev S30:SL×SL×SL:=((none,0,0),(none,0,0),(none,0,0))
theorem Zbl(k:Int)(hk:k=0∨k=1)(s:SL×SL×SL):∀g∈[Qc k s],Gin g:=fun g hg=>by rw [List.mem_singleton.1 hg];exact Mc k hk s
theorem Yd5(s:SL×SL×SL):fiI (fiB [Qc 0 s] 500 10000)=0∧fiC (fiB [Qc 0 s] 500 10000)=2:=by rw [Zjx];exact⟨rfl,rfl⟩
theorem Yd1(s:SL×SL×SL):(Fi [Qc 1 s]).1=500∧(Fi [Qc 1 s]).2.1=0:=by rw [Zmj];exact⟨rfl,rfl⟩
theorem Yd2(s:SL×SL×SL):(Fi [Qc 0 s]).1=938∧(Fi [Qc 0 s]).2.1=2887:=by rw [Zmk];exact⟨rfl,rfl⟩
theorem Yd6(s:SL×SL×SL):(fiB [Qc 0 s] 500 10000).isSome=true:=by rw [Zjx];rfl
theorem Nc:Cal Tryz.prog 10 #[] [] false (G:=Unit) (fun _=>True) (fun _=> .bool true) (fun _=>[]):=by
 refine Zd Tryz.func10 Tryz.ntmps10 fun w0 sc hw hsc=>?_
 refine go 7 ?_
 refine cl 1 [] (Zrg 1 (.inr rfl)) fun⟨v,q⟩ _=>?_
 refine cl 2 [] (Zrg 0 (.inl rfl)) fun⟨v_2,q_2⟩ _=>?_
 refine go 5 ?_
 refine Ze (Xv (g:=(Qc 1 q)) (z:=(Qc 1 q).2.1) 1 51 rfl rfl (List.mem_singleton.2 rfl) O5) ?_
 refine Ze (Xv (g:=(Qc 1 q)) (z:=(Qc 1 q).2.2.1) 1 52 rfl rfl (List.mem_singleton.2 rfl) O5) ?_
 refine Ze (Xv (g:=(Qc 1 q)) (z:=(Qc 1 q).2.2.2) 1 53 rfl rfl (List.mem_singleton.2 rfl) O5) ?_
 refine go 3 ⟨O5,?_⟩
 refine dt (Pj (ii:=1) G0 rfl rfl rfl Zi pG O5) ?_
 refine cl 3 [51,52,53] (Zbm 0 1000 1 500 _ _ _ (Km 0 300 1) (Km 0 400 1) (Km 0 0 1) ⟨O3,O3⟩ ⟨O3,O3⟩ ⟨O3,O3⟩ (Mc 1 (.inr rfl) S30).x (Mc 1 (.inr rfl) S30).y (Mc 1 (.inr rfl) S30).z (Ac 1 (.inr rfl)) O3 O3) fun _ _=>?_
 refine go 8 ?_
 refine Ze (Xv (g:=(Qc 1 q)) (z:=(Qc 1 q).2.1) 1 51 rfl rfl (List.mem_singleton.2 rfl) O5) ?_
 refine Ze (Xv (g:=(Qc 1 q)) (z:=(Qc 1 q).2.2.1) 1 52 rfl rfl (List.mem_singleton.2 rfl) O5) ?_
 refine Ze (Xv (g:=(Qc 1 q)) (z:=(Qc 1 q).2.2.2) 1 53 rfl rfl (List.mem_singleton.2 rfl) O5) ?_
 refine go 3 ⟨O5,?_⟩
 refine dt (Pj (ii:=1) G0 rfl rfl rfl Zi pG O5) ?_
 refine cl 4 [51,52,53] (Zbm 0 1000 1 501 _ _ _ (Km 0 300 1) (Km 0 400 1) (Km 0 0 1) ⟨O3,O3⟩ ⟨O3,O3⟩ ⟨O3,O3⟩ (Mc 1 (.inr rfl) S30).x (Mc 1 (.inr rfl) S30).y (Mc 1 (.inr rfl) S30).z (Ac 1 (.inr rfl)) O3 O3) fun _ _=>?_
 refine go 8 ?_
 refine Ze (Xv (g:=(Qc 1 q)) (z:=(Qc 1 q).2.1) 1 51 rfl rfl (List.mem_singleton.2 rfl) O5) ?_
 refine Ze (Xv (g:=(Qc 1 q)) (z:=(Qc 1 q).2.2.1) 1 52 rfl rfl (List.mem_singleton.2 rfl) O5) ?_
 refine Ze (Xv (g:=(Qc 1 q)) (z:=(Qc 1 q).2.2.2) 1 53 rfl rfl (List.mem_singleton.2 rfl) O5) ?_
 refine go 3 ⟨O5,?_⟩
 refine dt (Pj (ii:=1) G0 rfl rfl rfl Zi pG O5) ?_
 refine cl 5 [51,52,53] (Zbm 0 1000 1 499 _ _ _ (Km 0 300 1) (Km 0 400 1) (Km 0 0 1) ⟨O3,O3⟩ ⟨O3,O3⟩ ⟨O3,O3⟩ (Mc 1 (.inr rfl) S30).x (Mc 1 (.inr rfl) S30).y (Mc 1 (.inr rfl) S30).z (Ac 1 (.inr rfl)) O3 O3) fun _ _=>?_
 refine go 8 ?_
 refine Ze (Xv (g:=(Qc 1 q)) (z:=(Qc 1 q).2.1) 1 51 rfl rfl (List.mem_singleton.2 rfl) O5) ?_
 refine Ze (Xv (g:=(Qc 1 q)) (z:=(Qc 1 q).2.2.1) 1 52 rfl rfl (List.mem_singleton.2 rfl) O5) ?_
 refine Ze (Xv (g:=(Qc 1 q)) (z:=(Qc 1 q).2.2.2) 1 53 rfl rfl (List.mem_singleton.2 rfl) O5) ?_
 refine go 3 ⟨O5,?_⟩
 refine dt (Pj (ii:=1) G0 rfl rfl rfl Zi pG O5) ?_
 refine cl 6 [51,52,53] (Zdp 0 1000 1 7 _ _ _ (Km 0 300 1) (Km 0 400 1) (Km 0 0 1) ⟨O3,O3⟩ ⟨O3,O3⟩ ⟨O3,O3⟩ (Mc 1 (.inr rfl) S30).x (Mc 1 (.inr rfl) S30).y (Mc 1 (.inr rfl) S30).z (Ac 1 (.inr rfl)) O3 O3) fun _ _=>?_
 refine go 12 ?_
 refine cl 6 [3] (Zcp _ _ _ ⟨O3,O3⟩) fun _ _=>?_
 refine dt (Zj (r':= .bool false) (Yp rfl rfl) (congrArg (fun b=>Value.bool (!b)) (decide_eq_true Zzr))) ?_
 refine go 3 ?_
 refine Fl 6 [4] (Zcp _ _ _ ⟨O3,O3⟩) fun _ _=>?_
 refine Ly (Zj (r':= .bool false) (Yp rfl rfl) (congrArg (fun b=>Value.bool (!b)) (decide_eq_true Zzq))) rfl rfl ?_
 refine go 4 ?_
 refine Fl 6 [5] (Zcp _ _ _ ⟨O3,O3⟩) fun _ _=>?_
 refine Ly (Zj (r':= .bool false) (Yp rfl rfl) (congrArg (fun b=>Value.bool (!b)) (decide_eq_true Zzs))) rfl rfl ?_
 refine go 4 ?_
 refine Fl 6 [6] (Zcp _ _ _ ⟨O3,O3⟩) fun _ _=>?_
 refine Ly (Zj (r':= .bool false) (Yp rfl rfl) (congrArg (fun b=>Value.bool (!b)) (decide_eq_true Yil))) rfl rfl ?_
 refine go 3 ?_
 refine Fl 6 [1] (Zj6 _ _ 500 1 true (Zbl 1 (.inr rfl) _) (Zjw _) ⟨O3,O3,O3,O3⟩ (by rw [Yd7];rfl)) fun _ _=>?_
 refine go 4 ?_
 refine Fl 6 [2] (Zj6 _ _ 500 10000 false (Zbl 0 (.inl rfl) _) (Zdn _) ⟨O3,O3,O3,O3⟩ (by rw [Zjx];rfl)) fun _ _=>?_
 refine go 10 ?_
 refine dt (Xl (ivs:=[(0,_),(1,_)]) rfl ⟨rfl,rfl,rfl,rfl,trivial⟩ (fun a w hs=>Zd2 ((Zn rfl) a w hs) ((Zn rfl) a w hs))) ?_
 refine cl 6 [2] (Cj _ _ 500 10000 (Zbl 0 (.inl rfl) _) (Zdn _) ⟨O3,O3,O3,O3⟩) fun _ _=>?_
 refine go 4 ?_
 refine Yd (Zs 7) fun bx _=>?_
 refine go 8 ?_
 refine cl 7 [1] (Zdo _ _ (Zbl 1 (.inr rfl) _) (Zjw _)) fun _ _=>?_
 refine go 3 ?_
 refine Yd (Zs 8) fun bx_2 _=>?_
 refine go 7 ?_
 refine cl 8 [2] (Zdo _ _ (Zbl 0 (.inl rfl) _) (Zdn _)) fun _ _=>?_
 refine go 3 ?_
 refine Yd (Zs 9) fun bx_3 _=>?_
 refine go 8 ?_
 refine kf (decide_eq_false O3) ?_
 refine go 2 ?_
 refine Ly (Zj (r':= .bool false) (Yp rfl rfl) (congrArg (fun b=>Value.bool (!b)) (Yd6 _))) rfl rfl ?_
 refine go 3 ?_
 refine Ly (Xl (ivs:=[(1,_)]) rfl ⟨rfl,rfl,trivial⟩ (fun a w hs=>b52_1 ((Zn rfl) a w hs))) rfl rfl ?_
 refine Ly (Zj (r':= .bool false) (Zhf rfl rfl rfl eg52 (fun w=>neB52 w _ _ _ _)) (congrArg (fun b=>Value.bool (!b)) (decide_eq_true (Yd5 _)))) rfl rfl ?_
 refine go 3 ?_
 refine kfg (decide_eq_false (by rw [Zmj];decide)) ?_
 refine go 3 ?_
 refine kfg (decide_eq_false (by rw [Zmk];decide)) ?_
 refine go 3 ?_
 refine Ly (Xl (ivs:=[(0,_)]) rfl ⟨rfl,rfl,trivial⟩ (fun a w hs=>b26_0 ((Zn rfl) a w hs))) rfl rfl ?_
 refine Ly (Zj (r':= .bool false) (Zhf rfl rfl rfl eg26 (fun w=>neB26 w _ _ _ _)) (congrArg (fun b=>Value.bool (!b)) (decide_eq_true (Yd1 _)))) rfl rfl ?_
 refine go 3 ?_
 refine Ly (Xl (ivs:=[(0,_),(1,_)]) rfl ⟨rfl,rfl,rfl,rfl,trivial⟩ (fun a w hs=>Zd2 ((Zn rfl) a w hs) ((Zn rfl) a w hs))) rfl rfl ?_
 refine Ly (Zj (r':= .bool false) (Zhf rfl rfl rfl eg26 (fun w=>neB26 w _ _ _ _)) (congrArg (fun b=>Value.bool (!b)) (decide_eq_true (Yd2 _)))) rfl rfl ?_
 refine go 8 ?_
 refine dt (Xl (ivs:=[]) rfl trivial (fun a w hs=>b64_)) ?_
 refine dt (Xl (ivs:=[]) rfl trivial (fun a w hs=>b64_)) ?_
 refine cl 10 [] (Zv7 0 0 0 0 0 0 1000 2000 2 ⟨O3,O3⟩ ⟨O3,O3⟩ ⟨O3,O3⟩ ⟨O3,O3⟩ ⟨O3,O3⟩ ⟨O3,O3⟩) fun⟨sl,sl_2,sl_3⟩ _=>?_
 refine Yd (Zs 13) fun bx_4 _=>?_
 refine go 4 ?_
 refine Ze (Xv (g:=(Qc 1 q)) (z:=(Qc 1 q).2.1) 1 51 rfl rfl (List.mem_singleton.2 rfl) O5) ?_
 refine Ze (Xv (g:=(Qc 1 q)) (z:=(Qc 1 q).2.2.1) 1 52 rfl rfl (List.mem_singleton.2 rfl) O5) ?_
 refine Ze (Xv (g:=(Qc 1 q)) (z:=(Qc 1 q).2.2.2) 1 53 rfl rfl (List.mem_singleton.2 rfl) O5) ?_
 refine Xw (fun _=>False) [(0,0),(1,0),(2,0),(3,0),(4,1),(5,0),(6,0),(7,0),(8,0),(9,3)] ?_
 refine go 2 ⟨O5,?_⟩
 refine Qe rfl rfl (Qa (Pj (ii:=1) G0 rfl rfl rfl Zi pG O5)) ?_
 refine go 1 ?_
 refine Yx (Zh 13 [51,52,53,10,11,12] (Zha 0 1000 1 1000 2000 1 _ _ _ _ _ _ (Km 0 300 1) (Km 0 400 1) (Km 0 0 1) (Km 0 0 2) (Km 0 0 2) (Km 0 0 2) ⟨O3,O3⟩ ⟨O3,O3⟩ ⟨O3,O3⟩ (Mc 1 (.inr rfl) S30).x (Mc 1 (.inr rfl) S30).y (Mc 1 (.inr rfl) S30).z ⟨O3,O3⟩ ⟨O3,O3⟩ ⟨O3,O3⟩ (Zb9 S30).x (Zb9 S30).y (Zb9 S30).z (Ac 1 (.inr rfl)) Zp5 rfl)) fun _ _=>?_
 refine go 8 ?_
 refine Ze (Xv (g:=(Qc 0 q_2)) (z:=(Qc 0 q_2).2.1) 2 51 rfl rfl (List.mem_singleton.2 rfl) O5) ?_
 refine Ze (Xv (g:=(Qc 0 q_2)) (z:=(Qc 0 q_2).2.2.1) 2 52 rfl rfl (List.mem_singleton.2 rfl) O5) ?_
 refine Ze (Xv (g:=(Qc 0 q_2)) (z:=(Qc 0 q_2).2.2.2) 2 53 rfl rfl (List.mem_singleton.2 rfl) O5) ?_
 refine Xw (fun _=>False) [(0,0),(1,0),(2,0),(3,0),(4,1),(5,0),(6,0),(7,0),(8,0),(9,3)] ?_
 refine go 2 ⟨O5,?_⟩
 refine Qe rfl rfl (Qa (Pj (ii:=2) G0 rfl rfl rfl Zi pG O5)) ?_
 refine go 1 ?_
 refine Yx (Zh 13 [51,52,53,10,11,12] (Zha 0 1000 1 1000 2000 1 _ _ _ _ _ _ (Km 0 300 0) (Km 0 400 0) (Km 0 0 0) (Km 0 0 2) (Km 0 0 2) (Km 0 0 2) ⟨O3,O3⟩ ⟨O3,O3⟩ ⟨O3,O3⟩ (Mc 0 (.inl rfl) S30).x (Mc 0 (.inl rfl) S30).y (Mc 0 (.inl rfl) S30).z ⟨O3,O3⟩ ⟨O3,O3⟩ ⟨O3,O3⟩ (Zb9 S30).x (Zb9 S30).y (Zb9 S30).z (Ac 0 (.inl rfl)) Zp5 rfl)) fun _ _=>?_
 refine go 10 ?_
 refine dt (Zj (r':= .bool true) (Yp rfl rfl) (congrArg (fun b=>Value.bool (!b)) Yd3)) ?_
 refine go 2 ?_
 refine kt Yd4 ?_
 refine go 2 ?_
 refine ktg (decide_eq_true O3) ?_
 refine go 3 ?_
 refine ktg (decide_eq_true O3) ?_
 refine go 5 ?_
 exact Xj hsc () Tryz.results10 rfl trivial Za
def Yhx(o:Nat)(x y z:List Int):Nat→List Int
 | 0=>[]
 | i+1=>Ct (Yhx o x y z i) (Xm (dN o (tzl (Zr i x y z))) (dN o (tzl (Zr i x y z))))
def Zhk(o:Nat)(m ov T:Int):Int:=m^2*ov^2*T^(2*o)
def Yhy(o:Nat)(m ov T:Int)(x y z:List Int):List Int:=Cr (tzl [Zhk o m ov T]) (Yb (Yhx o x y z 3) (1000^(2*o)))
theorem ps_Cm(a b:Int):PS.C (a*b)=PS.C a*PS.C b:=PS.ext' fun i=>by rw [PS.C_mul_c];cases i<;>simp [PS.C]
theorem Zlz(p:List Int)(k:Int):Xm (Yb p k) (Yb p k)=Yb (Xm p p) (k*k):=(Xq _ _).ps_inj (Xi _ _) (by
 rw [Znr,Zl9,Zl9,Znr,ps_Cm];grind)
theorem Zy0(p q:List Int)(k:Int):Yb (Ct p q) k=Ct (Yb p k) (Yb q k):=(Xi _ _).ext (Yg1 _ _) fun i=>by
 rw [Yy,Zcy,Zcy,Yy,Yy,Int.add_mul]
theorem Zv3(o:Nat)(x y z:List Int):∀n,Yb (Yhx o x y z n) (1000^(2*o))=Cc o x y z n
 | 0=>rfl
 | n+1=>by
  show Yb (Ct _ _) _=Ct _ _
  rw [Zy0,Zv3 o x y z n]
  unfold sqQ axQ
  rw [Zlz,←Int.pow_add,show 2*o=o+o by omega]
theorem Yhw(o:Nat)(m ov T:Int):tzl [Zhk o m ov T]=Xm (Ig o m ov T) (Ig o m ov T):=by
 unfold Ig
 rw [Zlz]
 have e1:Xm [1] [1]=[1]:=O3
 have e2:Zc0 o m ov T*Zc0 o m ov T=Zhk o m ov T:=by
  unfold Zc0 Zhk
  show(m*(ov*Xn (List.replicate o T)))*(m*(ov*Xn (List.replicate o T)))=_
  rw [Zv2,show 2*o=o+o by omega,Int.pow_add]
  grind
 rw [e1,e2]
 unfold Yb
 rw [List.map_cons,List.map_nil,Int.one_mul]
theorem Ycd(o:Nat)(m ov T:Int)(x y z:List Int):Zu (Yhy o m ov T x y z)=Ey o m ov T x y z:=by
 unfold Ey Yhy
 rw [Zv3,Yhw]
structure RI (xs q:List Int):Prop where
 v:Vp q
 ne:q≠[]
 s:Sz 315 q
 l:q.length≤9
 d:Dp xs (Yt q)
theorem RI.start{xs:List Int}(h:Cvd xs)(h0:xs≠[]):RI xs xs:=⟨h.v,h0,h.s.mono O,h.l,Dp.start h.v.tr h0⟩
theorem Ya6{q:List Int}{n:Nat}{e:Int}(he:e=1∨e=-1)(h:Sz n q):Sz n (Yb q e):=fun i=>by
 rw [Yy]
 have:=h i
 rcases he with rfl | rfl
 ·rw [Int.mul_one];exact this
 ·rw [Int.mul_neg_one,Int.natAbs_neg];exact this
theorem RI.step{xs q:List Int}(h:Cvd xs)(h0:xs≠[])(hI:RI xs q) :
  Tr (sqf 13 q)∧Qh (sqf 13 q)≤445∧(sqf 13 q).length≤9∧0<(sqf 13 q).length∧Ys q≠0∧Sz 315 (Yb (Zu q) 1)∧Tr (Yb (Zu q) 1)∧(Yb (Zu q) 1).length=q.length∧pdv (Yb (Zu q) 1) (sqf 13 q)∧
  Vp (Nv 13 q)∧Nv 13 q≠[]∧Sz 315 (Nv 13 q)∧(Nv 13 q).length≤9∧Ys (Nv 13 q)≠0∧Zu (Nv 13 q)=Nv 13 q∧
  Tr (sqf 13 (Nv 13 q))∧Qh (sqf 13 (Nv 13 q))≤445∧(sqf 13 (Nv 13 q)).length≤9∧0<(sqf 13 (Nv 13 q)).length∧pdv (sqf 13 q) (sqf 13 (Nv 13 q))∧Sz 600 (Ll (sqf 13 q) (sqf 13 (Nv 13 q)))∧(Ll (sqf 13 q) (sqf 13 (Nv 13 q))).length≤9∧
  pdv (Nv 13 q) (sqf 13 (Nv 13 q))∧RI xs (Zaw 13 q)∧((sqf 13 q).length≠1→(Zaw 13 q).length<q.length):=by
 have hl:=h.l
 have hD:=hI.d
 have hok0:=(hD.ok h.v.tr h0 h.s O O (show xs.length≤13+1 by omega)).2
 have hok:Fa 13 q:=by unfold Fa at hok0 ⊢;rwa [hD.2.2.1]at hok0
 have hg:=hD.next hok0
 have hgn:Pd 13 (Yt q)=Pd 13 q:=Zh6 hD.2.2.1
 have hsn:sqf 13 (Yt q)=sqf 13 q:=Ea hD.2.2.1
 rw [hgn]at hg
 have hok2:=(hg.ok h.v.tr h0 h.s O O (show xs.length≤13+1 by omega)).2
 have hg2:=hg.next hok2
 obtain⟨⟨e,he,r1,r2,r3,r4,r5,r6⟩,r7,r8,r9,r10,r11,r12⟩:=Zi5 hI.v.tr hI.ne hok hok2
 obtain⟨-,-,-,-,-,-,-,-,-,-,-,a12,a13,a14,-,a16,-,-⟩:=Zce h h0 hD
 obtain⟨-,-,-,-,-,-,-,-,-,-,-,b12,b13,b14,-,b16,b17,-⟩:=Zce h h0 hg
 rw [hsn]at a12 a13 a14 a16
 have hsl:sqf 13 (Nv 13 q)=sqf 13 (Pd 13 q):=Ea (by rw [r7,hg.2.2.1])
 obtain⟨g1,g2⟩:=Zfi h h0 hg
 obtain⟨g3,g4⟩:=Zfi h h0 hg2
 have e0:e≠0:=by rcases he with rfl | rfl<;>decide
 have hLs:Sz 315 (Nv 13 q):=by rw [r3];exact Ya6 he g1
 have hLl:(Nv 13 q).length≤9:=by rw [r3];have:=Ib (Pd 13 q) e;omega
 have hLv:Vp (Nv 13 q):=⟨hLs.mono O,r9,O⟩
 have hRs:Sz 315 (Zaw 13 q):=by rw [r6];exact Ya6 he g3
 have hRl:(Zaw 13 q).length≤(Pd 13 (Pd 13 q)).length:=by rw [r6];exact Ib _ e
 obtain⟨o1,o2,o3,o4⟩:=Eo hI.v.tr hI.ne hok hok2
 have hK:kkR 24 13*(24+1)^13<2^130:=O7
 have hos:=Ft (L:=13) (R:=24) o3 b12.tr a13 a16 a12.tr O O3 hK o2
 have hlq:=Pg o3 b12.tr o4 b16
 rw [←o2]at hlq
 have lb:=List.length_pos_iff.2 b16
 have la:=List.length_pos_iff.2 a16
 have lo:=List.length_pos_iff.2 o4
 have hm:Yb (Zu q) 1=Zu q:=by
  refine(Xi _ _).ext (Yq hI.v.tr) fun i=>?_
  rw [Yy,Int.mul_one]
 have hx:=Qb hI.v.tr hI.ne hok
 have hx2:=Qb hg.1 hg.2.1 hok2
 rw [hsl]
 refine⟨a12.tr,Qz a13,O,la,hI.v.ne hI.ne,by rw [hm];exact Gn hI.s,Xi _ _,by rw [hm,Zt],by rw [r1];exact r2,hLv,r10,hLs,hLl,hLv.ne r10,r4,b12.tr,Qz b13,b14,lb,o1,hos.mono O,?_,r5,⟨⟨hRs.mono O,r11,O⟩,r12,hRs,O,by rw [r8];exact hg2⟩,fun hne=>?_⟩
 ·show(Ew 13 q).length≤9;omega
 ·have h1:=hx.2.2.2.2
  have h2:=hx2.2.2.2.2
  omega
theorem Ycu{F n:Nat}{p:List Int}(hp:Tr p)(h0:p≠[])(hs:Sz n p)(hn:n≤220)(hl:p.length≤11)(hF:p.length≤F+1):∀(f:Nat) (q:List Int),Dp p q→q.length≤f→∃a:List Int,Tr a∧q=Xm a (Eu F f q):=by
 intro f
 induction f with
 | zero=>intro q hq hlq;have:=List.length_pos_iff.2 hq.2.1;omega
 | succ f ih=>
  intro q hq hlq
  have hok:=(hq.ok hp h0 hs hn hl hF).2
  have hg:=hq.next hok
  have hok2:=(hg.ok hp h0 hs hn hl hF).2
  have hg2:=hg.next hok2
  unfold Eu
  by_cases c1:(sqf F q).length=1
  ·rw [if_pos c1]
   obtain⟨s1,s2,s3⟩:=Zeg hq.1 hq.2.1 hok c1
   refine⟨[1],.inr (show cf [1] 0≠0 by decide),hq.1.ext (Xq _ _) fun i=>Od (fun x=>?_) i⟩
   rw [Zv,s1,Yib hq.1 hq.2.2.1 s2,Qj];push_cast;grind
  ·rw [if_neg c1]
   have lq:2≤q.length:=by
    obtain⟨f1,f2,f3,f4,f5,f6⟩:=Pu (F:=F) hq.1 hq.2.1 hok
    obtain⟨a1,a2,a3,a4,a5⟩:=Qb hq.1 hq.2.1 hok
    have l1:=List.length_pos_iff.2 f3
    have l2:=List.length_pos_iff.2 a2
    omega
   have lt1:=Zka hq.1 hq.2.1 hok lq
   obtain⟨a1,a2,a3,a4,a5⟩:=Qb hq.1 hq.2.1 hok
   obtain⟨b1,b2,b3,b4,b5⟩:=Qb hg.1 hg.2.1 hok2
   obtain⟨-,t2,t3,-,-,-⟩:=Pu (F:=F) hg.1 hg.2.1 hok2
   have lb:=List.length_pos_iff.2 t3
   obtain⟨A,hA,hB⟩:=ih _ hg2 O
   obtain⟨-,o2,o3,o4⟩:=Eo hq.1 hq.2.1 hok hok2
   rw [hq.2.2.1]at a4
   rw [a3]at b4
   refine⟨Xm (Xm (sqf F (Pd F q)) (sqf F (Pd F q))) A,Xq _ _,hq.1.ext (Xq _ _) fun i=>Od (fun x=>?_) i⟩
   have e1:Zb q x=Zb (sqf F q) x*Zb (Pd F q) x:=by rw [←Zv,←a4]
   have e2:Zb (sqf F q) x=Zb (Ew F q) x*Zb (sqf F (Pd F q)) x:=by rw [←Zv,←o2]
   have e3:Zb (Pd F q) x=Zb (sqf F (Pd F q)) x*Zb (Pd F (Pd F q)) x:=by rw [←Zv,←b4]
   have e4:Zb (Pd F (Pd F q)) x=Zb A x*Zb (Eu F f (Pd F (Pd F q))) x:=by rw [←Zv,←hB]
   rw [Zv,Zv,Zv,Zv,e1,e2,e3,e4]
   show _=_*(Zb (Ew F q) x*_)
   generalize Zb (sqf F (Pd F q)) x=S
   grind
theorem RI.size{xs q:List Int}(h:Cvd xs)(h0:xs≠[])(hI:RI xs q){f:Nat}(hf:q.length≤f):Tr (Ztb 13 f q)∧Sz 460 (Ztb 13 f q)∧(Ztb 13 f q).length≤9:=by
 have hl:=h.l
 have hD:=hI.d
 have e:Ztb 13 f q=Eu 13 f (Yt q):=by
  rw [Yhq h.v.tr h0 h.s O O O f q hI.v.tr hI.ne hD]
  exact Zqv hD.2.2.1.symm f
 have hlq:=Qr hI.v.tr
 have hll:=hI.l
 obtain⟨A,hA,hB⟩:=Ycu h.v.tr h0 h.s O O (show xs.length≤13+1 by omega) f (Yt q) hD O
 obtain⟨d1,d2⟩:=Zfi h h0 hD
 have hok0:=(hD.ok h.v.tr h0 h.s O O (show xs.length≤13+1 by omega)).2
 have ht:=Znw (F:=13) (p:=xs) (f:=f) hD.1 hD.2.1 hok0
 rw [e]
 have hK:kkR 24 13*(24+1)^13<2^130:=O7
 have p0:Eu 13 f (Yt q)≠[]:=fun e2=>hD.2.1 (by rw [hB,e2,Zaf])
 have a0:A≠[]:=fun e2=>hD.2.1 (by rw [hB,e2,Ie])
 have hl2:=Pg hA ht a0 p0
 rw [←hB]at hl2
 have:=List.length_pos_iff.2 a0
 exact⟨ht,(Ft (L:=13) (R:=24) ht hA d1 hD.2.1 hD.1 O O3 hK (by rw [Bz];exact hB)).mono O,O⟩
open Go.Proofs.Tryz
end Go.Sky

