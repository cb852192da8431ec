/- Rules, arithmetic and contracts: part 15. No conditions but those that each theorem names. -/
import Derived.Test.YtljmhpopdmadkaaGreatLv13
set_option linter.all false
set_option maxHeartbeats 4000000
namespace Go.Sky
open Go.Proofs
set_option synthInstance.maxHeartbeats 0
set_option synthInstance.maxSize 100000
set_option maxRecDepth 20000
set_option maxHeartbeats 4000000
set_option linter.unusedSimpArgs false
theorem Zgi(a b k:Int)(ha:-4194304≤a∧a≤4194304)(hb:-4194304≤b∧b≤4194304):Cal Tryz.prog 70 #[.int .i64 a,.int .i64 b,.int .i64 k] [] true (G:=SL) (fun r=>True) (fun r=>Mb r) (fun r=>[Xc 1 Xg (Mb r) (Ko a b k)]):=by
 refine Zh Tryz.func70 Tryz.ntmps70 fun w0 sc hw hsc=>?_
 refine go 19 ⟨O,?_⟩
 refine Ys (d:=13) rfl (fun s36=>?_) (fun s36=>?_)
 ·refine go 9 ?_
  refine tt (Qg (i:=1) (ivs:=[(0,_)]) (enc:=Xg) ([a]:List Int) rfl rfl ⟨rfl,rfl,trivial⟩ Tryz.underlying22 Tryz.ti3 rfl rfl rfl rfl rfl pZ.cells rfl rfl hw.h) (fun v _=>?_)
  refine go 5 ?_
  refine Zw (Qa 1 rfl rfl pZ) ?_
  refine Yf5 (Pi 1 rfl Zn) (fun sl hsl=>?_)
  subst hsl
  exact Xa hsc sl Tryz.results70 rfl trivial (Oe 1 Za (congrArg (Xc 1 Xg (Mb sl)) (tmL_0 (a:=a) (b:=b) (k:=k) O).symm))
 ·refine go 5 ?_
  refine Zc rfl (fun h36=>?_) (fun h36=>?_)
  ·refine go 3 ?_
   refine tt (Qg (i:=2) (ivs:=[(0,_)]) (enc:=Xg) ([a]:List Int) rfl rfl ⟨rfl,rfl,trivial⟩ Tryz.underlying22 Tryz.ti3 rfl rfl rfl rfl rfl pZ.cells rfl rfl hw.h) (fun v_2 _=>?_)
   refine go 5 ?_
   refine Zw (Qa 2 rfl rfl pZ) ?_
   refine Yf5 (Pi 2 rfl Zn) (fun sl hsl=>?_)
   subst hsl
   exact Xa hsc sl Tryz.results70 rfl trivial (Oe 2 Za (congrArg (Xc 1 Xg (Mb sl)) (tmL_0 (a:=a) (b:=b) (k:=k) O).symm))
  ·refine go 9 ?_
   refine Zc rfl (fun h39=>?_) (fun h39=>?_)
   ·refine go 4 ?_
    refine tt (Qg (i:=3) (ivs:=[(0,_),(1,_)]) (enc:=Xg) ([a,b-a]:List Int) rfl rfl ⟨rfl,rfl,rfl,rfl,trivial⟩ Tryz.underlying22 Tryz.ti3 rfl rfl rfl rfl rfl pZ.cells rfl rfl hw.h) (fun v_3 _=>?_)
    refine go 5 ?_
    refine Zw (Qa 3 rfl rfl pZ) ?_
    refine Yf5 (Pi 3 rfl Zn) (fun sl hsl=>?_)
    subst hsl
    exact Xa hsc sl Tryz.results70 rfl trivial (Oe 3 Za (congrArg (Xc 1 Xg (Mb sl)) (tmL_1 (a:=a) (b:=b) (k:=k) O O).symm))
   ·refine go 11 ⟨O,O,O,?_⟩
    refine tt (Qg (i:=4) (ivs:=[(0,_),(1,_),(2,_),(3,_),(4,_),(5,_)]) (enc:=Xg) ([a,0,0,10*(b-a),-15*(b-a),6*(b-a)]:List Int) rfl rfl ⟨rfl,rfl,rfl,rfl,rfl,rfl,rfl,rfl,rfl,rfl,rfl,rfl,trivial⟩ Tryz.underlying22 Tryz.ti3 rfl rfl rfl rfl rfl pZ.cells rfl rfl hw.h) (fun v_4 _=>?_)
    refine go 4 ?_
    refine Zw (Qa 4 rfl rfl pZ) ?_
    refine Yf5 (Pi 4 rfl Zn) (fun sl hsl=>?_)
    subst hsl
    exact Xa hsc sl Tryz.results70 rfl trivial (Oe 4 Za (congrArg (Xc 1 Xg (Mb sl)) (tmL_2 (a:=a) (b:=b) (k:=k) O O).symm))
theorem Zvx(ax ay az bx by_ bz fr to k:Int)(hax:-4194304≤ax∧ax≤4194304)(hay:-4194304≤ay∧ay≤4194304)(haz:-4194304≤az∧az≤4194304)(hbx:-4194304≤bx∧bx≤4194304)(hby_:-4194304≤by_∧by_≤4194304)(hbz:-4194304≤bz∧bz≤4194304):Cal Tryz.prog 35 #[.agg #[.int .i64 ax,.int .i64 ay,.int .i64 az],.agg #[.int .i64 bx,.int .i64 by_,.int .i64 bz],.int .i64 fr,.int .i64 to,.int .i64 k] [] true (G:=SL×SL×SL) (fun r=>True) (fun r=> .agg #[.int .i64 fr,.int .i64 to,.int .i64 1,Mb r.1,Mb r.2.1,Mb r.2.2]) (fun r=>[Xc 1 Xg (Mb r.1) (Ko ax bx k),Xc 1 Xg (Mb r.2.1) (Ko ay by_ k),Xc 1 Xg (Mb r.2.2) (Ko az bz k)]):=by
 refine Zh Tryz.func35 Tryz.ntmps35 fun w0 sc hw hsc=>?_
 refine go 2 ?_
 refine Ya (Yl 1) fun bq _=>?_
 refine Ya (Yl 2) fun bq_2 _=>?_
 refine Ya (Zs 3) fun bq_3 _=>?_
 refine go 3 ?_
 refine Xx (fun _=>False) [(0,0),(1,0),(2,0),(3,0),(4,0),(5,0),(6,0),(8,0),(9,0),(10,0),(11,0),(12,0),(14,0),(15,0),(16,0),(17,0),(18,0),(7,1),(13,1),(19,1),(20,0),(21,3)] ?_
 refine go 17 ?_
 refine Yh (Zj 4 [] (Zgi ax bx k hax hbx)) fun sl _=>?_
 refine Yh (Zj 5 [] (Zgi ay by_ k hay hby_)) fun sl_2 _=>?_
 refine Yh (Zj 6 [] (Zgi az bz k haz hbz)) fun sl_3 _=>?_
 refine Qo rfl rfl (Qq (Xh (ivs:=[(0,_),(1,_),(2,_),(3,_),(4,_),(5,_)]) rfl ⟨rfl,rfl,rfl,rfl,rfl,rfl,rfl,rfl,rfl,rfl,rfl,rfl,trivial⟩ (fun a w hs=>Zuq ((Zu rfl) a w hs) ((Zu rfl) a w hs) ((Zu rfl) a w hs) ((Na (i:=4) rfl Zn) a w hs) ((Na (i:=5) rfl Zn) a w hs) ((Na (i:=6) rfl Zn) a w hs)))) ?_
 refine go 4 ?_
 exact Xa hsc (sl,sl_2,sl_3) Tryz.results35 rfl trivial (Oe 4 (Oe 5 (Oe 6 Za)))
theorem eg52:Tryz.prog.eqGuardType Tryz.prog.depth 52=false:=O7
theorem Yie:Tryz.prog.eqGuardType Tryz.prog.depth 26=false:=O7
theorem in52(d:Nat)(w:World)(a b c e:Int):(Op.equalIn (d+2) 52 (.agg #[.int .i64 a,.int .i64 b]) (.agg #[.int .i64 c,.int .i64 e])).run Tryz.prog w= .ok (decide (a=c∧b=e)) w:=by
 have sh:Tryz.prog.stoodInHeld 52=false:=O7
 have hu:Tryz.prog.underlying 52=some (.struct (Tryz.prog.fieldsOf 52)):=by unfold Program.fieldsOf;rw [Tryz.underlying52]
 rw [run_equalIn_agg w (d+1) 52 _ _ hu sh]
 unfold Program.fieldsOf
 rw [Tryz.underlying52]
 simp [Op.eqFields,part,Tryz.isAgg3,Tryz.isAgg50,run_equalIn_int _ _ _ _ _ _ _ Tryz.underlying3,run_equalIn_int _ _ _ _ _ _ _ Tryz.underlying50]
 by_cases h1:a=c<;>by_cases h2:b=e<;>simp_all
theorem in26(d:Nat)(w:World)(a b c e:Int):(Op.equalIn (d+2) 26 (.agg #[.int .i64 a,.int .i64 b]) (.agg #[.int .i64 c,.int .i64 e])).run Tryz.prog w= .ok (decide (a=c∧b=e)) w:=by
 have sh:Tryz.prog.stoodInHeld 26=false:=O7
 have hu:Tryz.prog.underlying 26=some (.struct (Tryz.prog.fieldsOf 26)):=by unfold Program.fieldsOf;rw [Tryz.underlying26]
 rw [run_equalIn_agg w (d+1) 26 _ _ hu sh]
 unfold Program.fieldsOf
 rw [Tryz.underlying26]
 simp [Op.eqFields,part,Tryz.isAgg3,run_equalIn_int _ _ _ _ _ _ _ Tryz.underlying3]
 by_cases h1:a=c<;>by_cases h2:b=e<;>simp_all
theorem neB52(w:World)(a b c e:Int):(binOp .neq 52 (.agg #[.int .i64 a,.int .i64 b]) (.agg #[.int .i64 c,.int .i64 e])).run Tryz.prog w= .ok (.bool (!decide (a=c∧b=e))) w:=by
 rw [run_neq_struct,in52];rfl
theorem eqB26(w:World)(a b c e:Int):(binOp .eql 26 (.agg #[.int .i64 a,.int .i64 b]) (.agg #[.int .i64 c,.int .i64 e])).run Tryz.prog w= .ok (.bool (decide (a=c∧b=e))) w:=by
 rw [run_eql_struct,in26];rfl
theorem neB26(w:World)(a b c e:Int):(binOp .neq 26 (.agg #[.int .i64 a,.int .i64 b]) (.agg #[.int .i64 c,.int .i64 e])).run Tryz.prog w= .ok (.bool (!decide (a=c∧b=e))) w:=by
 rw [run_neq_struct,in26];rfl
theorem li_brk(v:Value)(ps:List Qu)(b1 b2:Nat)(sp ac:Int)(hg:∀g∈ps,SgG g)(hs0:0≤sp)(hs1:sp≤10000)(ha0:0≤ac)(ha1:ac≤10000):Yjl Tryz.prog 96 [.pointer (some ⟨b1,0,none⟩),.pointer (some ⟨b2,0,none⟩)] [Fa b1 29 #[v],Fa b2 26 #[.int .i64 sp,.int .i64 ac],Nv 6 Ep qG v ps] (fiB ps sp ac=none) (G:=Nat×Int) (fun g=>fiB ps sp ac=some g) (fun g=> .agg #[.int .i64 (g.1:Int),.int .i64 g.2]):=by
 refine Yja Tryz.func96 rfl Tryz.ntmps96 rfl ⟨rfl,rfl,rfl,trivial⟩ ?_
 intro l J w0 sc hw hY;have hw:=Hw.mk hw
 simp only [Ox,Ob]
 refine Oc (Lp (i:=3) rfl Zi) (fun hlen=>?_)
 refine go 8 ?_
 refine lp (G:=Nat) [0,1,2,6,7] [0,1,2,3] (fun i=>[(8,.int .i64 (i:Int))]) (fun i=>[]) (fun i=>(i≤ps.length)∧(∀k,k<i→frB ps sp ac k=0)) (fun i=>ps.length-i) 0 ⟨O1,fun k hk=>absurd hk (Nat.not_lt_zero k)⟩ ⟨rfl,trivial⟩ trivial ?_
 rintro i ⟨hi,hk⟩
 refine go 6 ?_
 refine Zc rfl (fun h140=>?_) (fun h140=>?_)
 ·refine go 5 ?_
  have hgi:=hg _ (Zf (d:=G0) (show i<ps.length by omega))
  refine Zg (Xv (g:=(ps.getD i G0)) (z:=(ps.getD i G0).2.1) 3 51 rfl rfl (Zf) O5) ?_
  refine Zg (Xv (g:=(ps.getD i G0)) (z:=(ps.getD i G0).2.2.1) 3 52 rfl rfl (Zf) O5) ?_
  refine Zg (Xv (g:=(ps.getD i G0)) (z:=(ps.getD i G0).2.2.2) 3 53 rfl rfl (Zf) O5) ?_
  refine go 3 ⟨O2,?_⟩
  refine dt (Xy (ii:=3) G0 rfl rfl rfl Zi pG O2) ?_
  refine Ya (Zs 4) fun bx _=>?_
  refine go 4 ?_
  refine jn (G:=Unit) [0,1,2,4,5,6,7,8] [0,1,2,3,51,52,53,4] (fun _=>[]) (fun _=>[]) (fun _=>¬(0<i∧joG (ps.getD (i-1) G0) (ps.getD i G0)=false)) ?_ ?_
  ·refine go 1 ?_
   rcases Yec ps i with hc1 | ⟨hc1,hc2⟩ | ⟨hc1,hc2⟩
   ·refine Xx (fun _=>False) [(0,0),(1,0),(2,0),(3,2),(4,2),(5,2),(6,2),(7,2),(8,2),(9,2),(10,2),(11,0),(12,0),(13,2),(14,2),(15,2),(16,2),(17,2),(18,0)] ?_
    refine go 2 ?_
    refine Qo rfl rfl (Qq (Yg (r':= .bool false) (Zr0 rfl rfl) (congrArg Value.bool (decide_eq_false O)))) ?_
    refine go 20 ?_
    exact Pw () ((fun h=>absurd h.1 O)) trivial trivial
   ·refine Zg (Xv (g:=(ps.getD (i-1) G0)) (z:=(ps.getD (i-1) G0).2.1) 3 54 rfl rfl (Zf) O5) ?_
    refine Zg (Xv (g:=(ps.getD (i-1) G0)) (z:=(ps.getD (i-1) G0).2.2.1) 3 55 rfl rfl (Zf) O5) ?_
    refine Zg (Xv (g:=(ps.getD (i-1) G0)) (z:=(ps.getD (i-1) G0).2.2.2) 3 56 rfl rfl (Zf) O5) ?_
    refine Xx (fun _=>False) [(0,0),(1,0),(2,0),(3,0),(4,0),(5,0),(6,0),(7,0),(8,0),(9,1),(10,0),(11,0),(12,0),(13,2),(14,2),(15,2),(16,2),(17,2),(18,0)] ?_
    refine go 2 ?_
    refine Qo rfl rfl (Qq (Yg (r':= .bool true) (Zr0 rfl rfl) (congrArg Value.bool (decide_eq_true O)))) ?_
    refine go 3 ⟨O,?_⟩
    refine Af (Qq (Zy (ii:=3) (i:=(i-1)) rfl rfl rfl rfl Zi Tryz.underlying29 Tryz.sizeOf24)) rfl rfl rfl rfl rfl ?_
    refine Af (Qq (Xy (ii:=3) G0 rfl rfl rfl Zi pG O2)) rfl rfl rfl rfl rfl ?_
    refine go 1 ?_
    refine Zht rfl rfl rfl rfl rfl (Yz (n:=4) (Zfi _ _ _ _ _ _ _ _ _ _ _ _ _ _ _ _ _ _ (hg _ (Zf)) hgi) rfl rfl rfl ⟨rfl,rfl,trivial⟩ Tryz.call37 (Zk 54 rfl rfl rfl (Zk 55 rfl rfl rfl (Zk 56 rfl rfl rfl (Zk 51 rfl rfl rfl (Zk 52 rfl rfl rfl (Zk 53 rfl rfl rfl Zo)))))) rfl hw.h) (fun _ _=>?_)
    refine Af (Qq (Yg (r':= .bool false) (Qj rfl rfl) (congrArg (fun b=>Value.bool (!b)) hc2))) rfl rfl rfl rfl rfl ?_
    refine go 12 ?_
    exact Pw () ((fun h=>by rw [hc2]at h;cases h.2)) trivial trivial
   ·refine Zg (Xv (g:=(ps.getD (i-1) G0)) (z:=(ps.getD (i-1) G0).2.1) 3 54 rfl rfl (Zf) O5) ?_
    refine Zg (Xv (g:=(ps.getD (i-1) G0)) (z:=(ps.getD (i-1) G0).2.2.1) 3 55 rfl rfl (Zf) O5) ?_
    refine Zg (Xv (g:=(ps.getD (i-1) G0)) (z:=(ps.getD (i-1) G0).2.2.2) 3 56 rfl rfl (Zf) O5) ?_
    refine Zor [(0,0),(1,0),(2,0),(3,0),(4,0),(5,0),(6,0),(7,0),(8,0),(9,1),(10,0),(11,0),(12,0),(13,0),(14,0),(15,0)] [16,17,18] 2 ?_
    refine go 2 ?_
    refine Qo rfl rfl (Qq (Yg (r':= .bool true) (Zr0 rfl rfl) (congrArg Value.bool (decide_eq_true O)))) ?_
    refine go 3 ⟨O,?_⟩
    refine Af (Qq (Zy (ii:=3) (i:=(i-1)) rfl rfl rfl rfl Zi Tryz.underlying29 Tryz.sizeOf24)) rfl rfl rfl rfl rfl ?_
    refine Af (Qq (Xy (ii:=3) G0 rfl rfl rfl Zi pG O2)) rfl rfl rfl rfl rfl ?_
    refine go 1 ?_
    refine Zht rfl rfl rfl rfl rfl (Yz (n:=4) (Zfi _ _ _ _ _ _ _ _ _ _ _ _ _ _ _ _ _ _ (hg _ (Zf)) hgi) rfl rfl rfl ⟨rfl,rfl,trivial⟩ Tryz.call37 (Zk 54 rfl rfl rfl (Zk 55 rfl rfl rfl (Zk 56 rfl rfl rfl (Zk 51 rfl rfl rfl (Zk 52 rfl rfl rfl (Zk 53 rfl rfl rfl Zo)))))) rfl hw.h) (fun _ _=>?_)
    refine Af (Qq (Yg (r':= .bool true) (Qj rfl rfl) (congrArg (fun b=>Value.bool (!b)) hc2))) rfl rfl rfl rfl rfl ?_
    refine go 4 ?_
    refine Zy6 rfl rfl rfl rfl rfl (Qq (Xh (ivs:=[(0,_),(1,_)]) rfl ⟨rfl,rfl,rfl,rfl,trivial⟩ (fun a w hs=>Zup ((Zu rfl) a w hs) ((Zu rfl) a w hs)))) ?_
    refine r_y ?_
    refine Zsn (i:=16) (d3:=31) O7 rfl rfl rfl rfl rfl rfl rfl rfl rfl rfl (fun a w hs=>hY (i,1) (Zkd O hk (frB_1 hc1 hc2) O3) w (Ln (hs.hold 0 _ rfl))) ?_ (fun a w ht hd hJ=>wp_cond_true ht (wp_ret (Zd9 hd Tryz.results96 hJ)))
    refine Zy6 rfl rfl rfl rfl rfl (Qq (Qj rfl rfl)) ?_
    refine go 1 ?_
    exact rfl
  ·rintro _ hj
   refine go 2 ?_
   rcases tf (Em (Gg 1 sp (ps.getD i G0)))with hc3 | hc3
   ·refine Xx (fun _=>False) [(1,0),(2,0),(3,0),(0,1),(4,1),(5,1),(6,0),(7,2),(8,2),(9,2),(10,2),(11,2),(12,0)] ?_
    refine go 3 ?_
    refine Yh (Zj 4 [] (Zfh)) fun _ _=>?_
    refine Yh (Zj 5 [51,52,53] (Zc1 1 _ _ _ _ _ _ _ _ _ _ _ _ (.inl rfl) hgi hs0 hs1)) fun v _=>?_
    refine Yh (Zj 5 [5] (Zjz _ _ (Gs hgi hs0 hs1 (.inl rfl)).2.2)) fun _ _=>?_
    refine Qo rfl rfl (Qq (Yg (r':= .bool false) (Zr0 rfl rfl) (congrArg Value.bool hc3))) ?_
    refine go 12 ?_
    rcases tf (Em (Gg 2 ac (ps.getD i G0)))with hc4 | hc4
    ·refine Xx (fun _=>False) [(1,0),(2,0),(3,0),(0,1),(4,1),(5,1),(6,0),(7,2),(8,2),(9,2),(10,2),(11,2),(12,0)] ?_
     refine go 3 ?_
     refine Yh (Zj 5 [] (Hk)) fun _ _=>?_
     refine Yh (Zj 6 [51,52,53] (Zc1 2 _ _ _ _ _ _ _ _ _ _ _ _ (.inr rfl) hgi ha0 ha1)) fun v_2 _=>?_
     refine Yh (Zj 6 [6] (Zjz _ _ (Gs hgi ha0 ha1 (.inr rfl)).2.2)) fun _ _=>?_
     refine Qo rfl rfl (Qq (Yg (r':= .bool false) (Zr0 rfl rfl) (congrArg Value.bool hc4))) ?_
     refine go 16 ⟨O,?_⟩
     exact Yq (i+1) ⟨O1,fun k h9=>by rcases Nat.lt_succ_iff_lt_or_eq.1 h9 with h8 | h8;exact hk k h8;subst h8;exact frB_0 hj hc3 hc4⟩ O1 ⟨rfl,trivial⟩ trivial
    ·refine Zor [(1,0),(2,0),(3,0),(0,1),(4,1),(5,1),(6,0),(7,0),(8,0),(9,0)] [10,11,12] 2 ?_
     refine go 3 ?_
     refine Yh (Zj 6 [] (Hk)) fun _ _=>?_
     refine Yh (Zj 7 [51,52,53] (Zc1 2 _ _ _ _ _ _ _ _ _ _ _ _ (.inr rfl) hgi ha0 ha1)) fun v_3 _=>?_
     refine Yh (Zj 7 [7] (Zjz _ _ (Gs hgi ha0 ha1 (.inr rfl)).2.2)) fun _ _=>?_
     refine Qo rfl rfl (Qq (Yg (r':= .bool true) (Zr0 rfl rfl) (congrArg Value.bool hc4))) ?_
     refine go 2 ?_
     refine Zy6 rfl rfl rfl rfl rfl (Qq (Xh (ivs:=[(0,_),(1,_)]) rfl ⟨rfl,rfl,rfl,rfl,trivial⟩ (fun a w hs=>Zup ((Zu rfl) a w hs) ((Zu rfl) a w hs)))) ?_
     refine r_y ?_
     refine Zsn (i:=10) (d3:=57) O7 rfl rfl rfl rfl rfl rfl rfl rfl rfl rfl (fun a w hs=>hY (i,3) (Zkd O hk (frB_3 hj hc3 hc4) O3) w (Ln (hs.hold 0 _ rfl))) ?_ (fun a w ht hd hJ=>wp_cond_true ht (wp_ret (Zd9 hd Tryz.results96 hJ)))
     refine Zy6 rfl rfl rfl rfl rfl (Qq (Qj rfl rfl)) ?_
     refine go 1 ?_
     exact rfl
   ·refine Zor [(1,0),(2,0),(3,0),(0,1),(4,1),(5,1),(6,0),(7,0),(8,0),(9,0)] [10,11,12] 2 ?_
    refine go 3 ?_
    refine Yh (Zj 7 [] (Zfh)) fun _ _=>?_
    refine Yh (Zj 8 [51,52,53] (Zc1 1 _ _ _ _ _ _ _ _ _ _ _ _ (.inl rfl) hgi hs0 hs1)) fun v_4 _=>?_
    refine Yh (Zj 8 [8] (Zjz _ _ (Gs hgi hs0 hs1 (.inl rfl)).2.2)) fun _ _=>?_
    refine Qo rfl rfl (Qq (Yg (r':= .bool true) (Zr0 rfl rfl) (congrArg Value.bool hc3))) ?_
    refine go 2 ?_
    refine Zy6 rfl rfl rfl rfl rfl (Qq (Xh (ivs:=[(0,_),(1,_)]) rfl ⟨rfl,rfl,rfl,rfl,trivial⟩ (fun a w hs=>Zup ((Zu rfl) a w hs) ((Zu rfl) a w hs)))) ?_
    refine r_y ?_
    refine Zsn (i:=10) (d3:=44) O7 rfl rfl rfl rfl rfl rfl rfl rfl rfl rfl (fun a w hs=>hY (i,2) (Zkd O hk (frB_2 hj hc3) O3) w (Ln (hs.hold 0 _ rfl))) ?_ (fun a w ht hd hJ=>wp_cond_true ht (wp_ret (Zd9 hd Tryz.results96 hJ)))
    refine Zy6 rfl rfl rfl rfl rfl (Qq (Qj rfl rfl)) ?_
    refine go 1 ?_
    exact rfl
 ·obtain rfl:i=ps.length:=O
  refine go 4 ?_
  exact x_endy (.inr rfl) Tryz.results96 rfl (Yen (Nat.le_refl _) hk)
theorem Zq7(v:Value)(ps:List Qu)(sp ac:Int):Cal Tryz.prog 53 #[v,.agg #[.int .i64 sp,.int .i64 ac]] [Nv 6 Ep qG v ps] true (G:=Nat×Nat) (fun g=>True) (fun g=> .func (.func 96) #[] #[.pointer (some ⟨g.1,0,none⟩),.pointer (some ⟨g.2,0,none⟩)]) (fun g=>[Fa g.1 29 #[v],Fa g.2 26 #[.int .i64 sp,.int .i64 ac]]):=by
 refine Zh Tryz.func53 Tryz.ntmps53 fun w0 sc hw hsc=>?_
 refine Zde (Pi 1 rfl Zi) (fun sl hsl=>?_)
 subst hsl
 refine go 2 ?_
 refine Ya (Yl 2) fun bx _=>?_
 refine Ya (Yl 3) fun bx_2 _=>?_
 refine go 5 ?_
 refine dt (d_mkc (vs:=[]) (us:=[_,_]) rfl trivial ⟨rfl,rfl,trivial⟩) ?_
 refine go 4 ?_
 refine Zw (Zm8 2 rfl rfl) ?_
 refine Zw (Zm8 3 rfl rfl) ?_
 exact Xa hsc (_,_) Tryz.results53 rfl trivial (Oe 2 (Oe 3 Za))
theorem Zq8(v:Value)(ps:List Qu)(sp ac:Int)(hp:∀g∈ps,Gin g)(hb:Gp ps=true)(hl:(1≤sp∧sp≤10000∧1≤ac∧ac≤10000)):Cal Tryz.prog 24 #[v,.agg #[.int .i64 sp,.int .i64 ac]] [Nv 6 Ep qG v ps] false (G:=Unit) (fun _=>True) (fun _=>firV (fiB ps sp ac)) (fun _=>[]):=by
 refine Yjb Tryz.func24 rfl Tryz.ntmps24 rfl ⟨rfl,trivial⟩ ?_
 intro w0 sc hw hsc;have hw:=Hw.mk hw
 simp only [Ox,Ob]
 refine Oc (Lp (i:=1) rfl Zi) (fun hlen=>?_)
 have hg:=Znu hp hb
 refine go 2 ?_
 refine Ya (Yl 2) fun bx _=>?_
 refine Ya (Zs 3) fun bx_2 _=>?_
 refine Ya (Zs 4) fun bx_3 _=>?_
 refine Ya (Zs 5) fun bx_4 _=>?_
 refine go 6 ?_
 refine cl 5 [1] (Zaj _ _ hp) fun _ _=>?_
 refine dt (Yg (r':= .bool false) (Qj rfl rfl) (congrArg (fun b=>Value.bool (!b)) hb)) ?_
 refine go 2 ?_
 refine Bl 5 [] (Yd6 _ _) fun _ _=>?_
 refine Dc (Yg (r':= .bool false) (Qj rfl rfl) (congrArg (fun b=>Value.bool (!b)) (decide_eq_true hl))) rfl rfl ?_
 refine go 11 ?_
 refine cl 6 [1] (Zq7 _ _ _ _) fun⟨b,b_2⟩ _=>?_
 refine go 3 ?_
 have hwa:Hw w0 ALL:=⟨fun _ _=>trivial⟩
 refine e_rf (pre:=[Fa b 29 #[v],Fa b_2 26 #[.int .i64 sp,.int .i64 ac],Nv 6 Ep qG v ps]) (φ0:=fiB ps sp ac=none) (φ1:=fun g=>fiB ps sp ac=some g) (xv:=fun x=> .agg #[.int .i64 (x.1:Int),.int .i64 x.2]) (w0:=w0) (env1:=fun x b=>[(7,.pointer (some ⟨b,0,none⟩)),(4,.pointer (some ⟨bx_2,0,none⟩)),(5,.pointer (some ⟨bx_3,0,none⟩)),(6,.pointer (some ⟨bx_4,0,none⟩))]) (H1:=fun x b=>[(0,Pg w0 (fun _=>False)),(8,box b 52 #[.int .i64 (x.1:Int),.int .i64 x.2]),(3,box bx_2 52 #[.int .i64 0,.int .i64 0]),(4,box bx_3 4 #[.bool false]),(5,box bx_4 31 #[.int .i64 0])]) (Hr:=fun x=>[(0,Pg w0 (fun _=>False)),(3,box bx_2 52 #[.int .i64 (x.1:Int),.int .i64 x.2]),(4,box bx_3 4 #[.bool true]),(5,box bx_4 31 #[.int .i64 0])]) (Hn:=[(0,Pg w0 (fun _=>False)),(3,box bx_2 52 #[.int .i64 0,.int .i64 0]),(4,box bx_3 4 #[.bool false]),(5,box bx_4 31 #[.int .i64 0])]) rfl (by intro args w;first | exact enters_of Tryz.func96 O7 rfl args w | exact Tryz.call96 args w) (li_brk v ps b b_2 sp ac hg O O O O) ?_ rfl rfl rfl rfl rfl (fun x hx l o D od=>?_) (fun x b hx l o D od=>?_) (fun h l o D od=>?_) (fun x b=>?_) (fun x=>⟨rfl,rfl⟩) ⟨rfl,rfl⟩ (fun x=>?_) ?_ (fun x=>rfl) rfl (fun x hx a w hs=>?_) (fun h a w hs=>?_)
 ·intro p hp
  simp only [List.mem_cons,List.not_mem_nil,or_false]at hp
  rcases hp with rfl | rfl | rfl
  ·exact⟨6,rfl⟩
  ·exact⟨7,rfl⟩
  ·exact⟨1,rfl⟩
 ·refine Ya (Zs 8) fun b7 _=>?_
  refine go 1 ?_
  refine go 1 ?_
  exact fun a w hs=>⟨rfl,b7,hs.weaken ⟨rfl,rfl,rfl,rfl,trivial⟩ ⟨rfl,rfl,rfl,rfl,rfl,rfl,rfl,trivial⟩⟩
 ·refine go 4 ?_
  refine go 1 ?_
  exact fun a w hs=>⟨rfl,hs.weaken trivial ⟨rfl,rfl,rfl,rfl,rfl,rfl,trivial⟩⟩
 ·refine dt (Xh (ivs:=[]) rfl trivial (fun a w hs=>b52_)) ?_
  refine go 3 ?_
  refine go 1 ?_
  exact fun a w hs=>⟨rfl,hs.weaken ⟨rfl,rfl,rfl,rfl,rfl,rfl,rfl,rfl,rfl,rfl,rfl,rfl,rfl,rfl,rfl,rfl,rfl,trivial⟩ ⟨rfl,rfl,rfl,rfl,rfl,rfl,trivial⟩⟩
 ·exact⟨.inr ⟨_,rfl,fun _ h=>h⟩,.inl rfl,.inl rfl,.inl rfl,.inl rfl,trivial⟩
 ·exact⟨⟨_,rfl,rfl,fun _ h=>h⟩,⟨_,rfl,rfl,fun _ h=>h⟩,⟨_,rfl,rfl,fun _ h=>h⟩,⟨_,rfl,rfl,fun _ h=>h⟩,trivial⟩
 ·exact⟨⟨_,rfl,rfl,fun _ h=>h⟩,⟨_,rfl,rfl,fun _ h=>h⟩,⟨_,rfl,rfl,fun _ h=>h⟩,⟨_,rfl,rfl,fun _ h=>h⟩,trivial⟩
 ·rw [hx];exact res3 hs Tryz.results24 (Hi (i:=3) rfl rfl Tryz.isAgg52 Tryz.sizeOf52 rfl) (Zbl (i:=4) rfl rfl Tryz.isAgg4) (Zbl (i:=5) rfl rfl Tryz.isAgg31)
 ·rw [h];exact res3 hs Tryz.results24 (Hi (i:=3) rfl rfl Tryz.isAgg52 Tryz.sizeOf52 rfl) (Zbl (i:=4) rfl rfl Tryz.isAgg4) (Zbl (i:=5) rfl rfl Tryz.isAgg31)
theorem Zzw(v:Value)(ps:List Qu)(sp ac:Int)(hp:∀g∈ps,Gin g)(hb:Gp ps=true)(hl:(1≤sp∧sp≤10000∧1≤ac∧ac≤10000)):Cal Tryz.prog 23 #[v,.agg #[.int .i64 sp,.int .i64 ac]] [Nv 6 Ep qG v ps] false (G:=Unit) (fun _=>True) (fun _=> .tuple #[.bool (!(fiB ps sp ac).isSome),.int .i64 0]) (fun _=>[]):=by
 refine Zh Tryz.func23 Tryz.ntmps23 fun w0 sc hw hsc=>?_
 refine go 2 ?_
 refine Ya (Yl 2) fun bx _=>?_
 refine go 8 ?_
 refine cl 2 [1] (Zq8 _ _ _ _ hp hb hl) fun _ _=>?_
 refine go 4 ?_
 refine Ya (Zs 3) fun bx_2 _=>?_
 refine go 8 ?_
 refine kt (decide_eq_true O3) ?_
 refine go 10 ?_
 exact Mi hsc () Tryz.results23 rfl trivial Za
theorem Zrg(k:Int)(hk:k=0∨k=1):Cal Tryz.prog 32 #[.int .i64 k] [] true (G:=Value×(SL×SL×SL)) (fun r=>True) (fun r=>r.1) (fun r=>[Nv 6 Ep qG r.1 [Qz k r.2]]):=by
 refine Zh Tryz.func32 Tryz.ntmps32 fun w0 sc hw hsc=>?_
 refine go 7 ?_
 refine dt (Xh (ivs:=[]) rfl trivial (fun a w hs=>b64_)) ?_
 refine dt (Xh (ivs:=[(0,_),(1,_)]) rfl ⟨rfl,rfl,rfl,rfl,trivial⟩ (fun a w hs=>b64_01 ((Zu rfl) a w hs) ((Zu rfl) a w hs))) ?_
 refine go 1 ?_
 refine cl 1 [] (Zvx 0 0 0 300 400 0 0 1000 k ⟨O3,O3⟩ ⟨O3,O3⟩ ⟨O3,O3⟩ ⟨O3,O3⟩ ⟨O3,O3⟩ ⟨O3,O3⟩) fun⟨sl,sl_2,sl_3⟩ _=>?_
 refine tt (Qg (i:=4) (ivs:=[(0,_)]) (enc:=Ep) [Qz k (sl,sl_2,sl_3)] rfl rfl ⟨rfl,rfl,trivial⟩ Tryz.underlying29 Tryz.ti24 rfl rfl (fill16 _ _ _ _ _ _ _ _ _ _ _ _) rfl rfl pG.cells rfl rfl hw.h) (fun v _=>?_)
 refine go 4 ?_
 refine Zw (Qa 4 rfl rfl pG) ?_
 refine Zw (Qi qC 71) ?_
 refine Zw (Yp (q:=qC) (z:=(Qz k (sl,sl_2,sl_3)).2.1) 71 1 71 rfl rfl rfl rfl rfl) ?_
 refine Zw (Yp (q:=qC) (z:=(Qz k (sl,sl_2,sl_3)).2.2.1) 71 2 71 rfl rfl rfl rfl rfl) ?_
 refine Zw (Yp (q:=qC) (z:=(Qz k (sl,sl_2,sl_3)).2.2.2) 71 3 71 rfl rfl rfl rfl rfl) ?_
 refine Zw (Qi qG 73) ?_
 refine Zw (Yp (q:=qG) (z:=(Qz k (sl,sl_2,sl_3))) 73 71 73 rfl rfl rfl rfl rfl) ?_
 refine Zw (Pd 4 73 72 rfl rfl rfl rfl) ?_
 exact Xa hsc (_,sl,sl_2,sl_3) Tryz.results32 rfl trivial (Oe 72 Za)
theorem Zc2(v:Value)(xs:List Int)(want:Int)(hwt:Pu want):Cal Tryz.prog 33 #[v,.int .i64 0,.int .i64 want] [Xc 2 wv v xs] false (G:=Unit) (fun _=>True) (fun _=> .bool (decide (xs=tzl [want]))) (fun _=>[]):=by
 refine Zh Tryz.func33 Tryz.ntmps33 fun w0 sc hw hsc=>?_
 have hws:∀x∈[want],Pu x:=fun x hx=>by rw [List.mem_singleton.1 hx];exact hwt
 have hsz:=Zh4 hws
 refine go 8 ?_
 refine kt (decide_eq_true O3) ?_
 refine go 3 ?_
 refine gtt (Qg (i:=2) (ivs:=[(0,_)]) (enc:=Xg) ([want]:List Int) rfl rfl ⟨rfl,rfl,trivial⟩ Tryz.underlying22 Tryz.ti3 rfl rfl rfl rfl rfl pZ.cells rfl rfl hw.h) rfl rfl rfl rfl (fun v _=>?_)
 refine Xr (Qa 2 rfl rfl pZ) ?_
 refine Bl 3 [2] (Ygz _ [want] hws O5) fun g hg=>?_
 refine Bl 4 [3] (rp_to _ _ (by rw [hg];exact(Sz.tzl hsz).mono O) (by have h7:=congrArg List.length hg;rw [Zd]at h7;have h8:=La [want];have h9:[want].length=1:=rfl;omega)) fun v_2 _=>?_
 refine Bl 4 [1,4] (Zy3 _ _ _ _) fun _ _=>?_
 refine go 5 ?_
 exact Xa hsc () Tryz.results33 (by rw [hg]) trivial Za
theorem Zj6(v:Value)(ps:List Qu)(sp ac:Int)(want:Bool)(hp:∀g∈ps,Gin g)(hb:Gp ps=true)(hl:1≤sp∧sp≤10000∧1≤ac∧ac≤10000)(hwt:(!(fiB ps sp ac).isSome)=want):Cal Tryz.prog 34 #[v,.int .i64 sp,.int .i64 ac,.bool want] [Nv 6 Ep qG v ps] false (G:=Unit) (fun _=>True) (fun _=> .bool true) (fun _=>[]):=by
 refine Zh Tryz.func34 Tryz.ntmps34 fun w0 sc hw hsc=>?_
 refine go 10 ?_
 refine dt (Xh (ivs:=[(0,_),(1,_)]) rfl ⟨rfl,rfl,rfl,rfl,trivial⟩ (fun a w hs=>Zkw ((Zu rfl) a w hs) ((Zu rfl) a w hs))) ?_
 refine cl 1 [1] (Zzw _ _ _ _ hp hb hl) fun _ _=>?_
 refine go 10 ?_
 refine kt (decide_eq_true O3) ?_
 refine go 9 ?_
 exact Xa hsc () Tryz.results34 (by rw [hwt];cases want<;>rfl) trivial Za
theorem Zzt:Fc 1 500 1 (1000-0) (Ko 0 300 1) (Ko 0 400 1) (Ko 0 0 1)=tzl [0]:=O8
theorem Zzs:Fc 1 501 1 (1000-0) (Ko 0 300 1) (Ko 0 400 1) (Ko 0 0 1)=tzl [1]:=O8
theorem Zzu:Fc 1 499 1 (1000-0) (Ko 0 300 1) (Ko 0 400 1) (Ko 0 0 1)=tzl [-1]:=O8
theorem Yhx:Fc 2 7 1 (1000-0) (Ko 0 300 1) (Ko 0 400 1) (Ko 0 0 1)=tzl [1]:=O8
abbrev S30:SL×SL×SL:=((none,0,0),(none,0,0),(none,0,0))
theorem Zbv(k:Int)(hk:k=0∨k=1)(s:SL×SL×SL):∀g∈[Qz k s],Gin g:=fun g hg=>by rw [List.mem_singleton.1 hg];exact Ml k hk s
theorem Yd3(s:SL×SL×SL):fiI (fiB [Qz 0 s] 500 10000)=0∧fiC (fiB [Qz 0 s] 500 10000)=2:=by rw [Zjy];exact⟨rfl,rfl⟩
theorem Ydz(s:SL×SL×SL):(Bw [Qz 1 s]).1=500∧(Bw [Qz 1 s]).2.1=0:=by rw [Zmf];exact⟨rfl,rfl⟩
theorem Yd0(s:SL×SL×SL):(Bw [Qz 0 s]).1=938∧(Bw [Qz 0 s]).2.1=2887:=by rw [Zmg];exact⟨rfl,rfl⟩
theorem Yd4(s:SL×SL×SL):(fiB [Qz 0 s] 500 10000).isSome=true:=by rw [Zjy];rfl
theorem Zgr:Cal Tryz.prog 10 #[] [] false (G:=Unit) (fun _=>True) (fun _=> .bool true) (fun _=>[]):=by
 refine Zh Tryz.func10 Tryz.ntmps10 fun w0 sc hw hsc=>?_
 refine go 7 ?_
 refine cl 1 [] (Zrg 1 (.inr rfl)) fun⟨v,q⟩ _=>?_
 refine cl 2 [] (Zrg 0 (.inl rfl)) fun⟨v_2,q_2⟩ _=>?_
 refine go 5 ?_
 refine Zg (Xv (g:=(Qz 1 q)) (z:=(Qz 1 q).2.1) 1 51 rfl rfl (List.mem_singleton.2 rfl) O5) ?_
 refine Zg (Xv (g:=(Qz 1 q)) (z:=(Qz 1 q).2.2.1) 1 52 rfl rfl (List.mem_singleton.2 rfl) O5) ?_
 refine Zg (Xv (g:=(Qz 1 q)) (z:=(Qz 1 q).2.2.2) 1 53 rfl rfl (List.mem_singleton.2 rfl) O5) ?_
 refine go 3 ⟨O5,?_⟩
 refine dt (Xy (ii:=1) G0 rfl rfl rfl Zi pG O5) ?_
 refine cl 3 [51,52,53] (Zbw 0 1000 1 500 _ _ _ (Ko 0 300 1) (Ko 0 400 1) (Ko 0 0 1) ⟨O3,O3⟩ ⟨O3,O3⟩ ⟨O3,O3⟩ (Ml 1 (.inr rfl) S30).x (Ml 1 (.inr rfl) S30).y (Ml 1 (.inr rfl) S30).z (Al 1 (.inr rfl)) O3 O3) fun _ _=>?_
 refine go 8 ?_
 refine Zg (Xv (g:=(Qz 1 q)) (z:=(Qz 1 q).2.1) 1 51 rfl rfl (List.mem_singleton.2 rfl) O5) ?_
 refine Zg (Xv (g:=(Qz 1 q)) (z:=(Qz 1 q).2.2.1) 1 52 rfl rfl (List.mem_singleton.2 rfl) O5) ?_
 refine Zg (Xv (g:=(Qz 1 q)) (z:=(Qz 1 q).2.2.2) 1 53 rfl rfl (List.mem_singleton.2 rfl) O5) ?_
 refine go 3 ⟨O5,?_⟩
 refine dt (Xy (ii:=1) G0 rfl rfl rfl Zi pG O5) ?_
 refine cl 4 [51,52,53] (Zbw 0 1000 1 501 _ _ _ (Ko 0 300 1) (Ko 0 400 1) (Ko 0 0 1) ⟨O3,O3⟩ ⟨O3,O3⟩ ⟨O3,O3⟩ (Ml 1 (.inr rfl) S30).x (Ml 1 (.inr rfl) S30).y (Ml 1 (.inr rfl) S30).z (Al 1 (.inr rfl)) O3 O3) fun _ _=>?_
 refine go 8 ?_
 refine Zg (Xv (g:=(Qz 1 q)) (z:=(Qz 1 q).2.1) 1 51 rfl rfl (List.mem_singleton.2 rfl) O5) ?_
 refine Zg (Xv (g:=(Qz 1 q)) (z:=(Qz 1 q).2.2.1) 1 52 rfl rfl (List.mem_singleton.2 rfl) O5) ?_
 refine Zg (Xv (g:=(Qz 1 q)) (z:=(Qz 1 q).2.2.2) 1 53 rfl rfl (List.mem_singleton.2 rfl) O5) ?_
 refine go 3 ⟨O5,?_⟩
 refine dt (Xy (ii:=1) G0 rfl rfl rfl Zi pG O5) ?_
 refine cl 5 [51,52,53] (Zbw 0 1000 1 499 _ _ _ (Ko 0 300 1) (Ko 0 400 1) (Ko 0 0 1) ⟨O3,O3⟩ ⟨O3,O3⟩ ⟨O3,O3⟩ (Ml 1 (.inr rfl) S30).x (Ml 1 (.inr rfl) S30).y (Ml 1 (.inr rfl) S30).z (Al 1 (.inr rfl)) O3 O3) fun _ _=>?_
 refine go 8 ?_
 refine Zg (Xv (g:=(Qz 1 q)) (z:=(Qz 1 q).2.1) 1 51 rfl rfl (List.mem_singleton.2 rfl) O5) ?_
 refine Zg (Xv (g:=(Qz 1 q)) (z:=(Qz 1 q).2.2.1) 1 52 rfl rfl (List.mem_singleton.2 rfl) O5) ?_
 refine Zg (Xv (g:=(Qz 1 q)) (z:=(Qz 1 q).2.2.2) 1 53 rfl rfl (List.mem_singleton.2 rfl) O5) ?_
 refine go 3 ⟨O5,?_⟩
 refine dt (Xy (ii:=1) G0 rfl rfl rfl Zi pG O5) ?_
 refine cl 6 [51,52,53] (Zd6 0 1000 1 7 _ _ _ (Ko 0 300 1) (Ko 0 400 1) (Ko 0 0 1) ⟨O3,O3⟩ ⟨O3,O3⟩ ⟨O3,O3⟩ (Ml 1 (.inr rfl) S30).x (Ml 1 (.inr rfl) S30).y (Ml 1 (.inr rfl) S30).z (Al 1 (.inr rfl)) O3 O3) fun _ _=>?_
 refine go 12 ?_
 refine cl 6 [3] (Zc2 _ _ _ ⟨O3,O3⟩) fun _ _=>?_
 refine dt (Yg (r':= .bool false) (Qj rfl rfl) (congrArg (fun b=>Value.bool (!b)) (decide_eq_true Zzt))) ?_
 refine go 3 ?_
 refine Bl 6 [4] (Zc2 _ _ _ ⟨O3,O3⟩) fun _ _=>?_
 refine Dc (Yg (r':= .bool false) (Qj rfl rfl) (congrArg (fun b=>Value.bool (!b)) (decide_eq_true Zzs))) rfl rfl ?_
 refine go 4 ?_
 refine Bl 6 [5] (Zc2 _ _ _ ⟨O3,O3⟩) fun _ _=>?_
 refine Dc (Yg (r':= .bool false) (Qj rfl rfl) (congrArg (fun b=>Value.bool (!b)) (decide_eq_true Zzu))) rfl rfl ?_
 refine go 4 ?_
 refine Bl 6 [6] (Zc2 _ _ _ ⟨O3,O3⟩) fun _ _=>?_
 refine Dc (Yg (r':= .bool false) (Qj rfl rfl) (congrArg (fun b=>Value.bool (!b)) (decide_eq_true Yhx))) rfl rfl ?_
 refine go 3 ?_
 refine Bl 6 [1] (Zj6 _ _ 500 1 true (Zbv 1 (.inr rfl) _) (Zjx _) ⟨O3,O3,O3,O3⟩ (by rw [Yd5];rfl)) fun _ _=>?_
 refine go 4 ?_
 refine Bl 6 [2] (Zj6 _ _ 500 10000 false (Zbv 0 (.inl rfl) _) (Zd5 _) ⟨O3,O3,O3,O3⟩ (by rw [Zjy];rfl)) fun _ _=>?_
 refine go 10 ?_
 refine dt (Xh (ivs:=[(0,_),(1,_)]) rfl ⟨rfl,rfl,rfl,rfl,trivial⟩ (fun a w hs=>Zkw ((Zu rfl) a w hs) ((Zu rfl) a w hs))) ?_
 refine cl 6 [2] (Zq8 _ _ 500 10000 (Zbv 0 (.inl rfl) _) (Zd5 _) ⟨O3,O3,O3,O3⟩) fun _ _=>?_
 refine go 4 ?_
 refine Ya (Zs 7) fun bx _=>?_
 refine go 8 ?_
 refine cl 7 [1] (Ztt _ _ (Zbv 1 (.inr rfl) _) (Zjx _)) fun _ _=>?_
 refine go 3 ?_
 refine Ya (Zs 8) fun bx_2 _=>?_
 refine go 7 ?_
 refine cl 8 [2] (Ztt _ _ (Zbv 0 (.inl rfl) _) (Zd5 _)) fun _ _=>?_
 refine go 3 ?_
 refine Ya (Zs 9) fun bx_3 _=>?_
 refine go 8 ?_
 refine kf (decide_eq_false O3) ?_
 refine go 2 ?_
 refine Dc (Yg (r':= .bool false) (Qj rfl rfl) (congrArg (fun b=>Value.bool (!b)) (Yd4 _))) rfl rfl ?_
 refine go 3 ?_
 refine Dc (Xh (ivs:=[(1,_)]) rfl ⟨rfl,rfl,trivial⟩ (fun a w hs=>b52_1 ((Zu rfl) a w hs))) rfl rfl ?_
 refine Dc (Yg (r':= .bool false) (Zdr rfl rfl rfl eg52 (fun w=>neB52 w _ _ _ _)) (congrArg (fun b=>Value.bool (!b)) (decide_eq_true (Yd3 _)))) rfl rfl ?_
 refine go 3 ?_
 refine kfg (decide_eq_false (by rw [Zmf];decide)) ?_
 refine go 3 ?_
 refine kfg (decide_eq_false (by rw [Zmg];decide)) ?_
 refine go 3 ?_
 refine Dc (Xh (ivs:=[(0,_)]) rfl ⟨rfl,rfl,trivial⟩ (fun a w hs=>b26_0 ((Zu rfl) a w hs))) rfl rfl ?_
 refine Dc (Yg (r':= .bool false) (Zdr rfl rfl rfl Yie (fun w=>neB26 w _ _ _ _)) (congrArg (fun b=>Value.bool (!b)) (decide_eq_true (Ydz _)))) rfl rfl ?_
 refine go 3 ?_
 refine Dc (Xh (ivs:=[(0,_),(1,_)]) rfl ⟨rfl,rfl,rfl,rfl,trivial⟩ (fun a w hs=>Zkw ((Zu rfl) a w hs) ((Zu rfl) a w hs))) rfl rfl ?_
 refine Dc (Yg (r':= .bool false) (Zdr rfl rfl rfl Yie (fun w=>neB26 w _ _ _ _)) (congrArg (fun b=>Value.bool (!b)) (decide_eq_true (Yd0 _)))) rfl rfl ?_
 refine go 8 ?_
 refine dt (Xh (ivs:=[]) rfl trivial (fun a w hs=>b64_)) ?_
 refine dt (Xh (ivs:=[]) rfl trivial (fun a w hs=>b64_)) ?_
 refine cl 10 [] (Zvx 0 0 0 0 0 0 1000 2000 2 ⟨O3,O3⟩ ⟨O3,O3⟩ ⟨O3,O3⟩ ⟨O3,O3⟩ ⟨O3,O3⟩ ⟨O3,O3⟩) fun⟨sl,sl_2,sl_3⟩ _=>?_
 refine Ya (Zs 13) fun bx_4 _=>?_
 refine go 4 ?_
 refine Zg (Xv (g:=(Qz 1 q)) (z:=(Qz 1 q).2.1) 1 51 rfl rfl (List.mem_singleton.2 rfl) O5) ?_
 refine Zg (Xv (g:=(Qz 1 q)) (z:=(Qz 1 q).2.2.1) 1 52 rfl rfl (List.mem_singleton.2 rfl) O5) ?_
 refine Zg (Xv (g:=(Qz 1 q)) (z:=(Qz 1 q).2.2.2) 1 53 rfl rfl (List.mem_singleton.2 rfl) O5) ?_
 refine Xx (fun _=>False) [(0,0),(1,0),(2,0),(3,0),(4,1),(5,0),(6,0),(7,0),(8,0),(9,3)] ?_
 refine go 2 ⟨O5,?_⟩
 refine Qo rfl rfl (Qq (Xy (ii:=1) G0 rfl rfl rfl Zi pG O5)) ?_
 refine go 1 ?_
 refine Yh (Zj 13 [51,52,53,10,11,12] (Zhj 0 1000 1 1000 2000 1 _ _ _ _ _ _ (Ko 0 300 1) (Ko 0 400 1) (Ko 0 0 1) (Ko 0 0 2) (Ko 0 0 2) (Ko 0 0 2) ⟨O3,O3⟩ ⟨O3,O3⟩ ⟨O3,O3⟩ (Ml 1 (.inr rfl) S30).x (Ml 1 (.inr rfl) S30).y (Ml 1 (.inr rfl) S30).z ⟨O3,O3⟩ ⟨O3,O3⟩ ⟨O3,O3⟩ (Zck S30).x (Zck S30).y (Zck S30).z (Al 1 (.inr rfl)) Zp0 rfl)) fun _ _=>?_
 refine go 8 ?_
 refine Zg (Xv (g:=(Qz 0 q_2)) (z:=(Qz 0 q_2).2.1) 2 51 rfl rfl (List.mem_singleton.2 rfl) O5) ?_
 refine Zg (Xv (g:=(Qz 0 q_2)) (z:=(Qz 0 q_2).2.2.1) 2 52 rfl rfl (List.mem_singleton.2 rfl) O5) ?_
 refine Zg (Xv (g:=(Qz 0 q_2)) (z:=(Qz 0 q_2).2.2.2) 2 53 rfl rfl (List.mem_singleton.2 rfl) O5) ?_
 refine Xx (fun _=>False) [(0,0),(1,0),(2,0),(3,0),(4,1),(5,0),(6,0),(7,0),(8,0),(9,3)] ?_
 refine go 2 ⟨O5,?_⟩
 refine Qo rfl rfl (Qq (Xy (ii:=2) G0 rfl rfl rfl Zi pG O5)) ?_
 refine go 1 ?_
 refine Yh (Zj 13 [51,52,53,10,11,12] (Zhj 0 1000 1 1000 2000 1 _ _ _ _ _ _ (Ko 0 300 0) (Ko 0 400 0) (Ko 0 0 0) (Ko 0 0 2) (Ko 0 0 2) (Ko 0 0 2) ⟨O3,O3⟩ ⟨O3,O3⟩ ⟨O3,O3⟩ (Ml 0 (.inl rfl) S30).x (Ml 0 (.inl rfl) S30).y (Ml 0 (.inl rfl) S30).z ⟨O3,O3⟩ ⟨O3,O3⟩ ⟨O3,O3⟩ (Zck S30).x (Zck S30).y (Zck S30).z (Al 0 (.inl rfl)) Zp0 rfl)) fun _ _=>?_
 refine go 10 ?_
 refine dt (Yg (r':= .bool true) (Qj rfl rfl) (congrArg (fun b=>Value.bool (!b)) Yd1)) ?_
 refine go 2 ?_
 refine kt Yd2 ?_
 refine go 2 ?_
 refine ktg (decide_eq_true O3) ?_
 refine go 3 ?_
 refine ktg (decide_eq_true O3) ?_
 refine go 5 ?_
 exact Xa hsc () Tryz.results10 rfl trivial Za
theorem Ycl(v:Value)(l:List Int)(hl:∀x∈l,Pu x)(hlen:l.length≤1000):Cal Tryz.prog 86 #[v] [Xc 1 Xg v l] true (G:=Value×List (Int×SL)) (fun r=>Zb r.2=tzl l) (fun r=>r.1) (fun r=>[pp r.1 r.2]):=by
 refine Zh Tryz.func86 Tryz.ntmps86 fun w0 sc hw hsc=>?_
 have hsz:=Zh4 hl
 refine go 17 ?_
 refine Zg (Px 70 2 77 Nr) ?_
 refine Zg (Qi qI 71) ?_
 refine lp (G:=Nat×Value×List (Int×SL)) [0] [0,1] (fun q=>[(4,.int .i64 (q.1:Int)),(3,q.2.1)]) (fun q=>[(70,Ns 2 77 Nr q.2.1 q.2.2),(71,Hy qI q.2.2)]) (fun q=>(q.1≤l.length)∧(Zb q.2.2=mk q.1 (cf l))∧(q.2.2.length=q.1)) (fun q=>l.length-q.1) (0,.slice none 0 0,[]) ⟨O1,rfl,rfl⟩ ⟨rfl,rfl,trivial⟩ ⟨rfl,rfl,trivial⟩ ?_
 rintro⟨i,vo,ws⟩ ⟨hi,hz,hzl⟩
 dsimp only at hi hz hzl
 dsimp only
 refine go 9 ?_
 refine Zc rfl (fun h26=>?_) (fun h26=>?_)
 ·refine go 8 ?_
  refine dt (Zy (ii:=1) (i:=i) rfl rfl rfl rfl Zn Tryz.underlying22 Tryz.sizeOf3 rfl) ?_
  refine go 1 ⟨O,?_⟩
  refine cl 2 [] (Nm _ (hl _ (Zf))) fun v _=>?_
  refine Yd9 (Pi 2 rfl Zn) (fun sl hsl=>?_)
  subst hsl
  refine tt (Qg (i:=3) (ivs:=[(0,_)]) (enc:=Nr) [(l.getD i 0,sl)] rfl rfl ⟨rfl,rfl,trivial⟩ Tryz.underlying46 Tryz.ti77 rfl rfl rfl rfl rfl pI.cells rfl rfl hw.h) (fun v_2 _=>?_)
  refine tt (Lk (i:=70) (j:=3) (by_:=32) rfl rfl rfl rfl rfl rfl O3 rfl (Yw pI) Tryz.underlying46 Tryz.ti77 rfl pI rfl rfl rfl O9 O3 rfl hw.h) (fun v_3 _=>?_)
  refine go 9 ⟨O,?_⟩
  refine Zw (Yp (q:=qI) (z:=(l.getD i 0,sl)) 71 2 71 rfl rfl rfl rfl rfl) ?_
  exact Yq (i+1,_,ws ++ [(l.getD i 0,sl)]) ⟨O1,by rw [Mg,Gr,hz];dsimp only;rfl,by simp [hzl]⟩ O1 ⟨rfl,rfl,trivial⟩ ⟨rfl,rfl,trivial⟩
 ·refine go 6 ?_
  refine Zg (Qa 70 rfl rfl pI) ?_
  refine Zg (Pd 70 71 72 rfl rfl rfl rfl) ?_
  refine go 2 ?_
  refine cl 4 [72] (Ip _ _ (by rw [hz];exact Cp fun t ht=>by have:=hsz t;omega)) fun g hg=>?_
  refine go 4 ?_
  exact Xa hsc _ Tryz.results86 rfl (by rw [hg,hz,show i=l.length by omega,Zfg]) (Oe 4 Za)
theorem Nk(n j:Int)(k:Nat)(hj:j=(k:Int))(hn:Pu n)(hk:k≤4):Cal Tryz.prog 90 #[.int .i64 n,.int .i64 j] [] true (G:=Value) (fun r=>True) (fun r=> .agg #[.bool (decide (n^k<0)),r]) (fun r=>[Om r (n^k).natAbs]):=by
 refine Zh Tryz.func90 Tryz.ntmps90 fun w0 sc hw hsc=>?_
 have hbn:=Kf hn
 have hpb:=fun k=>Dg hbn k
 refine go 2 ?_
 refine Ya (Zs 1) fun bx _=>?_
 refine go 4 ?_
 refine cl 98 [] (Nm 1 ⟨O3,O3⟩) fun v _=>?_
 refine Ya (Zs 97) fun bx_2 _=>?_
 refine go 10 ?_
 refine lp (G:=Nat×Value) [0,1,4,5] [0,1] (fun q=>[(6,.int .i64 (q.1:Int))]) (fun q=>[(97,box bx_2 77 #[.bool (decide (n^q.1<0)),q.2]),(98,Om q.2 (n^q.1).natAbs)]) (fun q=>q.1≤k) (fun q=>k-q.1) (0,_) O1 ⟨rfl,trivial⟩ ⟨by rw [Int.pow_zero];rfl,by rw [Int.pow_zero];rfl,trivial⟩ ?_
 rintro⟨i,vs⟩ hi
 dsimp only at hi
 dsimp only
 have hp1:=hpb i
 refine go 8 ?_
 refine Zc rfl (fun h31=>?_) (fun h31=>?_)
 ·refine go 4 ?_
  refine Xx (fun _=>False) [(0,0),(1,0),(2,1),(3,1),(4,3)] ?_
  refine go 2 ?_
  refine Yh (Zj 2 [] (Nm n hn)) fun v_2 _=>?_
  refine Yh (Zj 3 [98,2] (Ot _ _ (n^i) n)) fun v_3 _=>?_
  refine go 9 ⟨O,?_⟩
  refine Zw (Xe 3 98 rfl rfl rfl) ?_
  exact Yq (i+1,v_3) O1 O1 ⟨rfl,trivial⟩ ⟨by rw [Int.pow_succ];rfl,by rw [Int.pow_succ];rfl,trivial⟩
 ·obtain rfl:i=k:=O
  refine go 12 ?_
  exact Xa hsc _ Tryz.results90 rfl trivial (Oe 98 Za)
def Ze1(o:Nat)(x y z:List Int):Nat→List Int
 | 0=>[]
 | i+1=>Bq (Ze1 o x y z i) (Xq (dN o (tzl (Ym i x y z))) (dN o (tzl (Ym i x y z))))
def Oz(o:Nat)(m ov T:Int):Int:=m^2*ov^2*T^(2*o)
def Zbp(o:Nat)(m ov T:Int)(x y z:List Int):List Int:=Gj (tzl [Oz o m ov T]) (Zv (Ze1 o x y z 3) (1000^(2*o)))
theorem ps_Cm(a b:Int):PS.C (a*b)=PS.C a*PS.C b:=PS.ext' fun i=>by rw [PS.C_mul_c];cases i<;>simp [PS.C]
theorem Zlw(p:List Int)(k:Int):Xq (Zv p k) (Zv p k)=Zv (Xq p p) (k*k):=(Qc _ _).ps_inj (Xp _ _) (by
 rw [Znn,Zl5,Zl5,Znn,ps_Cm];grind)
theorem Zyv(p q:List Int)(k:Int):Zv (Bq p q) k=Bq (Zv p k) (Zv q k):=(Xp _ _).ext (Zu0 _ _) fun i=>by
 rw [Yj,Zda,Zda,Yj,Yj,Int.add_mul]
theorem Dj(o:Nat)(x y z:List Int):∀n,Zv (Ze1 o x y z n) (1000^(2*o))=Cg o x y z n
 | 0=>rfl
 | n+1=>by
  show Zv (Bq _ _) _=Bq _ _
  rw [Zyv,Dj o x y z n]
  unfold sqQ axQ
  rw [Zlw,←Int.pow_add,show 2*o=o+o by omega]
theorem Zvo(o:Nat)(m ov T:Int):tzl [Oz o m ov T]=Xq (Ie o m ov T) (Ie o m ov T):=by
 unfold Ie
 rw [Zlw]
 have e1:Xq [1] [1]=[1]:=O3
 have e2:Zdc o m ov T*Zdc o m ov T=Oz o m ov T:=by
  unfold Zdc Oz
  show(m*(ov*Qh (List.replicate o T)))*(m*(ov*Qh (List.replicate o T)))=_
  rw [Zvn,show 2*o=o+o by omega,Int.pow_add]
  grind
 rw [e1,e2]
 unfold Zv
 rw [List.map_cons,List.map_nil,Int.one_mul]
theorem Eg(o:Nat)(m ov T:Int)(x y z:List Int):Zr (Zbp o m ov T x y z)=Fc o m ov T x y z:=by
 unfold Fc Zbp
 rw [Dj,Zvo]
theorem Zng{c:List Int}(h:∀a∈c,Pu a)(hl:c.length≤6){o:Nat}(ho:o=1∨o=2) :
  Sz 100 (dN o (tzl c))∧(dN o (tzl c)).length≤6∧Ab ((6-o)*(Mk o*Mk o)) (Xq (dN o (tzl c)) (dN o (tzl c)))∧(Xq (dN o (tzl c)) (dN o (tzl c))).length≤11:=by
 obtain⟨h1,h2,h3⟩:=Zxk h hl o O
 have lS:=Zob h1 h1 h2 h2
 exact⟨(h3.sz Yf1).mono O,O,Zut h3 h3 h2,O⟩
theorem Dk{fr to ov:Int}{x y z:List Int}(h:Sgo fr to ov x y z){o:Nat}(ho:o=1∨o=2):∀i,Ab (i*((6-o)*(Mk o*Mk o))) (Ze1 o x y z i)∧(Ze1 o x y z i).length≤11
 | 0=>⟨fun i=>by show(cf [] i).natAbs≤_;rw [Yb O5];exact Nat.zero_le _,Nat.zero_le _⟩
 | i+1=>by
  obtain⟨a,b⟩:=Dk h ho i
  obtain⟨-,-,c,d⟩:=Zng (h.hc i) (h.lc i).2 ho
  exact⟨by rw [Nat.succ_mul];exact Yfz a c,Zwp b d⟩
theorem Zan{fr to ov:Int}{x y z:List Int}(h:Sgo fr to ov x y z){o:Nat}(ho:o=1∨o=2){i:Nat}(hi:i≤3):Sz 160 (Ze1 o x y z i):=
 (Dk h ho i).1.sz (Nat.lt_of_le_of_lt (Nat.mul_le_mul_right _ hi) (by rcases ho with rfl | rfl<;>decide))
theorem Yg6{c:List Int}(h:∀a∈c,Pu a)(hl:c.length≤6){o:Nat}(ho:o=1∨o=2):Sz 160 (Xq (dN o (tzl c)) (dN o (tzl c))):=
 (Zng h hl ho).2.2.1.sz (by rcases ho with rfl | rfl<;>decide)
theorem refC_b{fr to ov m:Int}{x y z:List Int}(h:Sgo fr to ov x y z)(h0:0≤m)(h1:m≤10000){o:Nat}(ho:o=1∨o=2) :
  bl (m^2).natAbs≤200∧bl (ov^2).natAbs≤200∧bl (m^2*ov^2).natAbs≤400∧bl ((to-fr)^(2*o)).natAbs≤400∧bl (Oz o m ov (to-fr)).natAbs≤900∧bl ((1000:Int)^(2*o)).natAbs≤100:=by
 have a1:=h.t1
 have a2:=h.t2
 have a3:=h.t3
 have a4:=h.o1
 have a5:=h.o2
 have m1:bl m.natAbs≤20:=(Xn 20 _).2 O
 have o1:bl ov.natAbs≤40:=(Xn 40 _).2 O
 have t1:bl (to-fr).natAbs≤40:=(Xn 40 _).2 O
 have m2:=Iw m m1 2 O
 have o2:=Iw ov o1 2 O
 have t2:=Iw (to-fr) t1 (2*o) O
 have k2:=Iw 1000 (m:=10) O3 (2*o) O
 have p:=Yd (m^2) (ov^2)
 have q:=Yd (m^2*ov^2) ((to-fr)^(2*o))
 have:2*o≤4:=O
 have:2*o*40≤4*40:=Nat.mul_le_mul_right _ this
 have:2*o*10≤4*10:=Nat.mul_le_mul_right _ O
 exact⟨O,O,O,O,by unfold Oz;omega,O⟩
theorem Er{c:Int}{n:Nat}(h:bl c.natAbs≤n):Sz n [c]:=Sz.of_mem fun t ht=>by rw [List.mem_singleton.1 ht];exact h
theorem Zcs{fr to ov m:Int}{x y z:List Int}(h:Sgo fr to ov x y z)(h0:0≤m)(h1:m≤10000){o:Nat}(ho:o=1∨o=2) :
  Sz 65536 (Zbp o m ov (to-fr) x y z)∧(Zbp o m ov (to-fr) x y z).length≤26∧(Zbp o m ov (to-fr) x y z≠[]→Yk (Zbp o m ov (to-fr) x y z)≠0):=by
 have hv:Vp (Zbp o m ov (to-fr) x y z):=by unfold Zbp;rw [Dj,Zvo];exact(Gs h h0 h1 ho).2.1
 exact⟨hv.sz,Nat.le_trans hv.len O3,fun hn=>hv.ne hn⟩
theorem Ae{o:Nat}{m ov T:Int}{x y z:List Int}(h:(Zbp o m ov T x y z).length=0):Fc o m ov T x y z=[]:=by
 rw [←Eg,List.eq_nil_of_length_eq_zero h];rfl
theorem Ycj(fr to ov:Int)(sx sy sz:SL)(x y z:List Int)(m:Int)(o:Nat)(hS:Sgo fr to ov x y z)(ho:o=1∨o=2)(h0:0≤m)(h1:m≤10000):Cal Tryz.prog 51 #[.agg #[.int .i64 fr,.int .i64 to,.int .i64 ov,Mb sx,Mb sy,Mb sz],.int .i64 m,.int .i64 (o:Int)] [Xc 1 Xg (Mb sx) x,Xc 1 Xg (Mb sy) y,Xc 1 Xg (Mb sz) z] true (G:=Value×List (Int×SL)) (fun r=>Zb r.2=Fc o m ov (to-fr) x y z) (fun r=>r.1) (fun r=>[pp r.1 r.2]):=by
 refine Zh Tryz.func51 Tryz.ntmps51 fun w0 sc hw hsc=>?_
 have ho1:=hS.o1
 have ho2:=hS.o2
 have ht1:=hS.t1
 have ht2:=hS.t2
 have ht3:=hS.t3
 obtain⟨c1,c2,c3,c4,c5,c6⟩:=refC_b hS h0 h1 ho
 refine go 2 ?_
 refine Ya (Yl 4) fun bx _=>?_
 refine go 11 ?_
 refine cl 5 [1,2,3] (Cm _ _ _ _ _ _ _ _ _) fun v _=>?_
 refine go 10 ?_
 refine Zg (Mh 80) ?_
 refine lp (G:=Nat×Value×List (Int×SL)) [1,2,3,8] [0,1,2,3,4,5] (fun q=>[(9,.int .i64 (q.1:Int)),(7,q.2.1)]) (fun q=>[(80,pp q.2.1 q.2.2)]) (fun q=>(q.1≤3)∧(Zb q.2.2=Ze1 o x y z q.1)) (fun q=>3-q.1) (0,_,[]) ⟨O1,rfl⟩ ⟨rfl,rfl,trivial⟩ ⟨rfl,trivial⟩ ?_
 rintro⟨i,vs,zs⟩ ⟨hi,hs⟩
 dsimp only at hi hs
 dsimp only
 have hc:=hS.hc i
 have hlc:=hS.lc i
 have hzl:=Zd zs
 have hr1:=(Dk hS ho i).2
 rw [←hs]at hr1
 obtain⟨hm1,hm2,-,hm4⟩:=Zng hc hlc.2 ho
 refine go 7 ?_
 refine Zc rfl (fun h41=>?_) (fun h41=>?_)
 ·refine go 5 ?_
  refine Zg (Ci 5 40 ([(sx,x),(sy,y),(sz,z)].getD i C0) rfl rfl (Zf (show i<3 by omega)) rfl) ?_
  refine Zg (Ia 40 (q:=Xc 1 Xg (Mb ([(sx,x),(sy,y),(sz,z)].getD i C0).1) (Ym i x y z)) (congrArg (Xc 1 Xg _) (Zip O)) rfl rfl) ?_
  refine go 3 ?_
  refine dt (Zy (ii:=5) (i:=i) rfl rfl rfl rfl Zi Tryz.underlying80 Tryz.sizeOf22 rfl (show i<3 by omega)) ?_
  refine dt (Xy (ii:=5) C0 rfl rfl rfl Zi pC (show i<3 by omega)) ?_
  refine cl 81 [40] (Ycl _ (Ym i x y z) hc O) fun g hg=>?_
  refine go 10 ?_
  refine lp (G:=Nat×Value×List (Int×SL)) [1,2,3,7,8,9] [0,80,1,2,3,4,5,40] (fun q=>[(11,.int .i64 (q.1:Int)),(10,q.2.1)]) (fun q=>[(81,pp q.2.1 q.2.2)]) (fun q=>(q.1≤o)∧(Zb q.2.2=dN q.1 (tzl (Ym i x y z)))) (fun q=>o-q.1) (0,_,g.2) ⟨O1,hg⟩ ⟨rfl,rfl,trivial⟩ ⟨rfl,trivial⟩ ?_
  rintro⟨k,vp,qs⟩ ⟨hk,hq⟩
  dsimp only at hk hq
  dsimp only
  have hql:=Zd qs
  have hqk:=(Zxk hc hlc.2 k O).2.1
  rw [←hq]at hqk
  refine go 8 ?_
  refine Zc rfl (fun h43=>?_) (fun h43=>?_)
  ·refine go 6 ?_
   refine cl 81 [81] (Zcp _ _ (by rw [hq];exact(Zxj hc hlc.2 O).1.sz.mono O)) fun g_2 hg_2=>?_
   refine go 9 ⟨O,?_⟩
   exact Yq (k+1,_,g_2.2) ⟨O1,hg_2.trans (by rw [hq]<;>rfl)⟩ O1 ⟨rfl,rfl,trivial⟩ ⟨rfl,trivial⟩
  ·obtain rfl:k=o:=O
   refine go 9 ?_
   refine cl 6 [81,81] (Yb0 _ _ _ _ (by rw [hq];exact hm1.mono O) (by rw [hq];exact hm1.mono O)) fun g_3 hg_3=>?_
   have hml9:=congrArg List.length hg_3
   rw [Zd]at hml9
   refine cl 80 [80,6] (Yb1 _ _ _ _ (by rw [hs];exact(Zan hS ho O).mono O) O (by rw [hg_3,hq];exact(Yg6 hc hlc.2 ho).mono O) (by rw [hml9,hq];omega)) fun g_4 hg_4=>?_
   refine go 9 ⟨O,?_⟩
   exact Yq (i+1,_,g_4.2) ⟨O1,hg_4.trans (by rw [hs,hg_3,hq]<;>rfl)⟩ O1 ⟨rfl,rfl,trivial⟩ ⟨rfl,trivial⟩
 ·obtain rfl:i=3:=O
  refine go 6 ?_
  refine Fw (fun _=>False) [16] ?_
  refine Zl (n:=7) [(0,0),(2,0),(3,0),(6,0),(7,0),(8,0),(9,0),(10,0),(11,0),(12,0)] ?_
  refine go 11 ⟨O,O,?_⟩
  refine Qp (n:=6) 1 15 ?_ ?_
  ·refine Nb (Zj 7 [] (Nk m 2 2 rfl ⟨O,O⟩ O3)) fun v_2 _=>?_
   refine Qp (n:=5) 4 15 ?_ ?_
   ·refine Nb (Zj 8 [] (Nk ov 2 2 rfl ⟨O,O⟩ O3)) fun v_3 _=>?_
    refine Qp (n:=4) 5 15 ?_ ?_
    ·refine Nb (Zj 9 [7,8] (Ot _ _ (m^2) (ov^2))) fun v_4 _=>?_
     refine Qp (n:=3) 13 15 ?_ ?_
     ·refine Nb (Zj 10 [] (Nk (to-fr) _ (2*o) (by push_cast;rfl) ⟨O,O⟩ O)) fun v_5 _=>?_
      refine Qp (n:=2) 14 15 ?_ ?_
      ·refine Nb (Zj 11 [9,10] (Ot _ _ (m^2*ov^2) ((to-fr)^(2*o)))) fun v_6 _=>?_
       refine Zl (n:=0) [(15,1),(16,3)] ?_
       refine Yh (Zs 12) fun bx_2 _=>?_
       refine go 2 ?_
       refine Zp ?_
       refine go 2 ?_
       refine Zde (Pi 11 rfl Zn) (fun slc hslc=>?_)
       subst hslc
       refine go 2 ?_
       refine tt (Qg (i:=13) (ivs:=[(0,_)]) (enc:=Nr) [((Oz o m ov (to-fr)),slc)] rfl rfl ⟨rfl,rfl,trivial⟩ Tryz.underlying46 Tryz.ti77 rfl rfl rfl rfl rfl pI.cells rfl rfl hw.h) (fun v_7 _=>?_)
       refine Xr (Qa 13 rfl rfl pI) ?_
       refine Xr (Qi qI 71) ?_
       refine Xr (Yp (q:=qI) (z:=((Oz o m ov (to-fr)),slc)) 71 11 71 rfl rfl rfl rfl rfl) ?_
       refine Xr (Pd 13 71 72 rfl rfl rfl rfl) ?_
       refine cl 14 [72] (Ip _ [((Oz o m ov (to-fr)),slc)] (show Sz 3000000000 [(Oz o m ov (to-fr))]from Er O)) fun g_5 hg_5=>?_
       have htr9:g_5.2.length=(tzl [(Oz o m ov (to-fr))]).length:=(Zd _).symm.trans (congrArg List.length hg_5)
       have htl9:(tzl [(Oz o m ov (to-fr))]).length≤1:=La [(Oz o m ov (to-fr))]
       refine go 3 ⟨O,?_⟩
       refine cl 15 [] (Nk 1000 _ (2*o) (by push_cast;rfl) ⟨O3,O3⟩ O) fun v_8 _=>?_
       refine cl 16 [80,15] (Ib _ _ zs (1000^(2*o)) (by rw [hs];exact(Zan hS ho O).mono O)) fun g_6 hg_6=>?_
       have hsc9:=congrArg List.length hg_6
       rw [Zd,hs]at hsc9
       have hsl8:=(Dk hS ho 3).2
       have hsl9:=Of (Ze1 o x y z 3) (1000^(2*o))
       refine cl 17 [14,16] (Bp _ _ _ _ (by rw [hg_5];exact Sz.tzl (show Sz 1000000 [(Oz o m ov (to-fr))]from Er O)) (by rw [hg_6,hs,Dj];exact((Fr hS ho 3 O).2.2.2.1).mono O)) fun g_7 hg_7=>?_
       have hFF:Zb g_7.2=Zbp o m ov (to-fr) x y z:=hg_7.trans (by rw [hg_5,hg_6,hs];rfl)
       have hFl:=congrArg List.length hFF
       rw [Zd]at hFl
       obtain⟨hF1,hF2,hF3⟩:=Zcs hS h0 h1 ho
       refine go 11 ?_
       refine Zc rfl (fun h51=>?_) (fun h51=>?_)
       ·refine go 7 ?_
        refine Zw (Mh 62) ?_
        exact Xa hsc (.slice none 0 0,[]) Tryz.results51 rfl (by rw [Ae (by rw [←hFF,Zd];omega)];rfl) (Oe 62 Za)
       ·refine go 5 ?_
        refine cl 18 [17] (Oj _ _ (by rw [hFF];exact hF1.mono O) (fun h=>by rw [hFF];exact hF3 (fun e=>h (by rw [hFl,e];rfl)))) fun g_8 hg_8=>?_
        refine go 4 ?_
        exact Xa hsc _ Tryz.results51 rfl (by rw [hg_8,hFF,Eg]) (Oe 18 Za)
      ·refine Nb (Zs 19) fun bx_3 _=>?_
       refine Zl (n:=0) [(14,1),(16,3)] ?_
       refine Yh (Zj 20 [9,10] (Ot _ _ (m^2*ov^2) ((to-fr)^(2*o)))) fun v_9 _=>?_
       refine go 2 ?_
       refine Zp ?_
       refine go 2 ?_
       refine Zde (Pi 20 rfl Zn) (fun slc hslc=>?_)
       subst hslc
       refine go 2 ?_
       refine tt (Qg (i:=21) (ivs:=[(0,_)]) (enc:=Nr) [((Oz o m ov (to-fr)),slc)] rfl rfl ⟨rfl,rfl,trivial⟩ Tryz.underlying46 Tryz.ti77 rfl rfl rfl rfl rfl pI.cells rfl rfl hw.h) (fun v_10 _=>?_)
       refine Xr (Qa 21 rfl rfl pI) ?_
       refine Xr (Qi qI 71) ?_
       refine Xr (Yp (q:=qI) (z:=((Oz o m ov (to-fr)),slc)) 71 20 71 rfl rfl rfl rfl rfl) ?_
       refine Xr (Pd 21 71 72 rfl rfl rfl rfl) ?_
       refine cl 22 [72] (Ip _ [((Oz o m ov (to-fr)),slc)] (show Sz 3000000000 [(Oz o m ov (to-fr))]from Er O)) fun g_9 hg_9=>?_
       have htr9:g_9.2.length=(tzl [(Oz o m ov (to-fr))]).length:=(Zd _).symm.trans (congrArg List.length hg_9)
       have htl9:(tzl [(Oz o m ov (to-fr))]).length≤1:=La [(Oz o m ov (to-fr))]
       refine go 3 ⟨O,?_⟩
       refine cl 23 [] (Nk 1000 _ (2*o) (by push_cast;rfl) ⟨O3,O3⟩ O) fun v_11 _=>?_
       refine cl 24 [80,23] (Ib _ _ zs (1000^(2*o)) (by rw [hs];exact(Zan hS ho O).mono O)) fun g_10 hg_10=>?_
       have hsc9:=congrArg List.length hg_10
       rw [Zd,hs]at hsc9
       have hsl8:=(Dk hS ho 3).2
       have hsl9:=Of (Ze1 o x y z 3) (1000^(2*o))
       refine cl 25 [22,24] (Bp _ _ _ _ (by rw [hg_9];exact Sz.tzl (show Sz 1000000 [(Oz o m ov (to-fr))]from Er O)) (by rw [hg_10,hs,Dj];exact((Fr hS ho 3 O).2.2.2.1).mono O)) fun g_11 hg_11=>?_
       have hFF:Zb g_11.2=Zbp o m ov (to-fr) x y z:=hg_11.trans (by rw [hg_9,hg_10,hs];rfl)
       have hFl:=congrArg List.length hFF
       rw [Zd]at hFl
       obtain⟨hF1,hF2,hF3⟩:=Zcs hS h0 h1 ho
       refine go 11 ?_
       refine Zc rfl (fun h51_2=>?_) (fun h51_2=>?_)
       ·refine go 7 ?_
        refine Zw (Mh 62) ?_
        exact Xa hsc (.slice none 0 0,[]) Tryz.results51 rfl (by rw [Ae (by rw [←hFF,Zd];omega)];rfl) (Oe 62 Za)
       ·refine go 5 ?_
        refine cl 26 [25] (Oj _ _ (by rw [hFF];exact hF1.mono O) (fun h=>by rw [hFF];exact hF3 (fun e=>h (by rw [hFl,e];rfl)))) fun g_12 hg_12=>?_
        refine go 4 ?_
        exact Xa hsc _ Tryz.results51 rfl (by rw [hg_12,hFF,Eg]) (Oe 26 Za)
     ·refine Nb (Zs 27) fun bx_4 _=>?_
      refine Zl (n:=0) [(13,1),(14,1),(16,3)] ?_
      refine Yh (Zj 28 [] (Nk (to-fr) _ (2*o) (by push_cast;rfl) ⟨O,O⟩ O)) fun v_12 _=>?_
      refine Yh (Zj 29 [9,28] (Ot _ _ (m^2*ov^2) ((to-fr)^(2*o)))) fun v_13 _=>?_
      refine go 2 ?_
      refine Zp ?_
      refine go 2 ?_
      refine Zde (Pi 29 rfl Zn) (fun slc hslc=>?_)
      subst hslc
      refine go 2 ?_
      refine tt (Qg (i:=30) (ivs:=[(0,_)]) (enc:=Nr) [((Oz o m ov (to-fr)),slc)] rfl rfl ⟨rfl,rfl,trivial⟩ Tryz.underlying46 Tryz.ti77 rfl rfl rfl rfl rfl pI.cells rfl rfl hw.h) (fun v_14 _=>?_)
      refine Xr (Qa 30 rfl rfl pI) ?_
      refine Xr (Qi qI 71) ?_
      refine Xr (Yp (q:=qI) (z:=((Oz o m ov (to-fr)),slc)) 71 29 71 rfl rfl rfl rfl rfl) ?_
      refine Xr (Pd 30 71 72 rfl rfl rfl rfl) ?_
      refine cl 31 [72] (Ip _ [((Oz o m ov (to-fr)),slc)] (show Sz 3000000000 [(Oz o m ov (to-fr))]from Er O)) fun g_13 hg_13=>?_
      have htr9:g_13.2.length=(tzl [(Oz o m ov (to-fr))]).length:=(Zd _).symm.trans (congrArg List.length hg_13)
      have htl9:(tzl [(Oz o m ov (to-fr))]).length≤1:=La [(Oz o m ov (to-fr))]
      refine go 3 ⟨O,?_⟩
      refine cl 32 [] (Nk 1000 _ (2*o) (by push_cast;rfl) ⟨O3,O3⟩ O) fun v_15 _=>?_
      refine cl 33 [80,32] (Ib _ _ zs (1000^(2*o)) (by rw [hs];exact(Zan hS ho O).mono O)) fun g_14 hg_14=>?_
      have hsc9:=congrArg List.length hg_14
      rw [Zd,hs]at hsc9
      have hsl8:=(Dk hS ho 3).2
      have hsl9:=Of (Ze1 o x y z 3) (1000^(2*o))
      refine cl 34 [31,33] (Bp _ _ _ _ (by rw [hg_13];exact Sz.tzl (show Sz 1000000 [(Oz o m ov (to-fr))]from Er O)) (by rw [hg_14,hs,Dj];exact((Fr hS ho 3 O).2.2.2.1).mono O)) fun g_15 hg_15=>?_
      have hFF:Zb g_15.2=Zbp o m ov (to-fr) x y z:=hg_15.trans (by rw [hg_13,hg_14,hs];rfl)
      have hFl:=congrArg List.length hFF
      rw [Zd]at hFl
      obtain⟨hF1,hF2,hF3⟩:=Zcs hS h0 h1 ho
      refine go 11 ?_
      refine Zc rfl (fun h51_3=>?_) (fun h51_3=>?_)
      ·refine go 7 ?_
       refine Zw (Mh 62) ?_
       exact Xa hsc (.slice none 0 0,[]) Tryz.results51 rfl (by rw [Ae (by rw [←hFF,Zd];omega)];rfl) (Oe 62 Za)
      ·refine go 5 ?_
       refine cl 35 [34] (Oj _ _ (by rw [hFF];exact hF1.mono O) (fun h=>by rw [hFF];exact hF3 (fun e=>h (by rw [hFl,e];rfl)))) fun g_16 hg_16=>?_
       refine go 4 ?_
       exact Xa hsc _ Tryz.results51 rfl (by rw [hg_16,hFF,Eg]) (Oe 35 Za)
    ·refine Nb (Zs 36) fun bx_5 _=>?_
     refine Zl (n:=0) [(5,1),(13,1),(14,1),(16,3)] ?_
     refine Yh (Zj 37 [7,8] (Ot _ _ (m^2) (ov^2))) fun v_16 _=>?_
     refine Yh (Zj 38 [] (Nk (to-fr) _ (2*o) (by push_cast;rfl) ⟨O,O⟩ O)) fun v_17 _=>?_
     refine Yh (Zj 39 [37,38] (Ot _ _ (m^2*ov^2) ((to-fr)^(2*o)))) fun v_18 _=>?_
     refine go 2 ?_
     refine Zp ?_
     refine go 2 ?_
     refine Zde (Pi 39 rfl Zn) (fun slc hslc=>?_)
     subst hslc
     refine go 2 ?_
     refine tt (Qg (i:=40) (ivs:=[(0,_)]) (enc:=Nr) [((Oz o m ov (to-fr)),slc)] rfl rfl ⟨rfl,rfl,trivial⟩ Tryz.underlying46 Tryz.ti77 rfl rfl rfl rfl rfl pI.cells rfl rfl hw.h) (fun v_19 _=>?_)
     refine Xr (Qa 40 rfl rfl pI) ?_
     refine Xr (Qi qI 71) ?_
     refine Xr (Yp (q:=qI) (z:=((Oz o m ov (to-fr)),slc)) 71 39 71 rfl rfl rfl rfl rfl) ?_
     refine Xr (Pd 40 71 72 rfl rfl rfl rfl) ?_
     refine cl 41 [72] (Ip _ [((Oz o m ov (to-fr)),slc)] (show Sz 3000000000 [(Oz o m ov (to-fr))]from Er O)) fun g_17 hg_17=>?_
     have htr9:g_17.2.length=(tzl [(Oz o m ov (to-fr))]).length:=(Zd _).symm.trans (congrArg List.length hg_17)
     have htl9:(tzl [(Oz o m ov (to-fr))]).length≤1:=La [(Oz o m ov (to-fr))]
     refine go 3 ⟨O,?_⟩
     refine cl 42 [] (Nk 1000 _ (2*o) (by push_cast;rfl) ⟨O3,O3⟩ O) fun v_20 _=>?_
     refine cl 43 [80,42] (Ib _ _ zs (1000^(2*o)) (by rw [hs];exact(Zan hS ho O).mono O)) fun g_18 hg_18=>?_
     have hsc9:=congrArg List.length hg_18
     rw [Zd,hs]at hsc9
     have hsl8:=(Dk hS ho 3).2
     have hsl9:=Of (Ze1 o x y z 3) (1000^(2*o))
     refine cl 44 [41,43] (Bp _ _ _ _ (by rw [hg_17];exact Sz.tzl (show Sz 1000000 [(Oz o m ov (to-fr))]from Er O)) (by rw [hg_18,hs,Dj];exact((Fr hS ho 3 O).2.2.2.1).mono O)) fun g_19 hg_19=>?_
     have hFF:Zb g_19.2=Zbp o m ov (to-fr) x y z:=hg_19.trans (by rw [hg_17,hg_18,hs];rfl)
     have hFl:=congrArg List.length hFF
     rw [Zd]at hFl
     obtain⟨hF1,hF2,hF3⟩:=Zcs hS h0 h1 ho
     refine go 11 ?_
     refine Zc rfl (fun h51_4=>?_) (fun h51_4=>?_)
     ·refine go 7 ?_
      refine Zw (Mh 62) ?_
      exact Xa hsc (.slice none 0 0,[]) Tryz.results51 rfl (by rw [Ae (by rw [←hFF,Zd];omega)];rfl) (Oe 62 Za)
     ·refine go 5 ?_
      refine cl 45 [44] (Oj _ _ (by rw [hFF];exact hF1.mono O) (fun h=>by rw [hFF];exact hF3 (fun e=>h (by rw [hFl,e];rfl)))) fun g_20 hg_20=>?_
      refine go 4 ?_
      exact Xa hsc _ Tryz.results51 rfl (by rw [hg_20,hFF,Eg]) (Oe 45 Za)
   ·refine Nb (Zs 46) fun bx_6 _=>?_
    refine Zl (n:=0) [(4,1),(5,1),(13,1),(14,1),(16,3)] ?_
    refine Yh (Zj 47 [] (Nk ov 2 2 rfl ⟨O,O⟩ O3)) fun v_21 _=>?_
    refine Yh (Zj 48 [7,47] (Ot _ _ (m^2) (ov^2))) fun v_22 _=>?_
    refine Yh (Zj 49 [] (Nk (to-fr) _ (2*o) (by push_cast;rfl) ⟨O,O⟩ O)) fun v_23 _=>?_
    refine Yh (Zj 50 [48,49] (Ot _ _ (m^2*ov^2) ((to-fr)^(2*o)))) fun v_24 _=>?_
    refine go 2 ?_
    refine Zp ?_
    refine go 2 ?_
    refine Zde (Pi 50 rfl Zn) (fun slc hslc=>?_)
    subst hslc
    refine go 2 ?_
    refine tt (Qg (i:=51) (ivs:=[(0,_)]) (enc:=Nr) [((Oz o m ov (to-fr)),slc)] rfl rfl ⟨rfl,rfl,trivial⟩ Tryz.underlying46 Tryz.ti77 rfl rfl rfl rfl rfl pI.cells rfl rfl hw.h) (fun v_25 _=>?_)
    refine Xr (Qa 51 rfl rfl pI) ?_
    refine Xr (Qi qI 71) ?_
    refine Xr (Yp (q:=qI) (z:=((Oz o m ov (to-fr)),slc)) 71 50 71 rfl rfl rfl rfl rfl) ?_
    refine Xr (Pd 51 71 72 rfl rfl rfl rfl) ?_
    refine cl 52 [72] (Ip _ [((Oz o m ov (to-fr)),slc)] (show Sz 3000000000 [(Oz o m ov (to-fr))]from Er O)) fun g_21 hg_21=>?_
    have htr9:g_21.2.length=(tzl [(Oz o m ov (to-fr))]).length:=(Zd _).symm.trans (congrArg List.length hg_21)
    have htl9:(tzl [(Oz o m ov (to-fr))]).length≤1:=La [(Oz o m ov (to-fr))]
    refine go 3 ⟨O,?_⟩
    refine cl 53 [] (Nk 1000 _ (2*o) (by push_cast;rfl) ⟨O3,O3⟩ O) fun v_26 _=>?_
    refine cl 54 [80,53] (Ib _ _ zs (1000^(2*o)) (by rw [hs];exact(Zan hS ho O).mono O)) fun g_22 hg_22=>?_
    have hsc9:=congrArg List.length hg_22
    rw [Zd,hs]at hsc9
    have hsl8:=(Dk hS ho 3).2
    have hsl9:=Of (Ze1 o x y z 3) (1000^(2*o))
    refine cl 55 [52,54] (Bp _ _ _ _ (by rw [hg_21];exact Sz.tzl (show Sz 1000000 [(Oz o m ov (to-fr))]from Er O)) (by rw [hg_22,hs,Dj];exact((Fr hS ho 3 O).2.2.2.1).mono O)) fun g_23 hg_23=>?_
    have hFF:Zb g_23.2=Zbp o m ov (to-fr) x y z:=hg_23.trans (by rw [hg_21,hg_22,hs];rfl)
    have hFl:=congrArg List.length hFF
    rw [Zd]at hFl
    obtain⟨hF1,hF2,hF3⟩:=Zcs hS h0 h1 ho
    refine go 11 ?_
    refine Zc rfl (fun h51_5=>?_) (fun h51_5=>?_)
    ·refine go 7 ?_
     refine Zw (Mh 62) ?_
     exact Xa hsc (.slice none 0 0,[]) Tryz.results51 rfl (by rw [Ae (by rw [←hFF,Zd];omega)];rfl) (Oe 62 Za)
    ·refine go 5 ?_
     refine cl 56 [55] (Oj _ _ (by rw [hFF];exact hF1.mono O) (fun h=>by rw [hFF];exact hF3 (fun e=>h (by rw [hFl,e];rfl)))) fun g_24 hg_24=>?_
     refine go 4 ?_
     exact Xa hsc _ Tryz.results51 rfl (by rw [hg_24,hFF,Eg]) (Oe 56 Za)
  ·refine Nb (Zs 57) fun bx_7 _=>?_
   refine Zl (n:=0) [(1,1),(4,1),(5,1),(13,1),(14,1),(16,3)] ?_
   refine Yh (Zj 58 [] (Nk m 2 2 rfl ⟨O,O⟩ O3)) fun v_27 _=>?_
   refine Yh (Zj 59 [] (Nk ov 2 2 rfl ⟨O,O⟩ O3)) fun v_28 _=>?_
   refine Yh (Zj 60 [58,59] (Ot _ _ (m^2) (ov^2))) fun v_29 _=>?_
   refine Yh (Zj 61 [] (Nk (to-fr) _ (2*o) (by push_cast;rfl) ⟨O,O⟩ O)) fun v_30 _=>?_
   refine Yh (Zj 62 [60,61] (Ot _ _ (m^2*ov^2) ((to-fr)^(2*o)))) fun v_31 _=>?_
   refine go 2 ?_
   refine Zp ?_
   refine go 2 ?_
   refine Zde (Pi 62 rfl Zn) (fun slc hslc=>?_)
   subst hslc
   refine go 2 ?_
   refine tt (Qg (i:=63) (ivs:=[(0,_)]) (enc:=Nr) [((Oz o m ov (to-fr)),slc)] rfl rfl ⟨rfl,rfl,trivial⟩ Tryz.underlying46 Tryz.ti77 rfl rfl rfl rfl rfl pI.cells rfl rfl hw.h) (fun v_32 _=>?_)
   refine Xr (Qa 63 rfl rfl pI) ?_
   refine Xr (Qi qI 71) ?_
   refine Xr (Yp (q:=qI) (z:=((Oz o m ov (to-fr)),slc)) 71 62 71 rfl rfl rfl rfl rfl) ?_
   refine Xr (Pd 63 71 72 rfl rfl rfl rfl) ?_
   refine cl 64 [72] (Ip _ [((Oz o m ov (to-fr)),slc)] (show Sz 3000000000 [(Oz o m ov (to-fr))]from Er O)) fun g_25 hg_25=>?_
   have htr9:g_25.2.length=(tzl [(Oz o m ov (to-fr))]).length:=(Zd _).symm.trans (congrArg List.length hg_25)
   have htl9:(tzl [(Oz o m ov (to-fr))]).length≤1:=La [(Oz o m ov (to-fr))]
   refine go 3 ⟨O,?_⟩
   refine cl 65 [] (Nk 1000 _ (2*o) (by push_cast;rfl) ⟨O3,O3⟩ O) fun v_33 _=>?_
   refine cl 66 [80,65] (Ib _ _ zs (1000^(2*o)) (by rw [hs];exact(Zan hS ho O).mono O)) fun g_26 hg_26=>?_
   have hsc9:=congrArg List.length hg_26
   rw [Zd,hs]at hsc9
   have hsl8:=(Dk hS ho 3).2
   have hsl9:=Of (Ze1 o x y z 3) (1000^(2*o))
   refine cl 67 [64,66] (Bp _ _ _ _ (by rw [hg_25];exact Sz.tzl (show Sz 1000000 [(Oz o m ov (to-fr))]from Er O)) (by rw [hg_26,hs,Dj];exact((Fr hS ho 3 O).2.2.2.1).mono O)) fun g_27 hg_27=>?_
   have hFF:Zb g_27.2=Zbp o m ov (to-fr) x y z:=hg_27.trans (by rw [hg_25,hg_26,hs];rfl)
   have hFl:=congrArg List.length hFF
   rw [Zd]at hFl
   obtain⟨hF1,hF2,hF3⟩:=Zcs hS h0 h1 ho
   refine go 11 ?_
   refine Zc rfl (fun h51_6=>?_) (fun h51_6=>?_)
   ·refine go 7 ?_
    refine Zw (Mh 62) ?_
    exact Xa hsc (.slice none 0 0,[]) Tryz.results51 rfl (by rw [Ae (by rw [←hFF,Zd];omega)];rfl) (Oe 62 Za)
   ·refine go 5 ?_
    refine cl 68 [67] (Oj _ _ (by rw [hFF];exact hF1.mono O) (fun h=>by rw [hFF];exact hF3 (fun e=>h (by rw [hFl,e];rfl)))) fun g_28 hg_28=>?_
    refine go 4 ?_
    exact Xa hsc _ Tryz.results51 rfl (by rw [hg_28,hFF,Eg]) (Oe 68 Za)
theorem Yfe{xs:List Int}(hx:Tr xs)(h0:xs≠[])(hs:Sz 320 xs)(hl:xs.length≤10):Ct 13 xs∧Sz 450 (sqf 13 xs)∧(sqf 13 xs).length≤10:=by
 obtain⟨h1,h2,h3,h4⟩:=chG 13 hx h0 hs O O O
 exact⟨h1,h2,O⟩
theorem Zlr{xs:List Int}(hv:Vp xs)(h0:xs≠[])(hs:Sz 320 xs)(hl:xs.length≤10) :
  Vp (Yn xs)∧Vp (Yi (Yn xs))∧eok 13 (Yn xs) (Yi (Yn xs))∧Mm (Zr (eu 13 (Yn xs) (Yi (Yn xs))))=Ou 13 (Yn xs) (Yi (Yn xs))∧
  Vp (Ou 13 (Yn xs) (Yi (Yn xs)))∧Ou 13 (Yn xs) (Yi (Yn xs))≠[]∧pdv (Yn xs) (Ou 13 (Yn xs) (Yi (Yn xs)))∧
  Xw (Yn xs)≤320∧Xw (Ou 13 (Yn xs) (Yi (Yn xs)))≤450∧(Yn xs).length≤10∧Vp (sqf 13 xs)∧sqf 13 xs≠[]∧Yn (sqf 13 xs)=sqf 13 xs∧(Ou 13 (Yn xs) (Yi (Yn xs))).length≤10:=by
 have hn:=Zm4 hs
 have hln:=Pe hv.tr
 have ht:Tr (Yn xs):=On (Yf hv.tr)
 have hd:=Ky hn O
 have hld:=Pn (Yn xs)
 have htd:Tr (Yi (Yn xs)):=Oh ht
 have m1:=Qn hn
 have m2:=Qn hd
 have l0:=List.length_pos_iff.2 h0
 obtain⟨hC,hq,hql⟩:=Yfe hv.tr h0 hs hl
 have hok:eok 13 (gA (Yn xs) (Yi (Yn xs))) (gB (Yn xs) (Yi (Yn xs))):=hC.1.2.2.1
 have hok2:eok 13 (Yn xs) (Yi (Yn xs)):=
  (Zw6 (n:=325) (s:=5) (K:=331) O ht htd (hn.mono O) hd O O (Ydd O O O) (Nat.le_trans (Nat.mul_le_mul (show(Yn xs).length+1≤11 by omega) (show 325+1≤400 by omega)) O3) O).1
 obtain⟨f1,f2,f3,f4,f5,f6⟩:=Og (F:=13) hv.tr h0 hok
 have hg:=Zch (F:=13) ht htd
 have hn0:=Zgn hv.tr h0
 have hK:kkR 24 13*(24+1)^13<2^130:=O8
 have hgs:=Gb (L:=13) (R:=24) hg f2 hn hn0 ht O O3 hK (by rw [Dz];exact f4)
 have hvn:=Zsp hv
 have hvd:Vp (Yi (Yn xs)):=⟨hd.mono O,htd,O⟩
 have hlq:=Po f2 hg f3 f5
 rw [←f4]at hlq
 have lq:=List.length_pos_iff.2 f3
 exact⟨hvn,hvd,hok2,Yib ht htd hok2 hok,Zuw hvn hvd hok,f5,f1,m1,Qn hgs,O,Zir hv h0 hC.1,f3,f6,O⟩
structure RI (xs q:List Int):Prop where
 v:Vp q
 ne:q≠[]
 s:Sz 315 q
 l:q.length≤9
 d:Dp xs (Yn q)
theorem RI.start{xs:List Int}(h:Cvd xs)(h0:xs≠[]):RI xs xs:=⟨h.v,h0,h.s.mono O,h.l,Dp.start h.v.tr h0⟩
theorem Ya3{q:List Int}{n:Nat}{e:Int}(he:e=1∨e=-1)(h:Sz n q):Sz n (Zv q e):=fun i=>by
 rw [Yj]
 have:=h i
 rcases he with rfl | rfl
 ·rw [Int.mul_one];exact this
 ·rw [Int.mul_neg_one,Int.natAbs_neg];exact this
theorem RI.step{xs q:List Int}(h:Cvd xs)(h0:xs≠[])(hI:RI xs q) :
  Tr (sqf 13 q)∧Xw (sqf 13 q)≤445∧(sqf 13 q).length≤9∧0<(sqf 13 q).length∧Yk q≠0∧Sz 315 (Zv (Zr q) 1)∧Tr (Zv (Zr q) 1)∧(Zv (Zr q) 1).length=q.length∧pdv (Zv (Zr q) 1) (sqf 13 q)∧
  Vp (Oq 13 q)∧Oq 13 q≠[]∧Sz 315 (Oq 13 q)∧(Oq 13 q).length≤9∧Yk (Oq 13 q)≠0∧Zr (Oq 13 q)=Oq 13 q∧
  Tr (sqf 13 (Oq 13 q))∧Xw (sqf 13 (Oq 13 q))≤445∧(sqf 13 (Oq 13 q)).length≤9∧0<(sqf 13 (Oq 13 q)).length∧pdv (sqf 13 q) (sqf 13 (Oq 13 q))∧Sz 600 (Ms (sqf 13 q) (sqf 13 (Oq 13 q)))∧(Ms (sqf 13 q) (sqf 13 (Oq 13 q))).length≤9∧
  pdv (Oq 13 q) (sqf 13 (Oq 13 q))∧RI xs (Cj 13 q)∧((sqf 13 q).length≠1→(Cj 13 q).length<q.length):=by
 have hl:=h.l
 have hD:=hI.d
 have hok0:=(hD.ok h.v.tr h0 h.s O O (show xs.length≤13+1 by omega)).2
 have hok:Gu 13 q:=by unfold Gu at hok0 ⊢;rwa [hD.2.2.1]at hok0
 have hg:=hD.next hok0
 have hgn:Ps 13 (Yn q)=Ps 13 q:=Zih hD.2.2.1
 have hsn:sqf 13 (Yn q)=sqf 13 q:=Fs hD.2.2.1
 rw [hgn]at hg
 have hok2:=(hg.ok h.v.tr h0 h.s O O (show xs.length≤13+1 by omega)).2
 have hg2:=hg.next hok2
 obtain⟨⟨e,he,r1,r2,r3,r4,r5,r6⟩,r7,r8,r9,r10,r11,r12⟩:=Zja hI.v.tr hI.ne hok hok2
 obtain⟨-,-,-,-,-,-,-,-,-,-,-,a12,a13,a14,-,a16,-,-⟩:=Zcr h h0 hD
 obtain⟨-,-,-,-,-,-,-,-,-,-,-,b12,b13,b14,-,b16,b17,-⟩:=Zcr h h0 hg
 rw [hsn]at a12 a13 a14 a16
 have hsl:sqf 13 (Oq 13 q)=sqf 13 (Ps 13 q):=Fs (by rw [r7,hg.2.2.1])
 obtain⟨g1,g2⟩:=Zfs h h0 hg
 obtain⟨g3,g4⟩:=Zfs h h0 hg2
 have e0:e≠0:=by rcases he with rfl | rfl<;>decide
 have hLs:Sz 315 (Oq 13 q):=by rw [r3];exact Ya3 he g1
 have hLl:(Oq 13 q).length≤9:=by rw [r3];have:=Of (Ps 13 q) e;omega
 have hLv:Vp (Oq 13 q):=⟨hLs.mono O,r9,O⟩
 have hRs:Sz 315 (Cj 13 q):=by rw [r6];exact Ya3 he g3
 have hRl:(Cj 13 q).length≤(Ps 13 (Ps 13 q)).length:=by rw [r6];exact Of _ e
 obtain⟨o1,o2,o3,o4⟩:=Ej hI.v.tr hI.ne hok hok2
 have hK:kkR 24 13*(24+1)^13<2^130:=O8
 have hos:=Gb (L:=13) (R:=24) o3 b12.tr a13 a16 a12.tr O O3 hK o2
 have hlq:=Po o3 b12.tr o4 b16
 rw [←o2]at hlq
 have lb:=List.length_pos_iff.2 b16
 have la:=List.length_pos_iff.2 a16
 have lo:=List.length_pos_iff.2 o4
 have hm:Zv (Zr q) 1=Zr q:=by
  refine(Xp _ _).ext (Yf hI.v.tr) fun i=>?_
  rw [Yj,Int.mul_one]
 have hx:=Qy hI.v.tr hI.ne hok
 have hx2:=Qy hg.1 hg.2.1 hok2
 rw [hsl]
 refine⟨a12.tr,Qn a13,O,la,hI.v.ne hI.ne,by rw [hm];exact Kx hI.s,Xp _ _,by rw [hm,Zq],by rw [r1];exact r2,hLv,r10,hLs,hLl,hLv.ne r10,r4,b12.tr,Qn b13,b14,lb,o1,hos.mono O,?_,r5,⟨⟨hRs.mono O,r11,O⟩,r12,hRs,O,by rw [r8];exact hg2⟩,fun hne=>?_⟩
 ·show(Ey 13 q).length≤9;omega
 ·have h1:=hx.2.2.2.2
  have h2:=hx2.2.2.2.2
  omega
theorem rodd_1{F f:Nat}{p:List Int}(h:(sqf F p).length=1):Zbo F f p=sqf F p:=by
 cases f with
 | zero=>rfl
 | succ f=>unfold Zbo;rw [if_pos h]
theorem rodd_s{F f:Nat}{p:List Int}(h:(sqf F p).length≠1):Zbo F (f+1) p=Xq (Ms (sqf F p) (sqf F (Oq F p))) (Zbo F f (Cj F p)):=by
 conv=>lhs;unfold Zbo
 rw [if_neg h]
theorem Ycy{F n:Nat}{p:List Int}(hp:Tr p)(h0:p≠[])(hs:Sz n p)(hn:n≤220)(hl:p.length≤11)(hF:p.length≤F+1):∀(f:Nat) (q:List Int),Dp p q→q.length≤f→∃a:List Int,Tr a∧q=Xq a (Et F f q):=by
 intro f
 induction f with
 | zero=>intro q hq hlq;have:=List.length_pos_iff.2 hq.2.1;omega
 | succ f ih=>
  intro q hq hlq
  have hok:=(hq.ok hp h0 hs hn hl hF).2
  have hg:=hq.next hok
  have hok2:=(hg.ok hp h0 hs hn hl hF).2
  have hg2:=hg.next hok2
  unfold Et
  by_cases c1:(sqf F q).length=1
  ·rw [if_pos c1]
   obtain⟨s1,s2,s3⟩:=Zes hq.1 hq.2.1 hok c1
   refine⟨[1],.inr (show cf [1] 0≠0 by decide),hq.1.ext (Qc _ _) fun i=>Ny (fun x=>?_) i⟩
   rw [Zz,s1,Yho hq.1 hq.2.2.1 s2,Pq];push_cast;grind
  ·rw [if_neg c1]
   have lq:2≤q.length:=by
    obtain⟨f1,f2,f3,f4,f5,f6⟩:=Og (F:=F) hq.1 hq.2.1 hok
    obtain⟨a1,a2,a3,a4,a5⟩:=Qy hq.1 hq.2.1 hok
    have l1:=List.length_pos_iff.2 f3
    have l2:=List.length_pos_iff.2 a2
    omega
   have lt1:=Zj9 hq.1 hq.2.1 hok lq
   obtain⟨a1,a2,a3,a4,a5⟩:=Qy hq.1 hq.2.1 hok
   obtain⟨b1,b2,b3,b4,b5⟩:=Qy hg.1 hg.2.1 hok2
   obtain⟨-,t2,t3,-,-,-⟩:=Og (F:=F) hg.1 hg.2.1 hok2
   have lb:=List.length_pos_iff.2 t3
   obtain⟨A,hA,hB⟩:=ih _ hg2 O
   obtain⟨-,o2,o3,o4⟩:=Ej hq.1 hq.2.1 hok hok2
   rw [hq.2.2.1]at a4
   rw [a3]at b4
   refine⟨Xq (Xq (sqf F (Ps F q)) (sqf F (Ps F q))) A,Qc _ _,hq.1.ext (Qc _ _) fun i=>Ny (fun x=>?_) i⟩
   have e1:Ze q x=Ze (sqf F q) x*Ze (Ps F q) x:=by rw [←Zz,←a4]
   have e2:Ze (sqf F q) x=Ze (Ey F q) x*Ze (sqf F (Ps F q)) x:=by rw [←Zz,←o2]
   have e3:Ze (Ps F q) x=Ze (sqf F (Ps F q)) x*Ze (Ps F (Ps F q)) x:=by rw [←Zz,←b4]
   have e4:Ze (Ps F (Ps F q)) x=Ze A x*Ze (Et F f (Ps F (Ps F q))) x:=by rw [←Zz,←hB]
   rw [Zz,Zz,Zz,Zz,e1,e2,e3,e4]
   show _=_*(Ze (Ey F q) x*_)
   generalize Ze (sqf F (Ps F q)) x=S
   grind
theorem RI.size{xs q:List Int}(h:Cvd xs)(h0:xs≠[])(hI:RI xs q){f:Nat}(hf:q.length≤f):Tr (Zbo 13 f q)∧Sz 460 (Zbo 13 f q)∧(Zbo 13 f q).length≤9:=by
 have hl:=h.l
 have hD:=hI.d
 have e:Zbo 13 f q=Et 13 f (Yn q):=by
  rw [Zvk h.v.tr h0 h.s O O O f q hI.v.tr hI.ne hD]
  exact Zjl hD.2.2.1.symm f
 have hlq:=Pe hI.v.tr
 have hll:=hI.l
 obtain⟨A,hA,hB⟩:=Ycy h.v.tr h0 h.s O O (show xs.length≤13+1 by omega) f (Yn q) hD O
 obtain⟨d1,d2⟩:=Zfs h h0 hD
 have hok0:=(hD.ok h.v.tr h0 h.s O O (show xs.length≤13+1 by omega)).2
 have ht:=Zib (F:=13) (p:=xs) (f:=f) hD.1 hD.2.1 hok0
 rw [e]
 have hK:kkR 24 13*(24+1)^13<2^130:=O8
 have p0:Et 13 f (Yn q)≠[]:=fun e2=>hD.2.1 (by rw [hB,e2,Zas])
 have a0:A≠[]:=fun e2=>hD.2.1 (by rw [hB,e2,Ic])
 have hl2:=Po hA ht a0 p0
 rw [←hB]at hl2
 have:=List.length_pos_iff.2 a0
 exact⟨ht,(Gb (L:=13) (R:=24) ht hA d1 hD.2.1 hD.1 O O3 hK (by rw [Dz];exact hB)).mono O,O⟩
theorem Zy0{xs:List Int}(h:Cvd xs)(h0:xs≠[]):Zbo 13 xs.length xs=Mt xs:=by
 have hl:=h.l
 exact(Ydc h.v.tr h0 h.s O O (show xs.length≤13+1 by omega)).symm
open Go.Proofs.Tryz
theorem r3_rem(v u:Value)(zs ys:List (Int×SL))(F:Nat)(hl:zs.length≤30)(hk:ys.length≤30)(hy0:0<ys.length)(htz:Tr (Zb zs))(ht:Tr (Zb ys))(hF0:zs.length<ys.length+F)(hS0:Xw (Zb zs)+F*(Xw (Zb ys)+1)≤900000):Cal prog 235 #[v,u] [pp v zs,pp u ys] true (G:=Value×List (Int×SL)) (fun r=>Zb r.2=Iy F (Zb zs) (Zb ys)) (fun r=>r.1) (fun r=>[pp r.1 r.2]):=by
 refine Zh func235 ntmps235 fun w0 sc hw hsc=>?_
 have hli:=Zd zs
 have hli2:=Zd ys
 have hcy:=Qt ys (ys.length-1)
 have hra:=Zx6 (Zb ys)
 refine go 11 ⟨O,?_⟩
 refine dt (Zy (ii:=2) (i:=(ys.length-1)) J J J J Zi Kr Zhp)<|dt (Xy (ii:=2) I0 J J J Zi pI)<|Ya (Zs 85) fun b _=>go 1 ?_
 refine Xr (Ci 2 91 (ys.getD (ys.length-1) I0) J J (Zf) J)<|go 4 ?_
 refine Zg (Xe 1 80 J J J)<|lp (G:=Value×List (Int×SL)×Nat) [1,5] [0,1,2,85,91] (fun q=>[(0,q.1)]) (fun q=>[(80,pp q.1 q.2.1)]) (fun q=>(Iy q.2.2 (Zb q.2.1) (Zb ys)=Iy F (Zb zs) (Zb ys))∧((Zb q.2.1).length<(Zb ys).length+q.2.2)∧(Tr (Zb q.2.1))∧(Xw (Zb q.2.1)+q.2.2*(Xw (Zb ys)+1)≤900000)∧(q.2.1.length≤30)) (fun q=>q.2.2) (_,zs,F) ⟨J,O6,htz,hS0,hl⟩ K1 K1 ?_
 rintro⟨vr,ws,f⟩ ⟨hE,hL,hT,hS,hW⟩
 dsimp only at hE hL hT hS hW
 dsimp only
 have hlw:=Zd ws
 have hcw:=Qt ws (ws.length-1)
 refine go 10 ?_
 refine Zc J (fun h45=>?_) (fun h45=>?_)
 ·obtain⟨f1,rfl,hE1,hL1,hT1,hS1,hLl⟩:=Zyz O O hL hT hS
  have hB:Xw (Zb ws)+(Xw (Zb ys)+1)≤900000:=by rw [Nat.succ_mul]at hS;omega
  have hrb:=bl_rb (Zb ws) (Zb ys)
  refine go 4 ?_
  refine Pm [80,85] [10]<|Zl (n:=4) [(0,0),(1,0),(2,0),(3,0),(4,0),(5,0),(6,0)]<|go 5 ⟨O,?_⟩
  refine Qo J J (stf (Zy (ii:=80) (i:=(ws.length-1)) J J J J Zi Kr Zhp) K2)<|Qo J J (stf (Xy (ii:=80) I0 J J J Zi pI) K2)<|go 1 ?_
  refine Qp (n:=3) 7 8 ?_ ?_
  ·refine Nb (Ql 95) fun b_2 ho=>?_
   refine Zl (n:=0) [(8,1),(9,1),(10,3)]<|Yh (Ql 96) fun b_3 ho2=>go 3 ?_
   refine Zp<|go 1 ?_
   refine jn (G:=Value×Value) [0,1,5,6,7] [0,80,1,2,85,91] (fun q=>[]) (fun q=>[(95,box b_2 77 #[.bool (decide ((Hq (Zb ys))<0)),q.1]),(96,box b_3 77 #[.bool (decide ((rb (Zb ws) (Zb ys))<0)),q.2]),(93,Om q.1 (Hq (Zb ys)).natAbs),(94,Om q.2 (rb (Zb ws) (Zb ys)).natAbs)]) (fun q=>True) ?_ ?_
   ·refine go 1 ?_
    refine Zg (Ci 80 92 (ws.getD (ws.length-1) I0) J J (Zf) J)<|go 2 ?_
    refine cl 2 [91] (Es _ _ (by rw [hcy];have:=Pf (Zb ys) (ys.length-1);omega)) fun _ _=>go 3 ?_
    refine Zc J (fun h47=>?_) (fun h47=>?_)
    ·refine Pm [96] [5]<|Zl (n:=0) [(2,0),(0,1),(1,1),(3,1),(4,1),(5,3)]<|go 2 ?_
     refine Yh (Zj 3 [91] (Zhe _ _ (by rw [hcy];have:=Pf (Zb ys) (ys.length-1);omega))) fun v _=>Yh (Zj 4 [92] (Zhe _ _ (by rw [hcw];have:=Pf (Zb ws) (ws.length-1);omega))) fun v_2 _=>go 3 ?_
     refine Zp ?_
     have hra:=Ycc hli2 hcy ‹_›
     have hrb:=rb_n (x:=Zb ws) (y:=Zb ys) hli2 hlw hcy hcw ‹_›
     exact Zw (Xe 3 93 J J J)<|Zw (Xe 4 94 J J J)<|Pw (_,_) trivial trivial ⟨by rw [hra];rfl,by rw [hrb];rfl,by rw [hra];rfl,by rw [hrb];rfl,trivial⟩
    ·refine go 1 ?_
     have hra:=Ycb hli2 hcy ‹_›
     have hrb:=rb_p (x:=Zb ws) (y:=Zb ys) hli2 hlw hcy hcw ‹_›
     exact Zw (Xe 91 93 J J J)<|Zw (Xe 92 94 J J J)<|Pw (_,_) trivial trivial ⟨by rw [hra];rfl,by rw [hrb];rfl,by rw [hra];rfl,by rw [hrb];rfl,trivial⟩
   ·rintro⟨va,vb⟩ -
    dsimp only
    refine go 7 ⟨O,?_⟩
    refine tt (Kt (i:=70) (n:=(ws.length-ys.length)) (by_:=32) (enc:=Nr) I0 J J J J Kr ti77 J pI.cells pI.pos J J J hw.h) fun v_3 _=>go 10 ?_
    refine Zg (Ch 71 (ws.length-ys.length))<|lp (G:=Nat×Value×List (Int×SL)) [0,1,5,6,7] [0,95,96,93,94,80,1,2,85,91] (fun q=>[(9,.int .i64 (q.1:Int)),(8,q.2.1)]) (fun q=>[(70,Ns 2 77 Nr q.2.1 q.2.2),(71,Hy qI q.2.2)]) (fun q=>(q.1≤ys.length)∧(Zb q.2.2=shm (Zb ys) (rb (Zb ws) (Zb ys)) ((Zb ws).length-(Zb ys).length) q.1)∧(q.2.2.length=((Zb ws).length-(Zb ys).length)+q.1)) (fun q=>ys.length-q.1) (0,_,List.replicate (ws.length-ys.length) I0) ⟨O1,by rw [←Zev,hlw,hli2];simp [Zb],by simp<;>omega⟩ K2 K2 ?_
    rintro⟨i,vo,ms⟩ ⟨hi,hms,hml⟩
    dsimp only at hi hms hml
    dsimp only
    have hci:=Qt ys i
    refine go 9 ?_
    refine Zc J (fun h51=>?_) (fun h51=>?_)
    ·refine go 4 ?_
     refine Pm [2,96] [9]<|Zl (n:=3) [(0,0),(1,0),(2,0),(3,0),(4,0),(5,0),(6,1)]<|go 4 ⟨O2,?_⟩
     refine Qo J J (stf (Xy (ii:=2) I0 J J J Zi pI O2) K2)<|go 1 ?_
     refine Kg J (Yz (n:=86) (Ot _ _ _ _ (by rw [hci];have:=Pf (Zb ys) i;omega)) J J J K2 call39 (Xu 2 J J (Zf (i:=i)) (Zk 94 J J J Zo)) J hw.h) fun v_4 _=>go 1 ?_
     refine Yak (Pi 86 J Zn) (fun sl hsl=>?_)
     subst hsl
     refine Zl (n:=0) [(7,1),(8,1),(9,3)]<|Kg J (Qg (i:=87) (ivs:=[(0,_)]) (enc:=Nr) [((ys.getD i I0).1*(rb (Zb ws) (Zb ys)),sl)] J J K2 Kr ti77 J J J J J pI.cells J J hw.h) (fun v_5 _=>?_)
     refine Kg J (Zdw 70 J J J K2 (fun hoffr=>(Zae (xs:=ms) (ys:=[_]) (i:=70) (j:=87) (by_:=32) J J J J J J O3 J (Yw pI) Kr ti77 J pI J J J O9 O3 J hw.h hoffr))) fun v_6 _=>go 2 ?_
     refine Zp<|go 7 ⟨O,?_⟩
     exact Zw (Yp (q:=qI) (z:=((ys.getD i I0).1*(rb (Zb ws) (Zb ys)),sl)) 71 86 71 J J J J J)<|Yq (i+1,_,ms ++ [((ys.getD i I0).1*(rb (Zb ws) (Zb ys)),sl)]) ⟨O1,by rw [Mg,hms,←Zew];dsimp only;rw [hci,Int.mul_comm],O9⟩ O1 K2 K2
    ·refine go 5 ?_
     refine Zg (Qa 70 J J pI)<|Zg (Pd 70 71 72 J J J J)<|go 3 ?_
     refine cl 5 [80,93] (Ib _ _ _ _ ((Pf _).mono O)) fun g hg=>?_
     have hlsc:=congrArg List.length hg
     rw [Zd]at hlsc
     have hlsd:=Of (Zb ws) (Hq (Zb ys))
     refine go 1 ?_
     refine cl 6 [5,72] (Bp _ _ _ _ (by rw [hg];exact(Zaf (Pf _) hra).mono O) (by rw [hms];exact sz_shm'.mono O)) fun g_2 hg_2=>go 3 ?_
     refine Zw (Xe 6 80 J J J) ?_
     have hR:Zb g_2.2=Hb (Zb ws) (Zb ys):=by rw [hg_2,hg,hms,show i=(Zb ys).length by omega];rfl
     exact Yq (_,g_2.2,f1) ⟨by dsimp only;rw [hR,←hE1];exact hE,by dsimp only;rw [hR];exact hL1,by dsimp only;rw [hR];exact hT1,by dsimp only;rw [hR];exact hS1,by dsimp only;rw [←Zd,hR];omega⟩ (Nat.lt_succ_self f1) K1 K1
  ·refine Nb (Ql 96) fun b_4 ho3=>?_
   refine Zl (n:=0) [(7,1),(9,1),(10,3)]<|Yh (Ql 95) fun b_5 ho4=>go 3 ?_
   refine Zp<|go 1 ?_
   refine jn (G:=Value×Value) [0,1,5,6,7] [0,80,1,2,85,91] (fun q=>[]) (fun q=>[(95,box b_5 77 #[.bool (decide ((Hq (Zb ys))<0)),q.1]),(96,box b_4 77 #[.bool (decide ((rb (Zb ws) (Zb ys))<0)),q.2]),(93,Om q.1 (Hq (Zb ys)).natAbs),(94,Om q.2 (rb (Zb ws) (Zb ys)).natAbs)]) (fun q=>True) ?_ ?_
   ·refine go 1 ?_
    refine Zg (Ci 80 92 (ws.getD (ws.length-1) I0) J J (Zf) J)<|go 2 ?_
    refine cl 6 [91] (Es _ _ (by rw [hcy];have:=Pf (Zb ys) (ys.length-1);omega)) fun _ _=>go 3 ?_
    refine Zc J (fun h47_2=>?_) (fun h47_2=>?_)
    ·refine Pm [96] [5]<|Zl (n:=0) [(2,0),(0,1),(1,1),(3,1),(4,1),(5,3)]<|go 2 ?_
     refine Yh (Zj 7 [91] (Zhe _ _ (by rw [hcy];have:=Pf (Zb ys) (ys.length-1);omega))) fun v_7 _=>Yh (Zj 8 [92] (Zhe _ _ (by rw [hcw];have:=Pf (Zb ws) (ws.length-1);omega))) fun v_8 _=>go 3 ?_
     refine Zp ?_
     have hra:=Ycc hli2 hcy ‹_›
     have hrb:=rb_n (x:=Zb ws) (y:=Zb ys) hli2 hlw hcy hcw ‹_›
     exact Zw (Xe 7 93 J J J)<|Zw (Xe 8 94 J J J)<|Pw (_,_) trivial trivial ⟨by rw [hra];rfl,by rw [hrb];rfl,by rw [hra];rfl,by rw [hrb];rfl,trivial⟩
    ·refine go 1 ?_
     have hra:=Ycb hli2 hcy ‹_›
     have hrb:=rb_p (x:=Zb ws) (y:=Zb ys) hli2 hlw hcy hcw ‹_›
     exact Zw (Xe 91 93 J J J)<|Zw (Xe 92 94 J J J)<|Pw (_,_) trivial trivial ⟨by rw [hra];rfl,by rw [hrb];rfl,by rw [hra];rfl,by rw [hrb];rfl,trivial⟩
   ·rintro⟨va,vb⟩ -
    dsimp only
    refine go 7 ⟨O,?_⟩
    refine tt (Kt (i:=70) (n:=(ws.length-ys.length)) (by_:=32) (enc:=Nr) I0 J J J J Kr ti77 J pI.cells pI.pos J J J hw.h) fun v_9 _=>go 10 ?_
    refine Zg (Ch 71 (ws.length-ys.length))<|lp (G:=Nat×Value×List (Int×SL)) [0,1,5,6,7] [0,95,96,93,94,80,1,2,85,91] (fun q=>[(9,.int .i64 (q.1:Int)),(8,q.2.1)]) (fun q=>[(70,Ns 2 77 Nr q.2.1 q.2.2),(71,Hy qI q.2.2)]) (fun q=>(q.1≤ys.length)∧(Zb q.2.2=shm (Zb ys) (rb (Zb ws) (Zb ys)) ((Zb ws).length-(Zb ys).length) q.1)∧(q.2.2.length=((Zb ws).length-(Zb ys).length)+q.1)) (fun q=>ys.length-q.1) (0,_,List.replicate (ws.length-ys.length) I0) ⟨O1,by rw [←Zev,hlw,hli2];simp [Zb],by simp<;>omega⟩ K2 K2 ?_
    rintro⟨i,vo,ms⟩ ⟨hi,hms,hml⟩
    dsimp only at hi hms hml
    dsimp only
    have hci:=Qt ys i
    refine go 9 ?_
    refine Zc J (fun h51_2=>?_) (fun h51_2=>?_)
    ·refine go 4 ?_
     refine Pm [2,96] [9]<|Zl (n:=3) [(0,0),(1,0),(2,0),(3,0),(4,0),(5,0),(6,1)]<|go 4 ⟨O2,?_⟩
     refine Qo J J (stf (Xy (ii:=2) I0 J J J Zi pI O2) K2)<|go 1 ?_
     refine Kg J (Yz (n:=86) (Ot _ _ _ _ (by rw [hci];have:=Pf (Zb ys) i;omega)) J J J K2 call39 (Xu 2 J J (Zf (i:=i)) (Zk 94 J J J Zo)) J hw.h) fun v_10 _=>go 1 ?_
     refine Yak (Pi 86 J Zn) (fun sl_2 hsl_2=>?_)
     subst hsl_2
     refine Zl (n:=0) [(7,1),(8,1),(9,3)]<|Kg J (Qg (i:=87) (ivs:=[(0,_)]) (enc:=Nr) [((ys.getD i I0).1*(rb (Zb ws) (Zb ys)),sl_2)] J J K2 Kr ti77 J J J J J pI.cells J J hw.h) (fun v_11 _=>?_)
     refine Kg J (Zdw 70 J J J K2 (fun hoffr=>(Zae (xs:=ms) (ys:=[_]) (i:=70) (j:=87) (by_:=32) J J J J J J O3 J (Yw pI) Kr ti77 J pI J J J O9 O3 J hw.h hoffr))) fun v_12 _=>go 2 ?_
     refine Zp<|go 7 ⟨O,?_⟩
     exact Zw (Yp (q:=qI) (z:=((ys.getD i I0).1*(rb (Zb ws) (Zb ys)),sl_2)) 71 86 71 J J J J J)<|Yq (i+1,_,ms ++ [((ys.getD i I0).1*(rb (Zb ws) (Zb ys)),sl_2)]) ⟨O1,by rw [Mg,hms,←Zew];dsimp only;rw [hci,Int.mul_comm],O9⟩ O1 K2 K2
    ·refine go 5 ?_
     refine Zg (Qa 70 J J pI)<|Zg (Pd 70 71 72 J J J J)<|go 3 ?_
     refine cl 9 [80,93] (Ib _ _ _ _ ((Pf _).mono O)) fun g_3 hg_3=>?_
     have hlsc:=congrArg List.length hg_3
     rw [Zd]at hlsc
     have hlsd:=Of (Zb ws) (Hq (Zb ys))
     refine go 1 ?_
     refine cl 10 [9,72] (Bp _ _ _ _ (by rw [hg_3];exact(Zaf (Pf _) hra).mono O) (by rw [hms];exact sz_shm'.mono O)) fun g_4 hg_4=>go 3 ?_
     refine Zw (Xe 10 80 J J J) ?_
     have hR:Zb g_4.2=Hb (Zb ws) (Zb ys):=by rw [hg_4,hg_3,hms,show i=(Zb ys).length by omega];rfl
     exact Yq (_,g_4.2,f1) ⟨by dsimp only;rw [hR,←hE1];exact hE,by dsimp only;rw [hR];exact hL1,by dsimp only;rw [hR];exact hT1,by dsimp only;rw [hR];exact hS1,by dsimp only;rw [←Zd,hR];omega⟩ (Nat.lt_succ_self f1) K1 K1
 ·have hE2:=Yby (f:=f) (x:=Zb ws) (y:=Zb ys) O
  refine go 12 ?_
  exact Xa hsc (_,ws) results235 J (by rw [←hE,hE2]) (Oe 80 Za)
theorem Zvw(v:Value)(zs:List (Int×SL))(hv:Vp (Zb zs))(h0:zs.length≠0):Cal prog 233 #[v] [pp v zs] true (G:=Value×List (Int×SL)) (fun r=>Zb r.2=Yn (Zb zs)) (fun r=>r.1) (fun r=>[pp r.1 r.2]):=by
 refine Zh func233 ntmps233 fun w0 sc hw hsc=>?_
 have hli:=Zd zs
 have hlen:=hv.len
 refine go 8 ?_
 refine cl 2 [1] (Oj _ _ (hv.sz.mono O) (fun h=>hv.ne (fun e=>by have h7:=congrArg List.length e;simp only [List.length_nil]at h7;omega))) fun g hg=>go 5 ?_
 have hpl:=congrArg List.length hg
 rw [Zd,Zq,hli]at hpl
 have hlc:=Qt g.2 (g.2.length-1)
 have hlc2:(g.2.getD (g.2.length-1) I0).1=cf (Zr (Zb zs)) ((Zr (Zb zs)).length-1):=by rw [hlc,hg,Zq,hli,hpl]
 have hpb:=(Mr hv).sz
 refine go 5 ⟨O,?_⟩
 refine dt (Zy (ii:=2) (i:=(g.2.length-1)) J J J J Zi Kr Zhp)<|dt (Xy (ii:=2) I0 J J J Zi pI)<|tt (Yz (n:=2) (Es _ _ (by rw [hlc2];have:=hpb ((Zr (Zb zs)).length-1);omega)) J J J K1 call83 (Xu 2 J J (Zf (zs:=g.2) (i:=g.2.length-1) (d:=I0)) Zo) J hw.h) fun _ _=>go 3 ?_
 refine Zc J (fun h29=>?_) (fun h29=>?_)
 ·have hnn:=Zie (xs:=Zb zs) (by rw [Zq];omega) (by rw [←hlc2];exact Zcn.1 h29)
  refine go 3 ?_
  refine cl 3 [2] (Znb _ _ (by rw [hg];exact hpb.mono O)) fun g_2 hg_2=>go 5 ?_
  exact Xa hsc _ results233 J (by rw [hg_2,hg,hnn]) (Oe 3 Za)
 ·have hnn:=Zid (xs:=Zb zs) (fun h=>h29 (Zcn.2 (by rw [hlc2];exact h)))
  refine go 9 ?_
  exact Xa hsc (_,g.2) results233 J (by rw [hg,hnn]) (Oe 2 Za)
theorem Ztc(v:Value)(zs:List (Int×SL))(hv:Vp (Zb zs))(h0:zs.length≠0)(hs:Sz 320 (Zb zs))(hl:zs.length≤10:=by omega):Cal prog 210 #[v] [pp v zs] true (G:=Value×List (Int×SL)) (fun r=>Zb r.2=sqf 13 (Zb zs)) (fun r=>r.1) (fun r=>[pp r.1 r.2]):=by
 refine Zh func210 ntmps210 fun w0 sc hw hsc=>?_
 have hli:=Zd zs
 have hne:Zb zs≠[]:=fun e=>h0 (by rw [←hli,e];rfl)
 obtain⟨k1,k2,k3,k4,k5,k6,k7,k8,k9,k10,k11,k12,k13,k14⟩:=Zlr hv hne hs O
 have k6l:=List.length_pos_iff.2 k6
 have k12l:=List.length_pos_iff.2 k12
 have k2l:=k2.len
 have k11l:=k11.len
 refine go 8 ?_
 refine cl 2 [1] (Zvw _ _ hv h0) fun g hg=>go 4 ?_
 have hl_qs:=congrArg List.length hg
 rw [Zd]at hl_qs
 refine go 4 ?_
 refine cl 3 [2] (Zcp _ _ (by rw [hg];exact k1.sz.mono O)) fun g_2 hg_2=>?_
 have hl_qd:=congrArg List.length hg_2
 rw [Zd]at hl_qd
 refine cl 4 [2,3] (rp_gcd _ _ _ _ 13 (by rw [hg];exact k1) (by rw [hg_2,hg];exact k2) (by rw [hg_2,hg];exact k3)) fun g_3 hg_3=>?_
 have hgg:Zb g_3.2=Ou 13 (Yn (Zb zs)) (Yi (Yn (Zb zs))):=by rw [hg_3,hg_2,hg,k4]
 have hl_g:=congrArg List.length hgg
 rw [Zd]at hl_g
 refine cl 5 [2,4] (Zco _ _ _ _ (by rw [hg];exact k1.tr) (by rw [hgg];exact k5.tr) (fun _=>by rw [hg,hgg];have:=Nat.mul_le_mul (show g.2.length-g_3.2.length+1≤11 by omega) (show Xw (Ou 13 (Yn (Zb zs)) (Yi (Yn (Zb zs))))+1≤451 by omega);omega)) fun g_4 hg_4=>go 8 ?_
 have hqe:=hg_4 (by rw [hg,hgg];exact k7)
 rw [hg,hgg]at hqe
 have hl_q:=congrArg List.length hqe
 rw [Zd]at hl_q
 refine go 2 ?_
 refine cl 6 [5] (Zvw _ _ (by rw [hqe];exact k11) (by rw [hl_q];exact Nat.ne_of_gt k12l)) fun g_5 hg_5=>go 4 ?_
 exact Xa hsc _ results210 J (by rw [hg_5,hqe];exact k13) (Oe 6 Za)
theorem pT{α:Type} : Enc Tryz.prog 46 1 (Ks (α:=α)):=Enc.flat Tryz.sizeOf46 Tryz.isAgg46 (fun _=>rfl)
theorem Zbn(v:Value)(zs:List (Int×SL))(hs:Sz 1000000 (Zb zs))(hc:zs.length≠0→Yk (Zb zs)≠0)(hl:zs.length≤1000:=by omega):Cal Tryz.prog 94 #[v] [pp v zs] true (G:=SL×List (Int×SL)) (fun r=>Zb r.2=Zr (Zb zs)) (fun r=>Mb r.1) (fun r=>[pp (Mb r.1) r.2]):=
  (Oj v zs hs hc hl).toS
theorem Ycf(v:Value)(zs:List (Int×SL))(hv:Vp (Zb zs))(h0:zs.length≠0)(hs:Sz 320 (Zb zs))(hl:zs.length≤10):Cal Tryz.prog 210 #[v] [pp v zs] true (G:=SL×List (Int×SL)) (fun r=>Zb r.2=sqf 13 (Zb zs)) (fun r=>Mb r.1) (fun r=>[pp (Mb r.1) r.2]):=
  (Ztc v zs hv h0 hs hl).toS
theorem Yci(v:Value)(zs:List (Int×SL))(hv:Vp (Zb zs))(h0:zs.length≠0)(hs:Sz 320 (Zb zs))(hl:zs.length≤10):Cal prog 212 #[v] [pp v zs] true (G:=Value×List (SL×List (Int×SL))) (fun r=>Db r.2=Bt 13 (Zb zs)) (fun r=>r.1) (fun r=>[Nv 1 Ks qT r.1 r.2]):=by
 refine Zh func212 ntmps212 fun w0 sc hw hsc=>?_
 have hli:=Zd zs
 have hne:Zb zs≠[]:=fun e=>h0 (by rw [←hli,e];rfl)
 obtain⟨hC,hq,hql⟩:=Yfe hv.tr hne hs O
 obtain⟨hC1,hC2,hC3⟩:=hC
 have hvq:=Zir hv hne hC1
 have hq0:sqf 13 (Zb zs)≠[]:=(Zlr hv hne hs O).2.2.2.2.2.2.2.2.2.2.2.1
 have hqd:=Ky hq O
 have hqdl:=Pn (sqf 13 (Zb zs))
 have hqdt:=Oh hvq.tr
 have hvqd:Vp (Yi (sqf 13 (Zb zs))):=⟨hqd.mono O,hqdt,O⟩
 refine go 8 ?_
 refine cl 2 [1] (Ycf _ _ hv h0 hs hl) fun g hg=>go 6 ?_
 refine tt (Qg (i:=70) (ivs:=[(0,_)]) (enc:=Ks) [g] J J K2 underlying275 ti46 J J J J J pT.cells J J hw.h) fun v _=>go 4 ?_
 have hxe:Zb g.2=sqf 13 (Zb zs):=hg
 have hxl:=congrArg List.length hxe
 rw [Zd]at hxl
 refine Zg (Qi qT 71)<|Zg (Yp (q:=qT) (z:=g) 71 2 71 J J J J J)<|Zg (Xe 2 92 J J J)<|go 2 ?_
 refine cl 3 [2] (Zcp _ _ (by rw [hxe];exact hvq.sz.mono O)) fun g_2 hg_2=>?_
 have hdl:=congrArg List.length hg_2
 rw [Zd,hxe,Pn]at hdl
 refine cl 4 [3] (Zbn _ _ (by rw [hg_2,hxe];exact hqd.mono O) (fun h=>by rw [hg_2,hxe];exact hvqd.ne (fun e=>h (by have h7:=congrArg List.length hg_2;rw [Zd,hxe,e]at h7;exact h7)))) fun g_3 hg_3=>?_
 have hye:Zb g_3.2=Zr (Yi (sqf 13 (Zb zs))):=by rw [show Zb g_3.2=Zr _ from hg_3,hg_2,hxe]
 refine go 5 ?_
 refine Zg (Xe 4 80 J J J)<|lp (G:=List (SL×List (Int×SL))×(SL×List (Int×SL))×(SL×List (Int×SL))×Nat×Value) [] [0,1,2,3,4] (fun q=>[(4,q.2.2.2.2),(3,Mb q.2.1.1),(5,Mb q.2.2.1.1)]) (fun q=>[(70,Ns 1 46 Ks q.2.2.2.2 (q.1 ++ [q.2.1])),(71,Hy qT (q.1 ++ [q.2.1])),(92,pp (Mb q.2.1.1) q.2.1.2),(80,pp (Mb q.2.2.1.1) q.2.2.1.2)]) (fun q=>(Vp (Zb q.2.1.2))∧(Vp (Zb q.2.2.1.2))∧(cok q.2.2.2.1 (Zb q.2.1.2) (Zb q.2.2.1.2))∧(Db q.1 ++ Np q.2.2.2.1 (Zb q.2.1.2) (Zb q.2.2.1.2)=Bt 13 (Zb zs))∧(q.2.1.2.length≤10)∧(q.2.2.1.2.length≤10)∧(q.1.length+q.2.2.1.2.length≤25)) (fun q=>q.2.2.1.2.length) ([],g,g_3,13,_) ⟨by dsimp only;rw [hxe];exact hvq,by dsimp only;rw [hye];exact Mr hvqd,by dsimp only;rw [hxe,hye];exact hC3,by dsimp only;rw [hxe,hye];rfl,O6,by dsimp only;rw [←Zd,hye,Zq];omega,by dsimp only;rw [←Zd,hye,Zq];simp;omega⟩ K3 K4 ?_
 rintro⟨ws,ex,ey,f,vo⟩ ⟨hvx,hvy,hck,hch,hx8,hy8,hwl⟩
 dsimp only at hvx hvy hck hch hx8 hy8 hwl
 dsimp only
 have hlx:=Zd ex.2
 have hly:=Zd ey.2
 refine go 8 ?_
 refine Zc J (fun h64=>?_) (fun h64=>?_)
 ·have hy0:Zb ey.2≠[]:=fun e=>by have h7:=congrArg List.length e;rw [hly]at h7;simp only [List.length_nil]at h7;omega
  obtain⟨f0,rfl,hd,hle,hck2,hsc2⟩:=Zfx hck hy0
  refine go 7 ?_
  refine tt (Qg (i:=5) (ivs:=[(0,_)]) (enc:=Ks) [ey] J J K2 underlying275 ti46 J J J J J pT.cells J J hw.h) (fun v_2 _=>?_)
  refine tt (Lk (i:=70) (j:=5) (by_:=24) J J J J J J O3 J (Yw pT) underlying275 ti46 J pT J J J O9 O3 J hw.h) fun v_3 _=>go 7 ?_
  refine cl 6 [92,80] (r3_rem _ _ _ _ 10 O O O hvx.tr hvy.tr O (by have:=Qn hvx.sz;have:=Qn hvy.sz;omega)) fun g_4 hg_4=>?_
  have hrl:(Iy 10 (Zb ex.2) (Zb ey.2)).length<(Zb ey.2).length:=(Zam hvy.tr hy0 10 (Zb ex.2) hvx.tr O).2.1
  have hrm:=Zq4 (Zb ey.2) 10 (Zb ex.2)
  have hrt:=(Zam hvy.tr hy0 10 (Zb ex.2) hvx.tr O).1
  have hrl2:=congrArg List.length hg_4
  rw [Zd]at hrl2
  refine cl 7 [6] (Znb _ _ (by rw [hg_4];exact(Pf _).mono (by have:=Qn hvx.sz;have:=Qn hvy.sz;omega))) fun g_5 hg_5=>?_
  have hnl:=congrArg List.length hg_5
  rw [Zd,hg_4]at hnl
  have hnl2:=Of (Iy 10 (Zb ex.2) (Zb ey.2)) (-1)
  refine cl 8 [7] (Zbn _ _ (by rw [hg_5,hg_4];exact(Zaf (Pf _) (m:=1) O3).mono (by have:=Qn hvx.sz;have:=Qn hvy.sz;omega)) (fun h=>El (by rw [hg_5];exact Xp _ _) (fun e=>h (by rw [←Zd,e];rfl)))) fun g_6 hg_6=>go 4 ?_
  have hsn:=Zcm (f:=10) hvx.tr hvy.tr hy0 O O
  have hnx:Zb g_6.2=Nl (Zb ex.2) (Zb ey.2):=by rw [show Zb g_6.2=Zr _ from hg_6,hg_5,hg_4];exact hsn
  have hsl:=Dn (y:=Zb ey.2) hvx.tr
  have hpl:=Qr (Zb ex.2) hy0
  have hnxl:=congrArg List.length hnx
  rw [Zd]at hnxl
  exact Zw (Yp (q:=qT) (z:=ey) 71 80 71 J J J J J)<|Zw (Xe 80 92 J J J)<|Zw (Xe 8 80 J J J)<|Yq (ws ++ [ex],ey,g_6,f0,_) ⟨hvy,by dsimp only;rw [hnx];exact Zis hvx hd,by dsimp only;rw [hnx];exact hck2,by dsimp only;rw [hnx,←hch,hsc2];simp [Db],hy8,O6,by dsimp only;simp;omega⟩ O6 K3 K4
 ·refine go 6 ?_
  have hy0:Zb ey.2=[]:=List.eq_nil_of_length_eq_zero O
  refine Zg (Qa 70 J J pT)<|Zg (Pd 70 71 72 J J J J)<|go 6 ?_
  exact Xa hsc (_,ws ++ [ex]) results212 J (by rw [←hch,hy0,Fg];simp [Db]) (Oe 72 Za)
theorem Ycg(v:Value)(l:List Int)(hl:∀i,-1≤l.getD i 0∧l.getD i 0≤1)(hlen:l.length≤1000):Ok prog 236 #[v] [Xc 1 Xg v l] (.int .i64 (chg l)):=by
 refine Zh func236 ntmps236 fun w0 sc hw hsc=>go 18 ?_
 refine lp (G:=Nat×Int×Int) [0] [0,1] (fun q=>[(5,.int .i64 (q.1:Int)),(3,.int .i64 q.2.1),(4,.int .i64 q.2.2)]) (fun q=>[]) (fun q=>(q.1≤l.length)∧((q.2.1,q.2.2)=(l.take q.1).foldl Ow (0,0))∧(0≤q.2.1)∧(q.2.1≤(q.1:Int))∧(-1≤q.2.2)∧(q.2.2≤1)) (fun q=>l.length-q.1) (0,0,0) ⟨O1,O5,Int.le_refl _,Int.le_refl _,O3,O3⟩ K3 trivial ?_
 rintro⟨i,n,m⟩ ⟨hi,hc,hn0,hn1,hm0,hm1⟩
 dsimp only at hi hc hn0 hn1 hm0 hm1
 dsimp only
 have hx:=hl i
 refine go 9 ?_
 refine Zc J (fun h74=>?_) (fun h74=>?_)
 ·refine go 16 ⟨O2,O2,mul_r hx.1 hx.2 hm0 hm1,?_⟩
  refine Zc J (fun h75=>?_) (fun h75=>?_)
  ·refine go 15 ⟨O,O2,O2,?_⟩
   refine Zc J (fun h78=>?_) (fun h78=>?_)
   ·refine go 14 ⟨O2,O2,O,?_⟩
    have hst:=Zci (l:=l) (i:=i) O hc
    exact Yq (i+1,_,_) ⟨O1,by dsimp only;rw [hst];first | exact(Zvv hm0 hm1 hx.1 hx.2 ‹_› ‹_›).symm | exact(Zvu hm0 hm1 hx.1 hx.2 ‹_› ‹_›).symm | exact(Zvt hm0 hm1 hx.1 hx.2 ‹_› ‹_›).symm | exact(Zvs hm0 hm1 hx.1 hx.2 ‹_› ‹_›).symm,O6,O6,by first | exact hx.1 | exact hm0,by first | exact hx.2 | exact hm1⟩ O1 K3 trivial
   ·refine go 8 ⟨O,?_⟩
    have hst:=Zci (l:=l) (i:=i) O hc
    exact Yq (i+1,_,_) ⟨O1,by dsimp only;rw [hst];first | exact(Zvv hm0 hm1 hx.1 hx.2 ‹_› ‹_›).symm | exact(Zvu hm0 hm1 hx.1 hx.2 ‹_› ‹_›).symm | exact(Zvt hm0 hm1 hx.1 hx.2 ‹_› ‹_›).symm | exact(Zvs hm0 hm1 hx.1 hx.2 ‹_› ‹_›).symm,O6,O6,by first | exact hx.1 | exact hm0,by first | exact hx.2 | exact hm1⟩ O1 K3 trivial
  ·refine go 11 ⟨O2,O2,?_⟩
   refine Zc J (fun h78_2=>?_) (fun h78_2=>?_)
   ·refine go 14 ⟨O2,O2,O,?_⟩
    have hst:=Zci (l:=l) (i:=i) O hc
    exact Yq (i+1,_,_) ⟨O1,by dsimp only;rw [hst];first | exact(Zvv hm0 hm1 hx.1 hx.2 ‹_› ‹_›).symm | exact(Zvu hm0 hm1 hx.1 hx.2 ‹_› ‹_›).symm | exact(Zvt hm0 hm1 hx.1 hx.2 ‹_› ‹_›).symm | exact(Zvs hm0 hm1 hx.1 hx.2 ‹_› ‹_›).symm,O6,O6,by first | exact hx.1 | exact hm0,by first | exact hx.2 | exact hm1⟩ O1 K3 trivial
   ·refine go 8 ⟨O,?_⟩
    have hst:=Zci (l:=l) (i:=i) O hc
    exact Yq (i+1,_,_) ⟨O1,by dsimp only;rw [hst];first | exact(Zvv hm0 hm1 hx.1 hx.2 ‹_› ‹_›).symm | exact(Zvu hm0 hm1 hx.1 hx.2 ‹_› ‹_›).symm | exact(Zvt hm0 hm1 hx.1 hx.2 ‹_› ‹_›).symm | exact(Zvs hm0 hm1 hx.1 hx.2 ‹_› ‹_›).symm,O6,O6,by first | exact hx.1 | exact hm0,by first | exact hx.2 | exact hm1⟩ O1 K3 trivial
 ·refine go 12 ?_
  exact Xa hsc () results236 (by unfold chg;rw [show l=l.take i by rw [List.take_of_length_le O],←hc]<;>rfl) trivial Za
theorem r3_at(v w u:Value)(ls:List (SL×List (Int×SL)))(x y:Int)(hz:∀z∈ls,Vp (Zb z.2))(hx:bl x.natAbs≤1000000)(hy:bl y.natAbs≤1000000)(hlen:ls.length≤30:=by omega):Ok prog 213 #[v,.agg #[.bool (decide (x<0)),w,.bool (decide (y<0)),u]] [Nv 1 Ks qT v ls,Om w x.natAbs,Om u y.natAbs] (.int .i64 (chg ((Db ls).map (Fv x y)))):=by
 refine Zh func213 ntmps213 fun w0 sc hw hsc=>?_
 have hLl:((Db ls).map (Fv x y)).length=ls.length:=O5
 have hLg:=fun i (h:i<ls.length)=>Zz3 (z:=ls) rfl (Fv x y) h
 refine go 2 ?_
 refine Ya (Yl 4) fun b _=>go 15 ?_
 refine Zg (Px 70 1 3 Xg)<|lp (G:=Nat×Value) [0,3] [0,1,2,3,4] (fun q=>[(6,.int .i64 (q.1:Int)),(5,q.2)]) (fun q=>[(70,Ns 1 3 Xg q.2 (((Db ls).map (Fv x y)).take q.1))]) (fun q=>q.1≤ls.length) (fun q=>ls.length-q.1) (0,.slice none 0 0) O1 K2 K1 ?_
 rintro⟨i,vo⟩ hi
 dsimp only at hi
 dsimp only
 have htl:(((Db ls).map (Fv x y)).take i).length=i:=by rw [List.length_take];omega
 refine go 9 ?_
 refine Zc J (fun h88=>?_) (fun h88=>?_)
 ·refine go 4 ?_
  have hvi:=hz (ls.getD i T0) (Zf)
  have hvl:=hvi.len
  rw [Zd]at hvl
  refine Zg (Ci 1 91 (ls.getD i T0) J J (Zf) J)<|Pm [1,4] [10]<|Zl (n:=0) [(0,0),(1,0),(2,0),(3,0),(4,0),(5,0),(6,1),(7,1),(8,1),(9,1),(10,3)]<|go 4 ⟨O2,?_⟩
  refine Qo J J (stf (Xy (ii:=1) T0 J J J Zi pT O2) K2)<|go 1 ?_
  refine Yh (Zj 5 [91,2,3] (Zvj _ _ _ _ x y (hvi.sz.mono O) hx hy)) fun v _=>Yh (Zj 5 [5] (Es _ _ (by have:=ev_b (hvi.sz.mono O:Sz 1000000 _) (by have:=hvi.len;omega) hx hy;omega))) fun _ _=>?_
  refine Kg J (Qg (i:=6) (ivs:=[(0,_)]) (enc:=Xg) [(Fv x y (Zb (ls.getD i T0).2))] J J K2 Fd ti3 J J J J J pZ.cells J J hw.h) (fun v_2 _=>?_)
  refine Kg J (Zdw 70 J J J K2 (fun hoffr=>(Zae (i:=70) (j:=6) (by_:=8) J J J J J J O3 J (Yw pZ) Fd ti3 J pZ J J J (by rw [htl];simp;omega) O3 J hw.h hoffr))) fun v_3 _=>go 2 ?_
  refine Zp<|go 7 ⟨O,?_⟩
  exact Yq (i+1,_) O1 O1 K2 ⟨by rw [Pz 0 _ _ O,hLg i O];rfl,trivial⟩
 ·refine go 6 ?_
  refine Zg (Qa 70 J J pZ) ?_
  have htk:((Db ls).map (Fv x y)).take i=((Db ls).map (Fv x y)):=List.take_of_length_le O
  refine go 2 ?_
  refine cl 6 [70] (Ycg _ _ (fun i=>by rw [htk];by_cases hi9:i<ls.length;(rw [hLg i hi9];exact fat_r _ _ _);(rw [show((Db ls).map (Fv x y)).getD i 0=0 from Yb O];decide)) O) fun _ _=>go 4 ?_
  exact Xa hsc () results213 (by rw [htk]) trivial Za
theorem Ych(v w u w2 u2:Value)(zs:List (Int×SL))(x y x2 y2:Int)(hv:Vp (Zb zs))(h0:zs.length≠0)(hs:Sz 320 (Zb zs))(hl:zs.length≤10)(hx:bl x.natAbs≤1000000)(hy:bl y.natAbs≤1000000)(hx2:bl x2.natAbs≤1000000)(hy2:bl y2.natAbs≤1000000):Ok prog 184 #[v,.agg #[.bool (decide (x<0)),w,.bool (decide (y<0)),u],.agg #[.bool (decide (x2<0)),w2,.bool (decide (y2<0)),u2]] [pp v zs,Om w x.natAbs,Om u y.natAbs,Om w2 x2.natAbs,Om u2 y2.natAbs] (.int .i64 (cnt 13 (Zb zs) x y-cnt 13 (Zb zs) x2 y2)):=by
 refine Zh func184 ntmps184 fun w0 sc hw hsc=>?_
 have hli:=Zd zs
 have hne:Zb zs≠[]:=fun e=>h0 (by rw [←hli,e];rfl)
 obtain⟨hC,hq,hql⟩:=Yfe hv.tr hne hs O
 refine go 2 ?_
 refine Ya (Yl 6) fun b _=>Ya (Yl 7) fun b_2 _=>go 6 ?_
 refine cl 8 [1] (Yci _ _ hv h0 hs hl) fun g hg=>go 4 ?_
 have hT:Db g.2=Bt 13 (Zb zs):=hg
 have hTl:=Zz4 hT
 have hll:(Bt 13 (Zb zs)).length≤_:=Br 13 _ _
 have hr1:=Ar ((Db g.2).map (Fv x y))
 have hr2:=Ar ((Db g.2).map (Fv x2 y2))
 simp only [List.length_map]at hr1 hr2
 have hVz:∀z∈g.2,Vp (Zb z.2):=fun z hz=>Yar hv hne hC _ (by rw [←hT];exact List.mem_map_of_mem (f:=fun z=>Zb z.2) hz)
 refine Xx (fun _=>False) [(0,0),(1,0),(3,0),(4,0),(2,1),(5,1),(6,0),(7,3)]<|go 4 ?_
 refine Yh (Zj 8 [8,2,3] (r3_at _ _ _ _ x y hVz hx hy)) fun _ _=>Yh (Zj 8 [8,4,5] (r3_at _ _ _ _ x2 y2 hVz hx2 hy2)) fun _ _=>go 5 ⟨O,?_⟩
 exact Xa hsc () results184 (by rw [hT]<;>rfl) trivial Za
theorem Zqn(xs:List Int)(hd:Cvd xs)(hx0:xs≠[])(f:Nat)(ih:∀(v:Value) (zs:List (Int×SL)) (hI:RI xs (Zb zs)) (hf:zs.length≤f),Cal prog 183 #[v] [pp v zs] true (G:=Value×List (Int×SL)) (fun r=>Zb r.2=Zbo 13 f (Zb zs)) (fun r=>r.1) (fun r=>[pp r.1 r.2]))(v:Value)(zs:List (Int×SL))(hI:RI xs (Zb zs))(hf:zs.length≤f+1):Cal prog 183 #[v] [pp v zs] true (G:=Value×List (Int×SL)) (fun r=>Zb r.2=Zbo 13 (f+1) (Zb zs)) (fun r=>r.1) (fun r=>[pp r.1 r.2]):=by
 refine Zh func183 ntmps183 fun w0 sc hw hsc=>?_
 have hli:=Zd zs
 have hIl:=hI.l
 have hz0:zs.length≠0:=fun e=>hI.ne (List.eq_nil_of_length_eq_zero O)
 refine go 8 ?_
 refine cl 2 [1] (Ztc _ _ hI.v hz0 (hI.s.mono O)) fun g hg=>?_
 have H_on:Zb g.2=(sqf 13 (Zb zs)):=hg
 have hl_on:=congrArg List.length H_on
 rw [Zd]at hl_on
 refine go 11 ?_
 refine Zc J (fun h29=>?_) (fun h29=>?_)
 ·have h1:(sqf 13 (Zb zs)).length=1:=O
  refine go 8 ?_
  exact Xa hsc (_,g.2) results183 J (by rw [H_on,rodd_1 h1]) (Oe 2 Za)
 ·have h1:(sqf 13 (Zb zs)).length≠1:=O
  obtain⟨c1,c2,c3,c4,c5,c6,c7,c8,c9,c10,c11,c12,c13,c14,c15,c16,c17,c18,c19,c20,c21,c22,c23,c24,c25⟩:=RI.step hd hx0 hI
  have m6:=Qn c6
  have m12:=Qn c12
  have hl_lfp:=Zq (Zb zs)
  refine go 5 ?_
  refine cl 3 [1] (Oj _ _ (hI.s.mono O) (fun _=>c5)) fun g_2 hg_2=>?_
  have H_pp:Zb g_2.2=Zr (Zb zs):=hg_2
  have hl_pp:=congrArg List.length H_pp
  rw [Zd]at hl_pp
  refine cl 4 [] (Nm 1 ⟨O3,O3⟩) fun v _=>cl 5 [3,4] (Ib _ _ _ _ (by rw [H_pp];exact(Kx hI.s).mono O) O O8) fun g_3 hg_3=>?_
  have H_sc:Zb g_3.2=Zv (Zr (Zb zs)) 1:=by rw [hg_3,H_pp]
  have hl_sc:=congrArg List.length H_sc
  rw [Zd]at hl_sc
  refine go 1 ?_
  refine cl 6 [5,2] (Zco _ _ _ _ (by rw [H_sc];exact c7) (by rw [H_on];exact c1) (fun _=>by rw [H_sc,H_on];have h7:=Nat.mul_le_mul (show g_3.2.length-g.2.length+1≤10 by omega) (show Xw (sqf 13 (Zb zs))+1≤446 by omega);omega)) fun g_4 hg_4=>?_
  have H_lf:Zb g_4.2=Oq 13 (Zb zs):=by have h9:=hg_4 (by rw [H_sc,H_on];exact c9);rw [H_sc,H_on]at h9;exact h9
  have hl_lf:=congrArg List.length H_lf
  rw [Zd]at hl_lf
  refine go 10 ?_
  refine cl 7 [6] (Ztc _ _ (by rw [H_lf];exact c10) (fun e=>c11 (List.eq_nil_of_length_eq_zero (by rw [←H_lf,Zd];exact e))) (by rw [H_lf];exact c12.mono O)) fun g_5 hg_5=>?_
  have H_tw:Zb g_5.2=(sqf 13 (Oq 13 (Zb zs))):=by rw [hg_5,H_lf]
  have hl_tw:=congrArg List.length H_tw
  rw [Zd]at hl_tw
  refine go 7 ?_
  refine cl 8 [2,7] (Zco _ _ _ _ (by rw [H_on];exact c1) (by rw [H_tw];exact c16) (fun _=>by rw [H_on,H_tw];have h7:=Nat.mul_le_mul (show g.2.length-g_5.2.length+1≤10 by omega) (show Xw (sqf 13 (Oq 13 (Zb zs)))+1≤446 by omega);omega)) fun g_6 hg_6=>?_
  have H_ol:Zb g_6.2=Ms (sqf 13 (Zb zs)) (sqf 13 (Oq 13 (Zb zs))):=by have h9:=hg_6 (by rw [H_on,H_tw];exact c20);rw [H_on,H_tw]at h9;exact h9
  have hl_ol:=congrArg List.length H_ol
  rw [Zd]at hl_ol
  refine go 10 ?_
  refine cl 9 [6] (Oj _ _ (by rw [H_lf];exact c12.mono O) (fun _=>by rw [H_lf];exact c14)) fun g_7 hg_7=>?_
  have H_p2:Zb g_7.2=(Oq 13 (Zb zs)):=by rw [hg_7,H_lf,c15]
  have hl_p2:=congrArg List.length H_p2
  rw [Zd]at hl_p2
  refine go 1 ?_
  refine cl 10 [9,7] (Zco _ _ _ _ (by rw [H_p2];exact c10.tr) (by rw [H_tw];exact c16) (fun _=>by rw [H_p2,H_tw];have h7:=Nat.mul_le_mul (show g_7.2.length-g_5.2.length+1≤10 by omega) (show Xw (sqf 13 (Oq 13 (Zb zs)))+1≤446 by omega);omega)) fun g_8 hg_8=>?_
  have H_rs:Zb g_8.2=Cj 13 (Zb zs):=by have h9:=hg_8 (by rw [H_p2,H_tw];exact c23);rw [H_p2,H_tw]at h9;exact h9.trans (by unfold Cj;rw [c15])
  have hl_rs:=congrArg List.length H_rs
  rw [Zd]at hl_rs
  refine go 11 ?_
  refine cl 11 [10] (ih _ _ (by rw [H_rs];exact c24) (by have:=c25 h1;omega)) fun g_9 hg_9=>?_
  have hl_od:=congrArg List.length hg_9
  rw [Zd,H_rs]at hl_od
  obtain⟨q1,q2,q3⟩:=RI.size hd hx0 c24 (f:=f) (by have:=c25 h1;omega)
  refine cl 12 [8,11] (Yb0 _ _ _ _ (by rw [H_ol];exact c21.mono O) (by rw [hg_9,H_rs];exact q2.mono O)) fun g_10 hg_10=>go 4 ?_
  exact Xa hsc _ results183 J (by rw [hg_10,H_ol,hg_9,H_rs];exact(rodd_s h1).symm) (Oe 12 Za)
theorem Zje(xs:List Int)(hd:Cvd xs)(hx0:xs≠[]):∀(f:Nat) (v:Value) (zs:List (Int×SL)) (hI:RI xs (Zb zs)) (hf:zs.length≤f),Cal prog 183 #[v] [pp v zs] true (G:=Value×List (Int×SL)) (fun r=>Zb r.2=Zbo 13 f (Zb zs)) (fun r=>r.1) (fun r=>[pp r.1 r.2])
 | 0,v,zs,hI,hf=>absurd (List.eq_nil_of_length_eq_zero (by rw [Zd];omega)) hI.ne
 | f+1,v,zs,hI,hf=>Zqn xs hd hx0 f (Zje xs hd hx0 f) v zs hI hf
theorem r4_odd(v:Value)(zs:List (Int×SL))(hd:Cvd (Zb zs))(h0:zs.length≠0):Cal prog 183 #[v] [pp v zs] true (G:=Value×List (Int×SL)) (fun r=>Zb r.2=Mt (Zb zs)) (fun r=>r.1) (fun r=>[pp r.1 r.2]):=by
 have hne:Zb zs≠[]:=fun e=>h0 (by rw [←Zd,e];rfl)
 have h:=Zje (Zb zs) hd hne zs.length v zs (RI.start hd hne) (Nat.le_refl _)
 rw [←Zd zs,Zy0 hd hne]at h
 exact h
theorem Zw0(x y:Int):Fv x y []=0:=by unfold Fv;rw [show pev [] x y=0 from rfl];rfl
theorem Zkh{p:List Int}(h:p.length=0):Qs p=[]:=by unfold Qs;rw [h];rfl
theorem Zyj(p:List Int)(x y:Int):vlu (Qs p) (x,y)=Fv x y p:=by
  by_cases h:p.length=0
  · obtain rfl:=List.eq_nil_of_length_eq_zero h
    rw [Zkh h,Zw0];rfl
  · rw [Zc8 h];rfl
theorem Zml(a:Int)(l:List Int):Zhy (a :: l)=if a≠0 then a else Zhy l:=by
  by_cases h:a=0
  · rw [if_neg (fun e=>e h)]
    subst h
    rfl
  · rw [if_pos h]
    unfold Zhy
    simp [h]
theorem Zsh{p:List Int}{x y:Int}(h:p.length=0∨Fv x y p≠0):aft (Qs p) (x,y)=Fv x y p:=by
  by_cases h0:p.length=0
  · obtain rfl:=List.eq_nil_of_length_eq_zero h0
    rw [Zkh h0,Zw0];rfl
  · have h1:=h.resolve_left h0
    rw [Zc8 h0]
    unfold aft
    rw [List.map_cons,Zml,if_pos h1]
theorem aft_go{p:List Int}{x y:Int}(h0:p.length≠0)(h1:Fv x y p=0):aft (Qs p) (x,y)=aft (Qs (Yi p)) (x,y):=by
  rw [Zc8 h0]
  unfold aft
  rw [List.map_cons,Zml,if_neg (fun e=>e h1)]
theorem Zyi{p:List Int}{k:Nat}(hv:Vp p)(hs:Sz k p)(hk:k≤60000):Vp (Yi p):=by
  have hl:=hv.len
  have h:=Ky hs O
  exact⟨h.mono O,Oh hv.tr,by have:=Pn p;omega⟩
theorem Zxq{p:List Int}(h:p.length≠0)(x y:Int):cnt 13 (Mt p) x y=chv (Eu p) (x,y):=by rw [Zo1 h];rfl
theorem Yfd{p:List Int}(hd:Cvd p)(h:p.length≠0){x y:Int}(hy:0<y):Fv x y ((Eu p).getD 0 [])=0↔Fv x y (Mt p)=0:=by
  have hne:p≠[]:=fun e=>h (by rw [e];rfl)
  obtain⟨o1,-⟩:=Zat hd hne
  rw [Zo1 h]
  have e:(Bt 13 (Mt p)).getD 0 []=sqf 13 (Mt p):=by
    unfold Bt Np
    split<;>rfl
  rw [e]
  have z:=o1.zero ((x:Rat)/(y:Rat))
  rw [Zc6 hy _,Zc6 hy _]
  constructor
  · intro h1
    have := z.1 (by rcases Qw (Ze (sqf 13 (Mt p)) ((x : Rat) / (y : Rat))) with ⟨h5, h6⟩ | ⟨h5, h6⟩ | ⟨h5, h6⟩
                    · rw [h6]at h1;exact absurd h1 O3
                    · rw [h6]at h1;exact absurd h1 O3
                    · exact h5)
    rw [this];decide
  · intro h1
    have := z.2 (by rcases Qw (Ze (Mt p) ((x : Rat) / (y : Rat))) with ⟨h5, h6⟩ | ⟨h5, h6⟩ | ⟨h5, h6⟩
                    · rw [h6]at h1;exact absurd h1 O3
                    · rw [h6]at h1;exact absurd h1 O3
                    · exact h5)
    rw [this];decide
theorem Zxv{p:List Int}(h:p.length≠0):(Eu p).length≠0:=by
  rw [Zo1 h]
  unfold Bt Np
  split<;>simp
theorem Yiu{p:List Int}(h:p.length=0)(a b:R2):crb (Eu p) a b=false:=by
  unfold Eu;rw [if_pos h];rfl
theorem crx_t{p:List Int}(hd:Cvd p)(h:p.length≠0){x y x2 y2:Int}(hy:0<y2)(hz:Fv x2 y2 (Mt p)=0):crb (Eu p) (x,y) (x2,y2)=decide (0<chv (Eu p) (x,y)-chv (Eu p) (x2,y2)-1):=by
  unfold crb;rw [if_neg (Zxv h),if_pos ((Yfd hd h hy).2 hz)]
theorem crx_f{p:List Int}(hd:Cvd p)(h:p.length≠0){x y x2 y2:Int}(hy:0<y2)(hz:¬Fv x2 y2 (Mt p)=0):crb (Eu p) (x,y) (x2,y2)=decide (0<chv (Eu p) (x,y)-chv (Eu p) (x2,y2)):=by
  unfold crb;rw [if_neg (Zxv h),if_neg (fun e=>hz ((Yfd hd h hy).1 e)),Int.sub_zero]
theorem Zw1{p:List Int}{a:R2}(ha:0<a.2):Fv a.1 a.2 p<0↔Ze p (qv a)<0:=by
  rw [show Fv a.1 a.2 p=Gl (Ze p (qv a))from Zc6 ha p]
  rcases Qw (Ze p (qv a))with⟨h5,h6⟩ | ⟨h5,h6⟩ | ⟨h5,h6⟩
  · rw [h6];constructor
    · intro h;exact absurd h O3
    · intro h;grind
  · rw [h6];exact⟨fun _=>h5,fun _=>O3⟩
  · rw [h6,h5];constructor
    · intro h;exact absurd h O3
    · intro h;exact absurd h O3
theorem Zwb{p:List Int}(hd:Cvd p){a b:R2}(ha:0<a.2)(hb:0<b.2)(hc:¬0<cmp a b)(h:Fv a.1 a.2 p<0):ngb (Qs p) (Eu p) a b=true:=by
  have hle:=(Zov ha hb).1 O
  exact(Zfc hd ha hb hle).2 ⟨qv a,Rat.le_refl,hle,(Zw1 ha).1 h⟩
theorem Zwa{p:List Int}(hd:Cvd p){a b:R2}(ha:0<a.2)(hb:0<b.2)(hc:¬0<cmp a b)(h:Fv b.1 b.2 p<0):ngb (Qs p) (Eu p) a b=true:=by
  have hle:=(Zov ha hb).1 O
  exact(Zfc hd ha hb hle).2 ⟨qv b,hle,Rat.le_refl,(Zw1 hb).1 h⟩
theorem Zv9{p:List Int}{a b:R2}(hc:¬cmp a b=0)(h:aft (Qs p) a<0):ngb (Qs p) (Eu p) a b=true:=by
  unfold ngb;rw [if_neg hc,decide_eq_true h];rfl
theorem Zv8{p:List Int}{a b:R2}(hc:¬cmp a b=0)(h:¬aft (Qs p) a<0):ngb (Qs p) (Eu p) a b=crb (Eu p) a b:=by
  unfold ngb;rw [if_neg hc,decide_eq_false h];rfl
theorem ngb_e{p:List Int}{a b:R2}(hc:cmp a b=0):ngb (Qs p) (Eu p) a b=decide (Fv a.1 a.2 p<0):=by
  unfold ngb;rw [if_pos hc,show vlu (Qs p) a=Fv a.1 a.2 p from Zyj p a.1 a.2]
theorem Cl(v w u:Value)(zs:List (Int×SL))(x y:Int)(hx:bl x.natAbs≤1000000)(hy:bl y.natAbs≤1000000)(hs:Sz 1000000 (Zb zs))(hl:zs.length≤30:=by omega):Ok prog 141 #[v,.agg #[.bool (decide (x<0)),w,.bool (decide (y<0)),u]] [pp v zs,Om w x.natAbs,Om u y.natAbs] (.int .i64 (Fv x y (Zb zs))):=by
 refine Zh func141 ntmps141 fun w0 sc hw hsc=>?_
 have hli:=Zd zs
 refine go 2 ?_
 refine Ya (Yl 4) fun bx _=>go 7 ?_
 refine cl 5 [1,2,3] (Zvj _ _ _ _ x y hs hx hy) fun v _=>cl 5 [5] (Es _ _ (by have:=ev_b hs O hx hy;omega)) fun _ _=>go 4 ?_
 exact Xa hsc () results141 J trivial Za
theorem Zk8(x y:Int)(hx:bl x.natAbs≤1000000)(hy:bl y.natAbs≤1000000)(n:Nat)(ih:∀(v w u:Value) (zs:List (Int×SL)) (k:Nat) (hv:Vp (Zb zs)) (hk:Sz k (Zb zs)) (hkk:k+5*zs.length≤230) (hf:zs.length<n),Cal prog 142 #[v,.agg #[.bool (decide (x<0)),w,.bool (decide (y<0)),u]] [pp v zs,Om w x.natAbs,Om u y.natAbs] false (G:=Unit) (fun _=>True) (fun _=> .int .i64 (aft (Qs (Zb zs)) (x,y))) (fun _=>[]))(v w u:Value)(zs:List (Int×SL))(k:Nat)(hv:Vp (Zb zs))(hk:Sz k (Zb zs))(hkk:k+5*zs.length≤230)(hf:zs.length<n+1):Cal prog 142 #[v,.agg #[.bool (decide (x<0)),w,.bool (decide (y<0)),u]] [pp v zs,Om w x.natAbs,Om u y.natAbs] false (G:=Unit) (fun _=>True) (fun _=> .int .i64 (aft (Qs (Zb zs)) (x,y))) (fun _=>[]):=by
 refine Zh func142 ntmps142 fun w0 sc hw hsc=>?_
 have hli:=Zd zs
 have hlen:=hv.len
 have hld:=Pn (Zb zs)
 have hvd:=Zyi hv hk O
 have hkd:=Ky hk O
 refine go 2 ?_
 refine Ya (Yl 4) fun bx _=>go 10 ?_
 refine Ys (d:=8) J (fun s44=>?_) (fun s44=>?_)
 ·refine go 12 ?_
  refine cl 4 [1,2,3] (Cl _ _ _ _ x y hx hy (hv.sz.mono O)) fun _ _=>go 5 ?_
  exact Xa hsc () results142 (by rw [Zsh (by first | (left;omega) | (right;assumption))]) trivial Za
 ·refine go 2 ?_
  refine Bl 4 [1,2,3] (Cl _ _ _ _ x y hx hy (hv.sz.mono O)) fun _ _=>go 4 ?_
  refine Zc J (fun h44=>?_) (fun h44=>?_)
  ·refine go 4 ?_
   refine cl 4 [1,2,3] (Cl _ _ _ _ x y hx hy (hv.sz.mono O)) fun _ _=>go 5 ?_
   exact Xa hsc () results142 (by rw [Zsh (by first | (left;omega) | (right;assumption))]) trivial Za
  ·refine go 3 ?_
   refine Fw (fun _=>False) [4]<|Zl (n:=2) [(0,0),(2,0),(1,1)]<|go 2 ?_
   refine Yh (Zj 5 [1] (Zcp _ _ (hv.sz.mono O))) fun g hg=>go 1 ?_
   have hD:Zb g.2=Yi (Zb zs):=hg
   have hl7:=congrArg List.length hD
   rw [Zd]at hl7
   refine Zl (n:=0) [(3,1),(4,3)]<|Yh (Zj 5 [5,2,3] (ih _ _ _ _ (k+5) (by rw [hD];exact hvd) (by rw [hD];exact hkd) O O)) fun _ _=>go 2 ?_
   refine Zp<|go 2 ?_
   exact Xa hsc () results142 (by rw [aft_go (p:=Zb zs) O (Decidable.byContradiction ‹_›),←hD]) trivial Za
theorem Zqp(x y:Int)(hx:bl x.natAbs≤1000000)(hy:bl y.natAbs≤1000000):∀(n:Nat) (v w u:Value) (zs:List (Int×SL)) (k:Nat) (hv:Vp (Zb zs)) (hk:Sz k (Zb zs)) (hkk:k+5*zs.length≤230) (hf:zs.length<n),Cal prog 142 #[v,.agg #[.bool (decide (x<0)),w,.bool (decide (y<0)),u]] [pp v zs,Om w x.natAbs,Om u y.natAbs] false (G:=Unit) (fun _=>True) (fun _=> .int .i64 (aft (Qs (Zb zs)) (x,y))) (fun _=>[])
 | 0,v,w,u,zs,k,hv,hk,hkk,hf=>absurd hf (Nat.not_lt_zero _)
 | n+1,v,w,u,zs,k,hv,hk,hkk,hf=>Zk8 x y hx hy n (Zqp x y hx hy n) v w u zs k hv hk hkk hf
end Go.Sky

