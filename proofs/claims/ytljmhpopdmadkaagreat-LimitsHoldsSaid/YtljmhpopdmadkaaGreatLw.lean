/- The law: part 18. No conditions but those that each theorem names. -/
import Derived.Test.YtljmhpopdmadkaaGreatLw16
set_option linter.all false
namespace Go.Sky
open Go.Proofs
set_option synthInstance.maxHeartbeats 0
set_option synthInstance.maxSize 100000
set_option maxRecDepth 20000
set_option maxHeartbeats 4000000
set_option linter.unusedSimpArgs false
set_option maxHeartbeats 1000000 in
theorem Zty(v:Value)(ps:List Zz)(sp ac mo tf tt:Int)(hp:∀g∈ps,Gin g)(hf:Zdu ps 3=true)(hb:Me ps=true)(hl:(1≤sp∧sp≤10000∧1≤ac∧ac≤10000))(hfi:fiB ps sp ac=none)(hr:¬(spF ps≤tf∧tf<tt∧tt≤spL ps)):Cal Tryz.prog 8 #[v,.agg #[.int .i64 sp,.int .i64 ac],.int .i64 mo,.int .i64 tf,.int .i64 tt] [Pq 6 Mj qG v ps] false (G:=Unit) (fun _=>True) (fun _=> .bool true) (fun _=>[]):=by
 refine Zd Tryz.func8 Tryz.ntmps8 fun w0 sc hw hsc=>?_
 have hsg:=Dd hp hb
 obtain⟨ht1,ht2,ht3⟩:=Ztx hsg hl hfi
 refine go 2 ?_
 refine Yd (Yg 2) fun bx _=>?_
 refine go 7 ?_
 refine cl 2 [1] (Ba _ ps 3) fun _ _=>?_
 refine dt (Zj (r':= .bool false) (Yp rfl rfl) (congrArg (fun b=>Value.bool (!b)) hf)) ?_
 refine go 2 ?_
 refine Fl 2 [1] (Lc _ _ hp) fun _ _=>?_
 refine Ly (Zj (r':= .bool false) (Yp rfl rfl) (congrArg (fun b=>Value.bool (!b)) hb)) rfl rfl ?_
 refine go 3 ?_
 refine Fl 2 [] (Ds _ _) fun _ _=>?_
 refine Ly (Zj (r':= .bool false) (Yp rfl rfl) (congrArg (fun b=>Value.bool (!b)) (decide_eq_true hl))) rfl rfl ?_
 refine go 10 ?_
 refine cl 2 [1] (Ko _ _ _ _ hp hb hl) fun _ _=>?_
 refine go 1 ?_
 refine dt (Zj (r':= .bool true) (Zap rfl rfl rfl) (by rw [hfi];rfl)) ?_
 refine go 9 ?_
 refine cl 2 [1] (Cj _ _ _ _ hp hb hl) fun _ _=>?_
 refine go 2 ?_
 refine dt (Zj (r':= .bool false) (Zap rfl rfl rfl) (by rw [hfi];rfl)) ?_
 refine go 1 ?_
 refine Yd (Zs 3) fun bx_2 _=>?_
 refine go 9 ?_
 refine kf (decide_eq_false O3) ?_
 refine go 2 ?_
 refine kfg (decide_eq_false O3) ?_
 refine go 4 ?_
 refine Ly (Zj (r':= .bool false) (Zmu rfl rfl rfl Tryz.underlying4) rfl) rfl rfl ?_
 refine go 9 ?_
 refine cl 3 [1] (Zdo _ _ hp hb) fun _ _=>?_
 refine go 3 ?_
 refine Yd (Zs 4) fun bx_3 _=>?_
 refine go 8 ?_
 refine kt (decide_eq_true ht1) ?_
 refine go 6 ?_
 refine ktg (decide_eq_true ht2) ?_
 refine go 5 ?_
 refine ktg (decide_eq_true ht3) ?_
 refine go 1 ?_
 refine Ly (Zj (r':= .bool false) (Zhd rfl rfl rfl Tryz.underlying4) rfl) rfl rfl ?_
 refine go 3 ?_
 refine kfg (decide_eq_false (fun h=>h ht1)) ?_
 refine go 9 ?_
 refine jn (G:=Unit) [0,3,4,6,11] [0,1,2,3,4] (fun _=>[]) (fun _=>[]) (fun _=>True) ?_ ?_
 ·refine go 1 ?_
  rcases Gx mo with hm1 | ⟨hm1,hm2⟩ | ⟨hm1,hm2⟩
  ·refine go 2 ?_
   refine kf (decide_eq_false hm1) ?_
   refine go 11 ?_
   exact Qu () trivial trivial trivial
  ·refine go 2 ?_
   refine kt (decide_eq_true hm1) ?_
   refine go 2 ?_
   refine kfg (decide_eq_false hm2) ?_
   refine go 8 ?_
   exact Qu () trivial trivial trivial
  ·refine go 2 ?_
   refine kt (decide_eq_true hm1) ?_
   refine go 2 ?_
   refine ktg (decide_eq_true hm2) ?_
   refine go 14 ⟨O,?_⟩
   refine dt (Zkl rfl rfl rfl) ?_
   refine go 4 ⟨O,?_⟩
   refine dt (Zkl rfl rfl rfl) ?_
   refine dt (Xl (ivs:=[(0,_),(1,_)]) rfl ⟨rfl,rfl,rfl,rfl,trivial⟩ (fun a w hs=>Zd2 ((Zn rfl) a w hs) ((Zn rfl) a w hs))) ?_
   refine cl 4 [1] (Ko _ ps (min 10000 (sp+mo)) (min 10000 (ac+mo)) hp hb ⟨O,O,O,O⟩) fun _ _=>?_
   refine go 1 ?_
   refine dt (Zj (r':= .bool true) (Zap rfl rfl rfl) (by rw [Zop hsg O O O O O O hfi];rfl)) ?_
   refine go 8 ?_
   refine kf (decide_eq_false O3) ?_
   refine go 2 ?_
   refine Ly (Zj (r':= .bool false) (Yp rfl rfl) rfl) rfl rfl ?_
   refine go 5 ?_
   exact Qu () trivial trivial trivial
 ·rintro _ -
  refine go 5 ?_
  refine cl 4 [1] (Ax _ _ _ _ hp hb hr) fun _ _=>?_
  refine go 11 ?_
  refine kt (decide_eq_true O3) ?_
  refine go 9 ?_
  refine cl 4 [] (Nc) fun _ _=>?_
  refine go 5 ?_
  exact Xj hsc () Tryz.results8 rfl trivial Za
set_option maxHeartbeats 1000000 in
theorem Zt0(v:Value)(ps:List Zz)(sp ac mo tf tt:Int)(hp:∀g∈ps,Gin g)(hf:Zdu ps 3=true)(hb:Me ps=true)(hl:(1≤sp∧sp≤10000∧1≤ac∧ac≤10000))(hfi:fiB ps sp ac=none)(hr:(spF ps≤tf∧tf<tt∧tt≤spL ps))(hca:Kt tf tt ps=false):Cal Tryz.prog 8 #[v,.agg #[.int .i64 sp,.int .i64 ac],.int .i64 mo,.int .i64 tf,.int .i64 tt] [Pq 6 Mj qG v ps] false (G:=Unit) (fun _=>True) (fun _=> .bool true) (fun _=>[]):=by
 refine Zd Tryz.func8 Tryz.ntmps8 fun w0 sc hw hsc=>?_
 have hsg:=Dd hp hb
 obtain⟨ht1,ht2,ht3⟩:=Ztx hsg hl hfi
 refine go 2 ?_
 refine Yd (Yg 2) fun bx _=>?_
 refine go 7 ?_
 refine cl 2 [1] (Ba _ ps 3) fun _ _=>?_
 refine dt (Zj (r':= .bool false) (Yp rfl rfl) (congrArg (fun b=>Value.bool (!b)) hf)) ?_
 refine go 2 ?_
 refine Fl 2 [1] (Lc _ _ hp) fun _ _=>?_
 refine Ly (Zj (r':= .bool false) (Yp rfl rfl) (congrArg (fun b=>Value.bool (!b)) hb)) rfl rfl ?_
 refine go 3 ?_
 refine Fl 2 [] (Ds _ _) fun _ _=>?_
 refine Ly (Zj (r':= .bool false) (Yp rfl rfl) (congrArg (fun b=>Value.bool (!b)) (decide_eq_true hl))) rfl rfl ?_
 refine go 10 ?_
 refine cl 2 [1] (Ko _ _ _ _ hp hb hl) fun _ _=>?_
 refine go 1 ?_
 refine dt (Zj (r':= .bool true) (Zap rfl rfl rfl) (by rw [hfi];rfl)) ?_
 refine go 9 ?_
 refine cl 2 [1] (Cj _ _ _ _ hp hb hl) fun _ _=>?_
 refine go 2 ?_
 refine dt (Zj (r':= .bool false) (Zap rfl rfl rfl) (by rw [hfi];rfl)) ?_
 refine go 1 ?_
 refine Yd (Zs 3) fun bx_2 _=>?_
 refine go 9 ?_
 refine kf (decide_eq_false O3) ?_
 refine go 2 ?_
 refine kfg (decide_eq_false O3) ?_
 refine go 4 ?_
 refine Ly (Zj (r':= .bool false) (Zmu rfl rfl rfl Tryz.underlying4) rfl) rfl rfl ?_
 refine go 9 ?_
 refine cl 3 [1] (Zdo _ _ hp hb) fun _ _=>?_
 refine go 3 ?_
 refine Yd (Zs 4) fun bx_3 _=>?_
 refine go 8 ?_
 refine kt (decide_eq_true ht1) ?_
 refine go 6 ?_
 refine ktg (decide_eq_true ht2) ?_
 refine go 5 ?_
 refine ktg (decide_eq_true ht3) ?_
 refine go 1 ?_
 refine Ly (Zj (r':= .bool false) (Zhd rfl rfl rfl Tryz.underlying4) rfl) rfl rfl ?_
 refine go 3 ?_
 refine kfg (decide_eq_false (fun h=>h ht1)) ?_
 refine go 9 ?_
 refine jn (G:=Unit) [0,3,4,6,11] [0,1,2,3,4] (fun _=>[]) (fun _=>[]) (fun _=>True) ?_ ?_
 ·refine go 1 ?_
  rcases Gx mo with hm1 | ⟨hm1,hm2⟩ | ⟨hm1,hm2⟩
  ·refine go 2 ?_
   refine kf (decide_eq_false hm1) ?_
   refine go 11 ?_
   exact Qu () trivial trivial trivial
  ·refine go 2 ?_
   refine kt (decide_eq_true hm1) ?_
   refine go 2 ?_
   refine kfg (decide_eq_false hm2) ?_
   refine go 8 ?_
   exact Qu () trivial trivial trivial
  ·refine go 2 ?_
   refine kt (decide_eq_true hm1) ?_
   refine go 2 ?_
   refine ktg (decide_eq_true hm2) ?_
   refine go 14 ⟨O,?_⟩
   refine dt (Zkl rfl rfl rfl) ?_
   refine go 4 ⟨O,?_⟩
   refine dt (Zkl rfl rfl rfl) ?_
   refine dt (Xl (ivs:=[(0,_),(1,_)]) rfl ⟨rfl,rfl,rfl,rfl,trivial⟩ (fun a w hs=>Zd2 ((Zn rfl) a w hs) ((Zn rfl) a w hs))) ?_
   refine cl 4 [1] (Ko _ ps (min 10000 (sp+mo)) (min 10000 (ac+mo)) hp hb ⟨O,O,O,O⟩) fun _ _=>?_
   refine go 1 ?_
   refine dt (Zj (r':= .bool true) (Zap rfl rfl rfl) (by rw [Zop hsg O O O O O O hfi];rfl)) ?_
   refine go 8 ?_
   refine kf (decide_eq_false O3) ?_
   refine go 2 ?_
   refine Ly (Zj (r':= .bool false) (Yp rfl rfl) rfl) rfl rfl ?_
   refine go 5 ?_
   exact Qu () trivial trivial trivial
 ·rintro _ -
  refine go 5 ?_
  refine cl 5 [1] (Ziv _ _ _ _ hp hb hr hsg (Yed hp hb)) fun g hg=>?_
  refine go 11 ?_
  refine kt (decide_eq_true (by rw [Zo3 hca];decide)) ?_
  refine go 9 ?_
  refine cl 5 [] (Nc) fun _ _=>?_
  refine go 5 ?_
  exact Xj hsc () Tryz.results8 rfl trivial Za
set_option maxHeartbeats 1000000 in
theorem Ztz(v:Value)(ps:List Zz)(sp ac mo tf tt:Int)(hp:∀g∈ps,Gin g)(hf:Zdu ps 3=true)(hb:Me ps=true)(hl:(1≤sp∧sp≤10000∧1≤ac∧ac≤10000))(hfi:fiB ps sp ac=none)(hr:(spF ps≤tf∧tf<tt∧tt≤spL ps))(hca:Kt tf tt ps=true):Cal Tryz.prog 8 #[v,.agg #[.int .i64 sp,.int .i64 ac],.int .i64 mo,.int .i64 tf,.int .i64 tt] [Pq 6 Mj qG v ps] false (G:=Unit) (fun _=>True) (fun _=> .bool true) (fun _=>[]):=by
 refine Zd Tryz.func8 Tryz.ntmps8 fun w0 sc hw hsc=>?_
 have hsg:=Dd hp hb
 obtain⟨ht1,ht2,ht3⟩:=Ztx hsg hl hfi
 refine go 2 ?_
 refine Yd (Yg 2) fun bx _=>?_
 refine go 7 ?_
 refine cl 2 [1] (Ba _ ps 3) fun _ _=>?_
 refine dt (Zj (r':= .bool false) (Yp rfl rfl) (congrArg (fun b=>Value.bool (!b)) hf)) ?_
 refine go 2 ?_
 refine Fl 2 [1] (Lc _ _ hp) fun _ _=>?_
 refine Ly (Zj (r':= .bool false) (Yp rfl rfl) (congrArg (fun b=>Value.bool (!b)) hb)) rfl rfl ?_
 refine go 3 ?_
 refine Fl 2 [] (Ds _ _) fun _ _=>?_
 refine Ly (Zj (r':= .bool false) (Yp rfl rfl) (congrArg (fun b=>Value.bool (!b)) (decide_eq_true hl))) rfl rfl ?_
 refine go 10 ?_
 refine cl 2 [1] (Ko _ _ _ _ hp hb hl) fun _ _=>?_
 refine go 1 ?_
 refine dt (Zj (r':= .bool true) (Zap rfl rfl rfl) (by rw [hfi];rfl)) ?_
 refine go 9 ?_
 refine cl 2 [1] (Cj _ _ _ _ hp hb hl) fun _ _=>?_
 refine go 2 ?_
 refine dt (Zj (r':= .bool false) (Zap rfl rfl rfl) (by rw [hfi];rfl)) ?_
 refine go 1 ?_
 refine Yd (Zs 3) fun bx_2 _=>?_
 refine go 9 ?_
 refine kf (decide_eq_false O3) ?_
 refine go 2 ?_
 refine kfg (decide_eq_false O3) ?_
 refine go 4 ?_
 refine Ly (Zj (r':= .bool false) (Zmu rfl rfl rfl Tryz.underlying4) rfl) rfl rfl ?_
 refine go 9 ?_
 refine cl 3 [1] (Zdo _ _ hp hb) fun _ _=>?_
 refine go 3 ?_
 refine Yd (Zs 4) fun bx_3 _=>?_
 refine go 8 ?_
 refine kt (decide_eq_true ht1) ?_
 refine go 6 ?_
 refine ktg (decide_eq_true ht2) ?_
 refine go 5 ?_
 refine ktg (decide_eq_true ht3) ?_
 refine go 1 ?_
 refine Ly (Zj (r':= .bool false) (Zhd rfl rfl rfl Tryz.underlying4) rfl) rfl rfl ?_
 refine go 3 ?_
 refine kfg (decide_eq_false (fun h=>h ht1)) ?_
 refine go 9 ?_
 refine jn (G:=Unit) [0,3,4,6,11] [0,1,2,3,4] (fun _=>[]) (fun _=>[]) (fun _=>True) ?_ ?_
 ·refine go 1 ?_
  rcases Gx mo with hm1 | ⟨hm1,hm2⟩ | ⟨hm1,hm2⟩
  ·refine go 2 ?_
   refine kf (decide_eq_false hm1) ?_
   refine go 11 ?_
   exact Qu () trivial trivial trivial
  ·refine go 2 ?_
   refine kt (decide_eq_true hm1) ?_
   refine go 2 ?_
   refine kfg (decide_eq_false hm2) ?_
   refine go 8 ?_
   exact Qu () trivial trivial trivial
  ·refine go 2 ?_
   refine kt (decide_eq_true hm1) ?_
   refine go 2 ?_
   refine ktg (decide_eq_true hm2) ?_
   refine go 14 ⟨O,?_⟩
   refine dt (Zkl rfl rfl rfl) ?_
   refine go 4 ⟨O,?_⟩
   refine dt (Zkl rfl rfl rfl) ?_
   refine dt (Xl (ivs:=[(0,_),(1,_)]) rfl ⟨rfl,rfl,rfl,rfl,trivial⟩ (fun a w hs=>Zd2 ((Zn rfl) a w hs) ((Zn rfl) a w hs))) ?_
   refine cl 4 [1] (Ko _ ps (min 10000 (sp+mo)) (min 10000 (ac+mo)) hp hb ⟨O,O,O,O⟩) fun _ _=>?_
   refine go 1 ?_
   refine dt (Zj (r':= .bool true) (Zap rfl rfl rfl) (by rw [Zop hsg O O O O O O hfi];rfl)) ?_
   refine go 8 ?_
   refine kf (decide_eq_false O3) ?_
   refine go 2 ?_
   refine Ly (Zj (r':= .bool false) (Yp rfl rfl) rfl) rfl rfl ?_
   refine go 5 ?_
   exact Qu () trivial trivial trivial
 ·rintro _ -
  refine go 5 ?_
  refine cl 5 [1] (Ziv _ _ _ _ hp hb hr hsg (Yed hp hb)) fun g hg=>?_
  refine go 11 ?_
  refine kf (decide_eq_false (by rw [Zo4 hca];decide)) ?_
  refine go 2 ?_
  refine Ly (Zj (r':= .bool false) (Yp rfl rfl) rfl) rfl rfl ?_
  refine go 7 ?_
  have hPt:=lh_pat hp hb hr hca hg
  refine go 3 ?_
  refine cl 5 [5] (Ko _ _ sp ac hPt.gin hPt.pb hl) fun _ _=>?_
  refine go 1 ?_
  refine dt (Zj (r':= .bool true) (Zap rfl rfl rfl) (by rw [fi_prt hp hb hPt hl hfi];rfl)) ?_
  refine go 8 ?_
  refine kt (decide_eq_true O3) ?_
  refine go 4 ?_
  refine Fl 5 [] (Nc) fun _ _=>?_
  refine go 5 ?_
  exact Xj hsc () Tryz.results8 rfl trivial Za
open Go.Proofs.Tryz
theorem law_lh(v:Value)(ps:List Zz)(sp ac mo tf tt:Int)(hp:∀g∈ps,Gin g) :
  Cal prog 8 #[v,.agg #[.int .i64 sp,.int .i64 ac],.int .i64 mo,.int .i64 tf,.int .i64 tt] [Pq 6 Mj qG v ps] false (G:=Unit) (fun _=>True) (fun _=> .bool true) (fun _=>[]):=by
 cases hf:Zdu ps 3 with
 | false=>exact Zt4 v ps sp ac mo tf tt hp hf
 | true=>
  cases hb:Me ps with
  | false=>exact Zzx v ps sp ac mo tf tt hp hf hb
  | true=>
   by_cases h1:1≤sp∧sp≤10000∧1≤ac∧ac≤10000
   ·by_cases hr:spF ps≤tf∧tf<tt∧tt≤spL ps
    ·by_cases hfi:fiB ps sp ac=none
     ·cases hca:Kt tf tt ps with
      | false=>exact Zt0 v ps sp ac mo tf tt hp hf hb h1 hfi hr hca
      | true=>exact Ztz v ps sp ac mo tf tt hp hf hb h1 hfi hr hca
     ·exact Zt2 v ps sp ac mo tf tt hp hf hb h1 hfi hr
    ·by_cases hfi:fiB ps sp ac=none
     ·exact Zty v ps sp ac mo tf tt hp hf hb h1 hfi hr
     ·exact Zt1 v ps sp ac mo tf tt hp hf hb h1 hfi hr
   ·exact Zt3 v ps sp ac mo tf tt hp hf hb h1
end Go.Sky
namespace Go.Proofs.YtljmhpopdmadkaaGreat
open Go.ChangeShapes Go.WideShapes Go.ChangeAt Go.RowKit Go.Joins Go.Deep Go.Sky
theorem own:ownKnob Tryz.prog.godebug=none:=O6
theorem Zfc:laidOutB Tryz.prog=true:=O6
set_option maxRecDepth 100000 in
theorem lifted(os:Os)(started:os.Started)(H:Type)(enc:TypeId×Value→H) :
  ReturnsInHanded {} Tryz.checked os 8 .any (Rows.limitsHoldsSpec.pre6 enc Tryz.prog Tryz.f8 Rows.limitsHoldsRow.domain false) (Rows.limitsHoldsSpec.post enc Tryz.prog Tryz.f8 false true false false):=by
 refine returnsInHanded_of_change (C:=Tryz.checked) own started O6 Tryz.func8
  (ChangeSpec.witness6 (enc:=enc) (C:=Tryz.checked) false ⟨#[],#[.slice none 0 0,.agg #[.int .i64 0,.int .i64 0],.int .i64 0,.int .i64 0,.int .i64 0],[]⟩ 8 O6 O6 O6 O6) ?_
 intro W base args ds gs before hval0 hW hcnd _
 have hval:∀(j:Nat) t v,Tryz.f8.params[j]? = some t→args[j]? = some v→Value.okWide Tryz.prog W .any base t v:=hval0
 have hW':=hW
 obtain⟨p,q,hA0,hV,rfl,hfz,hnd⟩:=hW
 have hA:DataW.TrodAll enc Tryz.prog W 0 (fun _=>true) true Tryz.f8.params.toList args.toList ds p:=hA0
 rw [Tryz.params8]at hA hval
 obtain⟨v0,vs0,d0,ds0,p0,q0,hargs,rfl,rfl,h0,r0⟩:=trodAll_cons hA
 obtain⟨v1,vs1,d1,ds1,p1,q1,rfl,rfl,rfl,h1,r1⟩:=trodAll_cons r0
 obtain⟨v2,vs2,d2,ds2,p2,q2,rfl,rfl,rfl,h2,r2⟩:=trodAll_cons r1
 obtain⟨v3,vs3,d3,ds3,p3,q3,rfl,rfl,rfl,h3,r3⟩:=trodAll_cons r2
 obtain⟨v4,vs4,d4,ds4,p4,q4,rfl,rfl,rfl,h4,r4⟩:=trodAll_cons r3
 obtain⟨rfl,rfl,rfl⟩:=trodAll_nil r4
 obtain rfl:args=#[v0,v1,v2,v3,v4]:=by cases args;simp_all
 obtain⟨rfl,rfl⟩:=trodVars_none hV
 have lt0:∀x∈p0,x.block<W.heap.size:=by obtain⟨m,hm⟩:=h0;exact DataW.trod_lt m _ _ _ hm
 obtain⟨l0,hl0,hn0⟩:=Zzg Tryz.underlying29 Tryz.underlying24 rfl rfl rfl rfl rfl rfl rfl rfl rfl rfl rfl rfl Tryz.underlying3 Tryz.underlying22 Tryz.underlying3 O6 O6 O6 O6 (hval 0 29 v0 rfl rfl) h0
 have lt1:∀x∈p1,x.block<W.heap.size:=by obtain⟨m,hm⟩:=h1;exact DataW.trod_lt m _ _ _ hm
 obtain⟨sp1,ac1,rfl,-,-⟩:=Yc7 Tryz.underlying26 O6 rfl rfl Tryz.underlying3 Tryz.underlying3 O6 O6 (hval 1 26 v1 rfl rfl) h1
 have lt2:∀x∈p2,x.block<W.heap.size:=by obtain⟨m,hm⟩:=h2;exact DataW.trod_lt m _ _ _ hm
 obtain⟨n2,rfl⟩:=okWide_int Tryz.underlying3 (hval 2 3 v2 rfl rfl)
 have lt3:∀x∈p3,x.block<W.heap.size:=by obtain⟨m,hm⟩:=h3;exact DataW.trod_lt m _ _ _ hm
 obtain⟨n3,rfl⟩:=okWide_int Tryz.underlying3 (hval 3 3 v3 rfl rfl)
 have lt4:∀x∈p4,x.block<W.heap.size:=by obtain⟨m,hm⟩:=h4;exact DataW.trod_lt m _ _ _ hm
 obtain⟨n4,rfl⟩:=okWide_int Tryz.underlying3 (hval 4 3 v4 rfl rfl)
 clear hA0 hval0
 refine(law_lh v0 l0 sp1 ac1 n2 n3 n4 hn0 W (fun p hp=>by cases hp with | head=>exact hl0 | tail _ hp=>cases hp)).mono fun e W' ⟨_,he,_,bel,_⟩=>?_
 subst he
 exact⟨_,rfl,_,_,_,[],_,[],hW',trodAll_mk1 (shut_bool Tryz.underlying4 _),(trodAll_cons_mk (Below.trod Zfc O6 (of_decide_eq_true O6) h0 bel lt0) (trodAll_cons_mk (Below.trod Zfc O6 (of_decide_eq_true O6) h1 bel lt1) (trodAll_cons_mk (Below.trod Zfc O6 (of_decide_eq_true O6) h2 bel lt2) (trodAll_cons_mk (Below.trod Zfc O6 (of_decide_eq_true O6) h3 bel lt3) (trodAll_cons_mk (Below.trod Zfc O6 (of_decide_eq_true O6) h4 bel lt4) trodAll_mk0))))),rfl,bel.frame _,fun h=>by cases h⟩
theorem x_holds : Rows.LimitsHoldsSaid :=
 OpenClaim.holds_of_wide 8 Tryz.f8 rfl rfl rfl rfl rfl rfl rfl ⟨rfl,rfl,rfl,rfl,rfl⟩ rfl rfl rfl rfl rfl O6 Tryz.func8 O6
  (of_decide_eq_true O6) (by unfold Func.isWrapper;first | (rw [if_pos O7];kernel_rfl) | (rw [if_neg O7];exact⟨rfl,rfl⟩))
  (fun os started H enc _=>lifted os started H enc)
#print axioms x_holds
end Go.Proofs.YtljmhpopdmadkaaGreat

