/- The law: part 15. No conditions but those that each theorem names. -/
import Derived.Test.YtljmhpopdmadkaaGreatLf13
set_option linter.all false
set_option maxHeartbeats 4000000
namespace Go.Sky
open Go.Proofs
set_option synthInstance.maxHeartbeats 0
set_option synthInstance.maxSize 100000
set_option maxRecDepth 20000
set_option maxHeartbeats 4000000
set_option linter.unusedSimpArgs false
theorem Zn6(v:Value)(ps:List Pv)(sp ac:Int):Cal Tryz.prog 53 #[v,.agg #[.int .i64 sp,.int .i64 ac]] [Mm 6 Cf qG v ps] true (G:=Nat×Nat) (fun g=>True) (fun g=> .func (.func 96) #[] #[.pointer (some ⟨g.1,0,none⟩),.pointer (some ⟨g.2,0,none⟩)]) (fun g=>[Ge g.1 29 #[v],Ge g.2 26 #[.int .i64 sp,.int .i64 ac]]):=by
 refine Zd Tryz.func53 Tryz.ntmps53 fun w0 sc hw hsc=>?_
 refine Ze2 (Pr 1 rfl Zp) (fun sl hsl=>?_)
 subst hsl
 refine go 2 ?_
 refine Ya (Ye 2) fun bx _=>?_
 refine Ya (Ye 3) fun bx_2 _=>?_
 refine go 5 ?_
 refine dt (d_mkc (vs:=[]) (us:=[_,_]) rfl trivial ⟨rfl,rfl,trivial⟩) ?_
 refine go 4 ?_
 refine Yr (Zkj 2 rfl rfl) ?_
 refine Yr (Zkj 3 rfl rfl) ?_
 exact Xi hsc (_,_) Tryz.results53 rfl trivial (Oq 2 (Oq 3 Za))
theorem Zn7(v:Value)(ps:List Pv)(sp ac:Int)(hp:∀g∈ps,Gin g)(hb:Dq ps=true)(hl:(1≤sp∧sp≤10000∧1≤ac∧ac≤10000)):Cal Tryz.prog 24 #[v,.agg #[.int .i64 sp,.int .i64 ac]] [Mm 6 Cf qG v ps] false (G:=Unit) (fun _=>True) (fun _=>firV (fiB ps sp ac)) (fun _=>[]):=by
 refine Yeb Tryz.func24 rfl Tryz.ntmps24 rfl ⟨rfl,trivial⟩ ?_
 intro w0 sc hw hsc;have hw:=Hw.mk hw
 simp only [Ps,Pa]
 refine On (Ic (i:=1) rfl Zp) (fun hlen=>?_)
 have hg:=Zsh hp hb
 refine go 2 ?_
 refine Ya (Ye 2) fun bx _=>?_
 refine Ya (Zr 3) fun bx_2 _=>?_
 refine Ya (Zr 4) fun bx_3 _=>?_
 refine Ya (Zr 5) fun bx_4 _=>?_
 refine go 6 ?_
 refine cl 5 [1] (Zde _ _ hp) fun _ _=>?_
 refine dt (Zv (r':= .bool false) (Xk rfl rfl) (congrArg (fun b=>Value.bool (!b)) hb)) ?_
 refine go 2 ?_
 refine Hc 5 [] (Zzc _ _) fun _ _=>?_
 refine Gh (Zv (r':= .bool false) (Xk rfl rfl) (congrArg (fun b=>Value.bool (!b)) (decide_eq_true hl))) rfl rfl ?_
 refine go 11 ?_
 refine cl 6 [1] (Zn6 _ _ _ _) fun⟨b,b_2⟩ _=>?_
 refine go 3 ?_
 have hwa:Hw w0 ALL:=⟨fun _ _=>trivial⟩
 refine e_rf (pre:=[Ge b 29 #[v],Ge b_2 26 #[.int .i64 sp,.int .i64 ac],Mm 6 Cf qG v ps]) (φ0:=fiB ps sp ac=none) (φ1:=fun g=>fiB ps sp ac=some g) (xv:=fun x=> .agg #[.int .i64 (x.1:Int),.int .i64 x.2]) (w0:=w0) (env1:=fun x b=>[(7,.pointer (some ⟨b,0,none⟩)),(4,.pointer (some ⟨bx_2,0,none⟩)),(5,.pointer (some ⟨bx_3,0,none⟩)),(6,.pointer (some ⟨bx_4,0,none⟩))]) (H1:=fun x b=>[(0,Qf w0 (fun _=>False)),(8,box b 52 #[.int .i64 (x.1:Int),.int .i64 x.2]),(3,box bx_2 52 #[.int .i64 0,.int .i64 0]),(4,box bx_3 4 #[.bool false]),(5,box bx_4 31 #[.int .i64 0])]) (Hr:=fun x=>[(0,Qf w0 (fun _=>False)),(3,box bx_2 52 #[.int .i64 (x.1:Int),.int .i64 x.2]),(4,box bx_3 4 #[.bool true]),(5,box bx_4 31 #[.int .i64 0])]) (Hn:=[(0,Qf w0 (fun _=>False)),(3,box bx_2 52 #[.int .i64 0,.int .i64 0]),(4,box bx_3 4 #[.bool false]),(5,box bx_4 31 #[.int .i64 0])]) rfl (by intro args w;first | exact enters_of Tryz.func96 O6 rfl args w | exact Tryz.call96 args w) (li_brk v ps b b_2 sp ac hg O O O O) ?_ rfl rfl rfl rfl rfl (fun x hx l o D od=>?_) (fun x b hx l o D od=>?_) (fun h l o D od=>?_) (fun x b=>?_) (fun x=>⟨rfl,rfl⟩) ⟨rfl,rfl⟩ (fun x=>?_) ?_ (fun x=>rfl) rfl (fun x hx a w hs=>?_) (fun h a w hs=>?_)
 ·intro p hp
  simp only [List.mem_cons,List.not_mem_nil,or_false]at hp
  rcases hp with rfl | rfl | rfl
  ·exact⟨6,rfl⟩
  ·exact⟨7,rfl⟩
  ·exact⟨1,rfl⟩
 ·refine Ya (Zr 8) fun b7 _=>?_
  refine go 1 ?_
  refine go 1 ?_
  exact fun a w hs=>⟨rfl,b7,hs.weaken ⟨rfl,rfl,rfl,rfl,trivial⟩ ⟨rfl,rfl,rfl,rfl,rfl,rfl,rfl,trivial⟩⟩
 ·refine go 4 ?_
  refine go 1 ?_
  exact fun a w hs=>⟨rfl,hs.weaken trivial ⟨rfl,rfl,rfl,rfl,rfl,rfl,trivial⟩⟩
 ·refine dt (Xs (ivs:=[]) rfl trivial (fun a w hs=>b52_)) ?_
  refine go 3 ?_
  refine go 1 ?_
  exact fun a w hs=>⟨rfl,hs.weaken ⟨rfl,rfl,rfl,rfl,rfl,rfl,rfl,rfl,rfl,rfl,rfl,rfl,rfl,rfl,rfl,rfl,rfl,trivial⟩ ⟨rfl,rfl,rfl,rfl,rfl,rfl,trivial⟩⟩
 ·exact⟨.inr ⟨_,rfl,fun _ h=>h⟩,.inl rfl,.inl rfl,.inl rfl,.inl rfl,trivial⟩
 ·exact⟨⟨_,rfl,rfl,fun _ h=>h⟩,⟨_,rfl,rfl,fun _ h=>h⟩,⟨_,rfl,rfl,fun _ h=>h⟩,⟨_,rfl,rfl,fun _ h=>h⟩,trivial⟩
 ·exact⟨⟨_,rfl,rfl,fun _ h=>h⟩,⟨_,rfl,rfl,fun _ h=>h⟩,⟨_,rfl,rfl,fun _ h=>h⟩,⟨_,rfl,rfl,fun _ h=>h⟩,trivial⟩
 ·rw [hx];exact res3 hs Tryz.results24 (Ii (i:=3) rfl rfl Tryz.isAgg52 Tryz.sizeOf52 rfl) (Zai (i:=4) rfl rfl Tryz.isAgg4) (Zai (i:=5) rfl rfl Tryz.isAgg31)
 ·rw [h];exact res3 hs Tryz.results24 (Ii (i:=3) rfl rfl Tryz.isAgg52 Tryz.sizeOf52 rfl) (Zai (i:=4) rfl rfl Tryz.isAgg4) (Zai (i:=5) rfl rfl Tryz.isAgg31)
theorem Zvm(v:Value)(ps:List Pv)(sp ac:Int)(hp:∀g∈ps,Gin g)(hb:Dq ps=true)(hl:(1≤sp∧sp≤10000∧1≤ac∧ac≤10000)):Cal Tryz.prog 23 #[v,.agg #[.int .i64 sp,.int .i64 ac]] [Mm 6 Cf qG v ps] false (G:=Unit) (fun _=>True) (fun _=> .tuple #[.bool (!(fiB ps sp ac).isSome),.int .i64 0]) (fun _=>[]):=by
 refine Zd Tryz.func23 Tryz.ntmps23 fun w0 sc hw hsc=>?_
 refine go 2 ?_
 refine Ya (Ye 2) fun bx _=>?_
 refine go 8 ?_
 refine cl 2 [1] (Zn7 _ _ _ _ hp hb hl) fun _ _=>?_
 refine go 4 ?_
 refine Ya (Zr 3) fun bx_2 _=>?_
 refine go 8 ?_
 refine kt (decide_eq_true O3) ?_
 refine go 10 ?_
 exact Mb hsc () Tryz.results23 rfl trivial Za
theorem Zof(k:Int)(hk:k=0∨k=1):Cal Tryz.prog 32 #[.int .i64 k] [] true (G:=Value×(SL×SL×SL)) (fun r=>True) (fun r=>r.1) (fun r=>[Mm 6 Cf qG r.1 [Qa k r.2]]):=by
 refine Zd Tryz.func32 Tryz.ntmps32 fun w0 sc hw hsc=>?_
 refine go 7 ?_
 refine dt (Xs (ivs:=[]) rfl trivial (fun a w hs=>b64_)) ?_
 refine dt (Xs (ivs:=[(0,_),(1,_)]) rfl ⟨rfl,rfl,rfl,rfl,trivial⟩ (fun a w hs=>b64_01 ((Zo rfl) a w hs) ((Zo rfl) a w hs))) ?_
 refine go 1 ?_
 refine cl 1 [] (Zr9 0 0 0 300 400 0 0 1000 k ⟨O3,O3⟩ ⟨O3,O3⟩ ⟨O3,O3⟩ ⟨O3,O3⟩ ⟨O3,O3⟩ ⟨O3,O3⟩) fun⟨sl,sl_2,sl_3⟩ _=>?_
 refine tt (Xy (i:=4) (ivs:=[(0,_)]) (enc:=Cf) [Qa k (sl,sl_2,sl_3)] rfl rfl ⟨rfl,rfl,trivial⟩ Tryz.underlying29 Tryz.ti24 rfl rfl (Zcr _ _ _ _ _ _ _ _ _ _ _ _) rfl rfl pG.cells rfl rfl hw.h) (fun v _=>?_)
 refine go 4 ?_
 refine Yr (Xp 4 rfl rfl pG) ?_
 refine Yr (Ys qC 71) ?_
 refine Yr (Zj (q:=qC) (z:=(Qa k (sl,sl_2,sl_3)).2.1) 71 1 71 rfl rfl rfl rfl rfl) ?_
 refine Yr (Zj (q:=qC) (z:=(Qa k (sl,sl_2,sl_3)).2.2.1) 71 2 71 rfl rfl rfl rfl rfl) ?_
 refine Yr (Zj (q:=qC) (z:=(Qa k (sl,sl_2,sl_3)).2.2.2) 71 3 71 rfl rfl rfl rfl rfl) ?_
 refine Yr (Ys qG 73) ?_
 refine Yr (Zj (q:=qG) (z:=(Qa k (sl,sl_2,sl_3))) 73 71 73 rfl rfl rfl rfl rfl) ?_
 refine Yr (Qj 4 73 72 rfl rfl rfl rfl) ?_
 exact Xi hsc (_,sl,sl_2,sl_3) Tryz.results32 rfl trivial (Oq 72 Za)
theorem Zbt(v:Value)(xs:List Int)(want:Int)(hwt:Xo want):Cal Tryz.prog 33 #[v,.int .i64 0,.int .i64 want] [Yj 2 wv v xs] false (G:=Unit) (fun _=>True) (fun _=> .bool (decide (xs=tzl [want]))) (fun _=>[]):=by
 refine Zd Tryz.func33 Tryz.ntmps33 fun w0 sc hw hsc=>?_
 have hws:∀x∈[want],Xo x:=fun x hx=>by rw [List.mem_singleton.1 hx];exact hwt
 have hsz:=Zf6 hws
 refine go 8 ?_
 refine kt (decide_eq_true O3) ?_
 refine go 3 ?_
 refine gtt (Xy (i:=2) (ivs:=[(0,_)]) (enc:=Ym) ([want]:List Int) rfl rfl ⟨rfl,rfl,trivial⟩ Tryz.underlying22 Tryz.ti3 rfl rfl rfl rfl rfl pZ.cells rfl rfl hw.h) rfl rfl rfl rfl (fun v _=>?_)
 refine Zt (Xp 2 rfl rfl pZ) ?_
 refine Hc 3 [2] (Yb7 _ [want] hws O5) fun g hg=>?_
 refine Hc 4 [3] (Znh _ _ (by rw [hg];exact(Sz.tzl hsz).mono O) (by have h7:=congrArg List.length hg;rw [Zm]at h7;have h8:=Mu [want];have h9:[want].length=1:=rfl;omega)) fun v_2 _=>?_
 refine Hc 4 [1,4] (Cn _ _ _ _) fun _ _=>?_
 refine go 5 ?_
 exact Xi hsc () Tryz.results33 (by rw [hg]) trivial Za
theorem Zhy(v:Value)(ps:List Pv)(sp ac:Int)(want:Bool)(hp:∀g∈ps,Gin g)(hb:Dq ps=true)(hl:1≤sp∧sp≤10000∧1≤ac∧ac≤10000)(hwt:(!(fiB ps sp ac).isSome)=want):Cal Tryz.prog 34 #[v,.int .i64 sp,.int .i64 ac,.bool want] [Mm 6 Cf qG v ps] false (G:=Unit) (fun _=>True) (fun _=> .bool true) (fun _=>[]):=by
 refine Zd Tryz.func34 Tryz.ntmps34 fun w0 sc hw hsc=>?_
 refine go 10 ?_
 refine dt (Xs (ivs:=[(0,_),(1,_)]) rfl ⟨rfl,rfl,rfl,rfl,trivial⟩ (fun a w hs=>Zmi ((Zo rfl) a w hs) ((Zo rfl) a w hs))) ?_
 refine cl 1 [1] (Zvm _ _ _ _ hp hb hl) fun _ _=>?_
 refine go 10 ?_
 refine kt (decide_eq_true O3) ?_
 refine go 9 ?_
 exact Xi hsc () Tryz.results34 (by rw [hwt];cases want<;>rfl) trivial Za
theorem Zvj:Fh 1 500 1 (1000-0) (Lp 0 300 1) (Lp 0 400 1) (Lp 0 0 1)=tzl [0]:=O7
theorem Zvi:Fh 1 501 1 (1000-0) (Lp 0 300 1) (Lp 0 400 1) (Lp 0 0 1)=tzl [1]:=O7
theorem Zvk:Fh 1 499 1 (1000-0) (Lp 0 300 1) (Lp 0 400 1) (Lp 0 0 1)=tzl [-1]:=O7
theorem Ycz:Fh 2 7 1 (1000-0) (Lp 0 300 1) (Lp 0 400 1) (Lp 0 0 1)=tzl [1]:=O7
abbrev S30:SL×SL×SL:=((none,0,0),(none,0,0),(none,0,0))
theorem Zaq(k:Int)(hk:k=0∨k=1)(s:SL×SL×SL):∀g∈[Qa k s],Gin g:=fun g hg=>by rw [List.mem_singleton.1 hg];exact Nl k hk s
theorem Zy9(s:SL×SL×SL):fiI (fiB [Qa 0 s] 500 10000)=0∧fiC (fiB [Qa 0 s] 500 10000)=2:=by rw [Zhq];exact⟨rfl,rfl⟩
theorem Zy5(s:SL×SL×SL):(Zc9 [Qa 1 s]).1=500∧(Zc9 [Qa 1 s]).2.1=0:=by rw [Zjq];exact⟨rfl,rfl⟩
theorem Zy6(s:SL×SL×SL):(Zc9 [Qa 0 s]).1=938∧(Zc9 [Qa 0 s]).2.1=2887:=by rw [Zjr];exact⟨rfl,rfl⟩
theorem Zza(s:SL×SL×SL):(fiB [Qa 0 s] 500 10000).isSome=true:=by rw [Zhq];rfl
theorem Ei:Cal Tryz.prog 10 #[] [] false (G:=Unit) (fun _=>True) (fun _=> .bool true) (fun _=>[]):=by
 refine Zd Tryz.func10 Tryz.ntmps10 fun w0 sc hw hsc=>?_
 refine go 7 ?_
 refine cl 1 [] (Zof 1 (.inr rfl)) fun⟨v,q⟩ _=>?_
 refine cl 2 [] (Zof 0 (.inl rfl)) fun⟨v_2,q_2⟩ _=>?_
 refine go 5 ?_
 refine Ze (Pd (g:=(Qa 1 q)) (z:=(Qa 1 q).2.1) 1 51 rfl rfl (List.mem_singleton.2 rfl) O5) ?_
 refine Ze (Pd (g:=(Qa 1 q)) (z:=(Qa 1 q).2.2.1) 1 52 rfl rfl (List.mem_singleton.2 rfl) O5) ?_
 refine Ze (Pd (g:=(Qa 1 q)) (z:=(Qa 1 q).2.2.2) 1 53 rfl rfl (List.mem_singleton.2 rfl) O5) ?_
 refine go 3 ⟨O5,?_⟩
 refine dt (Od (ii:=1) G0 rfl rfl rfl Zp pG O5) ?_
 refine cl 3 [51,52,53] (Ff 0 1000 1 500 _ _ _ (Lp 0 300 1) (Lp 0 400 1) (Lp 0 0 1) ⟨O3,O3⟩ ⟨O3,O3⟩ ⟨O3,O3⟩ (Nl 1 (.inr rfl) S30).x (Nl 1 (.inr rfl) S30).y (Nl 1 (.inr rfl) S30).z (Cy 1 (.inr rfl)) O3 O3) fun _ _=>?_
 refine go 8 ?_
 refine Ze (Pd (g:=(Qa 1 q)) (z:=(Qa 1 q).2.1) 1 51 rfl rfl (List.mem_singleton.2 rfl) O5) ?_
 refine Ze (Pd (g:=(Qa 1 q)) (z:=(Qa 1 q).2.2.1) 1 52 rfl rfl (List.mem_singleton.2 rfl) O5) ?_
 refine Ze (Pd (g:=(Qa 1 q)) (z:=(Qa 1 q).2.2.2) 1 53 rfl rfl (List.mem_singleton.2 rfl) O5) ?_
 refine go 3 ⟨O5,?_⟩
 refine dt (Od (ii:=1) G0 rfl rfl rfl Zp pG O5) ?_
 refine cl 4 [51,52,53] (Ff 0 1000 1 501 _ _ _ (Lp 0 300 1) (Lp 0 400 1) (Lp 0 0 1) ⟨O3,O3⟩ ⟨O3,O3⟩ ⟨O3,O3⟩ (Nl 1 (.inr rfl) S30).x (Nl 1 (.inr rfl) S30).y (Nl 1 (.inr rfl) S30).z (Cy 1 (.inr rfl)) O3 O3) fun _ _=>?_
 refine go 8 ?_
 refine Ze (Pd (g:=(Qa 1 q)) (z:=(Qa 1 q).2.1) 1 51 rfl rfl (List.mem_singleton.2 rfl) O5) ?_
 refine Ze (Pd (g:=(Qa 1 q)) (z:=(Qa 1 q).2.2.1) 1 52 rfl rfl (List.mem_singleton.2 rfl) O5) ?_
 refine Ze (Pd (g:=(Qa 1 q)) (z:=(Qa 1 q).2.2.2) 1 53 rfl rfl (List.mem_singleton.2 rfl) O5) ?_
 refine go 3 ⟨O5,?_⟩
 refine dt (Od (ii:=1) G0 rfl rfl rfl Zp pG O5) ?_
 refine cl 5 [51,52,53] (Ff 0 1000 1 499 _ _ _ (Lp 0 300 1) (Lp 0 400 1) (Lp 0 0 1) ⟨O3,O3⟩ ⟨O3,O3⟩ ⟨O3,O3⟩ (Nl 1 (.inr rfl) S30).x (Nl 1 (.inr rfl) S30).y (Nl 1 (.inr rfl) S30).z (Cy 1 (.inr rfl)) O3 O3) fun _ _=>?_
 refine go 8 ?_
 refine Ze (Pd (g:=(Qa 1 q)) (z:=(Qa 1 q).2.1) 1 51 rfl rfl (List.mem_singleton.2 rfl) O5) ?_
 refine Ze (Pd (g:=(Qa 1 q)) (z:=(Qa 1 q).2.2.1) 1 52 rfl rfl (List.mem_singleton.2 rfl) O5) ?_
 refine Ze (Pd (g:=(Qa 1 q)) (z:=(Qa 1 q).2.2.2) 1 53 rfl rfl (List.mem_singleton.2 rfl) O5) ?_
 refine go 3 ⟨O5,?_⟩
 refine dt (Od (ii:=1) G0 rfl rfl rfl Zp pG O5) ?_
 refine cl 6 [51,52,53] (Iz 0 1000 1 7 _ _ _ (Lp 0 300 1) (Lp 0 400 1) (Lp 0 0 1) ⟨O3,O3⟩ ⟨O3,O3⟩ ⟨O3,O3⟩ (Nl 1 (.inr rfl) S30).x (Nl 1 (.inr rfl) S30).y (Nl 1 (.inr rfl) S30).z (Cy 1 (.inr rfl)) O3 O3) fun _ _=>?_
 refine go 12 ?_
 refine cl 6 [3] (Zbt _ _ _ ⟨O3,O3⟩) fun _ _=>?_
 refine dt (Zv (r':= .bool false) (Xk rfl rfl) (congrArg (fun b=>Value.bool (!b)) (decide_eq_true Zvj))) ?_
 refine go 3 ?_
 refine Hc 6 [4] (Zbt _ _ _ ⟨O3,O3⟩) fun _ _=>?_
 refine Gh (Zv (r':= .bool false) (Xk rfl rfl) (congrArg (fun b=>Value.bool (!b)) (decide_eq_true Zvi))) rfl rfl ?_
 refine go 4 ?_
 refine Hc 6 [5] (Zbt _ _ _ ⟨O3,O3⟩) fun _ _=>?_
 refine Gh (Zv (r':= .bool false) (Xk rfl rfl) (congrArg (fun b=>Value.bool (!b)) (decide_eq_true Zvk))) rfl rfl ?_
 refine go 4 ?_
 refine Hc 6 [6] (Zbt _ _ _ ⟨O3,O3⟩) fun _ _=>?_
 refine Gh (Zv (r':= .bool false) (Xk rfl rfl) (congrArg (fun b=>Value.bool (!b)) (decide_eq_true Ycz))) rfl rfl ?_
 refine go 3 ?_
 refine Hc 6 [1] (Zhy _ _ 500 1 true (Zaq 1 (.inr rfl) _) (Zhp _) ⟨O3,O3,O3,O3⟩ (by rw [Zzb];rfl)) fun _ _=>?_
 refine go 4 ?_
 refine Hc 6 [2] (Zhy _ _ 500 10000 false (Zaq 0 (.inl rfl) _) (Zcn _) ⟨O3,O3,O3,O3⟩ (by rw [Zhq];rfl)) fun _ _=>?_
 refine go 10 ?_
 refine dt (Xs (ivs:=[(0,_),(1,_)]) rfl ⟨rfl,rfl,rfl,rfl,trivial⟩ (fun a w hs=>Zmi ((Zo rfl) a w hs) ((Zo rfl) a w hs))) ?_
 refine cl 6 [2] (Zn7 _ _ 500 10000 (Zaq 0 (.inl rfl) _) (Zcn _) ⟨O3,O3,O3,O3⟩) fun _ _=>?_
 refine go 4 ?_
 refine Ya (Zr 7) fun bx _=>?_
 refine go 8 ?_
 refine cl 7 [1] (Zze _ _ (Zaq 1 (.inr rfl) _) (Zhp _)) fun _ _=>?_
 refine go 3 ?_
 refine Ya (Zr 8) fun bx_2 _=>?_
 refine go 7 ?_
 refine cl 8 [2] (Zze _ _ (Zaq 0 (.inl rfl) _) (Zcn _)) fun _ _=>?_
 refine go 3 ?_
 refine Ya (Zr 9) fun bx_3 _=>?_
 refine go 8 ?_
 refine kf (decide_eq_false O3) ?_
 refine go 2 ?_
 refine Gh (Zv (r':= .bool false) (Xk rfl rfl) (congrArg (fun b=>Value.bool (!b)) (Zza _))) rfl rfl ?_
 refine go 3 ?_
 refine Gh (Xs (ivs:=[(1,_)]) rfl ⟨rfl,rfl,trivial⟩ (fun a w hs=>b52_1 ((Zo rfl) a w hs))) rfl rfl ?_
 refine Gh (Zv (r':= .bool false) (Zh9 rfl rfl rfl eg52 (fun w=>neB52 w _ _ _ _)) (congrArg (fun b=>Value.bool (!b)) (decide_eq_true (Zy9 _)))) rfl rfl ?_
 refine go 3 ?_
 refine kfg (decide_eq_false (by rw [Zjq];decide)) ?_
 refine go 3 ?_
 refine kfg (decide_eq_false (by rw [Zjr];decide)) ?_
 refine go 3 ?_
 refine Gh (Xs (ivs:=[(0,_)]) rfl ⟨rfl,rfl,trivial⟩ (fun a w hs=>b26_0 ((Zo rfl) a w hs))) rfl rfl ?_
 refine Gh (Zv (r':= .bool false) (Zh9 rfl rfl rfl eg26 (fun w=>neB26 w _ _ _ _)) (congrArg (fun b=>Value.bool (!b)) (decide_eq_true (Zy5 _)))) rfl rfl ?_
 refine go 3 ?_
 refine Gh (Xs (ivs:=[(0,_),(1,_)]) rfl ⟨rfl,rfl,rfl,rfl,trivial⟩ (fun a w hs=>Zmi ((Zo rfl) a w hs) ((Zo rfl) a w hs))) rfl rfl ?_
 refine Gh (Zv (r':= .bool false) (Zh9 rfl rfl rfl eg26 (fun w=>neB26 w _ _ _ _)) (congrArg (fun b=>Value.bool (!b)) (decide_eq_true (Zy6 _)))) rfl rfl ?_
 refine go 8 ?_
 refine dt (Xs (ivs:=[]) rfl trivial (fun a w hs=>b64_)) ?_
 refine dt (Xs (ivs:=[]) rfl trivial (fun a w hs=>b64_)) ?_
 refine cl 10 [] (Zr9 0 0 0 0 0 0 1000 2000 2 ⟨O3,O3⟩ ⟨O3,O3⟩ ⟨O3,O3⟩ ⟨O3,O3⟩ ⟨O3,O3⟩ ⟨O3,O3⟩) fun⟨sl,sl_2,sl_3⟩ _=>?_
 refine Ya (Zr 13) fun bx_4 _=>?_
 refine go 4 ?_
 refine Ze (Pd (g:=(Qa 1 q)) (z:=(Qa 1 q).2.1) 1 51 rfl rfl (List.mem_singleton.2 rfl) O5) ?_
 refine Ze (Pd (g:=(Qa 1 q)) (z:=(Qa 1 q).2.2.1) 1 52 rfl rfl (List.mem_singleton.2 rfl) O5) ?_
 refine Ze (Pd (g:=(Qa 1 q)) (z:=(Qa 1 q).2.2.2) 1 53 rfl rfl (List.mem_singleton.2 rfl) O5) ?_
 refine Qb (fun _=>False) [(0,0),(1,0),(2,0),(3,0),(4,1),(5,0),(6,0),(7,0),(8,0),(9,3)] ?_
 refine go 2 ⟨O5,?_⟩
 refine Pf rfl rfl (Pn (Od (ii:=1) G0 rfl rfl rfl Zp pG O5)) ?_
 refine go 1 ?_
 refine Yu (Zg 13 [51,52,53,10,11,12] (Zfq 0 1000 1 1000 2000 1 _ _ _ _ _ _ (Lp 0 300 1) (Lp 0 400 1) (Lp 0 0 1) (Lp 0 0 2) (Lp 0 0 2) (Lp 0 0 2) ⟨O3,O3⟩ ⟨O3,O3⟩ ⟨O3,O3⟩ (Nl 1 (.inr rfl) S30).x (Nl 1 (.inr rfl) S30).y (Nl 1 (.inr rfl) S30).z ⟨O3,O3⟩ ⟨O3,O3⟩ ⟨O3,O3⟩ (Zbf S30).x (Zbf S30).y (Zbf S30).z (Cy 1 (.inr rfl)) Zm2 rfl)) fun _ _=>?_
 refine go 8 ?_
 refine Ze (Pd (g:=(Qa 0 q_2)) (z:=(Qa 0 q_2).2.1) 2 51 rfl rfl (List.mem_singleton.2 rfl) O5) ?_
 refine Ze (Pd (g:=(Qa 0 q_2)) (z:=(Qa 0 q_2).2.2.1) 2 52 rfl rfl (List.mem_singleton.2 rfl) O5) ?_
 refine Ze (Pd (g:=(Qa 0 q_2)) (z:=(Qa 0 q_2).2.2.2) 2 53 rfl rfl (List.mem_singleton.2 rfl) O5) ?_
 refine Qb (fun _=>False) [(0,0),(1,0),(2,0),(3,0),(4,1),(5,0),(6,0),(7,0),(8,0),(9,3)] ?_
 refine go 2 ⟨O5,?_⟩
 refine Pf rfl rfl (Pn (Od (ii:=2) G0 rfl rfl rfl Zp pG O5)) ?_
 refine go 1 ?_
 refine Yu (Zg 13 [51,52,53,10,11,12] (Zfq 0 1000 1 1000 2000 1 _ _ _ _ _ _ (Lp 0 300 0) (Lp 0 400 0) (Lp 0 0 0) (Lp 0 0 2) (Lp 0 0 2) (Lp 0 0 2) ⟨O3,O3⟩ ⟨O3,O3⟩ ⟨O3,O3⟩ (Nl 0 (.inl rfl) S30).x (Nl 0 (.inl rfl) S30).y (Nl 0 (.inl rfl) S30).z ⟨O3,O3⟩ ⟨O3,O3⟩ ⟨O3,O3⟩ (Zbf S30).x (Zbf S30).y (Zbf S30).z (Cy 0 (.inl rfl)) Zm2 rfl)) fun _ _=>?_
 refine go 10 ?_
 refine dt (Zv (r':= .bool true) (Xk rfl rfl) (congrArg (fun b=>Value.bool (!b)) Zy7)) ?_
 refine go 2 ?_
 refine kt Zy8 ?_
 refine go 2 ?_
 refine ktg (decide_eq_true O3) ?_
 refine go 3 ?_
 refine ktg (decide_eq_true O3) ?_
 refine go 5 ?_
 exact Xi hsc () Tryz.results10 rfl trivial Za
def Zes(o:Nat)(x y z:List Int):Nat→List Int
 | 0=>[]
 | i+1=>Cd (Zes o x y z i) (Xl (dN o (tzl (Yv i x y z))) (dN o (tzl (Yv i x y z))))
def Ou(o:Nat)(m ov T:Int):Int:=m^2*ov^2*T^(2*o)
def Zcg(o:Nat)(m ov T:Int)(x y z:List Int):List Int:=Dg (tzl [Ou o m ov T]) (Xj (Zes o x y z 3) (1000^(2*o)))
theorem ps_Cm(a b:Int):PS.C (a*b)=PS.C a*PS.C b:=PS.ext' fun i=>by rw [PS.C_mul_c];cases i<;>simp [PS.C]
theorem Zjc(p:List Int)(k:Int):Xl (Xj p k) (Xj p k)=Xj (Xl p p) (k*k):=(Xz _ _).ps_inj (Pl _ _) (by
 rw [Zkx,Zji,Zji,Zkx,ps_Cm];grind)
theorem Zuu(p q:List Int)(k:Int):Xj (Cd p q) k=Cd (Xj p k) (Xj q k):=(Pl _ _).ext (Zrk _ _) fun i=>by
 rw [Xq,Zb1,Zb1,Xq,Xq,Int.add_mul]
theorem Ft(o:Nat)(x y z:List Int):∀n,Xj (Zes o x y z n) (1000^(2*o))=Es o x y z n
 | 0=>rfl
 | n+1=>by
  show Xj (Cd _ _) _=Cd _ _
  rw [Zuu,Ft o x y z n]
  unfold sqQ axQ
  rw [Zjc,←Int.pow_add,show 2*o=o+o by omega]
theorem Zr6(o:Nat)(m ov T:Int):tzl [Ou o m ov T]=Xl (Kg o m ov T) (Kg o m ov T):=by
 unfold Kg
 rw [Zjc]
 have e1:Xl [1] [1]=[1]:=O3
 have e2:Zb4 o m ov T*Zb4 o m ov T=Ou o m ov T:=by
  unfold Zb4 Ou
  show(m*(ov*Xu (List.replicate o T)))*(m*(ov*Xu (List.replicate o T)))=_
  rw [Zr5,show 2*o=o+o by omega,Int.pow_add]
  grind
 rw [e1,e2]
 unfold Xj
 rw [List.map_cons,List.map_nil,Int.one_mul]
theorem Ey(o:Nat)(m ov T:Int)(x y z:List Int):Zz (Zcg o m ov T x y z)=Fh o m ov T x y z:=by
 unfold Fh Zcg
 rw [Ft,Zr6]
theorem Zkp{c:List Int}(h:∀a∈c,Xo a)(hl:c.length≤6){o:Nat}(ho:o=1∨o=2) :
  Sz 100 (dN o (tzl c))∧(dN o (tzl c)).length≤6∧Ab ((6-o)*(Mk o*Mk o)) (Xl (dN o (tzl c)) (dN o (tzl c)))∧(Xl (dN o (tzl c)) (dN o (tzl c))).length≤11:=by
 obtain⟨h1,h2,h3⟩:=Ztq h hl o O
 have lS:=Zlg h1 h1 h2 h2
 exact⟨(h3.sz Ya7).mono O,O,Zre h3 h3 h2,O⟩
theorem Fu{fr to ov:Int}{x y z:List Int}(h:Sgo fr to ov x y z){o:Nat}(ho:o=1∨o=2):∀i,Ab (i*((6-o)*(Mk o*Mk o))) (Zes o x y z i)∧(Zes o x y z i).length≤11
 | 0=>⟨fun i=>by show(cf [] i).natAbs≤_;rw [Yd O5];exact Nat.zero_le _,Nat.zero_le _⟩
 | i+1=>by
  obtain⟨a,b⟩:=Fu h ho i
  obtain⟨-,-,c,d⟩:=Zkp (h.hc i) (h.lc i).2 ho
  exact⟨by rw [Nat.succ_mul];exact Ya5 a c,Zs1 b d⟩
theorem Br{fr to ov:Int}{x y z:List Int}(h:Sgo fr to ov x y z){o:Nat}(ho:o=1∨o=2){i:Nat}(hi:i≤3):Sz 160 (Zes o x y z i):=
 (Fu h ho i).1.sz (Nat.lt_of_le_of_lt (Nat.mul_le_mul_right _ hi) (by rcases ho with rfl | rfl<;>decide))
theorem Ycd{c:List Int}(h:∀a∈c,Xo a)(hl:c.length≤6){o:Nat}(ho:o=1∨o=2):Sz 160 (Xl (dN o (tzl c)) (dN o (tzl c))):=
 (Zkp h hl ho).2.2.1.sz (by rcases ho with rfl | rfl<;>decide)
theorem refC_b{fr to ov m:Int}{x y z:List Int}(h:Sgo fr to ov x y z)(h0:0≤m)(h1:m≤10000){o:Nat}(ho:o=1∨o=2) :
  bl (m^2).natAbs≤200∧bl (ov^2).natAbs≤200∧bl (m^2*ov^2).natAbs≤400∧bl ((to-fr)^(2*o)).natAbs≤400∧bl (Ou o m ov (to-fr)).natAbs≤900∧bl ((1000:Int)^(2*o)).natAbs≤100:=by
 have a1:=h.t1
 have a2:=h.t2
 have a3:=h.t3
 have a4:=h.o1
 have a5:=h.o2
 have m1:bl m.natAbs≤20:=(Xt 20 _).2 O
 have o1:bl ov.natAbs≤40:=(Xt 40 _).2 O
 have t1:bl (to-fr).natAbs≤40:=(Xt 40 _).2 O
 have m2:=Il m m1 2 O
 have o2:=Il ov o1 2 O
 have t2:=Il (to-fr) t1 (2*o) O
 have k2:=Il 1000 (m:=10) O3 (2*o) O
 have p:=Yw (m^2) (ov^2)
 have q:=Yw (m^2*ov^2) ((to-fr)^(2*o))
 have:2*o≤4:=O
 have:2*o*40≤4*40:=Nat.mul_le_mul_right _ this
 have:2*o*10≤4*10:=Nat.mul_le_mul_right _ O
 exact⟨O,O,O,O,by unfold Ou;omega,O⟩
theorem Fl{c:Int}{n:Nat}(h:bl c.natAbs≤n):Sz n [c]:=Sz.of_mem fun t ht=>by rw [List.mem_singleton.1 ht];exact h
theorem Zbh{fr to ov m:Int}{x y z:List Int}(h:Sgo fr to ov x y z)(h0:0≤m)(h1:m≤10000){o:Nat}(ho:o=1∨o=2) :
  Sz 65536 (Zcg o m ov (to-fr) x y z)∧(Zcg o m ov (to-fr) x y z).length≤26∧(Zcg o m ov (to-fr) x y z≠[]→Yk (Zcg o m ov (to-fr) x y z)≠0):=by
 have hv:Vp (Zcg o m ov (to-fr) x y z):=by unfold Zcg;rw [Ft,Zr6];exact(Nv h h0 h1 ho).2.1
 exact⟨hv.sz,Nat.le_trans hv.len O3,fun hn=>hv.ne hn⟩
theorem Cm{o:Nat}{m ov T:Int}{x y z:List Int}(h:(Zcg o m ov T x y z).length=0):Fh o m ov T x y z=[]:=by
 rw [←Ey,List.eq_nil_of_length_eq_zero h];rfl
theorem Zx0(v:Value)(l:List Int)(hl:∀x∈l,Xo x)(hlen:l.length≤1000):Cal Tryz.prog 86 #[v] [Yj 1 Ym v l] true (G:=Value×List (Int×SL)) (fun r=>Yl r.2=tzl l) (fun r=>r.1) (fun r=>[pp r.1 r.2]):=by
 refine Zd Tryz.func86 Tryz.ntmps86 fun w0 sc hw hsc=>?_
 have hsz:=Zf6 hl
 refine go 17 ?_
 refine Ze (Pe 70 2 77 Kn) ?_
 refine Ze (Ys qI 71) ?_
 refine lp (G:=Nat×Value×List (Int×SL)) [0] [0,1] (fun q=>[(4,.int .i64 (q.1:Int)),(3,q.2.1)]) (fun q=>[(70,Nf 2 77 Kn q.2.1 q.2.2),(71,Cx qI q.2.2)]) (fun q=>(q.1≤l.length)∧(Yl q.2.2=mk q.1 (cf l))∧(q.2.2.length=q.1)) (fun q=>l.length-q.1) (0,.slice none 0 0,[]) ⟨O1,rfl,rfl⟩ ⟨rfl,rfl,trivial⟩ ⟨rfl,rfl,trivial⟩ ?_
 rintro⟨i,vo,ws⟩ ⟨hi,hz,hzl⟩
 dsimp only at hi hz hzl
 dsimp only
 refine go 9 ?_
 refine Zc rfl (fun h26=>?_) (fun h26=>?_)
 ·refine go 8 ?_
  refine dt (Yp (ii:=1) (i:=i) rfl rfl rfl rfl Zh Tryz.underlying22 Tryz.sizeOf3 rfl) ?_
  refine go 1 ⟨O,?_⟩
  refine cl 2 [] (Gg _ (hl _ (Zi))) fun v _=>?_
  refine Zzg (Pr 2 rfl Zh) (fun sl hsl=>?_)
  subst hsl
  refine tt (Xy (i:=3) (ivs:=[(0,_)]) (enc:=Kn) [(l.getD i 0,sl)] rfl rfl ⟨rfl,rfl,trivial⟩ Tryz.underlying46 Tryz.ti77 rfl rfl rfl rfl rfl pI.cells rfl rfl hw.h) (fun v_2 _=>?_)
  refine tt (Lu (i:=70) (j:=3) (by_:=32) rfl rfl rfl rfl rfl rfl O3 rfl (Xa pI) Tryz.underlying46 Tryz.ti77 rfl pI rfl rfl rfl O8 O3 rfl hw.h) (fun v_3 _=>?_)
  refine go 9 ⟨O,?_⟩
  refine Yr (Zj (q:=qI) (z:=(l.getD i 0,sl)) 71 2 71 rfl rfl rfl rfl rfl) ?_
  exact Xd (i+1,_,ws ++ [(l.getD i 0,sl)]) ⟨O1,by rw [Hj,Dr,hz];dsimp only;rfl,by simp [hzl]⟩ O1 ⟨rfl,rfl,trivial⟩ ⟨rfl,rfl,trivial⟩
 ·refine go 6 ?_
  refine Ze (Xp 70 rfl rfl pI) ?_
  refine Ze (Qj 70 71 72 rfl rfl rfl rfl) ?_
  refine go 2 ?_
  refine cl 4 [72] (Ho _ _ (by rw [hz];exact Cw fun t ht=>by have:=hsz t;omega)) fun g hg=>?_
  refine go 4 ?_
  exact Xi hsc _ Tryz.results86 rfl (by rw [hg,hz,show i=l.length by omega,Zdw]) (Oq 4 Za)
theorem Pz(n j:Int)(k:Nat)(hj:j=(k:Int))(hn:Xo n)(hk:k≤4):Cal Tryz.prog 90 #[.int .i64 n,.int .i64 j] [] true (G:=Value) (fun r=>True) (fun r=> .agg #[.bool (decide (n^k<0)),r]) (fun r=>[Ik r (n^k).natAbs]):=by
 refine Zd Tryz.func90 Tryz.ntmps90 fun w0 sc hw hsc=>?_
 have hbn:=Ig hn
 have hpb:=fun k=>Ybs hbn k
 refine go 2 ?_
 refine Ya (Zr 1) fun bx _=>?_
 refine go 4 ?_
 refine cl 98 [] (Gg 1 ⟨O3,O3⟩) fun v _=>?_
 refine Ya (Zr 97) fun bx_2 _=>?_
 refine go 10 ?_
 refine lp (G:=Nat×Value) [0,1,4,5] [0,1] (fun q=>[(6,.int .i64 (q.1:Int))]) (fun q=>[(97,box bx_2 77 #[.bool (decide (n^q.1<0)),q.2]),(98,Ik q.2 (n^q.1).natAbs)]) (fun q=>q.1≤k) (fun q=>k-q.1) (0,_) O1 ⟨rfl,trivial⟩ ⟨by rw [Int.pow_zero];rfl,by rw [Int.pow_zero];rfl,trivial⟩ ?_
 rintro⟨i,vs⟩ hi
 dsimp only at hi
 dsimp only
 have hp1:=hpb i
 refine go 8 ?_
 refine Zc rfl (fun h31=>?_) (fun h31=>?_)
 ·refine go 4 ?_
  refine Qb (fun _=>False) [(0,0),(1,0),(2,1),(3,1),(4,3)] ?_
  refine go 2 ?_
  refine Yu (Zg 2 [] (Gg n hn)) fun v_2 _=>?_
  refine Yu (Zg 3 [98,2] (Ke _ _ (n^i) n)) fun v_3 _=>?_
  refine go 9 ⟨O,?_⟩
  refine Yr (Qp 3 98 rfl rfl rfl) ?_
  exact Xd (i+1,v_3) O1 O1 ⟨rfl,trivial⟩ ⟨by rw [Int.pow_succ];rfl,by rw [Int.pow_succ];rfl,trivial⟩
 ·obtain rfl:i=k:=O
  refine go 12 ?_
  exact Xi hsc _ Tryz.results90 rfl trivial (Oq 98 Za)
theorem Znp(fr to ov:Int)(sx sy sz:SL)(x y z:List Int)(m:Int)(o:Nat)(hS:Sgo fr to ov x y z)(ho:o=1∨o=2)(h0:0≤m)(h1:m≤10000):Cal Tryz.prog 51 #[.agg #[.int .i64 fr,.int .i64 to,.int .i64 ov,Ph sx,Ph sy,Ph sz],.int .i64 m,.int .i64 (o:Int)] [Yj 1 Ym (Ph sx) x,Yj 1 Ym (Ph sy) y,Yj 1 Ym (Ph sz) z] true (G:=Value×List (Int×SL)) (fun r=>Yl r.2=Fh o m ov (to-fr) x y z) (fun r=>r.1) (fun r=>[pp r.1 r.2]):=by
 refine Zd Tryz.func51 Tryz.ntmps51 fun w0 sc hw hsc=>?_
 have ho1:=hS.o1
 have ho2:=hS.o2
 have ht1:=hS.t1
 have ht2:=hS.t2
 have ht3:=hS.t3
 obtain⟨c1,c2,c3,c4,c5,c6⟩:=refC_b hS h0 h1 ho
 refine go 2 ?_
 refine Ya (Ye 4) fun bx _=>?_
 refine go 11 ?_
 refine cl 5 [1,2,3] (Zg8 _ _ _ _ _ _ _ _ _) fun v _=>?_
 refine go 10 ?_
 refine Ze (Lf 80) ?_
 refine lp (G:=Nat×Value×List (Int×SL)) [1,2,3,8] [0,1,2,3,4,5] (fun q=>[(9,.int .i64 (q.1:Int)),(7,q.2.1)]) (fun q=>[(80,pp q.2.1 q.2.2)]) (fun q=>(q.1≤3)∧(Yl q.2.2=Zes o x y z q.1)) (fun q=>3-q.1) (0,_,[]) ⟨O1,rfl⟩ ⟨rfl,rfl,trivial⟩ ⟨rfl,trivial⟩ ?_
 rintro⟨i,vs,zs⟩ ⟨hi,hs⟩
 dsimp only at hi hs
 dsimp only
 have hc:=hS.hc i
 have hlc:=hS.lc i
 have hzl:=Zm zs
 have hr1:=(Fu hS ho i).2
 rw [←hs]at hr1
 obtain⟨hm1,hm2,-,hm4⟩:=Zkp hc hlc.2 ho
 refine go 7 ?_
 refine Zc rfl (fun h41=>?_) (fun h41=>?_)
 ·refine go 5 ?_
  refine Ze (Zkk 5 40 ([(sx,x),(sy,y),(sz,z)].getD i C0) rfl rfl (Zi (show i<3 by omega)) rfl) ?_
  refine Ze (He 40 (q:=Yj 1 Ym (Ph ([(sx,x),(sy,y),(sz,z)].getD i C0).1) (Yv i x y z)) (congrArg (Yj 1 Ym _) (Zwe O)) rfl rfl) ?_
  refine go 3 ?_
  refine dt (Yp (ii:=5) (i:=i) rfl rfl rfl rfl Zp Tryz.underlying80 Tryz.sizeOf22 rfl (show i<3 by omega)) ?_
  refine dt (Od (ii:=5) C0 rfl rfl rfl Zp pC (show i<3 by omega)) ?_
  refine cl 81 [40] (Zx0 _ (Yv i x y z) hc O) fun g hg=>?_
  refine go 10 ?_
  refine lp (G:=Nat×Value×List (Int×SL)) [1,2,3,7,8,9] [0,80,1,2,3,4,5,40] (fun q=>[(11,.int .i64 (q.1:Int)),(10,q.2.1)]) (fun q=>[(81,pp q.2.1 q.2.2)]) (fun q=>(q.1≤o)∧(Yl q.2.2=dN q.1 (tzl (Yv i x y z)))) (fun q=>o-q.1) (0,_,g.2) ⟨O1,hg⟩ ⟨rfl,rfl,trivial⟩ ⟨rfl,trivial⟩ ?_
  rintro⟨k,vp,qs⟩ ⟨hk,hq⟩
  dsimp only at hk hq
  dsimp only
  have hql:=Zm qs
  have hqk:=(Ztq hc hlc.2 k O).2.1
  rw [←hq]at hqk
  refine go 8 ?_
  refine Zc rfl (fun h43=>?_) (fun h43=>?_)
  ·refine go 6 ?_
   refine cl 81 [81] (Zuy _ _ (by rw [hq];exact(Ztp hc hlc.2 O).1.sz.mono O) O) fun g_2 hg_2=>?_
   refine go 9 ⟨O,?_⟩
   exact Xd (k+1,_,g_2.2) ⟨O1,hg_2.trans (by rw [hq]<;>rfl)⟩ O1 ⟨rfl,rfl,trivial⟩ ⟨rfl,trivial⟩
  ·obtain rfl:k=o:=O
   refine go 9 ?_
   refine cl 6 [81,81] (rp_mul _ _ _ _ (by rw [hq];exact hm1.mono O) O (by rw [hq];exact hm1.mono O) O) fun g_3 hg_3=>?_
   have hml9:=congrArg List.length hg_3
   rw [Zm]at hml9
   refine cl 80 [80,6] (Zxp _ _ _ _ (by rw [hs];exact(Br hS ho O).mono O) O (by rw [hg_3,hq];exact(Ycd hc hlc.2 ho).mono O) (by rw [hml9,hq];omega)) fun g_4 hg_4=>?_
   refine go 9 ⟨O,?_⟩
   exact Xd (i+1,_,g_4.2) ⟨O1,hg_4.trans (by rw [hs,hg_3,hq]<;>rfl)⟩ O1 ⟨rfl,rfl,trivial⟩ ⟨rfl,trivial⟩
 ·obtain rfl:i=3:=O
  refine go 6 ?_
  refine Fz (fun _=>False) [16] ?_
  refine Zl (n:=7) [(0,0),(2,0),(3,0),(6,0),(7,0),(8,0),(9,0),(10,0),(11,0),(12,0)] ?_
  refine go 11 ⟨O,O,?_⟩
  refine Qt (n:=6) 1 15 ?_ ?_
  ·refine Mc (Zg 7 [] (Pz m 2 2 rfl ⟨O,O⟩ O3)) fun v_2 _=>?_
   refine Qt (n:=5) 4 15 ?_ ?_
   ·refine Mc (Zg 8 [] (Pz ov 2 2 rfl ⟨O,O⟩ O3)) fun v_3 _=>?_
    refine Qt (n:=4) 5 15 ?_ ?_
    ·refine Mc (Zg 9 [7,8] (Ke _ _ (m^2) (ov^2))) fun v_4 _=>?_
     refine Qt (n:=3) 13 15 ?_ ?_
     ·refine Mc (Zg 10 [] (Pz (to-fr) _ (2*o) (by push_cast;rfl) ⟨O,O⟩ O)) fun v_5 _=>?_
      refine Qt (n:=2) 14 15 ?_ ?_
      ·refine Mc (Zg 11 [9,10] (Ke _ _ (m^2*ov^2) ((to-fr)^(2*o)))) fun v_6 _=>?_
       refine Zl (n:=0) [(15,1),(16,3)] ?_
       refine Yu (Zr 12) fun bx_2 _=>?_
       refine go 2 ?_
       refine Zu ?_
       refine go 2 ?_
       refine Ze2 (Pr 11 rfl Zh) (fun slc hslc=>?_)
       subst hslc
       refine go 2 ?_
       refine tt (Xy (i:=13) (ivs:=[(0,_)]) (enc:=Kn) [((Ou o m ov (to-fr)),slc)] rfl rfl ⟨rfl,rfl,trivial⟩ Tryz.underlying46 Tryz.ti77 rfl rfl rfl rfl rfl pI.cells rfl rfl hw.h) (fun v_7 _=>?_)
       refine Zt (Xp 13 rfl rfl pI) ?_
       refine Zt (Ys qI 71) ?_
       refine Zt (Zj (q:=qI) (z:=((Ou o m ov (to-fr)),slc)) 71 11 71 rfl rfl rfl rfl rfl) ?_
       refine Zt (Qj 13 71 72 rfl rfl rfl rfl) ?_
       refine cl 14 [72] (Ho _ [((Ou o m ov (to-fr)),slc)] (show Sz 3000000000 [(Ou o m ov (to-fr))]from Fl O)) fun g_5 hg_5=>?_
       have htr9:g_5.2.length=(tzl [(Ou o m ov (to-fr))]).length:=(Zm _).symm.trans (congrArg List.length hg_5)
       have htl9:(tzl [(Ou o m ov (to-fr))]).length≤1:=Mu [(Ou o m ov (to-fr))]
       refine go 3 ⟨O,?_⟩
       refine cl 15 [] (Pz 1000 _ (2*o) (by push_cast;rfl) ⟨O3,O3⟩ O) fun v_8 _=>?_
       refine cl 16 [80,15] (Ev _ _ zs (1000^(2*o)) (by rw [hs];exact(Br hS ho O).mono O)) fun g_6 hg_6=>?_
       have hsc9:=congrArg List.length hg_6
       rw [Zm,hs]at hsc9
       have hsl8:=(Fu hS ho 3).2
       have hsl9:=Nr (Zes o x y z 3) (1000^(2*o))
       refine cl 17 [14,16] (Zep _ _ _ _ (by rw [hg_5];exact Sz.tzl (show Sz 1000000 [(Ou o m ov (to-fr))]from Fl O)) (by rw [hg_6,hs,Ft];exact((Gu hS ho 3 O).2.2.2.1).mono O)) fun g_7 hg_7=>?_
       have hFF:Yl g_7.2=Zcg o m ov (to-fr) x y z:=hg_7.trans (by rw [hg_5,hg_6,hs];rfl)
       have hFl:=congrArg List.length hFF
       rw [Zm]at hFl
       obtain⟨hF1,hF2,hF3⟩:=Zbh hS h0 h1 ho
       refine go 11 ?_
       refine Zc rfl (fun h51=>?_) (fun h51=>?_)
       ·refine go 7 ?_
        refine Yr (Lf 62) ?_
        exact Xi hsc (.slice none 0 0,[]) Tryz.results51 rfl (by rw [Cm (by rw [←hFF,Zm];omega)];rfl) (Oq 62 Za)
       ·refine go 5 ?_
        refine cl 18 [17] (Ks _ _ (by rw [hFF];exact hF1.mono O) (fun h=>by rw [hFF];exact hF3 (fun e=>h (by rw [hFl,e];rfl)))) fun g_8 hg_8=>?_
        refine go 4 ?_
        exact Xi hsc _ Tryz.results51 rfl (by rw [hg_8,hFF,Ey]) (Oq 18 Za)
      ·refine Mc (Zr 19) fun bx_3 _=>?_
       refine Zl (n:=0) [(14,1),(16,3)] ?_
       refine Yu (Zg 20 [9,10] (Ke _ _ (m^2*ov^2) ((to-fr)^(2*o)))) fun v_9 _=>?_
       refine go 2 ?_
       refine Zu ?_
       refine go 2 ?_
       refine Ze2 (Pr 20 rfl Zh) (fun slc hslc=>?_)
       subst hslc
       refine go 2 ?_
       refine tt (Xy (i:=21) (ivs:=[(0,_)]) (enc:=Kn) [((Ou o m ov (to-fr)),slc)] rfl rfl ⟨rfl,rfl,trivial⟩ Tryz.underlying46 Tryz.ti77 rfl rfl rfl rfl rfl pI.cells rfl rfl hw.h) (fun v_10 _=>?_)
       refine Zt (Xp 21 rfl rfl pI) ?_
       refine Zt (Ys qI 71) ?_
       refine Zt (Zj (q:=qI) (z:=((Ou o m ov (to-fr)),slc)) 71 20 71 rfl rfl rfl rfl rfl) ?_
       refine Zt (Qj 21 71 72 rfl rfl rfl rfl) ?_
       refine cl 22 [72] (Ho _ [((Ou o m ov (to-fr)),slc)] (show Sz 3000000000 [(Ou o m ov (to-fr))]from Fl O)) fun g_9 hg_9=>?_
       have htr9:g_9.2.length=(tzl [(Ou o m ov (to-fr))]).length:=(Zm _).symm.trans (congrArg List.length hg_9)
       have htl9:(tzl [(Ou o m ov (to-fr))]).length≤1:=Mu [(Ou o m ov (to-fr))]
       refine go 3 ⟨O,?_⟩
       refine cl 23 [] (Pz 1000 _ (2*o) (by push_cast;rfl) ⟨O3,O3⟩ O) fun v_11 _=>?_
       refine cl 24 [80,23] (Ev _ _ zs (1000^(2*o)) (by rw [hs];exact(Br hS ho O).mono O)) fun g_10 hg_10=>?_
       have hsc9:=congrArg List.length hg_10
       rw [Zm,hs]at hsc9
       have hsl8:=(Fu hS ho 3).2
       have hsl9:=Nr (Zes o x y z 3) (1000^(2*o))
       refine cl 25 [22,24] (Zep _ _ _ _ (by rw [hg_9];exact Sz.tzl (show Sz 1000000 [(Ou o m ov (to-fr))]from Fl O)) (by rw [hg_10,hs,Ft];exact((Gu hS ho 3 O).2.2.2.1).mono O)) fun g_11 hg_11=>?_
       have hFF:Yl g_11.2=Zcg o m ov (to-fr) x y z:=hg_11.trans (by rw [hg_9,hg_10,hs];rfl)
       have hFl:=congrArg List.length hFF
       rw [Zm]at hFl
       obtain⟨hF1,hF2,hF3⟩:=Zbh hS h0 h1 ho
       refine go 11 ?_
       refine Zc rfl (fun h51_2=>?_) (fun h51_2=>?_)
       ·refine go 7 ?_
        refine Yr (Lf 62) ?_
        exact Xi hsc (.slice none 0 0,[]) Tryz.results51 rfl (by rw [Cm (by rw [←hFF,Zm];omega)];rfl) (Oq 62 Za)
       ·refine go 5 ?_
        refine cl 26 [25] (Ks _ _ (by rw [hFF];exact hF1.mono O) (fun h=>by rw [hFF];exact hF3 (fun e=>h (by rw [hFl,e];rfl)))) fun g_12 hg_12=>?_
        refine go 4 ?_
        exact Xi hsc _ Tryz.results51 rfl (by rw [hg_12,hFF,Ey]) (Oq 26 Za)
     ·refine Mc (Zr 27) fun bx_4 _=>?_
      refine Zl (n:=0) [(13,1),(14,1),(16,3)] ?_
      refine Yu (Zg 28 [] (Pz (to-fr) _ (2*o) (by push_cast;rfl) ⟨O,O⟩ O)) fun v_12 _=>?_
      refine Yu (Zg 29 [9,28] (Ke _ _ (m^2*ov^2) ((to-fr)^(2*o)))) fun v_13 _=>?_
      refine go 2 ?_
      refine Zu ?_
      refine go 2 ?_
      refine Ze2 (Pr 29 rfl Zh) (fun slc hslc=>?_)
      subst hslc
      refine go 2 ?_
      refine tt (Xy (i:=30) (ivs:=[(0,_)]) (enc:=Kn) [((Ou o m ov (to-fr)),slc)] rfl rfl ⟨rfl,rfl,trivial⟩ Tryz.underlying46 Tryz.ti77 rfl rfl rfl rfl rfl pI.cells rfl rfl hw.h) (fun v_14 _=>?_)
      refine Zt (Xp 30 rfl rfl pI) ?_
      refine Zt (Ys qI 71) ?_
      refine Zt (Zj (q:=qI) (z:=((Ou o m ov (to-fr)),slc)) 71 29 71 rfl rfl rfl rfl rfl) ?_
      refine Zt (Qj 30 71 72 rfl rfl rfl rfl) ?_
      refine cl 31 [72] (Ho _ [((Ou o m ov (to-fr)),slc)] (show Sz 3000000000 [(Ou o m ov (to-fr))]from Fl O)) fun g_13 hg_13=>?_
      have htr9:g_13.2.length=(tzl [(Ou o m ov (to-fr))]).length:=(Zm _).symm.trans (congrArg List.length hg_13)
      have htl9:(tzl [(Ou o m ov (to-fr))]).length≤1:=Mu [(Ou o m ov (to-fr))]
      refine go 3 ⟨O,?_⟩
      refine cl 32 [] (Pz 1000 _ (2*o) (by push_cast;rfl) ⟨O3,O3⟩ O) fun v_15 _=>?_
      refine cl 33 [80,32] (Ev _ _ zs (1000^(2*o)) (by rw [hs];exact(Br hS ho O).mono O)) fun g_14 hg_14=>?_
      have hsc9:=congrArg List.length hg_14
      rw [Zm,hs]at hsc9
      have hsl8:=(Fu hS ho 3).2
      have hsl9:=Nr (Zes o x y z 3) (1000^(2*o))
      refine cl 34 [31,33] (Zep _ _ _ _ (by rw [hg_13];exact Sz.tzl (show Sz 1000000 [(Ou o m ov (to-fr))]from Fl O)) (by rw [hg_14,hs,Ft];exact((Gu hS ho 3 O).2.2.2.1).mono O)) fun g_15 hg_15=>?_
      have hFF:Yl g_15.2=Zcg o m ov (to-fr) x y z:=hg_15.trans (by rw [hg_13,hg_14,hs];rfl)
      have hFl:=congrArg List.length hFF
      rw [Zm]at hFl
      obtain⟨hF1,hF2,hF3⟩:=Zbh hS h0 h1 ho
      refine go 11 ?_
      refine Zc rfl (fun h51_3=>?_) (fun h51_3=>?_)
      ·refine go 7 ?_
       refine Yr (Lf 62) ?_
       exact Xi hsc (.slice none 0 0,[]) Tryz.results51 rfl (by rw [Cm (by rw [←hFF,Zm];omega)];rfl) (Oq 62 Za)
      ·refine go 5 ?_
       refine cl 35 [34] (Ks _ _ (by rw [hFF];exact hF1.mono O) (fun h=>by rw [hFF];exact hF3 (fun e=>h (by rw [hFl,e];rfl)))) fun g_16 hg_16=>?_
       refine go 4 ?_
       exact Xi hsc _ Tryz.results51 rfl (by rw [hg_16,hFF,Ey]) (Oq 35 Za)
    ·refine Mc (Zr 36) fun bx_5 _=>?_
     refine Zl (n:=0) [(5,1),(13,1),(14,1),(16,3)] ?_
     refine Yu (Zg 37 [7,8] (Ke _ _ (m^2) (ov^2))) fun v_16 _=>?_
     refine Yu (Zg 38 [] (Pz (to-fr) _ (2*o) (by push_cast;rfl) ⟨O,O⟩ O)) fun v_17 _=>?_
     refine Yu (Zg 39 [37,38] (Ke _ _ (m^2*ov^2) ((to-fr)^(2*o)))) fun v_18 _=>?_
     refine go 2 ?_
     refine Zu ?_
     refine go 2 ?_
     refine Ze2 (Pr 39 rfl Zh) (fun slc hslc=>?_)
     subst hslc
     refine go 2 ?_
     refine tt (Xy (i:=40) (ivs:=[(0,_)]) (enc:=Kn) [((Ou o m ov (to-fr)),slc)] rfl rfl ⟨rfl,rfl,trivial⟩ Tryz.underlying46 Tryz.ti77 rfl rfl rfl rfl rfl pI.cells rfl rfl hw.h) (fun v_19 _=>?_)
     refine Zt (Xp 40 rfl rfl pI) ?_
     refine Zt (Ys qI 71) ?_
     refine Zt (Zj (q:=qI) (z:=((Ou o m ov (to-fr)),slc)) 71 39 71 rfl rfl rfl rfl rfl) ?_
     refine Zt (Qj 40 71 72 rfl rfl rfl rfl) ?_
     refine cl 41 [72] (Ho _ [((Ou o m ov (to-fr)),slc)] (show Sz 3000000000 [(Ou o m ov (to-fr))]from Fl O)) fun g_17 hg_17=>?_
     have htr9:g_17.2.length=(tzl [(Ou o m ov (to-fr))]).length:=(Zm _).symm.trans (congrArg List.length hg_17)
     have htl9:(tzl [(Ou o m ov (to-fr))]).length≤1:=Mu [(Ou o m ov (to-fr))]
     refine go 3 ⟨O,?_⟩
     refine cl 42 [] (Pz 1000 _ (2*o) (by push_cast;rfl) ⟨O3,O3⟩ O) fun v_20 _=>?_
     refine cl 43 [80,42] (Ev _ _ zs (1000^(2*o)) (by rw [hs];exact(Br hS ho O).mono O)) fun g_18 hg_18=>?_
     have hsc9:=congrArg List.length hg_18
     rw [Zm,hs]at hsc9
     have hsl8:=(Fu hS ho 3).2
     have hsl9:=Nr (Zes o x y z 3) (1000^(2*o))
     refine cl 44 [41,43] (Zep _ _ _ _ (by rw [hg_17];exact Sz.tzl (show Sz 1000000 [(Ou o m ov (to-fr))]from Fl O)) (by rw [hg_18,hs,Ft];exact((Gu hS ho 3 O).2.2.2.1).mono O)) fun g_19 hg_19=>?_
     have hFF:Yl g_19.2=Zcg o m ov (to-fr) x y z:=hg_19.trans (by rw [hg_17,hg_18,hs];rfl)
     have hFl:=congrArg List.length hFF
     rw [Zm]at hFl
     obtain⟨hF1,hF2,hF3⟩:=Zbh hS h0 h1 ho
     refine go 11 ?_
     refine Zc rfl (fun h51_4=>?_) (fun h51_4=>?_)
     ·refine go 7 ?_
      refine Yr (Lf 62) ?_
      exact Xi hsc (.slice none 0 0,[]) Tryz.results51 rfl (by rw [Cm (by rw [←hFF,Zm];omega)];rfl) (Oq 62 Za)
     ·refine go 5 ?_
      refine cl 45 [44] (Ks _ _ (by rw [hFF];exact hF1.mono O) (fun h=>by rw [hFF];exact hF3 (fun e=>h (by rw [hFl,e];rfl)))) fun g_20 hg_20=>?_
      refine go 4 ?_
      exact Xi hsc _ Tryz.results51 rfl (by rw [hg_20,hFF,Ey]) (Oq 45 Za)
   ·refine Mc (Zr 46) fun bx_6 _=>?_
    refine Zl (n:=0) [(4,1),(5,1),(13,1),(14,1),(16,3)] ?_
    refine Yu (Zg 47 [] (Pz ov 2 2 rfl ⟨O,O⟩ O3)) fun v_21 _=>?_
    refine Yu (Zg 48 [7,47] (Ke _ _ (m^2) (ov^2))) fun v_22 _=>?_
    refine Yu (Zg 49 [] (Pz (to-fr) _ (2*o) (by push_cast;rfl) ⟨O,O⟩ O)) fun v_23 _=>?_
    refine Yu (Zg 50 [48,49] (Ke _ _ (m^2*ov^2) ((to-fr)^(2*o)))) fun v_24 _=>?_
    refine go 2 ?_
    refine Zu ?_
    refine go 2 ?_
    refine Ze2 (Pr 50 rfl Zh) (fun slc hslc=>?_)
    subst hslc
    refine go 2 ?_
    refine tt (Xy (i:=51) (ivs:=[(0,_)]) (enc:=Kn) [((Ou o m ov (to-fr)),slc)] rfl rfl ⟨rfl,rfl,trivial⟩ Tryz.underlying46 Tryz.ti77 rfl rfl rfl rfl rfl pI.cells rfl rfl hw.h) (fun v_25 _=>?_)
    refine Zt (Xp 51 rfl rfl pI) ?_
    refine Zt (Ys qI 71) ?_
    refine Zt (Zj (q:=qI) (z:=((Ou o m ov (to-fr)),slc)) 71 50 71 rfl rfl rfl rfl rfl) ?_
    refine Zt (Qj 51 71 72 rfl rfl rfl rfl) ?_
    refine cl 52 [72] (Ho _ [((Ou o m ov (to-fr)),slc)] (show Sz 3000000000 [(Ou o m ov (to-fr))]from Fl O)) fun g_21 hg_21=>?_
    have htr9:g_21.2.length=(tzl [(Ou o m ov (to-fr))]).length:=(Zm _).symm.trans (congrArg List.length hg_21)
    have htl9:(tzl [(Ou o m ov (to-fr))]).length≤1:=Mu [(Ou o m ov (to-fr))]
    refine go 3 ⟨O,?_⟩
    refine cl 53 [] (Pz 1000 _ (2*o) (by push_cast;rfl) ⟨O3,O3⟩ O) fun v_26 _=>?_
    refine cl 54 [80,53] (Ev _ _ zs (1000^(2*o)) (by rw [hs];exact(Br hS ho O).mono O)) fun g_22 hg_22=>?_
    have hsc9:=congrArg List.length hg_22
    rw [Zm,hs]at hsc9
    have hsl8:=(Fu hS ho 3).2
    have hsl9:=Nr (Zes o x y z 3) (1000^(2*o))
    refine cl 55 [52,54] (Zep _ _ _ _ (by rw [hg_21];exact Sz.tzl (show Sz 1000000 [(Ou o m ov (to-fr))]from Fl O)) (by rw [hg_22,hs,Ft];exact((Gu hS ho 3 O).2.2.2.1).mono O)) fun g_23 hg_23=>?_
    have hFF:Yl g_23.2=Zcg o m ov (to-fr) x y z:=hg_23.trans (by rw [hg_21,hg_22,hs];rfl)
    have hFl:=congrArg List.length hFF
    rw [Zm]at hFl
    obtain⟨hF1,hF2,hF3⟩:=Zbh hS h0 h1 ho
    refine go 11 ?_
    refine Zc rfl (fun h51_5=>?_) (fun h51_5=>?_)
    ·refine go 7 ?_
     refine Yr (Lf 62) ?_
     exact Xi hsc (.slice none 0 0,[]) Tryz.results51 rfl (by rw [Cm (by rw [←hFF,Zm];omega)];rfl) (Oq 62 Za)
    ·refine go 5 ?_
     refine cl 56 [55] (Ks _ _ (by rw [hFF];exact hF1.mono O) (fun h=>by rw [hFF];exact hF3 (fun e=>h (by rw [hFl,e];rfl)))) fun g_24 hg_24=>?_
     refine go 4 ?_
     exact Xi hsc _ Tryz.results51 rfl (by rw [hg_24,hFF,Ey]) (Oq 56 Za)
  ·refine Mc (Zr 57) fun bx_7 _=>?_
   refine Zl (n:=0) [(1,1),(4,1),(5,1),(13,1),(14,1),(16,3)] ?_
   refine Yu (Zg 58 [] (Pz m 2 2 rfl ⟨O,O⟩ O3)) fun v_27 _=>?_
   refine Yu (Zg 59 [] (Pz ov 2 2 rfl ⟨O,O⟩ O3)) fun v_28 _=>?_
   refine Yu (Zg 60 [58,59] (Ke _ _ (m^2) (ov^2))) fun v_29 _=>?_
   refine Yu (Zg 61 [] (Pz (to-fr) _ (2*o) (by push_cast;rfl) ⟨O,O⟩ O)) fun v_30 _=>?_
   refine Yu (Zg 62 [60,61] (Ke _ _ (m^2*ov^2) ((to-fr)^(2*o)))) fun v_31 _=>?_
   refine go 2 ?_
   refine Zu ?_
   refine go 2 ?_
   refine Ze2 (Pr 62 rfl Zh) (fun slc hslc=>?_)
   subst hslc
   refine go 2 ?_
   refine tt (Xy (i:=63) (ivs:=[(0,_)]) (enc:=Kn) [((Ou o m ov (to-fr)),slc)] rfl rfl ⟨rfl,rfl,trivial⟩ Tryz.underlying46 Tryz.ti77 rfl rfl rfl rfl rfl pI.cells rfl rfl hw.h) (fun v_32 _=>?_)
   refine Zt (Xp 63 rfl rfl pI) ?_
   refine Zt (Ys qI 71) ?_
   refine Zt (Zj (q:=qI) (z:=((Ou o m ov (to-fr)),slc)) 71 62 71 rfl rfl rfl rfl rfl) ?_
   refine Zt (Qj 63 71 72 rfl rfl rfl rfl) ?_
   refine cl 64 [72] (Ho _ [((Ou o m ov (to-fr)),slc)] (show Sz 3000000000 [(Ou o m ov (to-fr))]from Fl O)) fun g_25 hg_25=>?_
   have htr9:g_25.2.length=(tzl [(Ou o m ov (to-fr))]).length:=(Zm _).symm.trans (congrArg List.length hg_25)
   have htl9:(tzl [(Ou o m ov (to-fr))]).length≤1:=Mu [(Ou o m ov (to-fr))]
   refine go 3 ⟨O,?_⟩
   refine cl 65 [] (Pz 1000 _ (2*o) (by push_cast;rfl) ⟨O3,O3⟩ O) fun v_33 _=>?_
   refine cl 66 [80,65] (Ev _ _ zs (1000^(2*o)) (by rw [hs];exact(Br hS ho O).mono O)) fun g_26 hg_26=>?_
   have hsc9:=congrArg List.length hg_26
   rw [Zm,hs]at hsc9
   have hsl8:=(Fu hS ho 3).2
   have hsl9:=Nr (Zes o x y z 3) (1000^(2*o))
   refine cl 67 [64,66] (Zep _ _ _ _ (by rw [hg_25];exact Sz.tzl (show Sz 1000000 [(Ou o m ov (to-fr))]from Fl O)) (by rw [hg_26,hs,Ft];exact((Gu hS ho 3 O).2.2.2.1).mono O)) fun g_27 hg_27=>?_
   have hFF:Yl g_27.2=Zcg o m ov (to-fr) x y z:=hg_27.trans (by rw [hg_25,hg_26,hs];rfl)
   have hFl:=congrArg List.length hFF
   rw [Zm]at hFl
   obtain⟨hF1,hF2,hF3⟩:=Zbh hS h0 h1 ho
   refine go 11 ?_
   refine Zc rfl (fun h51_6=>?_) (fun h51_6=>?_)
   ·refine go 7 ?_
    refine Yr (Lf 62) ?_
    exact Xi hsc (.slice none 0 0,[]) Tryz.results51 rfl (by rw [Cm (by rw [←hFF,Zm];omega)];rfl) (Oq 62 Za)
   ·refine go 5 ?_
    refine cl 68 [67] (Ks _ _ (by rw [hFF];exact hF1.mono O) (fun h=>by rw [hFF];exact hF3 (fun e=>h (by rw [hFl,e];rfl)))) fun g_28 hg_28=>?_
    refine go 4 ?_
    exact Xi hsc _ Tryz.results51 rfl (by rw [hg_28,hFF,Ey]) (Oq 68 Za)
theorem Zjh(fr to ov:Int)(sx sy sz:SL)(x y z:List Int)(m:Int)(hS:Sgo fr to ov x y z)(h0:0≤m)(h1:m≤10000):Cal Tryz.prog 21 #[.agg #[.int .i64 fr,.int .i64 to,.int .i64 ov,Ph sx,Ph sy,Ph sz],.int .i64 m] [Yj 1 Ym (Ph sx) x,Yj 1 Ym (Ph sy) y,Yj 1 Ym (Ph sz) z] true (G:=Value×List (Int×SL)) (fun r=>Yl r.2=Fh 1 m ov (to-fr) x y z) (fun r=>r.1) (fun r=>[pp r.1 r.2]):=by
 refine Zd Tryz.func21 Tryz.ntmps21 fun w0 sc hw hsc=>?_
 refine go 2 ?_
 refine Ya (Ye 4) fun bx _=>?_
 refine go 7 ?_
 refine cl 5 [1,2,3] (Znp _ _ _ _ _ _ _ _ _ _ 1 hS (.inl rfl) h0 h1) fun g hg=>?_
 refine go 4 ?_
 exact Xi hsc _ Tryz.results21 rfl hg (Oq 5 Za)
theorem Co(fr to ov:Int)(sx sy sz:SL)(x y z:List Int)(m:Int)(hS:Sgo fr to ov x y z)(h0:0≤m)(h1:m≤10000):Cal Tryz.prog 22 #[.agg #[.int .i64 fr,.int .i64 to,.int .i64 ov,Ph sx,Ph sy,Ph sz],.int .i64 m] [Yj 1 Ym (Ph sx) x,Yj 1 Ym (Ph sy) y,Yj 1 Ym (Ph sz) z] true (G:=Value×List (Int×SL)) (fun r=>Yl r.2=Fh 2 m ov (to-fr) x y z) (fun r=>r.1) (fun r=>[pp r.1 r.2]):=by
 refine Zd Tryz.func22 Tryz.ntmps22 fun w0 sc hw hsc=>?_
 refine go 2 ?_
 refine Ya (Ye 4) fun bx _=>?_
 refine go 7 ?_
 refine cl 5 [1,2,3] (Znp _ _ _ _ _ _ _ _ _ _ 2 hS (.inr rfl) h0 h1) fun g hg=>?_
 refine go 4 ?_
 exact Xi hsc _ Tryz.results22 rfl hg (Oq 5 Za)
set_option maxHeartbeats 400000 in
theorem Zqi(fr to ov sp ac:Int)(sx sy sz:SL)(x y z:List Int)(hfr:Xo fr)(hto:Xo to)(hov:Xo ov)(hx:∀a∈x,Xo a)(hy:∀a∈y,Xo a)(hz:∀a∈z,Xo a)(hf:Ze0 [((fr,to,ov),(sx,x),(sy,y),(sz,z))] 1=false):Cal Tryz.prog 4 #[.agg #[.int .i64 fr,.int .i64 to,.int .i64 ov,Ph sx,Ph sy,Ph sz],.int .i64 sp,.int .i64 ac] [Yj 1 Ym (Ph sx) x,Yj 1 Ym (Ph sy) y,Yj 1 Ym (Ph sz) z] false (G:=Unit) (fun _=>True) (fun _=> .bool true) (fun _=>[]):=by
 refine Zd Tryz.func4 Tryz.ntmps4 fun w0 sc hw hsc=>?_
 refine Ze (Pe 60 2 93 wv) ?_
 refine Ze (Xp 60 rfl rfl pV) ?_
 refine go 2 ?_
 refine Ya (Ye 4) fun bx _=>?_
 refine go 7 ?_
 refine tt (Xy (i:=5) (ivs:=[(0,_)]) (enc:=Cf) [((fr,to,ov),(sx,x),(sy,y),(sz,z))] rfl rfl ⟨rfl,rfl,trivial⟩ Tryz.underlying29 Tryz.ti24 rfl rfl (Zcr _ _ _ _ _ _ _ _ _ _ _ _) rfl rfl pG.cells rfl rfl hw.h) (fun v _=>?_)
 refine Zt (Xp 5 rfl rfl pG) ?_
 refine Zt (Ys qG 73) ?_
 refine Zt (Ys qC 71) ?_
 refine Zt (Zj (q:=qC) (z:=((fr,to,ov),(sx,x),(sy,y),(sz,z)).2.1) 71 1 71 rfl rfl rfl rfl rfl) ?_
 refine Zt (Zj (q:=qC) (z:=((fr,to,ov),(sx,x),(sy,y),(sz,z)).2.2.1) 71 2 71 rfl rfl rfl rfl rfl) ?_
 refine Zt (Zj (q:=qC) (z:=((fr,to,ov),(sx,x),(sy,y),(sz,z)).2.2.2) 71 3 71 rfl rfl rfl rfl rfl) ?_
 refine Zt (Zj (q:=qG) (z:=((fr,to,ov),(sx,x),(sy,y),(sz,z))) 73 71 73 rfl rfl rfl rfl rfl) ?_
 refine Zt (Qj 5 73 72 rfl rfl rfl rfl) ?_
 refine cl 5 [72] (Zbi _ [((fr,to,ov),(sx,x),(sy,y),(sz,z))] 1) fun _ _=>?_
 refine dt (Zv (r':= .bool true) (Xk rfl rfl) (congrArg (fun b=>Value.bool (!b)) hf)) ?_
 refine go 5 ?_
 refine cl 5 [] (Ei) fun _ _=>?_
 refine go 5 ?_
 exact Xi hsc () Tryz.results4 rfl trivial Za
set_option maxHeartbeats 400000 in
theorem Zvq(fr to ov sp ac:Int)(sx sy sz:SL)(x y z:List Int)(hfr:Xo fr)(hto:Xo to)(hov:Xo ov)(hx:∀a∈x,Xo a)(hy:∀a∈y,Xo a)(hz:∀a∈z,Xo a)(hf:Ze0 [((fr,to,ov),(sx,x),(sy,y),(sz,z))] 1=true)(hb:Ir fr to ov x y z=true)(hsp0:0≤sp)(hsp1:sp≤10000)(hac0:0≤ac)(hac1:ac≤10000):Cal Tryz.prog 4 #[.agg #[.int .i64 fr,.int .i64 to,.int .i64 ov,Ph sx,Ph sy,Ph sz],.int .i64 sp,.int .i64 ac] [Yj 1 Ym (Ph sx) x,Yj 1 Ym (Ph sy) y,Yj 1 Ym (Ph sz) z] false (G:=Unit) (fun _=>True) (fun _=> .bool true) (fun _=>[]):=by
 refine Zd Tryz.func4 Tryz.ntmps4 fun w0 sc hw hsc=>?_
 refine Ze (Pe 60 2 93 wv) ?_
 refine Ze (Xp 60 rfl rfl pV) ?_
 refine go 2 ?_
 refine Ya (Ye 4) fun bx _=>?_
 refine go 7 ?_
 refine tt (Xy (i:=5) (ivs:=[(0,_)]) (enc:=Cf) [((fr,to,ov),(sx,x),(sy,y),(sz,z))] rfl rfl ⟨rfl,rfl,trivial⟩ Tryz.underlying29 Tryz.ti24 rfl rfl (Zcr _ _ _ _ _ _ _ _ _ _ _ _) rfl rfl pG.cells rfl rfl hw.h) (fun v _=>?_)
 refine Zt (Xp 5 rfl rfl pG) ?_
 refine Zt (Ys qG 73) ?_
 refine Zt (Ys qC 71) ?_
 refine Zt (Zj (q:=qC) (z:=((fr,to,ov),(sx,x),(sy,y),(sz,z)).2.1) 71 1 71 rfl rfl rfl rfl rfl) ?_
 refine Zt (Zj (q:=qC) (z:=((fr,to,ov),(sx,x),(sy,y),(sz,z)).2.2.1) 71 2 71 rfl rfl rfl rfl rfl) ?_
 refine Zt (Zj (q:=qC) (z:=((fr,to,ov),(sx,x),(sy,y),(sz,z)).2.2.2) 71 3 71 rfl rfl rfl rfl rfl) ?_
 refine Zt (Zj (q:=qG) (z:=((fr,to,ov),(sx,x),(sy,y),(sz,z))) 73 71 73 rfl rfl rfl rfl rfl) ?_
 refine Zt (Qj 5 73 72 rfl rfl rfl rfl) ?_
 refine cl 5 [72] (Zbi _ [((fr,to,ov),(sx,x),(sy,y),(sz,z))] 1) fun _ _=>?_
 refine dt (Zv (r':= .bool false) (Xk rfl rfl) (congrArg (fun b=>Value.bool (!b)) hf)) ?_
 refine go 9 ?_
 refine cl 6 [1,2,3] (Ff _ _ _ _ _ _ _ _ _ _ hfr hto hov hx hy hz hb hsp0 hsp1) fun _ _=>?_
 refine go 11 ?_
 refine cl 7 [1,2,3] (Iz _ _ _ _ _ _ _ _ _ _ hfr hto hov hx hy hz hb hac0 hac1) fun _ _=>?_
 refine go 11 ?_
 refine cl 7 [1,2,3] (Lr _ _ _ _ _ _ _ _ _ hfr hto hov hx hy hz) fun _ _=>?_
 refine dt (Zv (r':= .bool false) (Xk rfl rfl) (congrArg (fun b=>Value.bool (!b)) hb)) ?_
 refine go 2 ?_
 refine Hc 7 [] (Hf _) fun _ _=>?_
 refine Gh (Zv (r':= .bool false) (Xk rfl rfl) (congrArg (fun b=>Value.bool (!b)) (decide_eq_true ⟨hsp0,hsp1⟩))) rfl rfl ?_
 refine go 7 ?_
 refine kf (decide_eq_false O3) ?_
 refine go 4 ?_
 refine Hc 8 [1,2,3] (Zjh _ _ _ _ _ _ _ _ _ _ (Sgo.of hx hy hz hb) hsp0 hsp1) fun g hg=>?_
 refine Hc 9 [8] (Znh _ _ (by rw [hg];exact(Nv (Sgo.of hx hy hz hb) hsp0 hsp1 (.inl rfl)).2.2.s.mono O) (by rw [←Zm,hg];have:=(Nv (Sgo.of hx hy hz hb) hsp0 hsp1 (.inl rfl)).2.2.l;omega)) fun v_2 _=>?_
 refine Hc 9 [6,9] (Cn _ _ _ _) fun _ _=>?_
 refine Gh (Zv (r':= .bool false) (Ztj rfl rfl) (congrArg Value.bool (decide_eq_false (fun h=>h hg.symm)))) rfl rfl ?_
 refine go 10 ?_
 refine cl 9 [1,2,3] (Lr _ _ _ _ _ _ _ _ _ hfr hto hov hx hy hz) fun _ _=>?_
 refine dt (Zv (r':= .bool false) (Xk rfl rfl) (congrArg (fun b=>Value.bool (!b)) hb)) ?_
 refine go 2 ?_
 refine Hc 9 [] (Hf _) fun _ _=>?_
 refine Gh (Zv (r':= .bool false) (Xk rfl rfl) (congrArg (fun b=>Value.bool (!b)) (decide_eq_true ⟨hac0,hac1⟩))) rfl rfl ?_
 refine go 9 ?_
 refine kt (decide_eq_true O3) ?_
 refine go 4 ?_
 refine Hc 10 [1,2,3] (Co _ _ _ _ _ _ _ _ _ _ (Sgo.of hx hy hz hb) hac0 hac1) fun g_2 hg_2=>?_
 refine Hc 11 [10] (Znh _ _ (by rw [hg_2];exact(Nv (Sgo.of hx hy hz hb) hac0 hac1 (.inr rfl)).2.2.s.mono O) (by rw [←Zm,hg_2];have:=(Nv (Sgo.of hx hy hz hb) hac0 hac1 (.inr rfl)).2.2.l;omega)) fun v_3 _=>?_
 refine Hc 11 [7,11] (Cn _ _ _ _) fun _ _=>?_
 refine kt (decide_eq_true hg_2.symm) ?_
 refine go 1 ?_
 refine Hc 11 [] (Ei) fun _ _=>?_
 refine go 5 ?_
 exact Xi hsc () Tryz.results4 rfl trivial Za
set_option maxHeartbeats 400000 in
theorem Zvr(fr to ov sp ac:Int)(sx sy sz:SL)(x y z:List Int)(hfr:Xo fr)(hto:Xo to)(hov:Xo ov)(hx:∀a∈x,Xo a)(hy:∀a∈y,Xo a)(hz:∀a∈z,Xo a)(hf:Ze0 [((fr,to,ov),(sx,x),(sy,y),(sz,z))] 1=true)(hb:Ir fr to ov x y z=true)(hsp0:0≤sp)(hsp1:sp≤10000)(hac:¬(0≤ac∧ac≤10000)):Cal Tryz.prog 4 #[.agg #[.int .i64 fr,.int .i64 to,.int .i64 ov,Ph sx,Ph sy,Ph sz],.int .i64 sp,.int .i64 ac] [Yj 1 Ym (Ph sx) x,Yj 1 Ym (Ph sy) y,Yj 1 Ym (Ph sz) z] false (G:=Unit) (fun _=>True) (fun _=> .bool true) (fun _=>[]):=by
 refine Zd Tryz.func4 Tryz.ntmps4 fun w0 sc hw hsc=>?_
 refine Ze (Pe 60 2 93 wv) ?_
 refine Ze (Xp 60 rfl rfl pV) ?_
 refine go 2 ?_
 refine Ya (Ye 4) fun bx _=>?_
 refine go 7 ?_
 refine tt (Xy (i:=5) (ivs:=[(0,_)]) (enc:=Cf) [((fr,to,ov),(sx,x),(sy,y),(sz,z))] rfl rfl ⟨rfl,rfl,trivial⟩ Tryz.underlying29 Tryz.ti24 rfl rfl (Zcr _ _ _ _ _ _ _ _ _ _ _ _) rfl rfl pG.cells rfl rfl hw.h) (fun v _=>?_)
 refine Zt (Xp 5 rfl rfl pG) ?_
 refine Zt (Ys qG 73) ?_
 refine Zt (Ys qC 71) ?_
 refine Zt (Zj (q:=qC) (z:=((fr,to,ov),(sx,x),(sy,y),(sz,z)).2.1) 71 1 71 rfl rfl rfl rfl rfl) ?_
 refine Zt (Zj (q:=qC) (z:=((fr,to,ov),(sx,x),(sy,y),(sz,z)).2.2.1) 71 2 71 rfl rfl rfl rfl rfl) ?_
 refine Zt (Zj (q:=qC) (z:=((fr,to,ov),(sx,x),(sy,y),(sz,z)).2.2.2) 71 3 71 rfl rfl rfl rfl rfl) ?_
 refine Zt (Zj (q:=qG) (z:=((fr,to,ov),(sx,x),(sy,y),(sz,z))) 73 71 73 rfl rfl rfl rfl rfl) ?_
 refine Zt (Qj 5 73 72 rfl rfl rfl rfl) ?_
 refine cl 5 [72] (Zbi _ [((fr,to,ov),(sx,x),(sy,y),(sz,z))] 1) fun _ _=>?_
 refine dt (Zv (r':= .bool false) (Xk rfl rfl) (congrArg (fun b=>Value.bool (!b)) hf)) ?_
 refine go 9 ?_
 refine cl 6 [1,2,3] (Ff _ _ _ _ _ _ _ _ _ _ hfr hto hov hx hy hz hb hsp0 hsp1) fun _ _=>?_
 refine go 11 ?_
 refine cl 6 [1,2,3] (Kz _ _ _ _ _ _ _ _ _ _ hfr hto hov hx hy hz (fun h=>hac h.2)) fun _ _=>?_
 refine go 11 ?_
 refine cl 6 [1,2,3] (Lr _ _ _ _ _ _ _ _ _ hfr hto hov hx hy hz) fun _ _=>?_
 refine dt (Zv (r':= .bool false) (Xk rfl rfl) (congrArg (fun b=>Value.bool (!b)) hb)) ?_
 refine go 2 ?_
 refine Hc 6 [] (Hf _) fun _ _=>?_
 refine Gh (Zv (r':= .bool false) (Xk rfl rfl) (congrArg (fun b=>Value.bool (!b)) (decide_eq_true ⟨hsp0,hsp1⟩))) rfl rfl ?_
 refine go 7 ?_
 refine kf (decide_eq_false O3) ?_
 refine go 4 ?_
 refine Hc 7 [1,2,3] (Zjh _ _ _ _ _ _ _ _ _ _ (Sgo.of hx hy hz hb) hsp0 hsp1) fun g hg=>?_
 refine Hc 8 [7] (Znh _ _ (by rw [hg];exact(Nv (Sgo.of hx hy hz hb) hsp0 hsp1 (.inl rfl)).2.2.s.mono O) (by rw [←Zm,hg];have:=(Nv (Sgo.of hx hy hz hb) hsp0 hsp1 (.inl rfl)).2.2.l;omega)) fun v_2 _=>?_
 refine Hc 8 [6,8] (Cn _ _ _ _) fun _ _=>?_
 refine Gh (Zv (r':= .bool false) (Ztj rfl rfl) (congrArg Value.bool (decide_eq_false (fun h=>h hg.symm)))) rfl rfl ?_
 refine go 10 ?_
 refine cl 8 [1,2,3] (Lr _ _ _ _ _ _ _ _ _ hfr hto hov hx hy hz) fun _ _=>?_
 refine dt (Zv (r':= .bool false) (Xk rfl rfl) (congrArg (fun b=>Value.bool (!b)) hb)) ?_
 refine go 2 ?_
 refine Hc 8 [] (Hf _) fun _ _=>?_
 refine Gh (Zv (r':= .bool true) (Xk rfl rfl) (congrArg (fun b=>Value.bool (!b)) (decide_eq_false hac))) rfl rfl ?_
 refine go 8 ?_
 refine kt (decide_eq_true O5) ?_
 refine go 2 ?_
 refine ktg (decide_eq_true O3) ?_
 refine go 2 ?_
 refine Hc 8 [] (Ei) fun _ _=>?_
 refine go 6 ?_
 exact Xi hsc () Tryz.results4 rfl trivial Za
set_option maxHeartbeats 400000 in
theorem Zvs(fr to ov sp ac:Int)(sx sy sz:SL)(x y z:List Int)(hfr:Xo fr)(hto:Xo to)(hov:Xo ov)(hx:∀a∈x,Xo a)(hy:∀a∈y,Xo a)(hz:∀a∈z,Xo a)(hf:Ze0 [((fr,to,ov),(sx,x),(sy,y),(sz,z))] 1=true)(hb:Ir fr to ov x y z=true)(hsp:¬(0≤sp∧sp≤10000))(hac0:0≤ac)(hac1:ac≤10000):Cal Tryz.prog 4 #[.agg #[.int .i64 fr,.int .i64 to,.int .i64 ov,Ph sx,Ph sy,Ph sz],.int .i64 sp,.int .i64 ac] [Yj 1 Ym (Ph sx) x,Yj 1 Ym (Ph sy) y,Yj 1 Ym (Ph sz) z] false (G:=Unit) (fun _=>True) (fun _=> .bool true) (fun _=>[]):=by
 refine Zd Tryz.func4 Tryz.ntmps4 fun w0 sc hw hsc=>?_
 refine Ze (Pe 60 2 93 wv) ?_
 refine Ze (Xp 60 rfl rfl pV) ?_
 refine go 2 ?_
 refine Ya (Ye 4) fun bx _=>?_
 refine go 7 ?_
 refine tt (Xy (i:=5) (ivs:=[(0,_)]) (enc:=Cf) [((fr,to,ov),(sx,x),(sy,y),(sz,z))] rfl rfl ⟨rfl,rfl,trivial⟩ Tryz.underlying29 Tryz.ti24 rfl rfl (Zcr _ _ _ _ _ _ _ _ _ _ _ _) rfl rfl pG.cells rfl rfl hw.h) (fun v _=>?_)
 refine Zt (Xp 5 rfl rfl pG) ?_
 refine Zt (Ys qG 73) ?_
 refine Zt (Ys qC 71) ?_
 refine Zt (Zj (q:=qC) (z:=((fr,to,ov),(sx,x),(sy,y),(sz,z)).2.1) 71 1 71 rfl rfl rfl rfl rfl) ?_
 refine Zt (Zj (q:=qC) (z:=((fr,to,ov),(sx,x),(sy,y),(sz,z)).2.2.1) 71 2 71 rfl rfl rfl rfl rfl) ?_
 refine Zt (Zj (q:=qC) (z:=((fr,to,ov),(sx,x),(sy,y),(sz,z)).2.2.2) 71 3 71 rfl rfl rfl rfl rfl) ?_
 refine Zt (Zj (q:=qG) (z:=((fr,to,ov),(sx,x),(sy,y),(sz,z))) 73 71 73 rfl rfl rfl rfl rfl) ?_
 refine Zt (Qj 5 73 72 rfl rfl rfl rfl) ?_
 refine cl 5 [72] (Zbi _ [((fr,to,ov),(sx,x),(sy,y),(sz,z))] 1) fun _ _=>?_
 refine dt (Zv (r':= .bool false) (Xk rfl rfl) (congrArg (fun b=>Value.bool (!b)) hf)) ?_
 refine go 9 ?_
 refine cl 5 [1,2,3] (Ac _ _ _ _ _ _ _ _ _ _ hfr hto hov hx hy hz (fun h=>hsp h.2)) fun _ _=>?_
 refine go 11 ?_
 refine cl 6 [1,2,3] (Iz _ _ _ _ _ _ _ _ _ _ hfr hto hov hx hy hz hb hac0 hac1) fun _ _=>?_
 refine go 11 ?_
 refine cl 6 [1,2,3] (Lr _ _ _ _ _ _ _ _ _ hfr hto hov hx hy hz) fun _ _=>?_
 refine dt (Zv (r':= .bool false) (Xk rfl rfl) (congrArg (fun b=>Value.bool (!b)) hb)) ?_
 refine go 2 ?_
 refine Hc 6 [] (Hf _) fun _ _=>?_
 refine Gh (Zv (r':= .bool true) (Xk rfl rfl) (congrArg (fun b=>Value.bool (!b)) (decide_eq_false hsp))) rfl rfl ?_
 refine go 8 ?_
 refine kf (decide_eq_false O5) ?_
 refine go 2 ?_
 refine kfg (decide_eq_false O3) ?_
 refine go 10 ?_
 refine cl 6 [1,2,3] (Lr _ _ _ _ _ _ _ _ _ hfr hto hov hx hy hz) fun _ _=>?_
 refine dt (Zv (r':= .bool false) (Xk rfl rfl) (congrArg (fun b=>Value.bool (!b)) hb)) ?_
 refine go 2 ?_
 refine Hc 6 [] (Hf _) fun _ _=>?_
 refine Gh (Zv (r':= .bool false) (Xk rfl rfl) (congrArg (fun b=>Value.bool (!b)) (decide_eq_true ⟨hac0,hac1⟩))) rfl rfl ?_
 refine go 9 ?_
 refine kt (decide_eq_true O3) ?_
 refine go 4 ?_
 refine Hc 7 [1,2,3] (Co _ _ _ _ _ _ _ _ _ _ (Sgo.of hx hy hz hb) hac0 hac1) fun g hg=>?_
 refine Hc 8 [7] (Znh _ _ (by rw [hg];exact(Nv (Sgo.of hx hy hz hb) hac0 hac1 (.inr rfl)).2.2.s.mono O) (by rw [←Zm,hg];have:=(Nv (Sgo.of hx hy hz hb) hac0 hac1 (.inr rfl)).2.2.l;omega)) fun v_2 _=>?_
 refine Hc 8 [6,8] (Cn _ _ _ _) fun _ _=>?_
 refine kt (decide_eq_true hg.symm) ?_
 refine go 1 ?_
 refine Hc 8 [] (Ei) fun _ _=>?_
 refine go 5 ?_
 exact Xi hsc () Tryz.results4 rfl trivial Za
set_option maxHeartbeats 400000 in
theorem Zvu(fr to ov sp ac:Int)(sx sy sz:SL)(x y z:List Int)(hfr:Xo fr)(hto:Xo to)(hov:Xo ov)(hx:∀a∈x,Xo a)(hy:∀a∈y,Xo a)(hz:∀a∈z,Xo a)(hf:Ze0 [((fr,to,ov),(sx,x),(sy,y),(sz,z))] 1=true)(hb:Ir fr to ov x y z=true)(hsp:¬(0≤sp∧sp≤10000))(hac:¬(0≤ac∧ac≤10000)):Cal Tryz.prog 4 #[.agg #[.int .i64 fr,.int .i64 to,.int .i64 ov,Ph sx,Ph sy,Ph sz],.int .i64 sp,.int .i64 ac] [Yj 1 Ym (Ph sx) x,Yj 1 Ym (Ph sy) y,Yj 1 Ym (Ph sz) z] false (G:=Unit) (fun _=>True) (fun _=> .bool true) (fun _=>[]):=by
 refine Zd Tryz.func4 Tryz.ntmps4 fun w0 sc hw hsc=>?_
 refine Ze (Pe 60 2 93 wv) ?_
 refine Ze (Xp 60 rfl rfl pV) ?_
 refine go 2 ?_
 refine Ya (Ye 4) fun bx _=>?_
 refine go 7 ?_
 refine tt (Xy (i:=5) (ivs:=[(0,_)]) (enc:=Cf) [((fr,to,ov),(sx,x),(sy,y),(sz,z))] rfl rfl ⟨rfl,rfl,trivial⟩ Tryz.underlying29 Tryz.ti24 rfl rfl (Zcr _ _ _ _ _ _ _ _ _ _ _ _) rfl rfl pG.cells rfl rfl hw.h) (fun v _=>?_)
 refine Zt (Xp 5 rfl rfl pG) ?_
 refine Zt (Ys qG 73) ?_
 refine Zt (Ys qC 71) ?_
 refine Zt (Zj (q:=qC) (z:=((fr,to,ov),(sx,x),(sy,y),(sz,z)).2.1) 71 1 71 rfl rfl rfl rfl rfl) ?_
 refine Zt (Zj (q:=qC) (z:=((fr,to,ov),(sx,x),(sy,y),(sz,z)).2.2.1) 71 2 71 rfl rfl rfl rfl rfl) ?_
 refine Zt (Zj (q:=qC) (z:=((fr,to,ov),(sx,x),(sy,y),(sz,z)).2.2.2) 71 3 71 rfl rfl rfl rfl rfl) ?_
 refine Zt (Zj (q:=qG) (z:=((fr,to,ov),(sx,x),(sy,y),(sz,z))) 73 71 73 rfl rfl rfl rfl rfl) ?_
 refine Zt (Qj 5 73 72 rfl rfl rfl rfl) ?_
 refine cl 5 [72] (Zbi _ [((fr,to,ov),(sx,x),(sy,y),(sz,z))] 1) fun _ _=>?_
 refine dt (Zv (r':= .bool false) (Xk rfl rfl) (congrArg (fun b=>Value.bool (!b)) hf)) ?_
 refine go 9 ?_
 refine cl 5 [1,2,3] (Ac _ _ _ _ _ _ _ _ _ _ hfr hto hov hx hy hz (fun h=>hsp h.2)) fun _ _=>?_
 refine go 11 ?_
 refine cl 5 [1,2,3] (Kz _ _ _ _ _ _ _ _ _ _ hfr hto hov hx hy hz (fun h=>hac h.2)) fun _ _=>?_
 refine go 11 ?_
 refine cl 5 [1,2,3] (Lr _ _ _ _ _ _ _ _ _ hfr hto hov hx hy hz) fun _ _=>?_
 refine dt (Zv (r':= .bool false) (Xk rfl rfl) (congrArg (fun b=>Value.bool (!b)) hb)) ?_
 refine go 2 ?_
 refine Hc 5 [] (Hf _) fun _ _=>?_
 refine Gh (Zv (r':= .bool true) (Xk rfl rfl) (congrArg (fun b=>Value.bool (!b)) (decide_eq_false hsp))) rfl rfl ?_
 refine go 8 ?_
 refine kf (decide_eq_false O5) ?_
 refine go 2 ?_
 refine kfg (decide_eq_false O3) ?_
 refine go 10 ?_
 refine cl 5 [1,2,3] (Lr _ _ _ _ _ _ _ _ _ hfr hto hov hx hy hz) fun _ _=>?_
 refine dt (Zv (r':= .bool false) (Xk rfl rfl) (congrArg (fun b=>Value.bool (!b)) hb)) ?_
 refine go 2 ?_
 refine Hc 5 [] (Hf _) fun _ _=>?_
 refine Gh (Zv (r':= .bool true) (Xk rfl rfl) (congrArg (fun b=>Value.bool (!b)) (decide_eq_false hac))) rfl rfl ?_
 refine go 8 ?_
 refine kt (decide_eq_true O5) ?_
 refine go 2 ?_
 refine ktg (decide_eq_true O3) ?_
 refine go 2 ?_
 refine Hc 5 [] (Ei) fun _ _=>?_
 refine go 6 ?_
 exact Xi hsc () Tryz.results4 rfl trivial Za
set_option maxHeartbeats 400000 in
theorem Zvt(fr to ov sp ac:Int)(sx sy sz:SL)(x y z:List Int)(hfr:Xo fr)(hto:Xo to)(hov:Xo ov)(hx:∀a∈x,Xo a)(hy:∀a∈y,Xo a)(hz:∀a∈z,Xo a)(hf:Ze0 [((fr,to,ov),(sx,x),(sy,y),(sz,z))] 1=true)(hb:Ir fr to ov x y z=false):Cal Tryz.prog 4 #[.agg #[.int .i64 fr,.int .i64 to,.int .i64 ov,Ph sx,Ph sy,Ph sz],.int .i64 sp,.int .i64 ac] [Yj 1 Ym (Ph sx) x,Yj 1 Ym (Ph sy) y,Yj 1 Ym (Ph sz) z] false (G:=Unit) (fun _=>True) (fun _=> .bool true) (fun _=>[]):=by
 refine Zd Tryz.func4 Tryz.ntmps4 fun w0 sc hw hsc=>?_
 refine Ze (Pe 60 2 93 wv) ?_
 refine Ze (Xp 60 rfl rfl pV) ?_
 refine go 2 ?_
 refine Ya (Ye 4) fun bx _=>?_
 refine go 7 ?_
 refine tt (Xy (i:=5) (ivs:=[(0,_)]) (enc:=Cf) [((fr,to,ov),(sx,x),(sy,y),(sz,z))] rfl rfl ⟨rfl,rfl,trivial⟩ Tryz.underlying29 Tryz.ti24 rfl rfl (Zcr _ _ _ _ _ _ _ _ _ _ _ _) rfl rfl pG.cells rfl rfl hw.h) (fun v _=>?_)
 refine Zt (Xp 5 rfl rfl pG) ?_
 refine Zt (Ys qG 73) ?_
 refine Zt (Ys qC 71) ?_
 refine Zt (Zj (q:=qC) (z:=((fr,to,ov),(sx,x),(sy,y),(sz,z)).2.1) 71 1 71 rfl rfl rfl rfl rfl) ?_
 refine Zt (Zj (q:=qC) (z:=((fr,to,ov),(sx,x),(sy,y),(sz,z)).2.2.1) 71 2 71 rfl rfl rfl rfl rfl) ?_
 refine Zt (Zj (q:=qC) (z:=((fr,to,ov),(sx,x),(sy,y),(sz,z)).2.2.2) 71 3 71 rfl rfl rfl rfl rfl) ?_
 refine Zt (Zj (q:=qG) (z:=((fr,to,ov),(sx,x),(sy,y),(sz,z))) 73 71 73 rfl rfl rfl rfl rfl) ?_
 refine Zt (Qj 5 73 72 rfl rfl rfl rfl) ?_
 refine cl 5 [72] (Zbi _ [((fr,to,ov),(sx,x),(sy,y),(sz,z))] 1) fun _ _=>?_
 refine dt (Zv (r':= .bool false) (Xk rfl rfl) (congrArg (fun b=>Value.bool (!b)) hf)) ?_
 refine go 9 ?_
 refine cl 5 [1,2,3] (Ac _ _ _ _ _ _ _ _ _ _ hfr hto hov hx hy hz (fun h=>by rw [hb]at h;cases h.1)) fun _ _=>?_
 refine go 11 ?_
 refine cl 5 [1,2,3] (Kz _ _ _ _ _ _ _ _ _ _ hfr hto hov hx hy hz (fun h=>by rw [hb]at h;cases h.1)) fun _ _=>?_
 refine go 11 ?_
 refine cl 5 [1,2,3] (Lr _ _ _ _ _ _ _ _ _ hfr hto hov hx hy hz) fun _ _=>?_
 refine dt (Zv (r':= .bool true) (Xk rfl rfl) (congrArg (fun b=>Value.bool (!b)) hb)) ?_
 refine go 12 ?_
 refine kf (decide_eq_false O5) ?_
 refine go 2 ?_
 refine kfg (decide_eq_false O3) ?_
 refine go 10 ?_
 refine cl 5 [1,2,3] (Lr _ _ _ _ _ _ _ _ _ hfr hto hov hx hy hz) fun _ _=>?_
 refine dt (Zv (r':= .bool true) (Xk rfl rfl) (congrArg (fun b=>Value.bool (!b)) hb)) ?_
 refine go 12 ?_
 refine kt (decide_eq_true O5) ?_
 refine go 2 ?_
 refine ktg (decide_eq_true O3) ?_
 refine go 2 ?_
 refine Hc 5 [] (Ei) fun _ _=>?_
 refine go 6 ?_
 exact Xi hsc () Tryz.results4 rfl trivial Za
open Go.Proofs.Tryz
theorem law_lf(fr to ov:Int)(sx sy sz:SL)(x y z:List Int)(sp ac:Int)(hfr:Xo fr)(hto:Xo to)(hov:Xo ov)(hx:∀a∈x,Xo a)(hy:∀a∈y,Xo a)(hz:∀a∈z,Xo a) :
  Cal prog 4 #[.agg #[.int .i64 fr,.int .i64 to,.int .i64 ov,Ph sx,Ph sy,Ph sz],.int .i64 sp,.int .i64 ac]
   [Yj 1 Ym (Ph sx) x,Yj 1 Ym (Ph sy) y,Yj 1 Ym (Ph sz) z] false (G:=Unit) (fun _=>True) (fun _=> .bool true) (fun _=>[]):=by
 cases hf:Ze0 [((fr,to,ov),(sx,x),(sy,y),(sz,z))] 1 with
 | false=>exact Zqi fr to ov sp ac sx sy sz x y z hfr hto hov hx hy hz hf
 | true=>
  cases hb:Ir fr to ov x y z with
  | false=>exact Zvt fr to ov sp ac sx sy sz x y z hfr hto hov hx hy hz hf hb
  | true=>
   by_cases h1:0≤sp∧sp≤10000<;>by_cases h2:0≤ac∧ac≤10000
   ·exact Zvq fr to ov sp ac sx sy sz x y z hfr hto hov hx hy hz hf hb h1.1 h1.2 h2.1 h2.2
   ·exact Zvr fr to ov sp ac sx sy sz x y z hfr hto hov hx hy hz hf hb h1.1 h1.2 h2
   ·exact Zvs fr to ov sp ac sx sy sz x y z hfr hto hov hx hy hz hf hb h1 h2.1 h2.2
   ·exact Zvu fr to ov sp ac sx sy sz x y z hfr hto hov hx hy hz hf hb h1 h2
end Go.Sky
namespace Go.Proofs.YtljmhpopdmadkaaGreat
open Go.ChangeShapes Go.WideShapes Go.ChangeAt Go.RowKit Go.Joins Go.Deep Go.Sky
theorem own:ownKnob Tryz.prog.godebug=none:=O6
theorem Zli:laidOutB Tryz.prog=true:=O6
set_option maxRecDepth 100000 in
theorem lifted(os:Os)(started:os.Started)(H:Type)(enc:TypeId×Value→H) :
  ReturnsInHanded {} Tryz.checked os 4 .any (Rows.limitsFormsSpec.pre6 enc Tryz.prog Tryz.f4 Rows.limitsFormsRow.domain false) (Rows.limitsFormsSpec.post enc Tryz.prog Tryz.f4 false true false false):=by
 refine returnsInHanded_of_change (C:=Tryz.checked) own started O6 Tryz.func4
  (ChangeSpec.witness6 (enc:=enc) (C:=Tryz.checked) false ⟨#[],#[.agg #[.int .i64 0,.int .i64 0,.int .i64 0,.slice none 0 0,.slice none 0 0,.slice none 0 0],.int .i64 0,.int .i64 0],[]⟩ 8 O6 O6 O6 O6) ?_
 intro W base args ds gs before hval0 hW hcnd _
 have hval:∀(j:Nat) t v,Tryz.f4.params[j]? = some t→args[j]? = some v→Value.okWide Tryz.prog W .any base t v:=hval0
 have hW':=hW
 obtain⟨p,q,hA0,hV,rfl,hfz,hnd⟩:=hW
 have hA:DataW.TrodAll enc Tryz.prog W 0 (fun _=>true) true Tryz.f4.params.toList args.toList ds p:=hA0
 rw [Tryz.params4]at hA hval
 obtain⟨v0,vs0,d0,ds0,p0,q0,hargs,rfl,rfl,h0,r0⟩:=trodAll_cons hA
 obtain⟨v1,vs1,d1,ds1,p1,q1,rfl,rfl,rfl,h1,r1⟩:=trodAll_cons r0
 obtain⟨v2,vs2,d2,ds2,p2,q2,rfl,rfl,rfl,h2,r2⟩:=trodAll_cons r1
 obtain⟨rfl,rfl,rfl⟩:=trodAll_nil r2
 obtain rfl:args=#[v0,v1,v2]:=by cases args;simp_all
 obtain⟨rfl,rfl⟩:=trodVars_none hV
 have lt0:∀x∈p0,x.block<W.heap.size:=by obtain⟨m,hm⟩:=h0;exact DataW.trod_lt m _ _ _ hm
 obtain⟨fr0,to0,ov0,sx0,sy0,sz0,x0,y0,z0,rfl,hx0,hy0,hz0,m00,m10,m20,m30,m40,m50⟩:=Zyk Tryz.underlying24 O6 rfl rfl rfl rfl rfl rfl rfl rfl rfl rfl rfl rfl Tryz.underlying3 Tryz.underlying22 Tryz.underlying3 O6 O6 O6 O6 (hval 0 24 v0 rfl rfl) h0
 have lt1:∀x∈p1,x.block<W.heap.size:=by obtain⟨m,hm⟩:=h1;exact DataW.trod_lt m _ _ _ hm
 obtain⟨n1,rfl⟩:=okWide_int Tryz.underlying3 (hval 1 3 v1 rfl rfl)
 have lt2:∀x∈p2,x.block<W.heap.size:=by obtain⟨m,hm⟩:=h2;exact DataW.trod_lt m _ _ _ hm
 obtain⟨n2,rfl⟩:=okWide_int Tryz.underlying3 (hval 2 3 v2 rfl rfl)
 clear hA0 hval0
 refine(law_lf fr0 to0 ov0 sx0 sy0 sz0 x0 y0 z0 n1 n2 m00 m10 m20 m30 m40 m50 W (fun p hp=>by cases hp with | head=>exact hx0 | tail _ hp=>cases hp with | head=>exact hy0 | tail _ hp=>cases hp with | head=>exact hz0 | tail _ hp=>cases hp)).mono fun e W' ⟨_,he,_,bel,_⟩=>?_
 subst he
 exact⟨_,rfl,_,_,_,[],_,[],hW',trodAll_mk1 (shut_bool Tryz.underlying4 _),(trodAll_cons_mk (Below.trod Zli O6 (of_decide_eq_true O6) h0 bel lt0) (trodAll_cons_mk (Below.trod Zli O6 (of_decide_eq_true O6) h1 bel lt1) (trodAll_cons_mk (Below.trod Zli O6 (of_decide_eq_true O6) h2 bel lt2) trodAll_mk0))),rfl,bel.frame _,fun h=>by cases h⟩
theorem x_holds : Rows.LimitsFormsSaid :=
 OpenClaim.holds_of_wide 4 Tryz.f4 rfl rfl rfl rfl rfl rfl rfl ⟨rfl,rfl,rfl,rfl,rfl⟩ rfl rfl rfl rfl rfl O6 Tryz.func4 O6
  (of_decide_eq_true O6) (by unfold Func.isWrapper;first | (rw [if_pos O7];kernel_rfl) | (rw [if_neg O7];exact⟨rfl,rfl⟩))
  (fun os started H enc _=>lifted os started H enc)
#print axioms x_holds
end Go.Proofs.YtljmhpopdmadkaaGreat

