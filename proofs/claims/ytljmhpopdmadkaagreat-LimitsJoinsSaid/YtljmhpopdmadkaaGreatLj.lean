/- The law: part 15. No conditions but those that each theorem names. -/
import Derived.Test.YtljmhpopdmadkaaGreatLj13
set_option linter.all false
set_option maxHeartbeats 4000000
namespace Go.Sky
open Go.Proofs
set_option synthInstance.maxHeartbeats 0
set_option synthInstance.maxSize 100000
set_option maxRecDepth 20000
set_option maxHeartbeats 4000000
set_option linter.unusedSimpArgs false
theorem Zno(v:Value)(ps:List Po)(sp ac:Int):Cal Tryz.prog 53 #[v,.agg #[.int .i64 sp,.int .i64 ac]] [Mf 6 Cb qG v ps] true (G:=Nat×Nat) (fun g=>True) (fun g=> .func (.func 96) #[] #[.pointer (some ⟨g.1,0,none⟩),.pointer (some ⟨g.2,0,none⟩)]) (fun g=>[He g.1 29 #[v],He g.2 26 #[.int .i64 sp,.int .i64 ac]]):=by
 refine Zd Tryz.func53 Tryz.ntmps53 fun w0 sc hw hsc=>?_
 refine Zy7 (Ku 1 rfl Zs) (fun sl hsl=>?_)
 subst hsl
 refine go 2 ?_
 refine Zu (Zw 2) fun bx _=>?_
 refine Zu (Zw 3) fun bx_2 _=>?_
 refine go 5 ?_
 refine dt (d_mkc (vs:=[]) (us:=[_,_]) rfl trivial ⟨rfl,rfl,trivial⟩) ?_
 refine go 4 ?_
 refine Yy (Zj3 2 rfl rfl) ?_
 refine Yy (Zj3 3 rfl rfl) ?_
 exact Xj hsc (_,_) Tryz.results53 rfl trivial (Ns 2 (Ns 3 Za))
theorem Znp(v:Value)(ps:List Po)(sp ac:Int)(hp:∀g∈ps,Gin g)(hb:Ej ps=true)(hl:(1≤sp∧sp≤10000∧1≤ac∧ac≤10000)):Cal Tryz.prog 24 #[v,.agg #[.int .i64 sp,.int .i64 ac]] [Mf 6 Cb qG v ps] false (G:=Unit) (fun _=>True) (fun _=>firV (fiB ps sp ac)) (fun _=>[]):=by
 refine Ydm Tryz.func24 rfl Tryz.ntmps24 rfl ⟨rfl,trivial⟩ ?_
 intro w0 sc hw hsc;have hw:=Hw.mk hw
 simp only [Pm,Qy]
 refine Nb (Hg (i:=1) rfl Zs) (fun hlen=>?_)
 have hg:=Zrx hp hb
 refine go 2 ?_
 refine Zu (Zw 2) fun bx _=>?_
 refine Zu (Zp 3) fun bx_2 _=>?_
 refine Zu (Zp 4) fun bx_3 _=>?_
 refine Zu (Zp 5) fun bx_4 _=>?_
 refine go 6 ?_
 refine cl 5 [1] (Zck _ _ hp) fun _ _=>?_
 refine dt (Zx (r':= .bool false) (Xm rfl rfl) (congrArg (fun b=>Value.bool (!b)) hb)) ?_
 refine go 2 ?_
 refine Gu 5 [] (Ap _ _) fun _ _=>?_
 refine Gt (Zx (r':= .bool false) (Xm rfl rfl) (congrArg (fun b=>Value.bool (!b)) (decide_eq_true hl))) rfl rfl ?_
 refine go 11 ?_
 refine cl 6 [1] (Zno _ _ _ _) fun⟨b,b_2⟩ _=>?_
 refine go 3 ?_
 have hwa:Hw w0 ALL:=⟨fun _ _=>trivial⟩
 refine e_rf (pre:=[He b 29 #[v],He b_2 26 #[.int .i64 sp,.int .i64 ac],Mf 6 Cb qG v ps]) (φ0:=fiB ps sp ac=none) (φ1:=fun g=>fiB ps sp ac=some g) (xv:=fun x=> .agg #[.int .i64 (x.1:Int),.int .i64 x.2]) (w0:=w0) (env1:=fun x b=>[(7,.pointer (some ⟨b,0,none⟩)),(4,.pointer (some ⟨bx_2,0,none⟩)),(5,.pointer (some ⟨bx_3,0,none⟩)),(6,.pointer (some ⟨bx_4,0,none⟩))]) (H1:=fun x b=>[(0,Qg w0 (fun _=>False)),(8,box b 52 #[.int .i64 (x.1:Int),.int .i64 x.2]),(3,box bx_2 52 #[.int .i64 0,.int .i64 0]),(4,box bx_3 4 #[.bool false]),(5,box bx_4 31 #[.int .i64 0])]) (Hr:=fun x=>[(0,Qg w0 (fun _=>False)),(3,box bx_2 52 #[.int .i64 (x.1:Int),.int .i64 x.2]),(4,box bx_3 4 #[.bool true]),(5,box bx_4 31 #[.int .i64 0])]) (Hn:=[(0,Qg w0 (fun _=>False)),(3,box bx_2 52 #[.int .i64 0,.int .i64 0]),(4,box bx_3 4 #[.bool false]),(5,box bx_4 31 #[.int .i64 0])]) rfl (by intro args w;first | exact enters_of Tryz.func96 O6 rfl args w | exact Tryz.call96 args w) (li_brk v ps b b_2 sp ac hg O O O O) ?_ rfl rfl rfl rfl rfl (fun x hx l o D od=>?_) (fun x b hx l o D od=>?_) (fun h l o D od=>?_) (fun x b=>?_) (fun x=>⟨rfl,rfl⟩) ⟨rfl,rfl⟩ (fun x=>?_) ?_ (fun x=>rfl) rfl (fun x hx a w hs=>?_) (fun h a w hs=>?_)
 ·intro p hp
  simp only [List.mem_cons,List.not_mem_nil,or_false]at hp
  rcases hp with rfl | rfl | rfl
  ·exact⟨6,rfl⟩
  ·exact⟨7,rfl⟩
  ·exact⟨1,rfl⟩
 ·refine Zu (Zp 8) fun b7 _=>?_
  refine go 1 ?_
  refine go 1 ?_
  exact fun a w hs=>⟨rfl,b7,hs.weaken ⟨rfl,rfl,rfl,rfl,trivial⟩ ⟨rfl,rfl,rfl,rfl,rfl,rfl,rfl,trivial⟩⟩
 ·refine go 4 ?_
  refine go 1 ?_
  exact fun a w hs=>⟨rfl,hs.weaken trivial ⟨rfl,rfl,rfl,rfl,rfl,rfl,trivial⟩⟩
 ·refine dt (Xl (ivs:=[]) rfl trivial (fun a w hs=>b52_)) ?_
  refine go 3 ?_
  refine go 1 ?_
  exact fun a w hs=>⟨rfl,hs.weaken ⟨rfl,rfl,rfl,rfl,rfl,rfl,rfl,rfl,rfl,rfl,rfl,rfl,rfl,rfl,rfl,rfl,rfl,trivial⟩ ⟨rfl,rfl,rfl,rfl,rfl,rfl,trivial⟩⟩
 ·exact⟨.inr ⟨_,rfl,fun _ h=>h⟩,.inl rfl,.inl rfl,.inl rfl,.inl rfl,trivial⟩
 ·exact⟨⟨_,rfl,rfl,fun _ h=>h⟩,⟨_,rfl,rfl,fun _ h=>h⟩,⟨_,rfl,rfl,fun _ h=>h⟩,⟨_,rfl,rfl,fun _ h=>h⟩,trivial⟩
 ·exact⟨⟨_,rfl,rfl,fun _ h=>h⟩,⟨_,rfl,rfl,fun _ h=>h⟩,⟨_,rfl,rfl,fun _ h=>h⟩,⟨_,rfl,rfl,fun _ h=>h⟩,trivial⟩
 ·rw [hx];exact res3 hs Tryz.results24 (Kr (i:=3) rfl rfl Tryz.isAgg52 Tryz.sizeOf52 rfl) (Ag (i:=4) rfl rfl Tryz.isAgg4) (Ag (i:=5) rfl rfl Tryz.isAgg31)
 ·rw [h];exact res3 hs Tryz.results24 (Kr (i:=3) rfl rfl Tryz.isAgg52 Tryz.sizeOf52 rfl) (Ag (i:=4) rfl rfl Tryz.isAgg4) (Ag (i:=5) rfl rfl Tryz.isAgg31)
theorem Zu4(v:Value)(ps:List Po)(sp ac:Int)(hp:∀g∈ps,Gin g)(hb:Ej ps=true)(hl:(1≤sp∧sp≤10000∧1≤ac∧ac≤10000)):Cal Tryz.prog 23 #[v,.agg #[.int .i64 sp,.int .i64 ac]] [Mf 6 Cb qG v ps] false (G:=Unit) (fun _=>True) (fun _=> .tuple #[.bool (!(fiB ps sp ac).isSome),.int .i64 0]) (fun _=>[]):=by
 refine Zd Tryz.func23 Tryz.ntmps23 fun w0 sc hw hsc=>?_
 refine go 2 ?_
 refine Zu (Zw 2) fun bx _=>?_
 refine go 8 ?_
 refine cl 2 [1] (Znp _ _ _ _ hp hb hl) fun _ _=>?_
 refine go 4 ?_
 refine Zu (Zp 3) fun bx_2 _=>?_
 refine go 8 ?_
 refine kt (decide_eq_true O3) ?_
 refine go 10 ?_
 exact Nn hsc () Tryz.results23 rfl trivial Za
theorem Znz(k:Int)(hk:k=0∨k=1):Cal Tryz.prog 32 #[.int .i64 k] [] true (G:=Value×(SL×SL×SL)) (fun r=>True) (fun r=>r.1) (fun r=>[Mf 6 Cb qG r.1 [Xx k r.2]]):=by
 refine Zd Tryz.func32 Tryz.ntmps32 fun w0 sc hw hsc=>?_
 refine go 7 ?_
 refine dt (Xl (ivs:=[]) rfl trivial (fun a w hs=>b64_)) ?_
 refine dt (Xl (ivs:=[(0,_),(1,_)]) rfl ⟨rfl,rfl,rfl,rfl,trivial⟩ (fun a w hs=>b64_01 ((Zl rfl) a w hs) ((Zl rfl) a w hs))) ?_
 refine go 1 ?_
 refine cl 1 [] (Zrp 0 0 0 300 400 0 0 1000 k ⟨O3,O3⟩ ⟨O3,O3⟩ ⟨O3,O3⟩ ⟨O3,O3⟩ ⟨O3,O3⟩ ⟨O3,O3⟩) fun⟨sl,sl_2,sl_3⟩ _=>?_
 refine tt (Qo (i:=4) (ivs:=[(0,_)]) (enc:=Cb) [Xx k (sl,sl_2,sl_3)] rfl rfl ⟨rfl,rfl,trivial⟩ Tryz.underlying29 Tryz.ti24 rfl rfl (fill16 _ _ _ _ _ _ _ _ _ _ _ _) rfl rfl pG.cells rfl rfl hw.h) (fun v _=>?_)
 refine go 4 ?_
 refine Yy (Qq 4 rfl rfl pG) ?_
 refine Yy (Xn qC 71) ?_
 refine Yy (Zh (q:=qC) (z:=(Xx k (sl,sl_2,sl_3)).2.1) 71 1 71 rfl rfl rfl rfl rfl) ?_
 refine Yy (Zh (q:=qC) (z:=(Xx k (sl,sl_2,sl_3)).2.2.1) 71 2 71 rfl rfl rfl rfl rfl) ?_
 refine Yy (Zh (q:=qC) (z:=(Xx k (sl,sl_2,sl_3)).2.2.2) 71 3 71 rfl rfl rfl rfl rfl) ?_
 refine Yy (Xn qG 73) ?_
 refine Yy (Zh (q:=qG) (z:=(Xx k (sl,sl_2,sl_3))) 73 71 73 rfl rfl rfl rfl rfl) ?_
 refine Yy (Mz 4 73 72 rfl rfl rfl rfl) ?_
 exact Xj hsc (_,sl,sl_2,sl_3) Tryz.results32 rfl trivial (Ns 72 Za)
theorem Za2(v:Value)(xs:List Int)(want:Int)(hwt:Yt want):Cal Tryz.prog 33 #[v,.int .i64 0,.int .i64 want] [Yb 2 wv v xs] false (G:=Unit) (fun _=>True) (fun _=> .bool (decide (xs=tzl [want]))) (fun _=>[]):=by
 refine Zd Tryz.func33 Tryz.ntmps33 fun w0 sc hw hsc=>?_
 have hws:∀x∈[want],Yt x:=fun x hx=>by rw [List.mem_singleton.1 hx];exact hwt
 have hsz:=Zjz hws
 refine go 8 ?_
 refine kt (decide_eq_true O3) ?_
 refine go 3 ?_
 refine gtt (Qo (i:=2) (ivs:=[(0,_)]) (enc:=Zy) ([want]:List Int) rfl rfl ⟨rfl,rfl,trivial⟩ Tryz.underlying22 Tryz.ti3 rfl rfl rfl rfl rfl pZ.cells rfl rfl hw.h) rfl rfl rfl rfl (fun v _=>?_)
 refine Zr (Qq 2 rfl rfl pZ) ?_
 refine Gu 3 [2] (Ybi _ [want] hws O5) fun g hg=>?_
 refine Gu 4 [3] (rp_to _ _ (by rw [hg];exact(Sz.tzl hsz).mono O) (by have h7:=congrArg List.length hg;rw [Ek]at h7;have h8:=Iq [want];have h9:[want].length=1:=rfl;omega)) fun v_2 _=>?_
 refine Gu 4 [1,4] (Zug _ _ _ _) fun _ _=>?_
 refine go 5 ?_
 exact Xj hsc () Tryz.results33 (by rw [hg]) trivial Za
theorem Zhb(v:Value)(ps:List Po)(sp ac:Int)(want:Bool)(hp:∀g∈ps,Gin g)(hb:Ej ps=true)(hl:1≤sp∧sp≤10000∧1≤ac∧ac≤10000)(hwt:(!(fiB ps sp ac).isSome)=want):Cal Tryz.prog 34 #[v,.int .i64 sp,.int .i64 ac,.bool want] [Mf 6 Cb qG v ps] false (G:=Unit) (fun _=>True) (fun _=> .bool true) (fun _=>[]):=by
 refine Zd Tryz.func34 Tryz.ntmps34 fun w0 sc hw hsc=>?_
 refine go 10 ?_
 refine dt (Xl (ivs:=[(0,_),(1,_)]) rfl ⟨rfl,rfl,rfl,rfl,trivial⟩ (fun a w hs=>Zl1 ((Zl rfl) a w hs) ((Zl rfl) a w hs))) ?_
 refine cl 1 [1] (Zu4 _ _ _ _ hp hb hl) fun _ _=>?_
 refine go 10 ?_
 refine kt (decide_eq_true O3) ?_
 refine go 9 ?_
 exact Xj hsc () Tryz.results34 (by rw [hwt];cases want<;>rfl) trivial Za
theorem Zu1:Ay 1 500 1 (1000-0) (Ld 0 300 1) (Ld 0 400 1) (Ld 0 0 1)=tzl [0]:=O7
theorem Zu0:Ay 1 501 1 (1000-0) (Ld 0 300 1) (Ld 0 400 1) (Ld 0 0 1)=tzl [1]:=O7
theorem Zu2:Ay 1 499 1 (1000-0) (Ld 0 300 1) (Ld 0 400 1) (Ld 0 0 1)=tzl [-1]:=O7
theorem Yb9:Ay 2 7 1 (1000-0) (Ld 0 300 1) (Ld 0 400 1) (Ld 0 0 1)=tzl [1]:=O7
abbrev S30:SL×SL×SL:=((none,0,0),(none,0,0),(none,0,0))
theorem Ao(k:Int)(hk:k=0∨k=1)(s:SL×SL×SL):∀g∈[Xx k s],Gin g:=fun g hg=>by rw [List.mem_singleton.1 hg];exact Na k hk s
theorem Zyh(s:SL×SL×SL):fiI (fiB [Xx 0 s] 500 10000)=0∧fiC (fiB [Xx 0 s] 500 10000)=2:=by rw [Zg3];exact⟨rfl,rfl⟩
theorem Zyd(s:SL×SL×SL):(Zcf [Xx 1 s]).1=500∧(Zcf [Xx 1 s]).2.1=0:=by rw [Zja];exact⟨rfl,rfl⟩
theorem Zye(s:SL×SL×SL):(Zcf [Xx 0 s]).1=938∧(Zcf [Xx 0 s]).2.1=2887:=by rw [Zjb];exact⟨rfl,rfl⟩
theorem Zyi(s:SL×SL×SL):(fiB [Xx 0 s] 500 10000).isSome=true:=by rw [Zg3];rfl
theorem Du:Cal Tryz.prog 10 #[] [] false (G:=Unit) (fun _=>True) (fun _=> .bool true) (fun _=>[]):=by
 refine Zd Tryz.func10 Tryz.ntmps10 fun w0 sc hw hsc=>?_
 refine go 7 ?_
 refine cl 1 [] (Znz 1 (.inr rfl)) fun⟨v,q⟩ _=>?_
 refine cl 2 [] (Znz 0 (.inl rfl)) fun⟨v_2,q_2⟩ _=>?_
 refine go 5 ?_
 refine Zg (Pa (g:=(Xx 1 q)) (z:=(Xx 1 q).2.1) 1 51 rfl rfl (List.mem_singleton.2 rfl) O5) ?_
 refine Zg (Pa (g:=(Xx 1 q)) (z:=(Xx 1 q).2.2.1) 1 52 rfl rfl (List.mem_singleton.2 rfl) O5) ?_
 refine Zg (Pa (g:=(Xx 1 q)) (z:=(Xx 1 q).2.2.2) 1 53 rfl rfl (List.mem_singleton.2 rfl) O5) ?_
 refine go 3 ⟨O5,?_⟩
 refine dt (Ou (ii:=1) G0 rfl rfl rfl Zs pG O5) ?_
 refine cl 3 [51,52,53] (Aq 0 1000 1 500 _ _ _ (Ld 0 300 1) (Ld 0 400 1) (Ld 0 0 1) ⟨O3,O3⟩ ⟨O3,O3⟩ ⟨O3,O3⟩ (Na 1 (.inr rfl) S30).x (Na 1 (.inr rfl) S30).y (Na 1 (.inr rfl) S30).z (Dr 1 (.inr rfl)) O3 O3) fun _ _=>?_
 refine go 8 ?_
 refine Zg (Pa (g:=(Xx 1 q)) (z:=(Xx 1 q).2.1) 1 51 rfl rfl (List.mem_singleton.2 rfl) O5) ?_
 refine Zg (Pa (g:=(Xx 1 q)) (z:=(Xx 1 q).2.2.1) 1 52 rfl rfl (List.mem_singleton.2 rfl) O5) ?_
 refine Zg (Pa (g:=(Xx 1 q)) (z:=(Xx 1 q).2.2.2) 1 53 rfl rfl (List.mem_singleton.2 rfl) O5) ?_
 refine go 3 ⟨O5,?_⟩
 refine dt (Ou (ii:=1) G0 rfl rfl rfl Zs pG O5) ?_
 refine cl 4 [51,52,53] (Aq 0 1000 1 501 _ _ _ (Ld 0 300 1) (Ld 0 400 1) (Ld 0 0 1) ⟨O3,O3⟩ ⟨O3,O3⟩ ⟨O3,O3⟩ (Na 1 (.inr rfl) S30).x (Na 1 (.inr rfl) S30).y (Na 1 (.inr rfl) S30).z (Dr 1 (.inr rfl)) O3 O3) fun _ _=>?_
 refine go 8 ?_
 refine Zg (Pa (g:=(Xx 1 q)) (z:=(Xx 1 q).2.1) 1 51 rfl rfl (List.mem_singleton.2 rfl) O5) ?_
 refine Zg (Pa (g:=(Xx 1 q)) (z:=(Xx 1 q).2.2.1) 1 52 rfl rfl (List.mem_singleton.2 rfl) O5) ?_
 refine Zg (Pa (g:=(Xx 1 q)) (z:=(Xx 1 q).2.2.2) 1 53 rfl rfl (List.mem_singleton.2 rfl) O5) ?_
 refine go 3 ⟨O5,?_⟩
 refine dt (Ou (ii:=1) G0 rfl rfl rfl Zs pG O5) ?_
 refine cl 5 [51,52,53] (Aq 0 1000 1 499 _ _ _ (Ld 0 300 1) (Ld 0 400 1) (Ld 0 0 1) ⟨O3,O3⟩ ⟨O3,O3⟩ ⟨O3,O3⟩ (Na 1 (.inr rfl) S30).x (Na 1 (.inr rfl) S30).y (Na 1 (.inr rfl) S30).z (Dr 1 (.inr rfl)) O3 O3) fun _ _=>?_
 refine go 8 ?_
 refine Zg (Pa (g:=(Xx 1 q)) (z:=(Xx 1 q).2.1) 1 51 rfl rfl (List.mem_singleton.2 rfl) O5) ?_
 refine Zg (Pa (g:=(Xx 1 q)) (z:=(Xx 1 q).2.2.1) 1 52 rfl rfl (List.mem_singleton.2 rfl) O5) ?_
 refine Zg (Pa (g:=(Xx 1 q)) (z:=(Xx 1 q).2.2.2) 1 53 rfl rfl (List.mem_singleton.2 rfl) O5) ?_
 refine go 3 ⟨O5,?_⟩
 refine dt (Ou (ii:=1) G0 rfl rfl rfl Zs pG O5) ?_
 refine cl 6 [51,52,53] (Zbu 0 1000 1 7 _ _ _ (Ld 0 300 1) (Ld 0 400 1) (Ld 0 0 1) ⟨O3,O3⟩ ⟨O3,O3⟩ ⟨O3,O3⟩ (Na 1 (.inr rfl) S30).x (Na 1 (.inr rfl) S30).y (Na 1 (.inr rfl) S30).z (Dr 1 (.inr rfl)) O3 O3) fun _ _=>?_
 refine go 12 ?_
 refine cl 6 [3] (Za2 _ _ _ ⟨O3,O3⟩) fun _ _=>?_
 refine dt (Zx (r':= .bool false) (Xm rfl rfl) (congrArg (fun b=>Value.bool (!b)) (decide_eq_true Zu1))) ?_
 refine go 3 ?_
 refine Gu 6 [4] (Za2 _ _ _ ⟨O3,O3⟩) fun _ _=>?_
 refine Gt (Zx (r':= .bool false) (Xm rfl rfl) (congrArg (fun b=>Value.bool (!b)) (decide_eq_true Zu0))) rfl rfl ?_
 refine go 4 ?_
 refine Gu 6 [5] (Za2 _ _ _ ⟨O3,O3⟩) fun _ _=>?_
 refine Gt (Zx (r':= .bool false) (Xm rfl rfl) (congrArg (fun b=>Value.bool (!b)) (decide_eq_true Zu2))) rfl rfl ?_
 refine go 4 ?_
 refine Gu 6 [6] (Za2 _ _ _ ⟨O3,O3⟩) fun _ _=>?_
 refine Gt (Zx (r':= .bool false) (Xm rfl rfl) (congrArg (fun b=>Value.bool (!b)) (decide_eq_true Yb9))) rfl rfl ?_
 refine go 3 ?_
 refine Gu 6 [1] (Zhb _ _ 500 1 true (Ao 1 (.inr rfl) _) (Zg2 _) ⟨O3,O3,O3,O3⟩ (by rw [Zyj];rfl)) fun _ _=>?_
 refine go 4 ?_
 refine Gu 6 [2] (Zhb _ _ 500 10000 false (Ao 0 (.inl rfl) _) (Zbt _) ⟨O3,O3,O3,O3⟩ (by rw [Zg3];rfl)) fun _ _=>?_
 refine go 10 ?_
 refine dt (Xl (ivs:=[(0,_),(1,_)]) rfl ⟨rfl,rfl,rfl,rfl,trivial⟩ (fun a w hs=>Zl1 ((Zl rfl) a w hs) ((Zl rfl) a w hs))) ?_
 refine cl 6 [2] (Znp _ _ 500 10000 (Ao 0 (.inl rfl) _) (Zbt _) ⟨O3,O3,O3,O3⟩) fun _ _=>?_
 refine go 4 ?_
 refine Zu (Zp 7) fun bx _=>?_
 refine go 8 ?_
 refine cl 7 [1] (Zyl _ _ (Ao 1 (.inr rfl) _) (Zg2 _)) fun _ _=>?_
 refine go 3 ?_
 refine Zu (Zp 8) fun bx_2 _=>?_
 refine go 7 ?_
 refine cl 8 [2] (Zyl _ _ (Ao 0 (.inl rfl) _) (Zbt _)) fun _ _=>?_
 refine go 3 ?_
 refine Zu (Zp 9) fun bx_3 _=>?_
 refine go 8 ?_
 refine kf (decide_eq_false O3) ?_
 refine go 2 ?_
 refine Gt (Zx (r':= .bool false) (Xm rfl rfl) (congrArg (fun b=>Value.bool (!b)) (Zyi _))) rfl rfl ?_
 refine go 3 ?_
 refine Gt (Xl (ivs:=[(1,_)]) rfl ⟨rfl,rfl,trivial⟩ (fun a w hs=>b52_1 ((Zl rfl) a w hs))) rfl rfl ?_
 refine Gt (Zx (r':= .bool false) (Zhp rfl rfl rfl eg52 (fun w=>neB52 w _ _ _ _)) (congrArg (fun b=>Value.bool (!b)) (decide_eq_true (Zyh _)))) rfl rfl ?_
 refine go 3 ?_
 refine kfg (decide_eq_false (by rw [Zja];decide)) ?_
 refine go 3 ?_
 refine kfg (decide_eq_false (by rw [Zjb];decide)) ?_
 refine go 3 ?_
 refine Gt (Xl (ivs:=[(0,_)]) rfl ⟨rfl,rfl,trivial⟩ (fun a w hs=>b26_0 ((Zl rfl) a w hs))) rfl rfl ?_
 refine Gt (Zx (r':= .bool false) (Zhp rfl rfl rfl eg26 (fun w=>neB26 w _ _ _ _)) (congrArg (fun b=>Value.bool (!b)) (decide_eq_true (Zyd _)))) rfl rfl ?_
 refine go 3 ?_
 refine Gt (Xl (ivs:=[(0,_),(1,_)]) rfl ⟨rfl,rfl,rfl,rfl,trivial⟩ (fun a w hs=>Zl1 ((Zl rfl) a w hs) ((Zl rfl) a w hs))) rfl rfl ?_
 refine Gt (Zx (r':= .bool false) (Zhp rfl rfl rfl eg26 (fun w=>neB26 w _ _ _ _)) (congrArg (fun b=>Value.bool (!b)) (decide_eq_true (Zye _)))) rfl rfl ?_
 refine go 8 ?_
 refine dt (Xl (ivs:=[]) rfl trivial (fun a w hs=>b64_)) ?_
 refine dt (Xl (ivs:=[]) rfl trivial (fun a w hs=>b64_)) ?_
 refine cl 10 [] (Zrp 0 0 0 0 0 0 1000 2000 2 ⟨O3,O3⟩ ⟨O3,O3⟩ ⟨O3,O3⟩ ⟨O3,O3⟩ ⟨O3,O3⟩ ⟨O3,O3⟩) fun⟨sl,sl_2,sl_3⟩ _=>?_
 refine Zu (Zp 13) fun bx_4 _=>?_
 refine go 4 ?_
 refine Zg (Pa (g:=(Xx 1 q)) (z:=(Xx 1 q).2.1) 1 51 rfl rfl (List.mem_singleton.2 rfl) O5) ?_
 refine Zg (Pa (g:=(Xx 1 q)) (z:=(Xx 1 q).2.2.1) 1 52 rfl rfl (List.mem_singleton.2 rfl) O5) ?_
 refine Zg (Pa (g:=(Xx 1 q)) (z:=(Xx 1 q).2.2.2) 1 53 rfl rfl (List.mem_singleton.2 rfl) O5) ?_
 refine Xt (fun _=>False) [(0,0),(1,0),(2,0),(3,0),(4,1),(5,0),(6,0),(7,0),(8,0),(9,3)] ?_
 refine go 2 ⟨O5,?_⟩
 refine Qu rfl rfl (Pb (Ou (ii:=1) G0 rfl rfl rfl Zs pG O5)) ?_
 refine go 1 ?_
 refine Yo (Ze 13 [51,52,53,10,11,12] (Ar 0 1000 1 1000 2000 1 _ _ _ _ _ _ (Ld 0 300 1) (Ld 0 400 1) (Ld 0 0 1) (Ld 0 0 2) (Ld 0 0 2) (Ld 0 0 2) ⟨O3,O3⟩ ⟨O3,O3⟩ ⟨O3,O3⟩ (Na 1 (.inr rfl) S30).x (Na 1 (.inr rfl) S30).y (Na 1 (.inr rfl) S30).z ⟨O3,O3⟩ ⟨O3,O3⟩ ⟨O3,O3⟩ (Zap S30).x (Zap S30).y (Zap S30).z (Dr 1 (.inr rfl)) Zml rfl)) fun _ _=>?_
 refine go 8 ?_
 refine Zg (Pa (g:=(Xx 0 q_2)) (z:=(Xx 0 q_2).2.1) 2 51 rfl rfl (List.mem_singleton.2 rfl) O5) ?_
 refine Zg (Pa (g:=(Xx 0 q_2)) (z:=(Xx 0 q_2).2.2.1) 2 52 rfl rfl (List.mem_singleton.2 rfl) O5) ?_
 refine Zg (Pa (g:=(Xx 0 q_2)) (z:=(Xx 0 q_2).2.2.2) 2 53 rfl rfl (List.mem_singleton.2 rfl) O5) ?_
 refine Xt (fun _=>False) [(0,0),(1,0),(2,0),(3,0),(4,1),(5,0),(6,0),(7,0),(8,0),(9,3)] ?_
 refine go 2 ⟨O5,?_⟩
 refine Qu rfl rfl (Pb (Ou (ii:=2) G0 rfl rfl rfl Zs pG O5)) ?_
 refine go 1 ?_
 refine Yo (Ze 13 [51,52,53,10,11,12] (Ar 0 1000 1 1000 2000 1 _ _ _ _ _ _ (Ld 0 300 0) (Ld 0 400 0) (Ld 0 0 0) (Ld 0 0 2) (Ld 0 0 2) (Ld 0 0 2) ⟨O3,O3⟩ ⟨O3,O3⟩ ⟨O3,O3⟩ (Na 0 (.inl rfl) S30).x (Na 0 (.inl rfl) S30).y (Na 0 (.inl rfl) S30).z ⟨O3,O3⟩ ⟨O3,O3⟩ ⟨O3,O3⟩ (Zap S30).x (Zap S30).y (Zap S30).z (Dr 0 (.inl rfl)) Zml rfl)) fun _ _=>?_
 refine go 10 ?_
 refine dt (Zx (r':= .bool true) (Xm rfl rfl) (congrArg (fun b=>Value.bool (!b)) Zyf)) ?_
 refine go 2 ?_
 refine kt Zyg ?_
 refine go 2 ?_
 refine ktg (decide_eq_true O3) ?_
 refine go 3 ?_
 refine ktg (decide_eq_true O3) ?_
 refine go 5 ?_
 exact Xj hsc () Tryz.results10 rfl trivial Za
theorem Zp3(fr to ov fr2 to2 ov2 sp ac:Int)(sx sy sz sx2 sy2 sz2:SL)(x y z x2 y2 z2:List Int)(hfr:Yt fr)(hto:Yt to)(hov:Yt ov)(hx:∀a∈x,Yt a)(hy:∀a∈y,Yt a)(hz:∀a∈z,Yt a)(hfr2:Yt fr2)(hto2:Yt to2)(hov2:Yt ov2)(hx2:∀a∈x2,Yt a)(hy2:∀a∈y2,Yt a)(hz2:∀a∈z2,Yt a)(hf:Ze9 [((fr,to,ov),(sx,x),(sy,y),(sz,z)),((fr2,to2,ov2),(sx2,x2),(sy2,y2),(sz2,z2))] 2=false):Cal Tryz.prog 3 #[.agg #[.int .i64 fr,.int .i64 to,.int .i64 ov,Qj sx,Qj sy,Qj sz],.agg #[.int .i64 fr2,.int .i64 to2,.int .i64 ov2,Qj sx2,Qj sy2,Qj sz2],.agg #[.int .i64 sp,.int .i64 ac]] [Yb 1 Zy (Qj sx) x,Yb 1 Zy (Qj sy) y,Yb 1 Zy (Qj sz) z,Yb 1 Zy (Qj sx2) x2,Yb 1 Zy (Qj sy2) y2,Yb 1 Zy (Qj sz2) z2] false (G:=Unit) (fun _=>True) (fun _=> .bool true) (fun _=>[]):=by
 refine Zd Tryz.func3 Tryz.ntmps3 fun w0 sc hw hsc=>?_
 refine go 2 ?_
 refine Zu (Zw 7) fun bx _=>?_
 refine Zu (Zw 8) fun bx_2 _=>?_
 refine Zu (Zw 9) fun bx_3 _=>?_
 refine go 8 ?_
 refine tt (Qo (i:=10) (ivs:=[(0,_),(1,_)]) (enc:=Cb) [((fr,to,ov),(sx,x),(sy,y),(sz,z)),((fr2,to2,ov2),(sx2,x2),(sy2,y2),(sz2,z2))] rfl rfl ⟨rfl,rfl,rfl,rfl,trivial⟩ Tryz.underlying29 Tryz.ti24 rfl rfl (Zhj _ _ _ _ _ _ _ _ _ _ _ _ _ _ _ _ _ _) rfl rfl pG.cells rfl rfl hw.h) (fun v _=>?_)
 refine Zr (Qq 10 rfl rfl pG) ?_
 refine Zr (Xn qG 73) ?_
 refine Zr (Xn qC 71) ?_
 refine Zr (Zh (q:=qC) (z:=((fr,to,ov),(sx,x),(sy,y),(sz,z)).2.1) 71 1 71 rfl rfl rfl rfl rfl) ?_
 refine Zr (Zh (q:=qC) (z:=((fr,to,ov),(sx,x),(sy,y),(sz,z)).2.2.1) 71 2 71 rfl rfl rfl rfl rfl) ?_
 refine Zr (Zh (q:=qC) (z:=((fr,to,ov),(sx,x),(sy,y),(sz,z)).2.2.2) 71 3 71 rfl rfl rfl rfl rfl) ?_
 refine Zr (Zh (q:=qG) (z:=((fr,to,ov),(sx,x),(sy,y),(sz,z))) 73 71 73 rfl rfl rfl rfl rfl) ?_
 refine Zr (Xn qC 71) ?_
 refine Zr (Zh (q:=qC) (z:=((fr2,to2,ov2),(sx2,x2),(sy2,y2),(sz2,z2)).2.1) 71 4 71 rfl rfl rfl rfl rfl) ?_
 refine Zr (Zh (q:=qC) (z:=((fr2,to2,ov2),(sx2,x2),(sy2,y2),(sz2,z2)).2.2.1) 71 5 71 rfl rfl rfl rfl rfl) ?_
 refine Zr (Zh (q:=qC) (z:=((fr2,to2,ov2),(sx2,x2),(sy2,y2),(sz2,z2)).2.2.2) 71 6 71 rfl rfl rfl rfl rfl) ?_
 refine Zr (Zh (q:=qG) (z:=((fr2,to2,ov2),(sx2,x2),(sy2,y2),(sz2,z2))) 73 71 73 rfl rfl rfl rfl rfl) ?_
 refine Zr (Mz 10 73 72 rfl rfl rfl rfl) ?_
 refine cl 10 [72] (Zcs _ [((fr,to,ov),(sx,x),(sy,y),(sz,z)),((fr2,to2,ov2),(sx2,x2),(sy2,y2),(sz2,z2))] 2) fun _ _=>?_
 refine dt (Zx (r':= .bool true) (Xm rfl rfl) (congrArg (fun b=>Value.bool (!b)) hf)) ?_
 refine go 5 ?_
 refine cl 10 [] (Du) fun _ _=>?_
 refine go 5 ?_
 exact Xj hsc () Tryz.results3 rfl trivial Za
theorem Znx(fr to ov fr2 to2 ov2 sp ac:Int)(sx sy sz sx2 sy2 sz2:SL)(x y z x2 y2 z2:List Int)(hfr:Yt fr)(hto:Yt to)(hov:Yt ov)(hx:∀a∈x,Yt a)(hy:∀a∈y,Yt a)(hz:∀a∈z,Yt a)(hfr2:Yt fr2)(hto2:Yt to2)(hov2:Yt ov2)(hx2:∀a∈x2,Yt a)(hy2:∀a∈y2,Yt a)(hz2:∀a∈z2,Yt a)(hf:Ze9 [((fr,to,ov),(sx,x),(sy,y),(sz,z)),((fr2,to2,ov2),(sx2,x2),(sy2,y2),(sz2,z2))] 2=true)(hb:Lm fr to ov x y z=false):Cal Tryz.prog 3 #[.agg #[.int .i64 fr,.int .i64 to,.int .i64 ov,Qj sx,Qj sy,Qj sz],.agg #[.int .i64 fr2,.int .i64 to2,.int .i64 ov2,Qj sx2,Qj sy2,Qj sz2],.agg #[.int .i64 sp,.int .i64 ac]] [Yb 1 Zy (Qj sx) x,Yb 1 Zy (Qj sy) y,Yb 1 Zy (Qj sz) z,Yb 1 Zy (Qj sx2) x2,Yb 1 Zy (Qj sy2) y2,Yb 1 Zy (Qj sz2) z2] false (G:=Unit) (fun _=>True) (fun _=> .bool true) (fun _=>[]):=by
 refine Zd Tryz.func3 Tryz.ntmps3 fun w0 sc hw hsc=>?_
 refine go 2 ?_
 refine Zu (Zw 7) fun bx _=>?_
 refine Zu (Zw 8) fun bx_2 _=>?_
 refine Zu (Zw 9) fun bx_3 _=>?_
 refine go 8 ?_
 refine tt (Qo (i:=10) (ivs:=[(0,_),(1,_)]) (enc:=Cb) [((fr,to,ov),(sx,x),(sy,y),(sz,z)),((fr2,to2,ov2),(sx2,x2),(sy2,y2),(sz2,z2))] rfl rfl ⟨rfl,rfl,rfl,rfl,trivial⟩ Tryz.underlying29 Tryz.ti24 rfl rfl (Zhj _ _ _ _ _ _ _ _ _ _ _ _ _ _ _ _ _ _) rfl rfl pG.cells rfl rfl hw.h) (fun v _=>?_)
 refine Zr (Qq 10 rfl rfl pG) ?_
 refine Zr (Xn qG 73) ?_
 refine Zr (Xn qC 71) ?_
 refine Zr (Zh (q:=qC) (z:=((fr,to,ov),(sx,x),(sy,y),(sz,z)).2.1) 71 1 71 rfl rfl rfl rfl rfl) ?_
 refine Zr (Zh (q:=qC) (z:=((fr,to,ov),(sx,x),(sy,y),(sz,z)).2.2.1) 71 2 71 rfl rfl rfl rfl rfl) ?_
 refine Zr (Zh (q:=qC) (z:=((fr,to,ov),(sx,x),(sy,y),(sz,z)).2.2.2) 71 3 71 rfl rfl rfl rfl rfl) ?_
 refine Zr (Zh (q:=qG) (z:=((fr,to,ov),(sx,x),(sy,y),(sz,z))) 73 71 73 rfl rfl rfl rfl rfl) ?_
 refine Zr (Xn qC 71) ?_
 refine Zr (Zh (q:=qC) (z:=((fr2,to2,ov2),(sx2,x2),(sy2,y2),(sz2,z2)).2.1) 71 4 71 rfl rfl rfl rfl rfl) ?_
 refine Zr (Zh (q:=qC) (z:=((fr2,to2,ov2),(sx2,x2),(sy2,y2),(sz2,z2)).2.2.1) 71 5 71 rfl rfl rfl rfl rfl) ?_
 refine Zr (Zh (q:=qC) (z:=((fr2,to2,ov2),(sx2,x2),(sy2,y2),(sz2,z2)).2.2.2) 71 6 71 rfl rfl rfl rfl rfl) ?_
 refine Zr (Zh (q:=qG) (z:=((fr2,to2,ov2),(sx2,x2),(sy2,y2),(sz2,z2))) 73 71 73 rfl rfl rfl rfl rfl) ?_
 refine Zr (Mz 10 73 72 rfl rfl rfl rfl) ?_
 refine cl 10 [72] (Zcs _ [((fr,to,ov),(sx,x),(sy,y),(sz,z)),((fr2,to2,ov2),(sx2,x2),(sy2,y2),(sz2,z2))] 2) fun _ _=>?_
 refine dt (Zx (r':= .bool false) (Xm rfl rfl) (congrArg (fun b=>Value.bool (!b)) hf)) ?_
 refine go 9 ?_
 refine cl 10 [1,2,3,4,5,6] (Zc7 _ _ _ _ _ _ _ _ _ _ _ _ _ _ _ _ _ _ hfr hto hov hx hy hz hfr2 hto2 hov2 hx2 hy2 hz2 (fun h=>by rw [hb]at h;cases h.1)) fun _ _=>?_
 refine go 9 ?_
 refine Xt (fun _=>False) [(0,0),(2,0),(1,1),(3,1),(4,0)] ?_
 refine go 2 ?_
 refine Yo (Ze 10 [] (Ap _ _)) fun _ _=>?_
 refine Yo (Ze 10 [] (Zar _ _)) fun _ _=>?_
 refine Qu rfl rfl (Pb (Zx (r':= .bool false) (Zog rfl rfl rfl Tryz.underlying4) (congrArg Value.bool O5))) ?_
 refine go 9 ?_
 refine cl 10 [1,2,3] (Hl _ _ _ _ _ _ _ _ _ hfr hto hov hx hy hz) fun _ _=>?_
 refine dt (Zx (r':= .bool true) (Xm rfl rfl) (congrArg (fun b=>Value.bool (!b)) hb)) ?_
 refine go 11 ?_
 refine dt (Zx (r':= .bool true) (Xm rfl rfl) rfl) ?_
 refine go 2 ?_
 refine ktg (decide_eq_true O3) ?_
 refine go 2 ?_
 refine Gu 10 [] (Du) fun _ _=>?_
 refine go 6 ?_
 exact Xj hsc () Tryz.results3 rfl trivial Za
theorem Znw(fr to ov fr2 to2 ov2 sp ac:Int)(sx sy sz sx2 sy2 sz2:SL)(x y z x2 y2 z2:List Int)(hfr:Yt fr)(hto:Yt to)(hov:Yt ov)(hx:∀a∈x,Yt a)(hy:∀a∈y,Yt a)(hz:∀a∈z,Yt a)(hfr2:Yt fr2)(hto2:Yt to2)(hov2:Yt ov2)(hx2:∀a∈x2,Yt a)(hy2:∀a∈y2,Yt a)(hz2:∀a∈z2,Yt a)(hf:Ze9 [((fr,to,ov),(sx,x),(sy,y),(sz,z)),((fr2,to2,ov2),(sx2,x2),(sy2,y2),(sz2,z2))] 2=true)(hb:Lm fr to ov x y z=true)(hb2:Lm fr2 to2 ov2 x2 y2 z2=false):Cal Tryz.prog 3 #[.agg #[.int .i64 fr,.int .i64 to,.int .i64 ov,Qj sx,Qj sy,Qj sz],.agg #[.int .i64 fr2,.int .i64 to2,.int .i64 ov2,Qj sx2,Qj sy2,Qj sz2],.agg #[.int .i64 sp,.int .i64 ac]] [Yb 1 Zy (Qj sx) x,Yb 1 Zy (Qj sy) y,Yb 1 Zy (Qj sz) z,Yb 1 Zy (Qj sx2) x2,Yb 1 Zy (Qj sy2) y2,Yb 1 Zy (Qj sz2) z2] false (G:=Unit) (fun _=>True) (fun _=> .bool true) (fun _=>[]):=by
 refine Zd Tryz.func3 Tryz.ntmps3 fun w0 sc hw hsc=>?_
 refine go 2 ?_
 refine Zu (Zw 7) fun bx _=>?_
 refine Zu (Zw 8) fun bx_2 _=>?_
 refine Zu (Zw 9) fun bx_3 _=>?_
 refine go 8 ?_
 refine tt (Qo (i:=10) (ivs:=[(0,_),(1,_)]) (enc:=Cb) [((fr,to,ov),(sx,x),(sy,y),(sz,z)),((fr2,to2,ov2),(sx2,x2),(sy2,y2),(sz2,z2))] rfl rfl ⟨rfl,rfl,rfl,rfl,trivial⟩ Tryz.underlying29 Tryz.ti24 rfl rfl (Zhj _ _ _ _ _ _ _ _ _ _ _ _ _ _ _ _ _ _) rfl rfl pG.cells rfl rfl hw.h) (fun v _=>?_)
 refine Zr (Qq 10 rfl rfl pG) ?_
 refine Zr (Xn qG 73) ?_
 refine Zr (Xn qC 71) ?_
 refine Zr (Zh (q:=qC) (z:=((fr,to,ov),(sx,x),(sy,y),(sz,z)).2.1) 71 1 71 rfl rfl rfl rfl rfl) ?_
 refine Zr (Zh (q:=qC) (z:=((fr,to,ov),(sx,x),(sy,y),(sz,z)).2.2.1) 71 2 71 rfl rfl rfl rfl rfl) ?_
 refine Zr (Zh (q:=qC) (z:=((fr,to,ov),(sx,x),(sy,y),(sz,z)).2.2.2) 71 3 71 rfl rfl rfl rfl rfl) ?_
 refine Zr (Zh (q:=qG) (z:=((fr,to,ov),(sx,x),(sy,y),(sz,z))) 73 71 73 rfl rfl rfl rfl rfl) ?_
 refine Zr (Xn qC 71) ?_
 refine Zr (Zh (q:=qC) (z:=((fr2,to2,ov2),(sx2,x2),(sy2,y2),(sz2,z2)).2.1) 71 4 71 rfl rfl rfl rfl rfl) ?_
 refine Zr (Zh (q:=qC) (z:=((fr2,to2,ov2),(sx2,x2),(sy2,y2),(sz2,z2)).2.2.1) 71 5 71 rfl rfl rfl rfl rfl) ?_
 refine Zr (Zh (q:=qC) (z:=((fr2,to2,ov2),(sx2,x2),(sy2,y2),(sz2,z2)).2.2.2) 71 6 71 rfl rfl rfl rfl rfl) ?_
 refine Zr (Zh (q:=qG) (z:=((fr2,to2,ov2),(sx2,x2),(sy2,y2),(sz2,z2))) 73 71 73 rfl rfl rfl rfl rfl) ?_
 refine Zr (Mz 10 73 72 rfl rfl rfl rfl) ?_
 refine cl 10 [72] (Zcs _ [((fr,to,ov),(sx,x),(sy,y),(sz,z)),((fr2,to2,ov2),(sx2,x2),(sy2,y2),(sz2,z2))] 2) fun _ _=>?_
 refine dt (Zx (r':= .bool false) (Xm rfl rfl) (congrArg (fun b=>Value.bool (!b)) hf)) ?_
 refine go 9 ?_
 refine cl 10 [1,2,3,4,5,6] (Zc7 _ _ _ _ _ _ _ _ _ _ _ _ _ _ _ _ _ _ hfr hto hov hx hy hz hfr2 hto2 hov2 hx2 hy2 hz2 (fun h=>by rw [hb2]at h;cases h.2)) fun _ _=>?_
 refine go 9 ?_
 refine Xt (fun _=>False) [(0,0),(2,0),(1,1),(3,1),(4,0)] ?_
 refine go 2 ?_
 refine Yo (Ze 10 [] (Ap _ _)) fun _ _=>?_
 refine Yo (Ze 10 [] (Zar _ _)) fun _ _=>?_
 refine Qu rfl rfl (Pb (Zx (r':= .bool false) (Zog rfl rfl rfl Tryz.underlying4) (congrArg Value.bool O5))) ?_
 refine go 9 ?_
 refine cl 10 [1,2,3] (Hl _ _ _ _ _ _ _ _ _ hfr hto hov hx hy hz) fun _ _=>?_
 refine dt (Zx (r':= .bool false) (Xm rfl rfl) (congrArg (fun b=>Value.bool (!b)) hb)) ?_
 refine go 2 ?_
 refine Gu 10 [4,5,6] (Hl _ _ _ _ _ _ _ _ _ hfr2 hto2 hov2 hx2 hy2 hz2) fun _ _=>?_
 refine Gt (Zx (r':= .bool true) (Xm rfl rfl) (congrArg (fun b=>Value.bool (!b)) hb2)) rfl rfl ?_
 refine go 7 ?_
 refine dt (Zx (r':= .bool true) (Xm rfl rfl) rfl) ?_
 refine go 2 ?_
 refine ktg (decide_eq_true O3) ?_
 refine go 2 ?_
 refine Gu 10 [] (Du) fun _ _=>?_
 refine go 6 ?_
 exact Xj hsc () Tryz.results3 rfl trivial Za
theorem Zp2(fr to ov fr2 to2 ov2 sp ac:Int)(sx sy sz sx2 sy2 sz2:SL)(x y z x2 y2 z2:List Int)(hfr:Yt fr)(hto:Yt to)(hov:Yt ov)(hx:∀a∈x,Yt a)(hy:∀a∈y,Yt a)(hz:∀a∈z,Yt a)(hfr2:Yt fr2)(hto2:Yt to2)(hov2:Yt ov2)(hx2:∀a∈x2,Yt a)(hy2:∀a∈y2,Yt a)(hz2:∀a∈z2,Yt a)(hf:Ze9 [((fr,to,ov),(sx,x),(sy,y),(sz,z)),((fr2,to2,ov2),(sx2,x2),(sy2,y2),(sz2,z2))] 2=true)(hb:Lm fr to ov x y z=true)(hb2:Lm fr2 to2 ov2 x2 y2 z2=true)(hm:to≠fr2):Cal Tryz.prog 3 #[.agg #[.int .i64 fr,.int .i64 to,.int .i64 ov,Qj sx,Qj sy,Qj sz],.agg #[.int .i64 fr2,.int .i64 to2,.int .i64 ov2,Qj sx2,Qj sy2,Qj sz2],.agg #[.int .i64 sp,.int .i64 ac]] [Yb 1 Zy (Qj sx) x,Yb 1 Zy (Qj sy) y,Yb 1 Zy (Qj sz) z,Yb 1 Zy (Qj sx2) x2,Yb 1 Zy (Qj sy2) y2,Yb 1 Zy (Qj sz2) z2] false (G:=Unit) (fun _=>True) (fun _=> .bool true) (fun _=>[]):=by
 refine Zd Tryz.func3 Tryz.ntmps3 fun w0 sc hw hsc=>?_
 refine go 2 ?_
 refine Zu (Zw 7) fun bx _=>?_
 refine Zu (Zw 8) fun bx_2 _=>?_
 refine Zu (Zw 9) fun bx_3 _=>?_
 refine go 8 ?_
 refine tt (Qo (i:=10) (ivs:=[(0,_),(1,_)]) (enc:=Cb) [((fr,to,ov),(sx,x),(sy,y),(sz,z)),((fr2,to2,ov2),(sx2,x2),(sy2,y2),(sz2,z2))] rfl rfl ⟨rfl,rfl,rfl,rfl,trivial⟩ Tryz.underlying29 Tryz.ti24 rfl rfl (Zhj _ _ _ _ _ _ _ _ _ _ _ _ _ _ _ _ _ _) rfl rfl pG.cells rfl rfl hw.h) (fun v _=>?_)
 refine Zr (Qq 10 rfl rfl pG) ?_
 refine Zr (Xn qG 73) ?_
 refine Zr (Xn qC 71) ?_
 refine Zr (Zh (q:=qC) (z:=((fr,to,ov),(sx,x),(sy,y),(sz,z)).2.1) 71 1 71 rfl rfl rfl rfl rfl) ?_
 refine Zr (Zh (q:=qC) (z:=((fr,to,ov),(sx,x),(sy,y),(sz,z)).2.2.1) 71 2 71 rfl rfl rfl rfl rfl) ?_
 refine Zr (Zh (q:=qC) (z:=((fr,to,ov),(sx,x),(sy,y),(sz,z)).2.2.2) 71 3 71 rfl rfl rfl rfl rfl) ?_
 refine Zr (Zh (q:=qG) (z:=((fr,to,ov),(sx,x),(sy,y),(sz,z))) 73 71 73 rfl rfl rfl rfl rfl) ?_
 refine Zr (Xn qC 71) ?_
 refine Zr (Zh (q:=qC) (z:=((fr2,to2,ov2),(sx2,x2),(sy2,y2),(sz2,z2)).2.1) 71 4 71 rfl rfl rfl rfl rfl) ?_
 refine Zr (Zh (q:=qC) (z:=((fr2,to2,ov2),(sx2,x2),(sy2,y2),(sz2,z2)).2.2.1) 71 5 71 rfl rfl rfl rfl rfl) ?_
 refine Zr (Zh (q:=qC) (z:=((fr2,to2,ov2),(sx2,x2),(sy2,y2),(sz2,z2)).2.2.2) 71 6 71 rfl rfl rfl rfl rfl) ?_
 refine Zr (Zh (q:=qG) (z:=((fr2,to2,ov2),(sx2,x2),(sy2,y2),(sz2,z2))) 73 71 73 rfl rfl rfl rfl rfl) ?_
 refine Zr (Mz 10 73 72 rfl rfl rfl rfl) ?_
 refine cl 10 [72] (Zcs _ [((fr,to,ov),(sx,x),(sy,y),(sz,z)),((fr2,to2,ov2),(sx2,x2),(sy2,y2),(sz2,z2))] 2) fun _ _=>?_
 refine dt (Zx (r':= .bool false) (Xm rfl rfl) (congrArg (fun b=>Value.bool (!b)) hf)) ?_
 refine go 9 ?_
 refine cl 10 [1,2,3,4,5,6] (Zkv _ _ _ _ _ _ _ _ _ _ _ _ _ _ _ _ _ _ hfr hto hov hx hy hz hfr2 hto2 hov2 hx2 hy2 hz2 hb hb2 hm) fun _ _=>?_
 refine go 9 ?_
 refine Xt (fun _=>False) [(0,0),(2,0),(1,1),(3,1),(4,0)] ?_
 refine go 2 ?_
 refine Yo (Ze 10 [] (Ap _ _)) fun _ _=>?_
 refine Yo (Ze 10 [] (Zar _ _)) fun _ _=>?_
 refine Qu rfl rfl (Pb (Zx (r':= .bool false) (Zog rfl rfl rfl Tryz.underlying4) (congrArg Value.bool O5))) ?_
 refine go 9 ?_
 refine cl 10 [1,2,3] (Hl _ _ _ _ _ _ _ _ _ hfr hto hov hx hy hz) fun _ _=>?_
 refine dt (Zx (r':= .bool false) (Xm rfl rfl) (congrArg (fun b=>Value.bool (!b)) hb)) ?_
 refine go 2 ?_
 refine Gu 10 [4,5,6] (Hl _ _ _ _ _ _ _ _ _ hfr2 hto2 hov2 hx2 hy2 hz2) fun _ _=>?_
 refine Gt (Zx (r':= .bool false) (Xm rfl rfl) (congrArg (fun b=>Value.bool (!b)) hb2)) rfl rfl ?_
 refine go 13 ?_
 refine kt (decide_eq_true hm) ?_
 refine go 6 ?_
 refine dt (Zx (r':= .bool true) (Xm rfl rfl) rfl) ?_
 refine go 2 ?_
 refine ktg (decide_eq_true O3) ?_
 refine go 2 ?_
 refine Gu 10 [] (Du) fun _ _=>?_
 refine go 6 ?_
 exact Xj hsc () Tryz.results3 rfl trivial Za
theorem Zu8(fr to ov fr2 to2 ov2 sp ac:Int)(sx sy sz sx2 sy2 sz2:SL)(x y z x2 y2 z2:List Int)(hfr:Yt fr)(hto:Yt to)(hov:Yt ov)(hx:∀a∈x,Yt a)(hy:∀a∈y,Yt a)(hz:∀a∈z,Yt a)(hfr2:Yt fr2)(hto2:Yt to2)(hov2:Yt ov2)(hx2:∀a∈x2,Yt a)(hy2:∀a∈y2,Yt a)(hz2:∀a∈z2,Yt a)(hf:Ze9 [((fr,to,ov),(sx,x),(sy,y),(sz,z)),((fr2,to2,ov2),(sx2,x2),(sy2,y2),(sz2,z2))] 2=true)(hb:Lm fr to ov x y z=true)(hb2:Lm fr2 to2 ov2 x2 y2 z2=true)(hm:to=fr2):Cal Tryz.prog 3 #[.agg #[.int .i64 fr,.int .i64 to,.int .i64 ov,Qj sx,Qj sy,Qj sz],.agg #[.int .i64 fr2,.int .i64 to2,.int .i64 ov2,Qj sx2,Qj sy2,Qj sz2],.agg #[.int .i64 sp,.int .i64 ac]] [Yb 1 Zy (Qj sx) x,Yb 1 Zy (Qj sy) y,Yb 1 Zy (Qj sz) z,Yb 1 Zy (Qj sx2) x2,Yb 1 Zy (Qj sy2) y2,Yb 1 Zy (Qj sz2) z2] false (G:=Unit) (fun _=>True) (fun _=> .bool true) (fun _=>[]):=by
 refine Zd Tryz.func3 Tryz.ntmps3 fun w0 sc hw hsc=>?_
 refine go 2 ?_
 refine Zu (Zw 7) fun bx _=>?_
 refine Zu (Zw 8) fun bx_2 _=>?_
 refine Zu (Zw 9) fun bx_3 _=>?_
 refine go 8 ?_
 refine tt (Qo (i:=10) (ivs:=[(0,_),(1,_)]) (enc:=Cb) [((fr,to,ov),(sx,x),(sy,y),(sz,z)),((fr2,to2,ov2),(sx2,x2),(sy2,y2),(sz2,z2))] rfl rfl ⟨rfl,rfl,rfl,rfl,trivial⟩ Tryz.underlying29 Tryz.ti24 rfl rfl (Zhj _ _ _ _ _ _ _ _ _ _ _ _ _ _ _ _ _ _) rfl rfl pG.cells rfl rfl hw.h) (fun v _=>?_)
 refine Zr (Qq 10 rfl rfl pG) ?_
 refine Zr (Xn qG 73) ?_
 refine Zr (Xn qC 71) ?_
 refine Zr (Zh (q:=qC) (z:=((fr,to,ov),(sx,x),(sy,y),(sz,z)).2.1) 71 1 71 rfl rfl rfl rfl rfl) ?_
 refine Zr (Zh (q:=qC) (z:=((fr,to,ov),(sx,x),(sy,y),(sz,z)).2.2.1) 71 2 71 rfl rfl rfl rfl rfl) ?_
 refine Zr (Zh (q:=qC) (z:=((fr,to,ov),(sx,x),(sy,y),(sz,z)).2.2.2) 71 3 71 rfl rfl rfl rfl rfl) ?_
 refine Zr (Zh (q:=qG) (z:=((fr,to,ov),(sx,x),(sy,y),(sz,z))) 73 71 73 rfl rfl rfl rfl rfl) ?_
 refine Zr (Xn qC 71) ?_
 refine Zr (Zh (q:=qC) (z:=((fr2,to2,ov2),(sx2,x2),(sy2,y2),(sz2,z2)).2.1) 71 4 71 rfl rfl rfl rfl rfl) ?_
 refine Zr (Zh (q:=qC) (z:=((fr2,to2,ov2),(sx2,x2),(sy2,y2),(sz2,z2)).2.2.1) 71 5 71 rfl rfl rfl rfl rfl) ?_
 refine Zr (Zh (q:=qC) (z:=((fr2,to2,ov2),(sx2,x2),(sy2,y2),(sz2,z2)).2.2.2) 71 6 71 rfl rfl rfl rfl rfl) ?_
 refine Zr (Zh (q:=qG) (z:=((fr2,to2,ov2),(sx2,x2),(sy2,y2),(sz2,z2))) 73 71 73 rfl rfl rfl rfl rfl) ?_
 refine Zr (Mz 10 73 72 rfl rfl rfl rfl) ?_
 refine cl 10 [72] (Zcs _ [((fr,to,ov),(sx,x),(sy,y),(sz,z)),((fr2,to2,ov2),(sx2,x2),(sy2,y2),(sz2,z2))] 2) fun _ _=>?_
 refine dt (Zx (r':= .bool false) (Xm rfl rfl) (congrArg (fun b=>Value.bool (!b)) hf)) ?_
 refine go 9 ?_
 refine cl 10 [1,2,3,4,5,6] (Ar _ _ _ _ _ _ _ _ _ _ _ _ _ _ _ _ _ _ hfr hto hov hx hy hz hfr2 hto2 hov2 hx2 hy2 hz2 hb hb2 hm) fun _ _=>?_
 refine go 9 ?_
 refine Xt (fun _=>False) [(0,0),(2,0),(1,1),(3,1),(4,0)] ?_
 refine go 2 ?_
 refine Yo (Ze 10 [] (Ap _ _)) fun _ _=>?_
 refine Yo (Ze 10 [] (Zar _ _)) fun _ _=>?_
 refine Qu rfl rfl (Pb (Zx (r':= .bool false) (Zog rfl rfl rfl Tryz.underlying4) (congrArg Value.bool O5))) ?_
 refine go 9 ?_
 refine cl 10 [1,2,3] (Hl _ _ _ _ _ _ _ _ _ hfr hto hov hx hy hz) fun _ _=>?_
 refine dt (Zx (r':= .bool false) (Xm rfl rfl) (congrArg (fun b=>Value.bool (!b)) hb)) ?_
 refine go 2 ?_
 refine Gu 10 [4,5,6] (Hl _ _ _ _ _ _ _ _ _ hfr2 hto2 hov2 hx2 hy2 hz2) fun _ _=>?_
 refine Gt (Zx (r':= .bool false) (Xm rfl rfl) (congrArg (fun b=>Value.bool (!b)) hb2)) rfl rfl ?_
 refine go 13 ?_
 refine kf (decide_eq_false (fun h=>h hm)) ?_
 refine go 8 ?_
 refine kt (decide_eq_true O3) ?_
 refine go 4 ?_
 refine Gu 10 [1,2,3,4,5,6] (Zuh _ _ _ _ _ _ _ _ _ _ _ _ _ _ _ _ _ _ (Sgo.of hx hy hz hb) (Sgo.of hx2 hy2 hz2 hb2)) fun _ _=>?_
 refine ktg (beq_self_eq_true _) ?_
 refine go 2 ?_
 refine Gu 10 [] (Du) fun _ _=>?_
 refine go 5 ?_
 exact Xj hsc () Tryz.results3 rfl trivial Za
open Go.Proofs.Tryz
theorem law_lj(fr to ov:Int)(sx sy sz:SL)(x y z:List Int)(fr2 to2 ov2:Int)(sx2 sy2 sz2:SL)(x2 y2 z2:List Int)(sp ac:Int)(hfr:Yt fr)(hto:Yt to)(hov:Yt ov)(hx:∀a∈x,Yt a)(hy:∀a∈y,Yt a)(hz:∀a∈z,Yt a)(hfr2:Yt fr2)(hto2:Yt to2)(hov2:Yt ov2)(hx2:∀a∈x2,Yt a)(hy2:∀a∈y2,Yt a)(hz2:∀a∈z2,Yt a) :
  Cal prog 3 #[.agg #[.int .i64 fr,.int .i64 to,.int .i64 ov,Qj sx,Qj sy,Qj sz],.agg #[.int .i64 fr2,.int .i64 to2,.int .i64 ov2,Qj sx2,Qj sy2,Qj sz2],.agg #[.int .i64 sp,.int .i64 ac]]
   [Yb 1 Zy (Qj sx) x,Yb 1 Zy (Qj sy) y,Yb 1 Zy (Qj sz) z,Yb 1 Zy (Qj sx2) x2,Yb 1 Zy (Qj sy2) y2,Yb 1 Zy (Qj sz2) z2] false (G:=Unit) (fun _=>True) (fun _=> .bool true) (fun _=>[]):=by
 cases hf:Ze9 [((fr,to,ov),(sx,x),(sy,y),(sz,z)),((fr2,to2,ov2),(sx2,x2),(sy2,y2),(sz2,z2))] 2 with
 | false=>exact Zp3 fr to ov fr2 to2 ov2 sp ac sx sy sz sx2 sy2 sz2 x y z x2 y2 z2 hfr hto hov hx hy hz hfr2 hto2 hov2 hx2 hy2 hz2 hf
 | true=>
  cases hb:Lm fr to ov x y z with
  | false=>exact Znx fr to ov fr2 to2 ov2 sp ac sx sy sz sx2 sy2 sz2 x y z x2 y2 z2 hfr hto hov hx hy hz hfr2 hto2 hov2 hx2 hy2 hz2 hf hb
  | true=>
   cases hb2:Lm fr2 to2 ov2 x2 y2 z2 with
   | false=>exact Znw fr to ov fr2 to2 ov2 sp ac sx sy sz sx2 sy2 sz2 x y z x2 y2 z2 hfr hto hov hx hy hz hfr2 hto2 hov2 hx2 hy2 hz2 hf hb hb2
   | true=>
    by_cases hm:to=fr2
    ·exact Zu8 fr to ov fr2 to2 ov2 sp ac sx sy sz sx2 sy2 sz2 x y z x2 y2 z2 hfr hto hov hx hy hz hfr2 hto2 hov2 hx2 hy2 hz2 hf hb hb2 hm
    ·exact Zp2 fr to ov fr2 to2 ov2 sp ac sx sy sz sx2 sy2 sz2 x y z x2 y2 z2 hfr hto hov hx hy hz hfr2 hto2 hov2 hx2 hy2 hz2 hf hb hb2 hm
end Go.Sky
namespace Go.Proofs.YtljmhpopdmadkaaGreat
open Go.ChangeShapes Go.WideShapes Go.ChangeAt Go.RowKit Go.Joins Go.Deep Go.Sky
theorem own:ownKnob Tryz.prog.godebug=none:=O6
theorem Zky:laidOutB Tryz.prog=true:=O6
set_option maxRecDepth 100000 in
theorem lifted(os:Os)(started:os.Started)(H:Type)(enc:TypeId×Value→H) :
  ReturnsInHanded {} Tryz.checked os 3 .any (Rows.limitsJoinsSpec.pre6 enc Tryz.prog Tryz.f3 Rows.limitsJoinsRow.domain false) (Rows.limitsJoinsSpec.post enc Tryz.prog Tryz.f3 false true false false):=by
 refine returnsInHanded_of_change (C:=Tryz.checked) own started O6 Tryz.func3
  (ChangeSpec.witness6 (enc:=enc) (C:=Tryz.checked) false ⟨#[],#[.agg #[.int .i64 0,.int .i64 0,.int .i64 0,.slice none 0 0,.slice none 0 0,.slice none 0 0],.agg #[.int .i64 0,.int .i64 0,.int .i64 0,.slice none 0 0,.slice none 0 0,.slice none 0 0],.agg #[.int .i64 0,.int .i64 0]],[]⟩ 8 O6 O6 O6 O6) ?_
 intro W base args ds gs before hval0 hW hcnd _
 have hval:∀(j:Nat) t v,Tryz.f3.params[j]? = some t→args[j]? = some v→Value.okWide Tryz.prog W .any base t v:=hval0
 have hW':=hW
 obtain⟨p,q,hA0,hV,rfl,hfz,hnd⟩:=hW
 have hA:DataW.TrodAll enc Tryz.prog W 0 (fun _=>true) true Tryz.f3.params.toList args.toList ds p:=hA0
 rw [Tryz.params3]at hA hval
 obtain⟨v0,vs0,d0,ds0,p0,q0,hargs,rfl,rfl,h0,r0⟩:=trodAll_cons hA
 obtain⟨v1,vs1,d1,ds1,p1,q1,rfl,rfl,rfl,h1,r1⟩:=trodAll_cons r0
 obtain⟨v2,vs2,d2,ds2,p2,q2,rfl,rfl,rfl,h2,r2⟩:=trodAll_cons r1
 obtain⟨rfl,rfl,rfl⟩:=trodAll_nil r2
 obtain rfl:args=#[v0,v1,v2]:=by cases args;simp_all
 obtain⟨rfl,rfl⟩:=trodVars_none hV
 have lt0:∀x∈p0,x.block<W.heap.size:=by obtain⟨m,hm⟩:=h0;exact DataW.trod_lt m _ _ _ hm
 obtain⟨fr0,to0,ov0,sx0,sy0,sz0,x0,y0,z0,rfl,hx0,hy0,hz0,m00,m10,m20,m30,m40,m50⟩:=Zne Tryz.underlying24 O6 rfl rfl rfl rfl rfl rfl rfl rfl rfl rfl rfl rfl Tryz.underlying3 Tryz.underlying22 Tryz.underlying3 O6 O6 O6 O6 (hval 0 24 v0 rfl rfl) h0
 have lt1:∀x∈p1,x.block<W.heap.size:=by obtain⟨m,hm⟩:=h1;exact DataW.trod_lt m _ _ _ hm
 obtain⟨fr1,to1,ov1,sx1,sy1,sz1,x1,y1,z1,rfl,hx1,hy1,hz1,m01,m11,m21,m31,m41,m51⟩:=Zne Tryz.underlying24 O6 rfl rfl rfl rfl rfl rfl rfl rfl rfl rfl rfl rfl Tryz.underlying3 Tryz.underlying22 Tryz.underlying3 O6 O6 O6 O6 (hval 1 24 v1 rfl rfl) h1
 have lt2:∀x∈p2,x.block<W.heap.size:=by obtain⟨m,hm⟩:=h2;exact DataW.trod_lt m _ _ _ hm
 obtain⟨sp2,ac2,rfl,-,-⟩:=Zxs Tryz.underlying26 O6 rfl rfl Tryz.underlying3 Tryz.underlying3 O6 O6 (hval 2 26 v2 rfl rfl) h2
 clear hA0 hval0
 refine(law_lj fr0 to0 ov0 sx0 sy0 sz0 x0 y0 z0 fr1 to1 ov1 sx1 sy1 sz1 x1 y1 z1 sp2 ac2 m00 m10 m20 m30 m40 m50 m01 m11 m21 m31 m41 m51 W (fun p hp=>by cases hp with | head=>exact hx0 | tail _ hp=>cases hp with | head=>exact hy0 | tail _ hp=>cases hp with | head=>exact hz0 | tail _ hp=>cases hp with | head=>exact hx1 | tail _ hp=>cases hp with | head=>exact hy1 | tail _ hp=>cases hp with | head=>exact hz1 | tail _ hp=>cases hp)).mono fun e W' ⟨_,he,_,bel,_⟩=>?_
 subst he
 exact⟨_,rfl,_,_,_,[],_,[],hW',trodAll_mk1 (shut_bool Tryz.underlying4 _),(trodAll_cons_mk (Below.trod Zky O6 (of_decide_eq_true O6) h0 bel lt0) (trodAll_cons_mk (Below.trod Zky O6 (of_decide_eq_true O6) h1 bel lt1) (trodAll_cons_mk (Below.trod Zky O6 (of_decide_eq_true O6) h2 bel lt2) trodAll_mk0))),rfl,bel.frame _,fun h=>by cases h⟩
theorem x_holds : Rows.LimitsJoinsSaid :=
 OpenClaim.holds_of_wide 3 Tryz.f3 rfl rfl rfl rfl rfl rfl rfl ⟨rfl,rfl,rfl,rfl,rfl⟩ rfl rfl rfl rfl rfl O6 Tryz.func3 O6
  (of_decide_eq_true O6) (by unfold Func.isWrapper;first | (rw [if_pos O7];kernel_rfl) | (rw [if_neg O7];exact⟨rfl,rfl⟩))
  (fun os started H enc _=>lifted os started H enc)
#print axioms x_holds
end Go.Proofs.YtljmhpopdmadkaaGreat

