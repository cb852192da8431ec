/- Rules, arithmetic and contracts: part 17. No conditions but those that each theorem names. -/
import Derived.Test.YtljmhpopdmadkaaGreatLw15
set_option linter.all false
set_option maxHeartbeats 4000000
namespace Go.Sky
open Go.Proofs
set_option synthInstance.maxHeartbeats 0
set_option synthInstance.maxSize 100000
set_option maxRecDepth 20000
set_option maxHeartbeats 4000000
set_option linter.unusedSimpArgs false
theorem Zyv(v:Value)(ps:List Zz)(b1 b2 b3:Nat)(fr to:Int)(hsg:∀g∈ps,SgG g)(hM:∀g∈ps,Lv fr to g=true→MdG fr to g):CalI Tryz.prog 147 [.pointer (some ⟨b1,0,none⟩),.pointer (some ⟨b2,0,none⟩),.pointer (some ⟨b3,0,none⟩)] [Kr b1 29 #[v],Kr b2 3 #[.int .i64 fr],Kr b3 3 #[.int .i64 to],Pq 6 Mj qG v ps] (α:=Zz) (G:=SL×SL×SL) (ps.filter (Lv fr to)) (fun c g=>[.agg #[.int .i64 (cA fr c),.int .i64 (cB to c),.int .i64 (mdO (cO c) (cG fr to c)),Qo g.1,Qo g.2.1,Qo g.2.2],.bool (Zko fr to c)]) (fun c g=>[Ym 1 Yl (Qo g.1) (mdL (cO c) (cG fr to c) (cX fr to c c.2.1.2)),Ym 1 Yl (Qo g.2.1) (mdL (cO c) (cG fr to c) (cX fr to c c.2.2.1.2)),Ym 1 Yl (Qo g.2.2) (mdL (cO c) (cG fr to c) (cX fr to c c.2.2.2.2))]):=by
 refine Yj4 Tryz.func147 rfl Tryz.ntmps147 rfl ⟨rfl,rfl,rfl,rfl,trivial⟩ ?_
 intro l M J Jx w0 sc hw hpre hJs hJxs hJ0 hY
 simp only [Po,Xx]
 have hw9:=Hw.mk hw
 refine Nd (Hq (i:=4) rfl Zi) (fun hlen=>?_)
 refine go 8 ?_
 refine lp (G:=Nat×World) [0,2,3,12,13] [1,2,3,4] (fun q=>[(14,.int .i64 (q.1:Int))]) (fun q=>[(0,Xf q.2 (fun _=>False))]) (fun q=>(q.1≤ps.length)∧(J ((ps.take q.1).filter (Lv fr to)).length q.2)∧(w0.heap.size≤q.2.heap.size)) (fun q=>ps.length-q.1) (0,w0) ⟨O1,hJ0,Nat.le_refl _⟩ ⟨rfl,trivial⟩ ⟨rfl,trivial⟩ ?_
 rintro⟨i,W⟩ ⟨hi,hJ,hW⟩
 dsimp only at hi hJ hW
 dsimp only
 have hw8:=hw_up hw9 hW
 refine go 6 ?_
 refine Zc rfl (fun h215=>?_) (fun h215=>?_)
 ·refine go 5 ?_
  have hgi:=hsg _ (Zf (d:=G0) (show i<ps.length by omega))
  have ht1:=hgi.t1
  have ht2:=hgi.t2
  have ht3:=hgi.t3
  have ho1:=hgi.o1
  have ho2:=hgi.o2
  refine Ze (Xv (g:=(ps.getD i G0)) (z:=(ps.getD i G0).2.1) 4 51 rfl rfl (Zf) O5) ?_
  refine Ze (Xv (g:=(ps.getD i G0)) (z:=(ps.getD i G0).2.2.1) 4 52 rfl rfl (Zf) O5) ?_
  refine Ze (Xv (g:=(ps.getD i G0)) (z:=(ps.getD i G0).2.2.2) 4 53 rfl rfl (Zf) O5) ?_
  refine go 2 ⟨O2,?_⟩
  refine dt (Pj (ii:=4) G0 rfl rfl rfl Zi pG O2) ?_
  refine Yd (Zs 5) fun bx _=>?_
  refine go 4 ?_
  refine Xw (fun _=>False) [(0,0),(1,0),(2,0),(3,0),(4,0),(5,0),(6,0),(7,0),(8,0),(9,3)] ?_
  refine go 3 ?_
  refine Qe rfl rfl (Qa (Zkm rfl rfl rfl)) ?_
  refine go 3 ?_
  refine Qe rfl rfl (Qa (Zkl rfl rfl rfl)) ?_
  refine go 12 ?_
  refine Zc rfl (fun h217=>?_) (fun h217=>?_)
  ·have hcp:Lv fr to (ps.getD i G0)=false:=decide_eq_false (by unfold cA cB;omega)
   refine go 8 ⟨O,?_⟩
   exact Xb (i+1,W) ⟨O1,by rw [fl_f O hcp];exact hJ,hW⟩ O1 ⟨rfl,trivial⟩ ⟨rfl,trivial⟩
  ·have hcp:Lv fr to (ps.getD i G0)=true:=decide_eq_true (by unfold cA cB;omega)
   have hMi:=hM _ (Zf (d:=G0) (show i<ps.length by omega)) hcp
   obtain⟨hq1,hq2,hq3,hq4⟩:=cut_b hgi hcp
   refine go 12 ⟨O,?_⟩
   refine jn (G:=SL×SL×SL×Nat) [0,2,3,12,13,14] [0,1,2,3,4,51,52,53,5] (fun q=>[(10,.pointer (some ⟨q.2.2.2,0,none⟩)),(11,.bool (Zko fr to (ps.getD i G0)))]) (fun q=>[(90,Ym 1 Yl (Qo q.1) (mdL (cO (ps.getD i G0)) (cG fr to (ps.getD i G0)) (cX fr to (ps.getD i G0) (ps.getD i G0).2.1.2))),(91,Ym 1 Yl (Qo q.2.1) (mdL (cO (ps.getD i G0)) (cG fr to (ps.getD i G0)) (cX fr to (ps.getD i G0) (ps.getD i G0).2.2.1.2))),(92,Ym 1 Yl (Qo q.2.2.1) (mdL (cO (ps.getD i G0)) (cG fr to (ps.getD i G0)) (cX fr to (ps.getD i G0) (ps.getD i G0).2.2.2.2))),(93,box q.2.2.2 24 #[.int .i64 (cA fr (ps.getD i G0)),.int .i64 (cB to (ps.getD i G0)),.int .i64 (mdO (cO (ps.getD i G0)) (cG fr to (ps.getD i G0))),Qo q.1,Qo q.2.1,Qo q.2.2.1])]) (fun q=>(∀p∈[Ym 1 Yl (Qo q.1) (mdL (cO (ps.getD i G0)) (cG fr to (ps.getD i G0)) (cX fr to (ps.getD i G0) (ps.getD i G0).2.1.2)),Ym 1 Yl (Qo q.2.1) (mdL (cO (ps.getD i G0)) (cG fr to (ps.getD i G0)) (cX fr to (ps.getD i G0) (ps.getD i G0).2.2.1.2)),Ym 1 Yl (Qo q.2.2.1) (mdL (cO (ps.getD i G0)) (cG fr to (ps.getD i G0)) (cX fr to (ps.getD i G0) (ps.getD i G0).2.2.2.2))],∀b,p.fp b→W.heap.size≤b)) ?_ ?_
   ·refine Mq [5] [24] ?_
    refine Zm (n:=11) [(0,0),(1,0),(2,0),(3,0),(4,0),(5,0),(6,0),(7,0),(8,0),(9,0),(10,0),(12,0),(13,0),(15,0)] ?_
    refine go 15 ⟨O,O,?_⟩
    refine Qq (n:=10) 11 22 ?_ ?_
    ·refine Ny (Zh 6 [51,52,53] (Zgz _ _ _ _ _ _ _ _ _ ((cA fr (ps.getD i G0))-(ps.getD i G0).1.1) ((cB to (ps.getD i G0))-(cA fr (ps.getD i G0))) ((ps.getD i G0).1.2.1-(ps.getD i G0).1.1) hgi hq1 hq2 ⟨O,O⟩)) fun⟨s,s_2,s_3⟩ _=>?_
     refine Qq (n:=9) 14 22 ?_ ?_
     ·refine Ny (Zh 8 [] (Zp (ps.getD i G0).1.2.2)) fun _ _=>?_
      refine Qq (n:=8) 16 22 ?_ ?_
      ·refine Ny (Zh 8 [] (Gg ((ps.getD i G0).1.2.1-(ps.getD i G0).1.1) 5 (Nat.le_trans (Zk0 O) O3) O3 O3)) fun _ _=>?_
       refine Qq (n:=7) 17 22 ?_ ?_
       ·refine Ny (Zh 8 [] (Cd (ps.getD i G0).1.2.2 (((ps.getD i G0).1.2.1-(ps.getD i G0).1.1)^5) (Nat.le_trans (Lu ⟨O,O⟩) O3) (Nat.le_trans (Zl7 ⟨O,O⟩) O3))) fun _ _=>?_
        refine Qq (n:=6) 18 22 ?_ ?_
        ·refine Ny (Zyp 90 [6,7,8] (Zca (cA fr (ps.getD i G0)) (cB to (ps.getD i G0)) (cO (ps.getD i G0)) _ _ _ (cX fr to (ps.getD i G0) (ps.getD i G0).2.1.2) (cX fr to (ps.getD i G0) (ps.getD i G0).2.2.1.2) (cX fr to (ps.getD i G0) (ps.getD i G0).2.2.2.2) hMi)) fun⟨s_4,s_5,s_6⟩ ⟨_,hfr⟩=>?_
         refine Zm (n:=0) [(19,0),(20,0),(21,0),(22,1),(23,1),(24,3)] ?_
         refine go 3 ?_
         refine Yx (Oj 93) fun bx_2 ho=>?_
         refine go 3 ?_
         refine Zy ?_
         exact Qu (_,_,_,_) (hfr) ⟨rfl,rfl,trivial⟩ ⟨rfl,rfl,rfl,rfl,trivial⟩
        ·refine Ny (Oj 93) fun bx_3 ho2=>?_
         refine Zm (n:=0) [(18,1),(19,0),(20,0),(21,0),(23,1),(24,3)] ?_
         refine Yx (Zyp 90 [6,7,8] (Zca (cA fr (ps.getD i G0)) (cB to (ps.getD i G0)) (cO (ps.getD i G0)) _ _ _ (cX fr to (ps.getD i G0) (ps.getD i G0).2.1.2) (cX fr to (ps.getD i G0) (ps.getD i G0).2.2.1.2) (cX fr to (ps.getD i G0) (ps.getD i G0).2.2.2.2) hMi)) fun⟨s_7,s_8,s_9⟩ ⟨_,hfr⟩=>?_
         refine go 6 ?_
         refine Zy ?_
         exact Qu (_,_,_,_) (hfr) ⟨rfl,rfl,trivial⟩ ⟨rfl,rfl,rfl,rfl,trivial⟩
       ·refine Ny (Oj 93) fun bx_4 ho3=>?_
        refine Zm (n:=0) [(17,1),(18,1),(19,0),(20,0),(21,0),(23,1),(24,3)] ?_
        refine Yx (Zh 8 [] (Cd (ps.getD i G0).1.2.2 (((ps.getD i G0).1.2.1-(ps.getD i G0).1.1)^5) (Nat.le_trans (Lu ⟨O,O⟩) O3) (Nat.le_trans (Zl7 ⟨O,O⟩) O3))) fun _ _=>?_
        refine Yx (Zyp 90 [6,7,8] (Zca (cA fr (ps.getD i G0)) (cB to (ps.getD i G0)) (cO (ps.getD i G0)) _ _ _ (cX fr to (ps.getD i G0) (ps.getD i G0).2.1.2) (cX fr to (ps.getD i G0) (ps.getD i G0).2.2.1.2) (cX fr to (ps.getD i G0) (ps.getD i G0).2.2.2.2) hMi)) fun⟨s_10,s_11,s_12⟩ ⟨_,hfr⟩=>?_
        refine go 6 ?_
        refine Zy ?_
        exact Qu (_,_,_,_) (hfr) ⟨rfl,rfl,trivial⟩ ⟨rfl,rfl,rfl,rfl,trivial⟩
      ·refine Ny (Oj 93) fun bx_5 ho4=>?_
       refine Zm (n:=0) [(16,1),(17,1),(18,1),(19,0),(20,0),(21,0),(23,1),(24,3)] ?_
       refine Yx (Zh 8 [] (Gg ((ps.getD i G0).1.2.1-(ps.getD i G0).1.1) 5 (Nat.le_trans (Zk0 O) O3) O3 O3)) fun _ _=>?_
       refine Yx (Zh 8 [] (Cd (ps.getD i G0).1.2.2 (((ps.getD i G0).1.2.1-(ps.getD i G0).1.1)^5) (Nat.le_trans (Lu ⟨O,O⟩) O3) (Nat.le_trans (Zl7 ⟨O,O⟩) O3))) fun _ _=>?_
       refine Yx (Zyp 90 [6,7,8] (Zca (cA fr (ps.getD i G0)) (cB to (ps.getD i G0)) (cO (ps.getD i G0)) _ _ _ (cX fr to (ps.getD i G0) (ps.getD i G0).2.1.2) (cX fr to (ps.getD i G0) (ps.getD i G0).2.2.1.2) (cX fr to (ps.getD i G0) (ps.getD i G0).2.2.2.2) hMi)) fun⟨s_13,s_14,s_15⟩ ⟨_,hfr⟩=>?_
       refine go 6 ?_
       refine Zy ?_
       exact Qu (_,_,_,_) (hfr) ⟨rfl,rfl,trivial⟩ ⟨rfl,rfl,rfl,rfl,trivial⟩
     ·refine Ny (Oj 93) fun bx_6 ho5=>?_
      refine Zm (n:=0) [(14,1),(16,1),(17,1),(18,1),(19,0),(20,0),(21,0),(23,1),(24,3)] ?_
      refine Yx (Zh 8 [] (Zp (ps.getD i G0).1.2.2)) fun _ _=>?_
      refine Yx (Zh 8 [] (Gg ((ps.getD i G0).1.2.1-(ps.getD i G0).1.1) 5 (Nat.le_trans (Zk0 O) O3) O3 O3)) fun _ _=>?_
      refine Yx (Zh 8 [] (Cd (ps.getD i G0).1.2.2 (((ps.getD i G0).1.2.1-(ps.getD i G0).1.1)^5) (Nat.le_trans (Lu ⟨O,O⟩) O3) (Nat.le_trans (Zl7 ⟨O,O⟩) O3))) fun _ _=>?_
      refine Yx (Zyp 90 [6,7,8] (Zca (cA fr (ps.getD i G0)) (cB to (ps.getD i G0)) (cO (ps.getD i G0)) _ _ _ (cX fr to (ps.getD i G0) (ps.getD i G0).2.1.2) (cX fr to (ps.getD i G0) (ps.getD i G0).2.2.1.2) (cX fr to (ps.getD i G0) (ps.getD i G0).2.2.2.2) hMi)) fun⟨s_16,s_17,s_18⟩ ⟨_,hfr⟩=>?_
      refine go 6 ?_
      refine Zy ?_
      exact Qu (_,_,_,_) (hfr) ⟨rfl,rfl,trivial⟩ ⟨rfl,rfl,rfl,rfl,trivial⟩
    ·refine Ny (Oj 93) fun bx_7 ho6=>?_
     refine Zm (n:=0) [(11,1),(14,1),(16,1),(17,1),(18,1),(19,0),(20,0),(21,0),(23,1),(24,3)] ?_
     refine Yx (Zh 9 [51,52,53] (Zgz _ _ _ _ _ _ _ _ _ ((cA fr (ps.getD i G0))-(ps.getD i G0).1.1) ((cB to (ps.getD i G0))-(cA fr (ps.getD i G0))) ((ps.getD i G0).1.2.1-(ps.getD i G0).1.1) hgi hq1 hq2 ⟨O,O⟩)) fun⟨s_19,s_20,s_21⟩ _=>?_
     refine Yx (Zh 11 [] (Zp (ps.getD i G0).1.2.2)) fun _ _=>?_
     refine Yx (Zh 11 [] (Gg ((ps.getD i G0).1.2.1-(ps.getD i G0).1.1) 5 (Nat.le_trans (Zk0 O) O3) O3 O3)) fun _ _=>?_
     refine Yx (Zh 11 [] (Cd (ps.getD i G0).1.2.2 (((ps.getD i G0).1.2.1-(ps.getD i G0).1.1)^5) (Nat.le_trans (Lu ⟨O,O⟩) O3) (Nat.le_trans (Zl7 ⟨O,O⟩) O3))) fun _ _=>?_
     refine Yx (Zyp 90 [9,10,11] (Zca (cA fr (ps.getD i G0)) (cB to (ps.getD i G0)) (cO (ps.getD i G0)) _ _ _ (cX fr to (ps.getD i G0) (ps.getD i G0).2.1.2) (cX fr to (ps.getD i G0) (ps.getD i G0).2.2.1.2) (cX fr to (ps.getD i G0) (ps.getD i G0).2.2.2.2) hMi)) fun⟨s_22,s_23,s_24⟩ ⟨_,hfr⟩=>?_
     refine go 6 ?_
     refine Zy ?_
     exact Qu (_,_,_,_) (hfr) ⟨rfl,rfl,trivial⟩ ⟨rfl,rfl,rfl,rfl,trivial⟩
   ·rintro⟨s1,s2,s3,bj⟩ hfr
    dsimp only at hfr
    dsimp only
    refine go 1 ?_
    refine e_li ?_
    refine Zjz (Zlh rfl rfl) rfl rfl rfl ?_
    refine Zjz (d_lbw (i:=93) rfl rfl rfl Tryz.isAgg24 Tryz.sizeOf24 rfl) rfl rfl rfl ?_
    refine Zjz (Zlh rfl rfl) rfl rfl rfl ?_
    refine Yd8 (pre:=[_,_,_,_]) (vs:=[_,_]) _ (ps.getD i G0) (s1,s2,s3) hY (fl_get O hcp) hJ hW hpre rfl rfl rfl rfl rfl ⟨rfl,rfl,trivial⟩ rfl rfl (Yfr hfr 90 rfl rfl rfl) ⟨rfl,rfl,rfl,rfl,trivial⟩ ⟨rfl,rfl,rfl,rfl,trivial⟩ (fun W2 hJ2 hW2=>?_) (fun W2 hJ2 hW2=>?_)
    ·simp only [Xx]
     refine Zjz (Zj (r':= .bool false) (Yp rfl rfl) rfl) rfl rfl rfl ?_
     refine Yea ?_
     refine go 9 ⟨O,?_⟩
     exact Xb (i+1,W2) ⟨O1,by rw [fl_t O hcp];exact hJ2,hW2⟩ O1 ⟨rfl,trivial⟩ ⟨rfl,trivial⟩
    ·simp only [Xx]
     refine Zjz (Zj (r':= .bool true) (Yp rfl rfl) rfl) rfl rfl rfl ?_
     refine Yea ?_
     refine go 7 ?_
     exact Yal (.inl rfl) rfl rfl hJs hJxs (.inr hJ2)
 ·obtain rfl:i=ps.length:=O
  rw [List.take_length]at hJ
  refine go 4 ?_
  exact Yal (.inr rfl) rfl rfl hJs hJxs (.inl hJ)
open Go.RowKit (Below)
variable {P:Program} {N:Nat} {sc:Nat→Prop} {env env':Qt} {H H':Hp} {Q Q':Exit→Act→World→Prop} {l:Nat}
def ER(P:Program)(N:Nat)(sc:Nat→Prop)(l:Nat)(c:Code)(Q:Exit→Act→World→Prop)(env:Qt)(H:Hp):Prop:=
 ∀a w,Sat N sc env H a w→c.wpIn (Fence.wide.inRound l) 0 P Q a w
def ndB(o:Oper):Bool:=match o.op with
 | .defer _=>false
 | _=>true
theorem Zme{ops:List Oper}(h:ops.all ndB=true):Zh4 ops:=fun o ho c hc=>by
 have:=List.all_eq_true.1 h o ho
 unfold ndB at this
 rw [hc]at this;cases this
theorem Zuf{id:Nat}{ops:List Oper}{y:Code}(hnd:ops.all ndB=true)(h:L P N sc ops.toArray ops (Hl (Exit.then (fun a w=>y.wpIn (Fence.wide.inRound l) 0 P Q a w) Q)) env H):ER P N sc l (.seq (.region id ops.toArray false) y) Q env H:=
 fun a w hs=>wpIn_seq (Znk (Zme hnd) h hs)
theorem Zxb{id:Nat}{ops:List Oper}(hnd:ops.all ndB=true)(h:L P N sc ops.toArray ops (Hl Q) env H):ER P N sc l (.region id ops.toArray false) Q env H:=
 fun a w hs=>Znk (Zme hnd) h hs
theorem x_er{y:Code}(h:ER P N sc l y Q env H):X N sc .normal (Hl (Exit.then (fun a w=>y.wpIn (Fence.wide.inRound l) 0 P Q a w) Q)) env H:=fun a w hs=>h a w hs
theorem x_en(h:∀a w,Sat N sc env H a w→Q .normal a w):X N sc .normal (Hl Q) env H:=fun a w hs=>h a w hs
theorem er_seq{x y:Code}(h:ER P N sc l x (Exit.then (fun a w=>y.wpIn (Fence.wide.inRound l) 0 P Q a w) Q) env H):ER P N sc l (.seq x y) Q env H:=fun a w hs=>wpIn_seq (h a w hs)
theorem Ye0{id:Nat}{c:Code}(h:ER P N sc l c (Exit.inBlock id Q) env H):ER P N sc l (.block id c) Q env H:=fun a w hs=>wpIn_block (h a w hs)
theorem Yez{c:Operand}{x y:Code}{b:Bool}(hc:ev env c=some (.bool b))(ht:b=true→ER P N sc l x Q env H)(hf:b=false→ER P N sc l y Q env H):ER P N sc l (.cond c x y) Q env H:=fun a w hs=>by
 cases b with
 | true=>exact wpIn_cond_true (hs.ev hc) (ht rfl a w hs)
 | false=>exact wpIn_cond_false (hs.ev hc) (hf rfl a w hs)
theorem Yi5(h:∀a w,Sat N sc env H a w→Q .normal a w):ER P N sc l .skip Q env H:=fun a w hs=>wpIn_skip (h a w hs)
theorem er_ret(h:∀a w,Sat N sc env H a w→Q .ret a w):ER P N sc l .ret Q env H:=fun a w hs=>wpIn_ret (h a w hs)
theorem er_imp(himp:∀a w,Sat N sc env H a w→Sat N sc env' H' a w){c:Code}(h:ER P N sc l c Q env' H'):ER P N sc l c Q env H:=fun a w hs=>h a w (himp a w hs)
theorem Yhm{β:Type}(i k:Nat)(enc:β→Value)(q:β→Pc):∀a w,Sat N sc env H a w→Sat N sc env ((i,Pq k enc q (.slice none 0 0) []) :: H) a w:=fun a w hs=>
 hs.add i _ ⟨Zcm k enc w,fun z hz=>by cases hz⟩ (fun j' jt _ _ Lp b hb hb'=>by
  rcases hb with hb | ⟨z,hz,_⟩
  ·exact absurd rfl hb.1
  ·cases hz) (fun b hb=>by
  rcases hb with hb | ⟨z,hz,_⟩
  ·exact absurd rfl hb.1
  ·cases hz)
theorem Yet{Hall:Hp}{zs:List Zz}{g:Zz}(i j:Nat)(h0:lk Hall i=some (De qG zs))(h1:lk Hall j=some (Ym 1 Yl (Qo g.2.1.1) g.2.1.2))(h2:lk Hall (j+1)=some (Ym 1 Yl (Qo g.2.2.1.1) g.2.2.1.2))(h3:lk Hall (j+2)=some (Ym 1 Yl (Qo g.2.2.2.1) g.2.2.2.2)) :
  ∀b,(De qG (zs ++ [g])).fp b→∃j q,lk Hall j=some q∧q.fp b:=fun b ⟨z,hz,hb⟩=>by
 rcases List.mem_append.1 hz with q | q
 ·exact⟨i,_,h0,z,q,hb⟩
 ·rw [List.mem_singleton.1 q]at hb
  obtain⟨c,hc,hb⟩:=hb
  simp only [List.mem_cons,List.not_mem_nil,or_false]at hc
  rcases hc with rfl | rfl | rfl
  ·exact⟨j,_,h1,hb⟩
  ·exact⟨j+1,_,h2,hb⟩
  ·exact⟨j+2,_,h3,hb⟩
end Go.Sky
namespace Go.Sky
def Kt(fr to:Int)(ps:List Zz):Bool:=(ps.filter (Lv fr to)).all (Zko fr to)
def Zuo(fr to:Int)(ps:List Zz):List Ykg:=if Kt fr to ps=true then(ps.filter (Lv fr to)).map (Zz9 fr to)else []
def Zr6(fr to:Int)(ps:List Zz):Int:=if Kt fr to ps=true then 0 else 7
def Zs9(fr to:Int)(x:Zz)(g:SL×SL×SL):Zz:=((cA fr x,cB to x,mdO (cO x) (cG fr to x)),(g.1,mdL (cO x) (cG fr to x) (cX fr to x x.2.1.2)),(g.2.1,mdL (cO x) (cG fr to x) (cX fr to x x.2.2.1.2)),(g.2.2,mdL (cO x) (cG fr to x) (cX fr to x x.2.2.2.2)))
def Yaa(fr to:Int)(ps:List Zz)(k:Nat)(zs:List Zz):Prop:=zs.map unS=((ps.filter (Lv fr to)).take k).map (Zz9 fr to)∧((ps.filter (Lv fr to)).take k).all (Zko fr to)=true
theorem Ya1{α:Type}{xs:List α}{k:Nat}{x:α}(h:xs[k]? = some x):xs.take (k+1)=xs.take k ++ [x]:=by
 rw [List.take_add_one,h];rfl
theorem cutI_0(fr to:Int)(ps:List Zz):Yaa fr to ps 0 []:=⟨by rw [List.take_zero];rfl,by rw [List.take_zero];rfl⟩
theorem cutI_s{fr to:Int}{ps zs:List Zz}{k:Nat}{x:Zz}{g:SL×SL×SL}(h:Yaa fr to ps k zs)(hx:(ps.filter (Lv fr to))[k]? = some x)(hk:Zko fr to x=true):Yaa fr to ps (k+1) (zs ++ [Zs9 fr to x g]):=by
 obtain⟨h1,h2⟩:=h
 refine⟨?_,?_⟩
 ·rw [Ya1 hx,List.map_append,List.map_append,h1];rfl
 ·rw [Ya1 hx,List.all_append,h2];simp [hk]
theorem cutI_l{fr to:Int}{ps zs:List Zz}{k:Nat}(h:Yaa fr to ps k zs)(hk:k≤ps.length):zs.length≤ps.length:=by
 have:=congrArg List.length h.1
 rw [List.length_map,List.length_map,List.length_take]at this
 have:=List.length_filter_le (Lv fr to) ps
 omega
theorem cut_no{fr to:Int}{ps:List Zz}{k:Nat}{x:Zz}(hx:(ps.filter (Lv fr to))[k]? = some x)(hk:Zko fr to x=false):Kt fr to ps=false:=by
 unfold Kt
 cases hb:(ps.filter (Lv fr to)).all (Zko fr to)with
 | false=>rfl
 | true=>
  have:=List.all_eq_true.1 hb x (List.mem_of_getElem? hx)
  rw [hk]at this;cases this
theorem cutI_e{fr to:Int}{ps zs:List Zz}(h:Yaa fr to ps (ps.filter (Lv fr to)).length zs):zs.map unS=Zuo fr to ps∧Zr6 fr to ps=0:=by
 obtain⟨h1,h2⟩:=h
 rw [List.take_length]at h1 h2
 exact⟨by unfold Zuo Kt;rw [if_pos h2];exact h1,by unfold Zr6 Kt;rw [if_pos h2]⟩
theorem cut_f{fr to:Int}{ps:List Zz}(h:Kt fr to ps=false):([]:List Zz).map unS=Zuo fr to ps∧Zr6 fr to ps=7:=by
 unfold Zuo Zr6
 rw [if_neg (by rw [h];exact Bool.false_ne_true),if_neg (by rw [h];exact Bool.false_ne_true)]
 exact⟨rfl,rfl⟩
def spF(ps:List Zz):Int:=(ps.getD 0 G0).1.1
def spL(ps:List Zz):Int:=(ps.getD (ps.length-1) G0).1.2.1
theorem Zy4{a b c d:Int}(h:¬(a≤c∧c<d∧d≤b)):c<a∨(¬c<a∧c≥d)∨(¬c<a∧¬c≥d∧d>b):=O
open Go.Proofs
set_option synthInstance.maxHeartbeats 0
set_option synthInstance.maxSize 100000
set_option maxRecDepth 20000
set_option maxHeartbeats 4000000
set_option linter.unusedSimpArgs false
theorem Ybk(v:Value)(ps:List Zz)(fr to:Int):Cal Tryz.prog 111 #[v,.int .i64 fr,.int .i64 to] [Pq 6 Mj qG v ps] true (G:=Nat×Nat×Nat) (fun g=>True) (fun g=> .func (.func 147) #[] #[.pointer (some ⟨g.1,0,none⟩),.pointer (some ⟨g.2.1,0,none⟩),.pointer (some ⟨g.2.2,0,none⟩)]) (fun g=>[Kr g.1 29 #[v],Kr g.2.1 3 #[.int .i64 fr],Kr g.2.2 3 #[.int .i64 to]]):=by
 refine Zd Tryz.func111 Tryz.ntmps111 fun w0 sc hw hsc=>?_
 refine Zrq (Mp 1 rfl Zi) (fun sl hsl=>?_)
 subst hsl
 refine go 2 ?_
 refine Yd (Yg 2) fun bx _=>?_
 refine Yd (Yg 3) fun bx_2 _=>?_
 refine Yd (Yg 4) fun bx_3 _=>?_
 refine go 5 ?_
 refine dt (Yfg (vs:=[]) (us:=[_,_,_]) rfl trivial ⟨rfl,rfl,rfl,trivial⟩) ?_
 refine go 4 ?_
 refine Yn (Zdi 2 rfl rfl) ?_
 refine Yn (Zdi 3 rfl rfl) ?_
 refine Yn (Zdi 4 rfl rfl) ?_
 exact Xj hsc (_,_,_) Tryz.results111 rfl trivial (Mm 2 (Mm 3 (Mm 4 Za)))
@[reducible,instance] def encGI:EncT Tryz.prog 24 6 Mj:=⟨pG⟩
theorem sm_cut(v:Value)(ps:List Zz)(fr to:Int)(hsg:∀g∈ps,SgG g)(hM:∀g∈ps,Lv fr to g=true→MdG fr to g)(hpl:ps.length≤256):Cal Tryz.prog 68 #[v,.int .i64 fr,.int .i64 to] [Pq 6 Mj qG v ps] true (G:=Value×List Zz) (fun g=>g.2.map unS=Zuo fr to ps) (fun g=> .tuple #[g.1,.int .i64 (Zr6 fr to ps)]) (fun g=>[Pq 6 Mj qG g.1 g.2]):=by
 refine Zx4 Tryz.func68 rfl Tryz.ntmps68 rfl ⟨rfl,trivial⟩ ?_
 intro w0 sc hw hsc;have hw:=Hw.mk hw
 simp only [Po,Xx]
 refine go 2 ?_
 refine Yd (Zs 2) fun bx _=>?_
 refine Yd (Zs 3) fun bx_2 _=>?_
 refine go 8 ?_
 refine cl 4 [1] (Ybk _ _ _ _) fun⟨b,b_2,b_3⟩ _=>?_
 refine go 3 ?_
 refine Ze (Np 70 6 24 Mj) ?_
 refine Ze (Oc qG 73) ?_
 refine e_rfi (pre:=[Kr b 29 #[v],Kr b_2 3 #[.int .i64 fr],Kr b_3 3 #[.int .i64 to],Pq 6 Mj qG v ps]) (w0:=w0) (fun(_:Nat) (gg:Value×List Zz)=>[(0,Xf w0 (fun _=>False)),(1,Pq 6 Mj qG v ps),(2,box bx 29 #[gg.1]),(3,box bx_2 31 #[.int .i64 0]),(70,Ma 6 24 Mj gg.1 gg.2),(73,De qG gg.2)]) (fun k gg=>Yaa fr to ps k gg.2) (fun(_:Unit)=>[(0,Xf w0 (fun _=>False)),(2,box bx 29 #[.slice none 0 0]),(3,box bx_2 31 #[.int .i64 7])]) (fun _=>Kt fr to ps=false) (.slice none 0 0,[]) rfl (by intro args w;first | exact enters_of Tryz.func147 O6 rfl args w | exact Tryz.call147 args w) (Zyv v ps b b_2 b_3 fr to hsg hM) ?_ (fun _ _=>rfl) rfl hw.h rfl (cutI_0 fr to ps) ⟨rfl,rfl,rfl,rfl,rfl,rfl,trivial⟩ (fun _ _=>⟨rfl,rfl⟩) (fun _=>⟨rfl,rfl⟩) (fun k x gi gg hx hinv l Mf Wa=>?_) rfl (fun gg hinv D od=>?_) (fun _ hxx=>?_)
 ·intro p hp
  simp only [List.mem_cons,List.not_mem_nil,or_false]at hp
  rcases hp with rfl | rfl | rfl | rfl
  ·exact⟨rfl,4,rfl⟩
  ·exact⟨rfl,5,rfl⟩
  ·exact⟨rfl,6,rfl⟩
  ·exact⟨rfl,1,rfl⟩
 ·obtain⟨vr,zs⟩:=gg
  have hkl:k≤ps.length:=Nat.le_trans (Nat.le_of_lt (List.getElem?_eq_some_iff.1 hx).1) (List.length_filter_le _ _)
  have hzl:zs.length≤ps.length:=cutI_l hinv hkl
  refine er_imp (env':=[(15,.bool (Zko fr to x)),(14,.agg #[.int .i64 (cA fr x),.int .i64 (cB to x),.int .i64 (mdO (cO x) (cG fr to x)),Qo gi.1,Qo gi.2.1,Qo gi.2.2]),(6,.pointer (some ⟨bx,0,none⟩)),(7,.pointer (some ⟨bx_2,0,none⟩))]) (H':=[(92,Xf Wa Mf),(100,Ym 1 Yl (Qo gi.1) (mdL (cO x) (cG fr to x) (cX fr to x x.2.1.2))),(101,Ym 1 Yl (Qo gi.2.1) (mdL (cO x) (cG fr to x) (cX fr to x x.2.2.1.2))),(102,Ym 1 Yl (Qo gi.2.2) (mdL (cO x) (cG fr to x) (cX fr to x x.2.2.2.2))),(0,Xf w0 (fun _=>False)),(1,Pq 6 Mj qG v ps),(2,box bx 29 #[vr]),(3,box bx_2 31 #[.int .i64 0]),(70,Ma 6 24 Mj vr zs),(73,De qG zs)]) (fun a w hs=>hs.weaken ⟨rfl,rfl,rfl,rfl,trivial⟩ ⟨rfl,rfl,rfl,rfl,rfl,rfl,rfl,rfl,rfl,rfl,trivial⟩) ?_
  refine Zuf rfl ?_
  refine Yd (Zs 8) fun b8 _=>?_
  refine go 1 ?_
  refine go 1 ?_
  refine x_er ?_
  refine Zxb rfl ?_
  refine go 1 ?_
  refine go 1 ?_
  refine x_en fun a w hs=>⟨rfl,[(8,.pointer (some ⟨b8,0,none⟩)),(9,.bool (Zko fr to x)),(6,.pointer (some ⟨bx,0,none⟩)),(7,.pointer (some ⟨bx_2,0,none⟩))],[(8,box b8 24 #[.int .i64 (cA fr x),.int .i64 (cB to x),.int .i64 (mdO (cO x) (cG fr to x)),Qo gi.1,Qo gi.2.1,Qo gi.2.2]),(100,Ym 1 Yl (Qo gi.1) (mdL (cO x) (cG fr to x) (cX fr to x x.2.1.2))),(101,Ym 1 Yl (Qo gi.2.1) (mdL (cO x) (cG fr to x) (cX fr to x x.2.2.1.2))),(102,Ym 1 Yl (Qo gi.2.2) (mdL (cO x) (cG fr to x) (cX fr to x x.2.2.2.2))),(0,Xf w0 (fun _=>False)),(1,Pq 6 Mj qG v ps),(2,box bx 29 #[vr]),(3,box bx_2 31 #[.int .i64 0]),(70,Ma 6 24 Mj vr zs),(73,De qG zs)],rfl,(fun q h=>by cases h;rfl),⟨.inl rfl,.inr (fun b hb=>⟨100,_,rfl,hb⟩),.inr (fun b hb=>⟨101,_,rfl,hb⟩),.inr (fun b hb=>⟨102,_,rfl,hb⟩),.inr (fun b hb=>⟨0,_,rfl,hb⟩),.inr (fun b hb=>⟨1,_,rfl,hb⟩),.inl rfl,.inl rfl,.inl rfl,.inr (fun b hb=>⟨73,_,rfl,hb⟩),trivial⟩,hs.weaken ⟨rfl,rfl,rfl,rfl,trivial⟩ ⟨rfl,rfl,rfl,rfl,rfl,rfl,rfl,rfl,rfl,rfl,rfl,trivial⟩,fun Wb=>?_⟩
  refine Ye0 ?_
  refine er_seq ?_
  refine Zuf rfl ?_
  refine go 2 ?_
  refine go 1 ?_
  refine x_er ?_
  refine Yez rfl (fun hk=>?_) (fun hk=>?_)
  ·refine Zuf rfl ?_
   refine go 2 ?_
   refine go 1 ?_
   refine x_er ?_
   exact er_ret fun a w hs=>Or.inr ⟨rfl,(),cut_no hx (Zpe hk),⟨.inr (fun b hb=>⟨0,_,rfl,hb⟩),.inl rfl,.inl rfl,trivial⟩,[],hs.weaken trivial ⟨rfl,rfl,rfl,rfl,trivial⟩⟩
  ·refine Yi5 ?_
   refine Zxb rfl ?_
   refine go 2 ?_
   refine tt (Qd (i:=12) (ivs:=[(0,_)]) (enc:=Mj) [(Zs9 fr to x gi)] rfl rfl ⟨rfl,rfl,trivial⟩ Tryz.underlying29 Tryz.ti24 rfl rfl (Yev _ _ _ _ _ _ _ _ _ _ _ _) rfl rfl pG.cells rfl rfl hw.h) rfl (fun v2 _=>?_)
   refine tt (Kq (i:=70) (j:=12) (by_:=96) rfl rfl rfl rfl rfl rfl O3 rfl (Xa pG) Tryz.underlying29 Tryz.ti24 rfl pG rfl rfl rfl O8 O3 rfl hw.h) rfl (fun v3 _=>?_)
   refine go 2 ?_
   refine Yn (Oc qC 71) ?_
   refine Yn (Xt (q:=qC) (z:=(Zs9 fr to x gi).2.1) 71 100 71 rfl rfl rfl rfl rfl) ?_
   refine Yn (Xt (q:=qC) (z:=(Zs9 fr to x gi).2.2.1) 71 101 71 rfl rfl rfl rfl rfl) ?_
   refine Yn (Xt (q:=qC) (z:=(Zs9 fr to x gi).2.2.2) 71 102 71 rfl rfl rfl rfl rfl) ?_
   refine Yn (Xt (q:=qG) (z:=(Zs9 fr to x gi)) 73 71 73 rfl rfl rfl rfl rfl) ?_
   exact x_en fun a w hs=>Or.inl ⟨rfl,(v3,zs ++ [(Zs9 fr to x gi)]),cutI_s hinv hx (Zpf hk),⟨.inr (fun b hb=>⟨0,_,rfl,hb⟩),.inr (fun b hb=>⟨1,_,rfl,hb⟩),.inl rfl,.inl rfl,.inl rfl,.inr (Yet 73 100 rfl rfl rfl rfl),trivial⟩,[],hs.weaken trivial ⟨rfl,rfl,rfl,rfl,rfl,rfl,rfl,trivial⟩⟩
 ·obtain⟨vr,zs⟩:=gg
  obtain⟨he1,he2⟩:=cutI_e hinv
  refine go 3 ?_
  refine go 1 ?_
  refine x_en fun a w hs=>⟨rfl,[(6,.pointer (some ⟨bx,0,none⟩)),(7,.pointer (some ⟨bx_2,0,none⟩))],[(0,Xf w0 (fun _=>False)),(1,Pq 6 Mj qG v ps),(2,box bx 29 #[vr]),(3,box bx_2 31 #[.int .i64 0]),(70,Ma 6 24 Mj vr zs),(73,De qG zs)],rfl,⟨⟨_,rfl,rfl,fun _ h=>h⟩,⟨_,rfl,rfl,fun _ h=>h⟩,⟨_,rfl,rfl,fun _ h=>h⟩,⟨_,rfl,rfl,fun _ h=>h⟩,⟨_,rfl,rfl,fun _ h=>h⟩,⟨_,rfl,rfl,fun _ h=>h⟩,trivial⟩,hs.weaken ⟨rfl,rfl,trivial⟩ ⟨rfl,rfl,rfl,rfl,rfl,rfl,rfl,trivial⟩,?_⟩
  refine Yn (Pf 70 rfl rfl pG) ?_
  refine Yn (Hi 70 73 72 rfl rfl rfl rfl) ?_
  exact Nz hsc (vr,zs) Tryz.results68 (by rw [he2]) he1 (Mm 72 Za)
 ·refine Yn (Yhm 72 6 Mj qG) ?_
  exact Nz hsc (.slice none 0 0,[]) Tryz.results68 (by rw [(cut_f hxx).2]) (cut_f hxx).1 (Mm 72 Za)
theorem Zvm(v:Value)(ps:List Zz)(hp:∀g∈ps,Gin g)(hb:Me ps=true):Cal Tryz.prog 67 #[v] [Pq 6 Mj qG v ps] false (G:=Unit) (fun _=>True) (fun _=> .tuple #[.int .i64 (spF ps),.int .i64 (spL ps),.int .i64 0]) (fun _=>[]):=by
 refine Zd Tryz.func67 Tryz.ntmps67 fun w0 sc hw hsc=>?_
 refine Nd (Hq (i:=1) rfl Zi) (fun hlen=>?_)
 obtain⟨-,hl1,hl2⟩:=Dt hb
 refine go 11 ?_
 refine cl 1 [1] (Aw _ _ hp) fun _ _=>?_
 refine dt (Zj (r':= .bool false) (Yp rfl rfl) (congrArg (fun b=>Value.bool (!b)) hb)) ?_
 refine go 6 ?_
 refine Xw (fun _=>False) [(0,0),(1,0),(2,0),(3,0),(4,0),(5,0),(6,0),(7,0),(8,0),(9,0),(10,0),(11,0),(12,3),(13,3)] ?_
 refine go 2 ⟨O,?_⟩
 refine Qe rfl rfl (Qa (Zfo (ii:=1) rfl rfl rfl Zi Tryz.underlying24 rfl Tryz.sizeOf3 rfl)) ?_
 refine Qe rfl rfl (Qa (Zfm (ii:=1) G0 rfl rfl rfl Zi Tryz.isAgg3 rfl)) ?_
 refine go 4 ⟨O,?_⟩
 refine Qe rfl rfl (Qa (Yf (ii:=1) (i:=(ps.length-1)) rfl rfl rfl rfl Zi Tryz.underlying29 Tryz.sizeOf24)) ?_
 refine Qe rfl rfl (Qa (Zfo (ii:=1) rfl rfl rfl Zi Tryz.underlying24 rfl Tryz.sizeOf3 rfl)) ?_
 refine Qe rfl rfl (Qa (Zfm (ii:=1) G0 rfl rfl rfl Zi Tryz.isAgg3 rfl)) ?_
 refine go 6 ?_
 exact xe3 hsc () Tryz.results67 rfl trivial Za
set_option maxHeartbeats 1000000 in
theorem Ax(v:Value)(ps:List Zz)(fr to:Int)(hp:∀g∈ps,Gin g)(hb:Me ps=true)(hr:¬(spF ps≤fr∧fr<to∧to≤spL ps)):Cal Tryz.prog 31 #[v,.int .i64 fr,.int .i64 to] [Pq 6 Mj qG v ps] false (G:=Unit) (fun _=>True) (fun _=> .tuple #[.slice none 0 0,.int .i64 3]) (fun _=>[]):=by
 refine Zd Tryz.func31 Tryz.ntmps31 fun w0 sc hw hsc=>?_
 refine go 9 ?_
 refine cl 1 [1] (Zvm _ _ hp hb) fun _ _=>?_
 refine go 14 ?_
 refine kf (decide_eq_false O3) ?_
 refine go 5 ?_
 rcases Zy4 hr with hc1 | ⟨hc1,hc2⟩ | ⟨hc1,hc2,hc3⟩
 ·refine go 3 ?_
  refine kt (decide_eq_true hc1) ?_
  refine go 23 ?_
  exact Nz hsc () Tryz.results31 rfl trivial Za
 ·refine go 3 ?_
  refine kf (decide_eq_false hc1) ?_
  refine go 3 ?_
  refine ktg (decide_eq_true hc2) ?_
  refine go 19 ?_
  exact Nz hsc () Tryz.results31 rfl trivial Za
 ·refine go 3 ?_
  refine kf (decide_eq_false hc1) ?_
  refine go 3 ?_
  refine kfg (decide_eq_false hc2) ?_
  refine go 4 ?_
  refine ktg (decide_eq_true hc3) ?_
  refine go 14 ?_
  exact Nz hsc () Tryz.results31 rfl trivial Za
set_option maxHeartbeats 1000000 in
theorem Ziv(v:Value)(ps:List Zz)(fr to:Int)(hp:∀g∈ps,Gin g)(hb:Me ps=true)(hr:(spF ps≤fr∧fr<to∧to≤spL ps))(hsg:∀g∈ps,SgG g)(hM:∀g∈ps,Lv fr to g=true→MdG fr to g):Cal Tryz.prog 31 #[v,.int .i64 fr,.int .i64 to] [Pq 6 Mj qG v ps] true (G:=Value×List Zz) (fun g=>g.2.map unS=Zuo fr to ps) (fun g=> .tuple #[g.1,.int .i64 (Zr6 fr to ps)]) (fun g=>[Pq 6 Mj qG g.1 g.2]):=by
 refine Zd Tryz.func31 Tryz.ntmps31 fun w0 sc hw hsc=>?_
 obtain⟨-,hl1,hl2⟩:=Dt hb
 refine go 9 ?_
 refine cl 1 [1] (Zvm _ _ hp hb) fun _ _=>?_
 refine go 14 ?_
 refine kf (decide_eq_false O3) ?_
 refine go 8 ?_
 refine kf (decide_eq_false O) ?_
 refine go 3 ?_
 refine kfg (decide_eq_false O) ?_
 refine go 4 ?_
 refine kfg (decide_eq_false O) ?_
 refine go 13 ?_
 refine cl 2 [1] (sm_cut _ _ _ _ hsg hM hl2) fun g hg=>?_
 refine go 7 ?_
 exact Nz hsc _ Tryz.results31 rfl hg (Mm 2 Za)
def Ia(f:Nat→Rat):Nat→Rat
 | 0=>0
 | n+1=>Ia f n+f n
theorem Oz(f:Nat→Rat)(n:Nat):Ia f (n+1)=Ia f n+f n:=rfl
theorem Na{f g:Nat→Rat} : ∀n,(∀i,i<n→f i=g i)→Ia f n=Ia g n
 | 0,_=>rfl
 | n+1,h=>by rw [Oz,Oz,Na n fun i hi=>h i O,h n O]
theorem Fq(f:Nat→Rat):∀n,Ia f (n+1)=f 0+Ia (fun i=>f (i+1)) n
 | 0=>by show 0+f 0=f 0+0;grind
 | n+1=>by rw [Oz,Fq f n,Oz];grind
theorem Zje(f g:Nat→Rat):∀n,Ia (fun i=>f i+g i) n=Ia f n+Ia g n
 | 0=>by show(0:Rat)=0+0;grind
 | n+1=>by rw [Oz,Oz,Oz,Zje f g n];grind
theorem Gu(c:Rat)(f:Nat→Rat):∀n,Ia (fun i=>c*f i) n=c*Ia f n
 | 0=>by show(0:Rat)=c*0;grind
 | n+1=>by rw [Oz,Oz,Gu c f n];grind
theorem Zmw(n:Nat):On n 0=1:=by cases n<;>rfl
theorem chz_s(n k:Nat):On (n+1) (k+1)=On n k+On n (k+1):=rfl
theorem Yf9{u w:Rat}(h:u+w=1):∀n,Ia (fun j=>(On n j:Rat)*(u^j*w^(n-j))) (n+1)=1
 | 0=>by
  rw [Fq]
  show((On 0 0:Nat):Rat)*(u^0*w^0)+0=1
  rw [Zmw,Rat.pow_zero,Rat.pow_zero];push_cast;grind
 | n+1=>by
  have ih:=Yf9 h n
  rw [Fq]
  have e1:Ia (fun i=>(On (n+1) (i+1):Rat)*(u^(i+1)*w^(n+1-(i+1)))) (n+1)=Ia (fun i=>u*((On n i:Rat)*(u^i*w^(n-i)))) (n+1)+Ia (fun i=>(On n (i+1):Rat)*(u^(i+1)*w^(n-i))) (n+1):=by
   rw [←Zje]
   refine Na _ fun i hi=>?_
   rw [chz_s,show n+1-(i+1)=n-i by omega,Rat.pow_succ]
   push_cast;grind
  have e2:Ia (fun i=>(On n (i+1):Rat)*(u^(i+1)*w^(n-i))) (n+1)=Ia (fun i=>(On n (i+1):Rat)*(u^(i+1)*w^(n-i))) n:=by
   rw [Oz,Zks n (n+1) O]
   push_cast;grind
  have e3:w*Ia (fun j=>(On n j:Rat)*(u^j*w^(n-j))) (n+1)=w^(n+1)+Ia (fun i=>(On n (i+1):Rat)*(u^(i+1)*w^(n-i))) n:=by
   rw [←Gu,Fq,Zmw]
   congr 1
   ·rw [Nat.sub_zero,Rat.pow_zero,Rat.pow_succ];push_cast;grind
   ·refine Na _ fun i hi=>?_
    rw [show n-i=(n-(i+1))+1 by omega,Rat.pow_succ w]
    grind
  rw [e1,e2,Gu,ih]
  rw [ih]at e3
  rw [Zmw,Rat.pow_zero,Nat.sub_zero]
  push_cast;grind
def Kp(d:Nat)(c:List Int)(j:Nat):Int:=Ye (fun i=>cf c i*(On (d-i) (j-i):Int)) (j+1)
theorem brS_0(d:Nat)(a:Int)(c:List Int):Kp d (a :: c) 0=a:=by
 unfold Kp
 rw [Yk,Kz]
 show 0+a*((On (d-0) (0-0):Nat):Int)=a
 rw [show 0-0=0 from rfl,Zmw];omega
theorem brS_s(d:Nat)(a:Int)(c:List Int)(j:Nat):Kp (d+1) (a :: c) (j+1)=a*(On (d+1) (j+1):Int)+Kp d c j:=by
 unfold Kp
 rw [Lx]
 congr 1
 refine Yh fun i hi=>?_
 rw [show d+1-(i+1)=d-i by omega,show j+1-(i+1)=j-i by omega]
 rfl
theorem Yj7(d j:Nat):Kp d [] j=0:=by
 unfold Kp
 exact(Bn (m:=0) (Nat.zero_le _) fun i _ _=>by rw [show cf [] i=0 from rfl,Int.zero_mul]).trans (Kz _)
theorem bern{u w:Rat}(h:u+w=1):∀(d:Nat) (c:List Int),c.length≤d+1→Ia (fun j=>(Kp d c j:Rat)*(u^j*w^(d-j))) (d+1)=Zb c u
 | d,[],_=>by
  rw [Na (g:=fun _=>0) (d+1) fun i hi=>by rw [Yj7];push_cast;grind]
  show Ia (fun _=>0) (d+1)=0
  have:∀n,Ia (fun _=>0) n=0:=fun n=>by
   induction n with
   | zero=>rfl
   | succ n ih=>rw [Oz,ih];grind
  exact this _
 | 0,[a],_=>by
  rw [Oz,brS_0]
  show 0+(a:Rat)*(u^0*w^0)=(a:Rat)+u*0
  rw [Rat.pow_zero,Rat.pow_zero];grind
 | 0,a :: b :: c,hl=>by simp at hl
 | d+1,a :: c,hl=>by
  have ih:=bern h d c (by simpa using hl)
  have hb:=Yf9 h (d+1)
  rw [Fq]at hb
  rw [Fq,brS_0]
  have e1:Ia (fun i=>(Kp (d+1) (a :: c) (i+1):Rat)*(u^(i+1)*w^(d+1-(i+1)))) (d+1)=(a:Rat)*Ia (fun i=>(On (d+1) (i+1):Rat)*(u^(i+1)*w^(d+1-(i+1)))) (d+1)+u*Ia (fun j=>(Kp d c j:Rat)*(u^j*w^(d-j))) (d+1):=by
   rw [←Gu,←Gu,←Zje]
   refine Na _ fun i hi=>?_
   rw [brS_s,show d+1-(i+1)=d-i by omega,Rat.pow_succ]
   push_cast;grind
  rw [e1,ih]
  show _=(a:Rat)+u*Zb c u
  rw [Zmw]at hb
  push_cast at hb ⊢
  grind
theorem Eh(a:Int):∀(c:List Int) (i:Nat),cf (c.map fun x=>a*x) i=a*cf c i
 | [],i=>by rw [List.map_nil,show cf [] i=0 from rfl,Int.mul_zero]
 | x :: c,0=>rfl
 | x :: c,i+1=>Eh a c i
theorem Ztd(c:List Int)(a b e:Int)(u:Rat):Zb (mk (c.length+1) fun t=>cf c t*a+(if t=0 then e else cf c (t-1)*b)) u=Zb c u*((a:Rat)+(b:Rat)*u)+(e:Rat):=by
 have h:Zb (mk (c.length+1) fun t=>cf c t*a+(if t=0 then e else cf c (t-1)*b)) u=Zb (Nj (c.map fun x=>a*x) (e :: c.map fun x=>b*x)) u:=Pr u _ _ fun i=>by
  rw [Nl,Eh,Ol]
  match i with
  | 0=>rw [if_pos O,if_pos rfl];show cf c 0*a+e=a*cf c 0+e;rw [Int.mul_comm]
  | i+1=>
   show _=a*cf c (i+1)+cf (c.map fun x=>b*x) i
   rw [Eh]
   by_cases hi:i<c.length
   ·rw [if_pos O,if_neg O,Nat.add_sub_cancel,Int.mul_comm,Int.mul_comm (cf c i)]
   ·rw [if_neg O,Yj (p:=c) (i:=i+1) O,Yj (p:=c) (i:=i) O];omega
 rw [h,Yw,Zg]
 show _+((e:Rat)+u*Zb (c.map fun x=>b*x) u)=_
 rw [Zg];grind
theorem Zql(p:List Int)(a b d:Int){t u:Rat}(ht:t*(d:Rat)=(a:Rat)+(b:Rat)*u):∀j,j+1≤p.length→Zb (Md p a b d j) u=(d:Rat)^j*Zb (p.drop (p.length-1-j)) t
 | 0,h=>by
  have e:p.drop (p.length-1-0)=[cf p (p.length-1)]:=by
   rw [Nat.sub_zero,List.drop_eq_getElem_cons O,List.drop_of_length_le O]
   congr 1
   unfold cf;rw [List.getD_eq_getElem?_getD,List.getElem?_eq_getElem O];rfl
  rw [Fw,e,Rat.pow_zero,Qj,Qj];grind
 | j+1,h=>by
  have ih:=Zql p a b d ht j O
  have e:p.drop (p.length-1-(j+1))=cf p (p.length-2-j) :: p.drop (p.length-1-j):=by
   rw [List.drop_eq_getElem_cons O,show p.length-1-(j+1)+1=p.length-1-j by omega]
   congr 1
   unfold cf;rw [List.getD_eq_getElem?_getD,List.getElem?_eq_getElem O]
   show p[p.length-1-(j+1)]=p[p.length-2-j]
   congr 1;omega
  rw [Yac,Ztd,ih,e,←ht]
  show _=(d:Rat)^(j+1)*((cf p (p.length-2-j):Rat)+t*Zb (p.drop (p.length-1-j)) t)
  rw [Rat.pow_succ];push_cast
  rw [Rat.pow_succ]
  generalize (d:Rat)^j=D
  grind
theorem Zi8{p:List Int}(a b d:Int){t u:Rat}(ht:t*(d:Rat)=(a:Rat)+(b:Rat)*u)(h0:p.length≠0):Zb (Lm p a b d) u=(d:Rat)^(p.length-1)*Zb p t:=by
 unfold Lm
 rw [if_neg h0,Pr u (tzl _) _ (fun i=>Ku _ i),Zql p a b d ht (p.length-1) O,Nat.sub_self,List.drop_zero]
def Yfe:List Int→List Int
 | []=>[]
 | a :: p=>a :: 0 :: Yfe p
theorem Zni(x:Rat):∀p:List Int,Zb (Yfe p) x=Zb p (x*x)
 | []=>rfl
 | a :: p=>by
  show(a:Rat)+x*(((0:Int):Rat)+x*Zb (Yfe p) x)=(a:Rat)+x*x*Zb p (x*x)
  rw [Zni x p];push_cast;grind
theorem Zuu:∀(p:List Int) (i:Nat),cf (Yfe p) (2*i)=cf p i
 | [],i=>rfl
 | a :: p,0=>rfl
 | a :: p,i+1=>by
  show cf (0 :: Yfe p) (2*i+1)=cf p i
  exact Zuu p i
theorem sq_nn(x:Rat):0≤x*x:=by
 rcases(show 0≤x∨x≤0 by grind)with h | h
 ·exact Rat.mul_nonneg h h
 ·have:=Rat.mul_nonneg (show 0≤-x by grind) (show 0≤-x by grind)
  grind
theorem Zqk{p q:List Int}(h:∀x:Rat,0≤x→Zb p x=Zb q x)(i:Nat):cf p i=cf q i:=by
 rw [←Zuu p,←Zuu q]
 exact Od (fun x=>by rw [Zni,Zni];exact h _ (sq_nn x)) _
theorem Zen(f:Nat→Int)(x:Rat):∀n,Zb (mk n f) x=Ia (fun j=>(f j:Rat)*x^j) n
 | 0=>rfl
 | n+1=>by rw [Ze5,Zi7,Zen f x n,Yi,Oz]
def NN(p:List Int):Prop:=∀i,0≤cf p i
theorem NN.smul{c:Int}{p:List Int}(hc:0≤c)(h:NN p):NN (p.map fun a=>c*a):=fun i=>by rw [Eh];exact Int.mul_nonneg hc (h i)
theorem NN.add{p q:List Int}(h1:NN p)(h2:NN q):NN (Nj p q):=fun i=>by rw [Nl];exact Int.add_nonneg (h1 i) (h2 i)
theorem NN.lmul{q:List Int}(hq:NN q):∀{p:List Int},NN p→NN (lmul p q)
 | [],_=>fun i=>by show 0≤cf [] i;rw [show cf [] i=0 from rfl];exact Int.le_refl _
 | c :: p,h=>NN.add (NN.smul (h 0) hq) fun i=>by
  match i with
  | 0=>exact Int.le_refl _
  | i+1=>exact NN.lmul hq (p:=p) (fun j=>h (j+1)) i
def lpw(l:List Int):Nat→List Int
 | 0=>[1]
 | k+1=>lmul l (lpw l k)
theorem Znf(l:List Int)(x:Rat):∀k,Zb (lpw l k) x=Zb l x^k
 | 0=>by rw [Rat.pow_zero];show((1:Int):Rat)+x*0=1;push_cast;grind
 | k+1=>by rw [show lpw l (k+1)=lmul l (lpw l k)from rfl,Zq,Znf l x k,Rat.pow_succ,Rat.mul_comm]
theorem NN.lpw{l:List Int}(h:NN l):∀k,NN (lpw l k)
 | 0=>fun i=>by
  show 0≤cf [1] i
  match i with
  | 0=>exact Int.one_nonneg
  | i+1=>exact Int.le_refl _
 | k+1=>NN.lmul (NN.lpw h k) h
theorem NN.two{a b:Int}(ha:0≤a)(hb:0≤b):NN [a,b]:=fun i=>by
 match i with
 | 0=>exact ha
 | 1=>exact hb
 | i+2=>exact Int.le_refl _
def sQ(f:Nat→Int)(W:Nat→List Int):Nat→List Int
 | 0=>[]
 | k+1=>Nj (sQ f W k) ((W k).map fun a=>f k*a)
theorem Ztc(f:Nat→Int)(W:Nat→List Int)(x:Rat):∀k,Zb (sQ f W k) x=Ia (fun i=>(f i:Rat)*Zb (W i) x) k
 | 0=>rfl
 | k+1=>by rw [show sQ f W (k+1)=Nj (sQ f W k) ((W k).map fun a=>f k*a)from rfl,Yw,Ztc f W x k,Zg,Oz]
theorem sQ_le{f g:Nat→Int}{W:Nat→List Int}{B:Int}(hW:∀i,NN (W i)):∀k,(∀i,i<k→((f i).natAbs:Int)≤B*g i)→∀j,((cf (sQ f W k) j).natAbs:Int)≤B*cf (sQ g W k) j
 | 0,_,j=>by show((cf [] j).natAbs:Int)≤B*cf [] j;rw [show cf [] j=0 from rfl];simp
 | k+1,h,j=>by
  have ih:=sQ_le hW k (fun i hi=>h i O) j
  have h1:=h k O
  show((cf (Nj (sQ f W k) ((W k).map fun a=>f k*a)) j).natAbs:Int)≤B*cf (Nj (sQ g W k) ((W k).map fun a=>g k*a)) j
  rw [Nl,Nl,Eh,Eh,Int.mul_add,←Int.mul_assoc]
  have h2:=hW k j
  have h3:((f k*cf (W k) j).natAbs:Int)≤B*g k*cf (W k) j:=by
   rw [Int.natAbs_mul];push_cast
   have e:((cf (W k) j).natAbs:Int)=cf (W k) j:=O
   rw [e]
   exact Int.mul_le_mul_of_nonneg_right h1 h2
  generalize B*g k*cf (W k) j=t at *
  generalize f k*cf (W k) j=s at *
  generalize B*cf (sQ g W k) j=r at *
  omega
theorem Zg7(a b:Rat):∀n:Nat,(a*b)^n=a^n*b^n
 | 0=>by rw [Rat.pow_zero,Rat.pow_zero,Rat.pow_zero];grind
 | n+1=>by rw [Rat.pow_succ,Rat.pow_succ,Rat.pow_succ,Zg7 a b n];grind
theorem Zsn(a:Rat)(m:Nat):∀n:Nat,a^(m+n)=a^m*a^n
 | 0=>by rw [Nat.add_zero,Rat.pow_zero];grind
 | n+1=>by rw [←Nat.add_assoc,Rat.pow_succ,Rat.pow_succ,Zsn a m n];grind
theorem Yga{U V S:Rat}(h:U+V=S)(hS:S≠0){d:Nat}{c:List Int}(hl:c.length≤d+1):Ia (fun j=>(Kp d c j:Rat)*(U^j*V^(d-j))) (d+1)=S^d*Zb c (U/S):=by
 rw [←bern (u:=U/S) (w:=V/S) (by rw [←h];grind) d c hl,←Gu]
 refine Na _ fun j hj=>?_
 have e1:U^j=S^j*(U/S)^j:=by rw [←Zg7];congr 1;grind
 have e2:V^(d-j)=S^(d-j)*(V/S)^(d-j):=by rw [←Zg7];congr 1;grind
 have e3:S^d=S^j*S^(d-j):=by rw [←Zsn];congr 1;omega
 rw [e1,e2,e3];grind
theorem Zyb{U V S:Rat}(h:U+V=S)(hS:S≠0)(d:Nat):Ia (fun j=>(On d j:Rat)*(U^j*V^(d-j))) (d+1)=S^d:=by
 have:=Yf9 (u:=U/S) (w:=V/S) (by rw [←h];grind) d
 rw [←Rat.mul_one (S^d),←this,←Gu]
 refine Na _ fun j hj=>?_
 have e1:U^j=S^j*(U/S)^j:=by rw [←Zg7];congr 1;grind
 have e2:V^(d-j)=S^(d-j)*(V/S)^(d-j):=by rw [←Zg7];congr 1;grind
 have e3:S^d=S^j*S^(d-j):=by rw [←Zsn];congr 1;omega
 rw [e1,e2,e3];grind
theorem Zvz(a b:Int)(x:Rat):Zb [a,b] x=(a:Rat)+(b:Rat)*x:=by
 show(a:Rat)+x*((b:Rat)+x*0)=_;grind
theorem Yc8(n:Nat):(1:Rat)^n=1:=by
 induction n with
 | zero=>rw [Rat.pow_zero]
 | succ n ih=>rw [Rat.pow_succ,ih];grind
theorem Hf(d:Int)(n:Nat):((d^n:Int):Rat)=(d:Rat)^n:=by
 induction n with
 | zero=>rw [Int.pow_zero,Rat.pow_zero];rfl
 | succ n ih=>rw [Int.pow_succ,Rat.pow_succ,←ih];push_cast;rfl
def Wij(a e d:Int)(n i:Nat):List Int:=lmul (lpw [a,e] i) (lpw [d-a,d-e] (n-i))
theorem Wij_nn{a e d:Int}(ha:0≤a)(he:0≤e)(h1:a≤d)(h2:e≤d)(n i:Nat):NN (Wij a e d n i):=NN.lmul (NN.lpw (NN.two O O) _) (NN.lpw (NN.two ha he) _)
theorem Zv1(a e d:Int)(n i:Nat)(x:Rat):Zb (Wij a e d n i) x=((a:Rat)+(e:Rat)*x)^i*(((d-a:Int):Rat)+((d-e:Int):Rat)*x)^(n-i):=by
 unfold Wij;rw [Zq,Znf,Znf,Zvz,Zvz]
theorem Yj9 {c X:List Int} {n m:Nat} (hl:c.length≤n+1) (hX:X.length≤n+1) {a b d B:Int} (ha:0≤a) (hb:0≤b) (hab:a+b≤d) (hd:0<d) (hr:∀t u:Rat,t*(d:Rat)=(a:Rat)+(b:Rat)*u→Zb X u=(d:Rat)^m*Zb c t)
  (hB:∀j,j<n+1→((Kp n c j).natAbs:Int)≤B*(On n j:Int)):∀j,j<n+1→((Kp n X j).natAbs:Int)≤B*d^m*(On n j:Int):=by
 have hdq:(0:Rat)<(d:Rat):=by exact_mod_cast hd
 have hS1:∀x:Rat,0≤x→(x+1)≠0:=fun x hx h=>O4
 have hUV:∀x:Rat,((a:Rat)+((a+b:Int):Rat)*x)+(((d-a:Int):Rat)+((d-(a+b):Int):Rat)*x)=(d:Rat)*(x+1):=fun x=>by push_cast;grind
 have hS2:∀x:Rat,0≤x→(d:Rat)*(x+1)≠0:=fun x hx h=>by
  have:=Rat.mul_pos hdq (show(0:Rat)<x+1 by grind)
  grind
 have hp1:∀x:Rat,0≤x→Zb (sQ (fun i=>(On n i:Int)) (Wij a (a+b) d n) (n+1)) x=Zb (mk (n+1) fun j=>d^n*(On n j:Int)) x:=fun x hx=>by
  rw [Ztc,Zen]
  have e1:=Zyb (hUV x) (hS2 x hx) n
  have e2:=Zyb (U:=x) (V:=1) (S:=x+1) rfl (hS1 x hx) n
  have e3:Ia (fun i=>(((On n i:Nat):Int):Rat)*Zb (Wij a (a+b) d n i) x) (n+1)=((d:Rat)*(x+1))^n:=by
   rw [←e1]
   exact Na _ fun j hj=>by rw [Zv1];push_cast;rfl
  rw [e3,Zg7,←e2,←Gu]
  refine Na _ fun j hj=>?_
  rw [Yc8];push_cast;rw [←Hf];push_cast;grind
 have hp2:∀x:Rat,0≤x→Zb (mk (n+1) fun j=>d^n*Kp n X j) x=Zb ((sQ (Kp n c) (Wij a (a+b) d n) (n+1)).map fun q=>d^m*q) x:=fun x hx=>by
  rw [Zg,Ztc,Zen]
  have e1:=Yga (hUV x) (hS2 x hx) hl
  have e2:=Yga (U:=x) (V:=1) (S:=x+1) rfl (hS1 x hx) hX
  have e3:Ia (fun i=>((Kp n c i:Int):Rat)*Zb (Wij a (a+b) d n i) x) (n+1)=((d:Rat)*(x+1))^n*Zb c (((a:Rat)+((a+b:Int):Rat)*x)/((d:Rat)*(x+1))):=by
   rw [←e1]
   exact Na _ fun j hj=>by rw [Zv1]
  have e4:Ia (fun j=>((d^n*Kp n X j:Int):Rat)*x^j) (n+1)=(d:Rat)^n*Ia (fun j=>(Kp n X j:Rat)*(x^j*1^(n-j))) (n+1):=by
   rw [←Gu]
   refine Na _ fun j hj=>?_
   rw [Yc8,←Hf];push_cast;grind
  rw [e3,e4,e2,hr (((a:Rat)+((a+b:Int):Rat)*x)/((d:Rat)*(x+1))) (x/(x+1)) ?_,Zg7,Hf]
  ·grind
  ·have h1:=hS1 x hx
   have h2:(d:Rat)≠0:=O4
   push_cast
   grind
 have hc1:=Zqk hp1
 have hc2:=Zqk hp2
 intro j hj
 have h1:=hc1 j
 have h2:=hc2 j
 rw [Ol,if_pos hj]at h1 h2
 rw [Eh]at h2
 have h3:=sQ_le (f:=Kp n c) (g:=fun i=>(On n i:Int)) (W:=Wij a (a+b) d n) (B:=B) (Wij_nn ha O O hab n) (n+1) hB j
 rw [h1]at h3
 have hdn:0<d^n:=Int.pow_pos hd
 have hdm:0≤d^m:=Int.le_of_lt (Int.pow_pos hd)
 have h4:((d^n*Kp n X j).natAbs:Int)=d^n*((Kp n X j).natAbs:Int):=by rw [Int.natAbs_mul];push_cast;rw [show((d^n).natAbs:Int)=d^n by omega]
 have h5:((d^m*cf (sQ (Kp n c) (Wij a (a+b) d n) (n+1)) j).natAbs:Int)=d^m*((cf (sQ (Kp n c) (Wij a (a+b) d n) (n+1)) j).natAbs:Int):=by rw [Int.natAbs_mul];push_cast;rw [show((d^m).natAbs:Int)=d^m by omega]
 have h6:=Int.mul_le_mul_of_nonneg_left h3 hdm
 rw [←h5,←h2,h4]at h6
 refine Int.le_of_mul_le_mul_left (a:=d^n) ?_ hdn
 refine Int.le_trans h6 (Int.le_of_eq ?_)
 generalize d^n=p
 generalize d^m=q
 generalize (On n j:Int)=r
 grind
theorem Ygs:∀n,n<6→∀j,j<n+1→∀k,k<j+1→(On n j:Int)*w60 n j k=60*(On (n-k) (j-k):Int):=O7
theorem Zdd(f:Nat→Int)(a:Int):∀m,Ye (fun k=>a*f k) m=a*Ye f m
 | 0=>by show(0:Int)=a*0;omega
 | m+1=>by rw [Yk,Yk,Zdd f a m,Int.mul_add]
theorem Yjk{c:List Int}(hl:1≤c.length∧c.length≤6){j:Nat}(hj:j<c.length):(On (c.length-1) j:Int)*ctl c j (j+1)=60*Kp (c.length-1) c j:=by
 unfold ctl Kp
 rw [←Zdd,←Zdd]
 refine Yh fun k hk=>?_
 have:=Ygs (c.length-1) O j O k O
 show(On (c.length-1) j:Int)*(cf c k*w60 (c.length-1) j k)=60*(cf c k*_)
 rw [Int.mul_left_comm,this,Int.mul_left_comm]
theorem Yfv{n j:Nat}(h:j<n+1):(0:Int)<(On n j:Int):=by have:=Zia (n:=n) (k:=j) O;omega
theorem Zx6{c:List Int}(hl:1≤c.length∧c.length≤6){ov:Int} : Zkx c ov=true↔∀j,j<c.length→((Kp (c.length-1) c j).natAbs:Int)≤1048576*ov*(On (c.length-1) j:Int):=by
 have key:∀j,j<c.length→((((ctl c j (j+1)).natAbs:Int)≤62914560*ov)↔((Kp (c.length-1) c j).natAbs:Int)≤1048576*ov*(On (c.length-1) j:Int)):=fun j hj=>by
  have h1:=Yjk hl hj
  have h2:=Yfv (n:=c.length-1) (j:=j) O
  have h3:=congrArg Int.natAbs h1
  rw [Int.natAbs_mul,Int.natAbs_mul,Int.natAbs_natCast]at h3
  generalize (ctl c j (j+1)).natAbs=x at *
  generalize (Kp (c.length-1) c j).natAbs=y at *
  generalize On (c.length-1) j=q at *
  have h4:(q:Int)*(x:Int)=60*(y:Int):=by exact_mod_cast h3
  constructor
  ·intro h
   have h5:=Int.mul_le_mul_of_nonneg_left h (Int.le_of_lt h2)
   rw [h4]at h5
   have h6:(q:Int)*(62914560*ov)=60*(1048576*ov*q):=O4
   omega
  ·intro h
   have h5:60*(y:Int)≤(q:Int)*(62914560*ov):=by
    have h6:(q:Int)*(62914560*ov)=60*(1048576*ov*q):=O4
    omega
   rw [←h4]at h5
   exact Int.le_of_mul_le_mul_left h5 h2
 constructor
 ·intro h j hj
  unfold Zkx at h
  rw [List.all_eq_true]at h
  exact(key j hj).1 (of_decide_eq_true (h j (List.mem_range.2 hj)))
 ·intro h
  exact Zuw fun j hj=>(key j hj).2 (h j hj)
theorem Ot{x b:Int} : ((x.natAbs:Int)≤b)↔(-b≤x∧x≤b):=O
theorem cfb0{M x0:Int}(hM:0≤M)(h0:-(M*1)≤(x0*1)∧(x0*1)≤M*1):(-(2047*M)≤x0∧x0≤2047*M):=O
theorem bre00(c:List Int):Kp 0 c 0=cf c 0*1:=O11
theorem cfb1{M x0 x1:Int}(hM:0≤M)(h0:-(M*1)≤(x0*1)∧(x0*1)≤M*1)(h1:-(M*1)≤(x0*1+x1*1)∧(x0*1+x1*1)≤M*1):(-(2047*M)≤x0∧x0≤2047*M)∧(-(2047*M)≤x1∧x1≤2047*M):=by
 refine⟨⟨?_,?_⟩,⟨?_,?_⟩⟩<;>omega
theorem bre10(c:List Int):Kp 1 c 0=cf c 0*1:=O11
theorem bre11(c:List Int):Kp 1 c 1=cf c 0*1+cf c 1*1:=O11
theorem cfb2{M x0 x1 x2:Int}(hM:0≤M)(h0:-(M*1)≤(x0*1)∧(x0*1)≤M*1)(h1:-(M*2)≤(x0*2+x1*1)∧(x0*2+x1*1)≤M*2)(h2:-(M*1)≤(x0*1+x1*1+x2*1)∧(x0*1+x1*1+x2*1)≤M*1):(-(2047*M)≤x0∧x0≤2047*M)∧(-(2047*M)≤x1∧x1≤2047*M)∧(-(2047*M)≤x2∧x2≤2047*M):=by
 refine⟨⟨?_,?_⟩,⟨?_,?_⟩,⟨?_,?_⟩⟩<;>omega
theorem bre20(c:List Int):Kp 2 c 0=cf c 0*1:=O11
theorem bre21(c:List Int):Kp 2 c 1=cf c 0*2+cf c 1*1:=O11
theorem bre22(c:List Int):Kp 2 c 2=cf c 0*1+cf c 1*1+cf c 2*1:=O11
theorem cfb3{M x0 x1 x2 x3:Int}(hM:0≤M)(h0:-(M*1)≤(x0*1)∧(x0*1)≤M*1)(h1:-(M*3)≤(x0*3+x1*1)∧(x0*3+x1*1)≤M*3)(h2:-(M*3)≤(x0*3+x1*2+x2*1)∧(x0*3+x1*2+x2*1)≤M*3)(h3:-(M*1)≤(x0*1+x1*1+x2*1+x3*1)∧(x0*1+x1*1+x2*1+x3*1)≤M*1):(-(2047*M)≤x0∧x0≤2047*M)∧(-(2047*M)≤x1∧x1≤2047*M)∧(-(2047*M)≤x2∧x2≤2047*M)∧(-(2047*M)≤x3∧x3≤2047*M):=by
 refine⟨⟨?_,?_⟩,⟨?_,?_⟩,⟨?_,?_⟩,⟨?_,?_⟩⟩<;>omega
theorem bre30(c:List Int):Kp 3 c 0=cf c 0*1:=O11
theorem bre31(c:List Int):Kp 3 c 1=cf c 0*3+cf c 1*1:=O11
theorem bre32(c:List Int):Kp 3 c 2=cf c 0*3+cf c 1*2+cf c 2*1:=O11
theorem bre33(c:List Int):Kp 3 c 3=cf c 0*1+cf c 1*1+cf c 2*1+cf c 3*1:=O11
theorem cfb4{M x0 x1 x2 x3 x4:Int}(hM:0≤M)(h0:-(M*1)≤(x0*1)∧(x0*1)≤M*1)(h1:-(M*4)≤(x0*4+x1*1)∧(x0*4+x1*1)≤M*4)(h2:-(M*6)≤(x0*6+x1*3+x2*1)∧(x0*6+x1*3+x2*1)≤M*6)(h3:-(M*4)≤(x0*4+x1*3+x2*2+x3*1)∧(x0*4+x1*3+x2*2+x3*1)≤M*4)(h4:-(M*1)≤(x0*1+x1*1+x2*1+x3*1+x4*1)∧(x0*1+x1*1+x2*1+x3*1+x4*1)≤M*1):(-(2047*M)≤x0∧x0≤2047*M)∧(-(2047*M)≤x1∧x1≤2047*M)∧(-(2047*M)≤x2∧x2≤2047*M)∧(-(2047*M)≤x3∧x3≤2047*M)∧(-(2047*M)≤x4∧x4≤2047*M):=by
 refine⟨⟨?_,?_⟩,⟨?_,?_⟩,⟨?_,?_⟩,⟨?_,?_⟩,⟨?_,?_⟩⟩<;>omega
theorem bre40(c:List Int):Kp 4 c 0=cf c 0*1:=O11
theorem bre41(c:List Int):Kp 4 c 1=cf c 0*4+cf c 1*1:=O11
theorem bre42(c:List Int):Kp 4 c 2=cf c 0*6+cf c 1*3+cf c 2*1:=O11
theorem bre43(c:List Int):Kp 4 c 3=cf c 0*4+cf c 1*3+cf c 2*2+cf c 3*1:=O11
theorem bre44(c:List Int):Kp 4 c 4=cf c 0*1+cf c 1*1+cf c 2*1+cf c 3*1+cf c 4*1:=O11
theorem cfb5{M x0 x1 x2 x3 x4 x5:Int}(hM:0≤M)(h0:-(M*1)≤(x0*1)∧(x0*1)≤M*1)(h1:-(M*5)≤(x0*5+x1*1)∧(x0*5+x1*1)≤M*5)(h2:-(M*10)≤(x0*10+x1*4+x2*1)∧(x0*10+x1*4+x2*1)≤M*10)(h3:-(M*10)≤(x0*10+x1*6+x2*3+x3*1)∧(x0*10+x1*6+x2*3+x3*1)≤M*10)(h4:-(M*5)≤(x0*5+x1*4+x2*3+x3*2+x4*1)∧(x0*5+x1*4+x2*3+x3*2+x4*1)≤M*5)(h5:-(M*1)≤(x0*1+x1*1+x2*1+x3*1+x4*1+x5*1)∧(x0*1+x1*1+x2*1+x3*1+x4*1+x5*1)≤M*1):(-(2047*M)≤x0∧x0≤2047*M)∧(-(2047*M)≤x1∧x1≤2047*M)∧(-(2047*M)≤x2∧x2≤2047*M)∧(-(2047*M)≤x3∧x3≤2047*M)∧(-(2047*M)≤x4∧x4≤2047*M)∧(-(2047*M)≤x5∧x5≤2047*M):=by
 refine⟨⟨?_,?_⟩,⟨?_,?_⟩,⟨?_,?_⟩,⟨?_,?_⟩,⟨?_,?_⟩,⟨?_,?_⟩⟩<;>omega
theorem bre50(c:List Int):Kp 5 c 0=cf c 0*1:=O11
theorem bre51(c:List Int):Kp 5 c 1=cf c 0*5+cf c 1*1:=O11
theorem bre52(c:List Int):Kp 5 c 2=cf c 0*10+cf c 1*4+cf c 2*1:=O11
theorem bre53(c:List Int):Kp 5 c 3=cf c 0*10+cf c 1*6+cf c 2*3+cf c 3*1:=O11
theorem bre54(c:List Int):Kp 5 c 4=cf c 0*5+cf c 1*4+cf c 2*3+cf c 3*2+cf c 4*1:=O11
theorem bre55(c:List Int):Kp 5 c 5=cf c 0*1+cf c 1*1+cf c 2*1+cf c 3*1+cf c 4*1+cf c 5*1:=O11
theorem cf_brS{n:Nat}(hn:n<6){c:List Int}(hl:c.length≤n+1){M:Int}(h:∀j,j<n+1→((Kp n c j).natAbs:Int)≤M*(On n j:Int))(k:Nat):((cf c k).natAbs:Int)≤2047*M:=by
 have hM:0≤M:=by
  have h0:=h 0 O
  rw [Zmw]at h0;omega
 by_cases hk:k<n+1
 ·rw [Ot]
  match n,hn with
  | 0,_=>
   have h0:=Ot.1 (h 0 O3)
   rw [bre00,show(On 0 0:Int)=1 from rfl]at h0
   have key:=cfb0 hM h0
   obtain rfl:k=0:=O
   exact key
  | 1,_=>
   have h0:=Ot.1 (h 0 O3)
   rw [bre10,show(On 1 0:Int)=1 from rfl]at h0
   have h1:=Ot.1 (h 1 O3)
   rw [bre11,show(On 1 1:Int)=1 from rfl]at h1
   have key:=cfb1 hM h0 h1
   rcases(show k=0∨k=1 by omega)with rfl | rfl
   ·exact key.1
   ·exact key.2
  | 2,_=>
   have h0:=Ot.1 (h 0 O3)
   rw [bre20,show(On 2 0:Int)=1 from rfl]at h0
   have h1:=Ot.1 (h 1 O3)
   rw [bre21,show(On 2 1:Int)=2 from rfl]at h1
   have h2:=Ot.1 (h 2 O3)
   rw [bre22,show(On 2 2:Int)=1 from rfl]at h2
   have key:=cfb2 hM h0 h1 h2
   rcases(show k=0∨k=1∨k=2 by omega)with rfl | rfl | rfl
   ·exact key.1
   ·exact key.2.1
   ·exact key.2.2
  | 3,_=>
   have h0:=Ot.1 (h 0 O3)
   rw [bre30,show(On 3 0:Int)=1 from rfl]at h0
   have h1:=Ot.1 (h 1 O3)
   rw [bre31,show(On 3 1:Int)=3 from rfl]at h1
   have h2:=Ot.1 (h 2 O3)
   rw [bre32,show(On 3 2:Int)=3 from rfl]at h2
   have h3:=Ot.1 (h 3 O3)
   rw [bre33,show(On 3 3:Int)=1 from rfl]at h3
   have key:=cfb3 hM h0 h1 h2 h3
   rcases(show k=0∨k=1∨k=2∨k=3 by omega)with rfl | rfl | rfl | rfl
   ·exact key.1
   ·exact key.2.1
   ·exact key.2.2.1
   ·exact key.2.2.2
  | 4,_=>
   have h0:=Ot.1 (h 0 O3)
   rw [bre40,show(On 4 0:Int)=1 from rfl]at h0
   have h1:=Ot.1 (h 1 O3)
   rw [bre41,show(On 4 1:Int)=4 from rfl]at h1
   have h2:=Ot.1 (h 2 O3)
   rw [bre42,show(On 4 2:Int)=6 from rfl]at h2
   have h3:=Ot.1 (h 3 O3)
   rw [bre43,show(On 4 3:Int)=4 from rfl]at h3
   have h4:=Ot.1 (h 4 O3)
   rw [bre44,show(On 4 4:Int)=1 from rfl]at h4
   have key:=cfb4 hM h0 h1 h2 h3 h4
   rcases(show k=0∨k=1∨k=2∨k=3∨k=4 by omega)with rfl | rfl | rfl | rfl | rfl
   ·exact key.1
   ·exact key.2.1
   ·exact key.2.2.1
   ·exact key.2.2.2.1
   ·exact key.2.2.2.2
  | 5,_=>
   have h0:=Ot.1 (h 0 O3)
   rw [bre50,show(On 5 0:Int)=1 from rfl]at h0
   have h1:=Ot.1 (h 1 O3)
   rw [bre51,show(On 5 1:Int)=5 from rfl]at h1
   have h2:=Ot.1 (h 2 O3)
   rw [bre52,show(On 5 2:Int)=10 from rfl]at h2
   have h3:=Ot.1 (h 3 O3)
   rw [bre53,show(On 5 3:Int)=10 from rfl]at h3
   have h4:=Ot.1 (h 4 O3)
   rw [bre54,show(On 5 4:Int)=5 from rfl]at h4
   have h5:=Ot.1 (h 5 O3)
   rw [bre55,show(On 5 5:Int)=1 from rfl]at h5
   have key:=cfb5 hM h0 h1 h2 h3 h4 h5
   rcases(show k=0∨k=1∨k=2∨k=3∨k=4∨k=5 by omega)with rfl | rfl | rfl | rfl | rfl | rfl
   ·exact key.1
   ·exact key.2.1
   ·exact key.2.2.1
   ·exact key.2.2.2.1
   ·exact key.2.2.2.2.1
   ·exact key.2.2.2.2.2
 ·rw [Yj O];simp;omega
structure AxC (c:List Int) (ov:Int):Prop where
 l:1≤c.length∧c.length≤6
 t:¬(1<c.length∧c.getD (c.length-1) 0=0)
 b:∀j,j<c.length→((Kp (c.length-1) c j).natAbs:Int)≤1048576*ov*(On (c.length-1) j:Int)
theorem AxC.of{c:List Int}{ov:Int}(h:axB c ov=true):AxC c ov:=by
 unfold axB at h
 simp only [Bool.and_eq_true,Bool.not_eq_true',Bool.and_eq_false_iff,decide_eq_true_eq,decide_eq_false_iff_not]at h
 have hl:1≤c.length∧c.length≤6:=⟨h.1.1.1,h.1.1.2⟩
 exact⟨hl,fun h9=>by rcases h.1.2 with h8 | h8;exact h8 h9.1;exact h8 h9.2,(Zx6 hl).1 h.2⟩
theorem AxC.to{c:List Int}{ov:Int}(h:AxC c ov):axB c ov=true:=Zyj h.l.1 h.l.2 h.t ((Zx6 h.l).2 h.b)
theorem tzl_nz{c:List Int}(hz:c.getD (c.length-1) 0≠0):tzl c=c:=Aq (.inr hz)
theorem ax_tzl{c:List Int}{ov:Int}(h:AxC c ov):(tzl c=c)∨c=[0]:=by
 by_cases hz:c.getD (c.length-1) 0=0
 ·have hl:c.length=1:=by
   have h1:=h.l
   have h2:=h.t
   by_cases h3:1<c.length
   ·exact absurd ⟨h3,hz⟩ h2
   ·omega
  right
  match c,hl with
  | [x],_=>simp at hz;rw [hz]
 ·exact .inl (tzl_nz hz)
theorem Zeo{c:List Int}{ov:Int}(h:AxC c ov){a b d:Int}{t u:Rat}(ht:t*(d:Rat)=(a:Rat)+(b:Rat)*u):Zb (Ov c a b d) u=(d:Rat)^5*Zb c t:=by
 unfold Ov
 rw [Az]
 rcases ax_tzl h with e | e
 ·have hl:=h.l
  rw [e,Zi8 a b d ht O,Hf]
  have:(d:Rat)^5=(d:Rat)^(6-c.length)*(d:Rat)^(c.length-1):=by rw [←Zsn];congr 1;omega
  rw [this];grind
 ·subst e
  rw [show tzl [0]=[]from by decide,show Lm [] a b d=[]from rfl]
  show _*(0:Rat)=_*(((0:Int):Rat)+t*0)
  push_cast;grind
theorem Zfb{c:List Int}(a b d:Int):(Ov c a b d).length≤c.length:=Nat.le_trans (Ib _ _) (Nat.le_trans (Zdr _ _ _ _) (Kx c))
theorem Zx5{c:List Int}{ov:Int}(h:AxC c ov){a b d:Int}(ha:0≤a)(hb:0≤b)(hab:a+b≤d)(hd:0<d):∀j,j<c.length→((Kp (c.length-1) (Ov c a b d) j).natAbs:Int)≤1048576*(ov*d^5)*(On (c.length-1) j:Int):=fun j hj=>by
 have hl:=h.l
 have h1:=Zfb (c:=c) a b d
 have:=Yj9 (c:=c) (X:=Ov c a b d) (n:=c.length-1) (m:=5) (B:=1048576*ov) O O ha hb hab hd (fun t u ht=>Zeo h ht) (fun j hj=>h.b j O) j O
 rw [Int.mul_assoc]at this
 rw [Int.mul_assoc]
 rw [Int.mul_assoc,←Int.mul_assoc ov]at this
 exact this
theorem cf_cmp{c:List Int}{ov:Int}(h:AxC c ov){a b d:Int}(ha:0≤a)(hb:0≤b)(hab:a+b≤d)(hd:0<d)(k:Nat):((cf (Ov c a b d) k).natAbs:Int)≤ov*d^5*2146435072:=by
 have hl:=h.l
 have h1:=Zfb (c:=c) a b d
 have:=cf_brS (n:=c.length-1) O (c:=Ov c a b d) O (M:=1048576*(ov*d^5)) (fun j hj=>Zx5 h ha hb hab hd j O) k
 omega
theorem Yb0{g:Zz}(h:seB g=true):AxC g.2.1.2 g.1.2.2∧AxC g.2.2.1.2 g.1.2.2∧AxC g.2.2.2.2 g.1.2.2:=by
 have h':El g.1.1 g.1.2.1 g.1.2.2 g.2.1.2 g.2.2.1.2 g.2.2.2.2=true:=h
 unfold El at h'
 simp only [Bool.and_eq_true]at h'
 exact⟨.of h'.1.1.1.2,.of h'.1.1.2,.of h'.1.2⟩
theorem Yfq{fr to:Int}{g:Zz}(hg:SgG g)(h:Lv fr to g=true):0≤cA fr g-g.1.1∧0<cB to g-cA fr g∧(cA fr g-g.1.1)+(cB to g-cA fr g)≤g.1.2.1-g.1.1∧0<g.1.2.1-g.1.1:=by
 have h1:=of_decide_eq_true h
 have ht1:=hg.t1
 have ht2:=hg.t2
 unfold cA cB at *
 exact⟨O,O,O,O⟩
theorem Ydr{fr to:Int}{g:Zz}(hi:Gin g)(hs:seB g=true)(h:Lv fr to g=true):MdG fr to g:=by
 have hg:SgG g:=Gr hi hs
 obtain⟨a1,a2,a3⟩:=Yb0 hs
 obtain⟨c1,c2,c3,c4⟩:=Yfq hg h
 obtain⟨b1,b2,-,-⟩:=cut_b hg h
 have ht3:=hg.t3
 have ht1:=hg.t1
 have ho1:=hg.o1
 have ho2:=hg.o2
 have hdd:1≤g.1.2.1-g.1.1∧g.1.2.1-g.1.1≤3600000:=⟨O,O⟩
 have k1:=Zo7 hg.hx hg.lx b1 b2 hdd
 have k2:=Zo7 hg.hy hg.ly b1 b2 hdd
 have k3:=Zo7 hg.hz hg.lz b1 b2 hdd
 have hpos:0<cO g:=Int.mul_pos O (Int.pow_pos O)
 have habs:((cO g).natAbs:Int)=cO g:=O
 have hcf:∀{c:List Int},AxC c g.1.2.2→∀k,(cf (cX fr to g c) k).natAbs≤(cO g).natAbs*2146435072:=fun hc k=>by
  have:=cf_cmp hc c1 (Int.le_of_lt c2) c3 c4 k
  have e:(((cO g).natAbs*2146435072:Nat):Int)=cO g*2146435072:=by rw [Int.natCast_mul,habs];rfl
  refine Int.ofNat_le.1 ?_
  rw [e]
  exact this
 refine⟨hpos,?_,fun i=>?_,fun i=>?_,fun i k=>?_⟩
 ·have h1:bl g.1.2.2.natAbs≤40:=(Xo 40 _).2 O
  have h2:=Zl7 hdd
  have:=Yv g.1.2.2 ((g.1.2.1-g.1.1)^5)
  show bl (g.1.2.2*(g.1.2.1-g.1.1)^5).natAbs≤1000
  omega
 ·exact Zbc (p:=fun l:List Int=>Sz 1000 l) k1.2.2.2.2.2.2.1 k2.2.2.2.2.2.2.1 k3.2.2.2.2.2.2.1
 ·exact Zbc (p:=fun l:List Int=>l.length≤6) k1.2.2.2.2.2.2.2 k2.2.2.2.2.2.2.2 k3.2.2.2.2.2.2.2
 ·exact Zbc (p:=fun l:List Int=>(cf l k).natAbs≤(cO g).natAbs*2146435072) (hcf a1 k) (hcf a2 k) (hcf a3 k)
theorem Yiq{c:List Int}{ov:Int}(h:AxC c ov)(hz:c.getD (c.length-1) 0≠0){a b d:Int}(hb:0<b)(hd:0<d):(Ov c a b d).length=c.length:=by
  have hl:=h.l
  have hle:=Zfb (c:=c) a b d
  rcases Nat.lt_or_ge (Ov c a b d).length c.length with q | q
  · exfalso
    have hbq : (b : Rat) ≠ 0 := by have : (0 : Rat) < (b : Rat) := by exact_mod_cast hb
                                   grind
    have hdq : (d : Rat) ≠ 0 := by have : (0 : Rat) < (d : Rat) := by exact_mod_cast hd
                                   grind
    have hu:∀t:Rat,t*(d:Rat)=(a:Rat)+(b:Rat)*((t*d-a)/b):=fun t=>O4
    by_cases h0:(Ov c a b d).length=0
    · have e0:=List.eq_nil_of_length_eq_zero h0
      have:∀t:Rat,Zb c t=0:=fun t=>by
        have h1:=Zeo h (hu t)
        rw [e0]at h1
        have h2:(d:Rat)^5*Zb c t=0:=h1.symm
        have h3:(d:Rat)^5≠0:=by
          rw [show(d:Rat)^5=d*d*d*d*d by rw [Rat.pow_succ,Rat.pow_succ,Rat.pow_succ,Rat.pow_succ,Rat.pow_succ,Rat.pow_zero];grind]
          grind
        grind
      exact hz (Znj this _)
    · have key:∀t:Rat,Zb ((Lm (Ov c a b d) (-a) d b).map fun q=>1*q) t=Zb (c.map fun q=>b^((Ov c a b d).length-1)*d^5*q) t:=fun t=>by
        rw [Zg,Zg]
        have h1:=Zeo h (hu t)
        have h2:=Zi8 (p:=Ov c a b d) (-a) d b (t:=(t*d-a)/b) (u:=t) (by push_cast;grind) h0
        rw [h2,h1]
        push_cast
        rw [←Hf,←Hf];push_cast;grind
      have h1:=Od key (c.length-1)
      rw [Eh,Eh,Yj (by have:=Zdr (Ov c a b d) (-a) d b;omega)]at h1
      have h2:b^((Ov c a b d).length-1)*d^5≠0:=Int.mul_ne_zero (Int.pow_ne_zero O) (Int.pow_ne_zero O)
      have h3:b^((Ov c a b d).length-1)*d^5*cf c (c.length-1)=0:=O
      rcases Int.mul_eq_zero.1 h3 with q | q
      · exact h2 q
      · exact hz q
  · omega
theorem Zut{X:List Int}{G:Int}(hG:0<G)(hd:∀x∈X,G∣x)(i:Nat):cf (Dj X G) i*G=cf X i:=by
  unfold Dj
  split
  · rename_i h
    rw [List.eq_nil_of_length_eq_zero h]
    match i with
    | 0=>show(0:Int)*G=cf [] 0;rw [Int.zero_mul];rfl
    | i+1=>show(0:Int)*G=cf [] (i+1);rw [Int.zero_mul];rfl
  · rw [Zd0 _ _ O5]
    by_cases hi:i<X.length
    · have:cf X i∈X:=Zf hi
      exact Int.ediv_mul_cancel (hd _ this)
    · rw [Yj O];simp
theorem Yhs{X:List Int}{G:Int}(hG:0<G)(hd:∀x∈X,G∣x)(u:Rat):Zb (Dj X G) u*(G:Rat)=Zb X u:=by
  rw [Rat.mul_comm,←Zg]
  exact Pr u _ _ fun i=>by rw [Eh,Int.mul_comm,Zut hG hd]
theorem Zgw(f g:Nat→Int)(a:Int)(h:∀k,f k*a=g k):∀m,Ye f m*a=Ye g m
  | 0=>Int.zero_mul _
  | m+1=>by rw [Yk,Yk,Int.add_mul,Zgw f g a h m,h]
theorem Yj8{X:List Int}{G:Int}(hG:0<G)(hd:∀x∈X,G∣x)(n j:Nat):Kp n (Dj X G) j*G=Kp n X j:=by
  unfold Kp
  exact Zgw _ _ _ (fun k=>by rw [Int.mul_right_comm,Zut hG hd]) _
theorem Yip(X:List Int)(G:Int):(Dj X G).length=max X.length 1:=by
  unfold Dj;split
  · rename_i h;rw [h];rfl
  · rw [List.length_map];omega
theorem Zu4{c:List Int}{ov:Int}(h:AxC c ov){a b d G o:Int}(ha:0≤a)(hb:0<b)(hab:a+b≤d)(hd:0<d)(hG:0<G)(hv:∀x∈Ov c a b d,G∣x)(ho:o*G=ov*d^5):AxC (Dj (Ov c a b d) G) o∧(Dj (Ov c a b d) G).length=c.length:=by
  have hl:=h.l
  have hlen:(Dj (Ov c a b d) G).length=c.length∧(1<c.length→(Ov c a b d).length=c.length):=by
    rw [Yip]
    by_cases hz:c.getD (c.length-1) 0=0
    · have:=h.t
      have hle:=Zfb (c:=c) a b d
      have h1:c.length=1:=by
        by_cases h3:1<c.length
        · exact absurd ⟨h3,hz⟩ this
        · omega
      exact⟨O,fun h3=>O⟩
    · have:=Yiq h hz (a:=a) hb hd
      exact⟨O,fun _=>this⟩
  refine⟨⟨O,fun⟨h1,h2⟩=>?_,fun j hj=>?_⟩,hlen.1⟩
  · rw [hlen.1]at h1 h2
    have h3:cf (Dj (Ov c a b d) G) (c.length-1)=0:=h2
    have h4:=Zut hG hv (c.length-1)
    rw [h3,Int.zero_mul]at h4
    have h5:=hlen.2 h1
    have ht:Tr (Ov c a b d):=Xi _ _
    have h6:=ht.mem (fun e=>by rw [e]at h5;simp at h5;omega)
    rw [h5]at h6
    exact h6 h4.symm
  · rw [hlen.1]at hj ⊢
    have h1:=Zx5 h ha (Int.le_of_lt hb) hab hd j hj
    rw [←Yj8 hG hv,←ho,Int.natAbs_mul]at h1
    have e1:((G.natAbs:Nat):Int)=G:=O
    push_cast at h1
    rw [e1]at h1
    refine Int.le_of_mul_le_mul_right (a:=G) ?_ hG
    refine Int.le_trans h1 (Int.le_of_eq ?_)
    grind
theorem Zrj{G:Int}(hG:0<G):∀(l:List Int) (o:Int),Nk (G*o) (l.map (G*·))=G*Nk o l
 | [],o=>rfl
 | x :: l,o=>by
  show Nk ((Int.gcd (G*o) (G*x):Nat):Int) (l.map (G*·))=G*Nk ((Int.gcd o x:Nat):Int) l
  rw [Int.gcd_mul_left]
  push_cast
  rw [show((G.natAbs:Nat):Int)=G by omega]
  exact Zrj hG l _
theorem Zkb{X:List Int}{G o:Int}(hG:0<G)(hd:∀x∈X,G∣x)(ho:0≤o):Nk o ((Dj X G).map (G*·))=Nk o X:=by
 unfold Dj
 split
 ·rename_i h
  rw [List.eq_nil_of_length_eq_zero h]
  show((Int.gcd o (G*0):Nat):Int)=o
  rw [Int.mul_zero,Int.gcd_zero_right];omega
 ·congr 1
  rw [List.map_map]
  conv=>rhs;rw [←List.map_id X]
  refine List.map_congr_left fun x hx=>?_
  show G*(x/G)=x
  exact Int.mul_ediv_cancel' (hd x hx)
theorem Yi2{X Y Z:List Int}{o o':Int}(ho:0<o)(hG:0<Gm o X Y Z)(hX:∀x∈X,Gm o X Y Z∣x)(hY:∀x∈Y,Gm o X Y Z∣x)(hZ:∀x∈Z,Gm o X Y Z∣x)(ho':Gm o X Y Z*o'=o) :
  Nk o' (Dj X (Gm o X Y Z) ++ Dj Y (Gm o X Y Z) ++ Dj Z (Gm o X Y Z))=1:=by
 have h1:=Zrj hG (Dj X (Gm o X Y Z) ++ Dj Y (Gm o X Y Z) ++ Dj Z (Gm o X Y Z)) o'
 rw [ho',List.map_append,List.map_append,Im,Im,Zkb hG hX (Int.le_of_lt ho),Zkb hG hY (Zfe _ _ (Int.le_of_lt ho)),Zkb hG hZ (Zfe _ _ (Zfe _ _ (Int.le_of_lt ho)))]at h1
 have h2:Gm o X Y Z=Nk (Nk (Nk o X) Y) Z:=by
  show Nk o (X ++ Y ++ Z)=_
  rw [Im,Im]
 rw [←h2]at h1
 generalize Nk o' _=r at *
 have h3:Gm o X Y Z*r=Gm o X Y Z*1:=O
 exact Int.eq_of_mul_eq_mul_left O h3
structure Prt (q g:Zz) (G:Int):Prop where
 g0:0<G
 a0:0≤q.1.1-g.1.1
 b0:0<q.1.2.1-q.1.1
 ab:(q.1.1-g.1.1)+(q.1.2.1-q.1.1)≤g.1.2.1-g.1.1
 o:q.1.2.2*G=g.1.2.2*(g.1.2.1-g.1.1)^5
 x:∀i (t u:Rat),t*((g.1.2.1-g.1.1:Int):Rat)=((q.1.1-g.1.1:Int):Rat)+((q.1.2.1-q.1.1:Int):Rat)*u→Zb (Zr i q.2.1.2 q.2.2.1.2 q.2.2.2.2) u*(G:Rat)=((g.1.2.1-g.1.1:Int):Rat)^5*Zb (Zr i g.2.1.2 g.2.2.1.2 g.2.2.2.2) t
theorem Zt6{X:List Int}{G:Int}(h:∀k,(X.getD k 0/G).natAbs≤9223372036854775807):∀a∈Dj X G,Qx a:=fun a ha=>by
 unfold Dj at ha
 split at ha
 ·rw [List.mem_singleton.1 ha];exact⟨O3,O3⟩
 ·obtain⟨x,hx,rfl⟩:=List.mem_map.1 ha
  obtain⟨k,hk⟩:=List.mem_iff_getElem?.1 hx
  have:=h k
  rw [List.getD_eq_getElem?_getD,hk]at this
  simp only [Option.getD_some]at this
  exact⟨O,O⟩
theorem Zns{c:List Int}{ov a b d G:Int}{t u:Rat}(hc:AxC c ov)(hG:0<G)(hv:∀x∈Ov c a b d,G∣x)(h:t*(d:Rat)=(a:Rat)+(b:Rat)*u):Zb (Dj (Ov c a b d) G) u*(G:Rat)=(d:Rat)^5*Zb c t:=by
 rw [Yhs hG hv];exact Zeo hc h
theorem Yji{fr to:Int}{g q:Zz}(hi:Gin g)(hs:seB g=true)(hp:Lv fr to g=true)(hk:Zko fr to g=true)(hu:unS q=Zz9 fr to g):Gin q∧seB q=true∧Prt q g (cG fr to g):=by
 have hg:SgG g:=Gr hi hs
 obtain⟨a1,a2,a3⟩:=Yb0 hs
 obtain⟨c1,c2,c3,c4⟩:=Yfq hg hp
 have hM:=Ydr hi hs hp
 obtain⟨g1,⟨o',ho'⟩,g3⟩:=hM.g
 have hG:0<cG fr to g:=g1
 have hd0:∀x∈cX fr to g g.2.1.2,cG fr to g∣x:=g3 0 O3
 have hd1:∀x∈cX fr to g g.2.2.1.2,cG fr to g∣x:=g3 1 O3
 have hd2:∀x∈cX fr to g g.2.2.2.2,cG fr to g∣x:=g3 2 O3
 have hoo:cG fr to g*o'=cO g:=ho'.symm
 have hdiv:cO g/cG fr to g=o':=by rw [←hoo];exact Int.mul_ediv_cancel_left _ O
 have hsm:cO g/cG fr to g≤4294967296:=of_decide_eq_true hk
 have ho0:0<cO g:=hM.o
 have ho1:0<o':=by
  by_cases h:0<o'
  ·exact h
  ·have:=Int.mul_nonpos_of_nonneg_of_nonpos (Int.le_of_lt hG) (show o'≤0 by omega);omega
 have hom:o'*cG fr to g=g.1.2.2*(g.1.2.1-g.1.1)^5:=by rw [Int.mul_comm];exact hoo
 obtain⟨x1,x2⟩:=Zu4 a1 c1 c2 c3 c4 hG hd0 hom
 obtain⟨y1,y2⟩:=Zu4 a2 c1 c2 c3 c4 hG hd1 hom
 obtain⟨z1,z2⟩:=Zu4 a3 c1 c2 c3 c4 hG hd2 hom
 obtain⟨⟨qf,qt,qo⟩,⟨sx,qx⟩,⟨sy,qy⟩,⟨sz,qz⟩⟩:=q
 unfold unS Zz9 at hu
 rw [mdO_t hsm,Zmi hsm,Zmi hsm,Zmi hsm,hdiv]at hu
 injection hu with h1 h2
 injection h1 with hf h1
 injection h1 with ht ho
 injection h2 with hx h2
 injection h2 with hy hz
 dsimp only at hf ht ho hx hy hz
 subst hf ht hx hy hz
 have ho:=ho.symm
 subst ho
 have hfit:=fun i (hi:i<3) k=>hM.fit (i:=i) hsm hi k
 have hc1:=of_decide_eq_true hp
 have ht1:=hg.t1
 have ht3:=hg.t3
 have hix:∀a∈Dj (cX fr to g g.2.1.2) (cG fr to g),Qx a:=Zt6 (hfit 0 O3)
 have hiy:∀a∈Dj (cX fr to g g.2.2.1.2) (cG fr to g),Qx a:=Zt6 (hfit 1 O3)
 have hiz:∀a∈Dj (cX fr to g g.2.2.2.2) (cG fr to g),Qx a:=Zt6 (hfit 2 O3)
 have hle:o'≤4294967296:=hdiv▸hsm
 have hba:0≤cA fr g∧cB to g≤3600000:=by unfold cA cB;exact⟨O,O⟩
 have i1:Qx (cA fr g):=⟨O,O⟩
 have i2:Qx (cB to g):=⟨O,O⟩
 have i3:Qx o':=⟨O,O⟩
 refine⟨⟨i1,i2,i3,hix,hiy,hiz⟩,?_,⟨hG,c1,c2,by show(cA fr g-g.1.1)+(cB to g-cA fr g)≤_;exact c3,hom,fun i t u htu=>?_⟩⟩
 ·show El (cA fr g) (cB to g) o' _ _ _=true
  unfold El Yaz
  simp only [Bool.and_eq_true,decide_eq_true_eq]
  exact⟨⟨⟨⟨⟨⟨⟨⟨O,O⟩,O⟩,O⟩,O⟩,x1.to⟩,y1.to⟩,z1.to⟩,Yi2 ho0 hG hd0 hd1 hd2 hoo⟩
 ·have htu':t*((g.1.2.1-g.1.1:Int):Rat)=((cA fr g-g.1.1:Int):Rat)+((cB to g-cA fr g:Int):Rat)*u:=htu
  clear htu
  have k0:=Zns a1 hG hd0 htu'
  have k1:=Zns a2 hG hd1 htu'
  have k2:=Zns a3 hG hd2 htu'
  dsimp only
  generalize Dj (cX fr to g g.2.1.2) (cG fr to g)=X at *
  generalize Dj (cX fr to g g.2.2.1.2) (cG fr to g)=Y at *
  generalize Dj (cX fr to g g.2.2.2.2) (cG fr to g)=Z at *
  generalize ((cG fr to g:Int):Rat)=GG at *
  generalize ((g.1.2.1-g.1.1:Int):Rat)^5=DD at *
  match i with
  | 0=>exact k0
  | 1=>exact k1
  | i+2=>exact k2
theorem Zwc(c:List Int)(a:Int):∀k,plS c a 1 k=Ye (fun k=>cf c k*a^k) k
  | 0=>rfl
  | k+1=>by
    show plS c a 1 k+plT c a 1 k=_
    rw [Yk,Zwc c a k]
    congr 1
    show c.getD k 0*(a^k*1^_)=cf c k*a^k
    rw [Int.one_pow,Int.mul_one];rfl
theorem Zgb(f:Nat→Int):∀n,((Ye f n:Int):Rat)=Ia (fun i=>(f i:Rat)) n
  | 0=>rfl
  | n+1=>by rw [Yk,Oz,←Zgb f n];push_cast;rfl
theorem Ycx(c:List Int)(a:Int):((pl c a 1:Int):Rat)=Zb c (a:Rat):=by
  unfold pl
  rw [Zwc,Zgb]
  conv=>rhs;rw [←Ze6 c]
  rw [Zen]
  exact Na _ fun i hi=>by rw [←Hf];push_cast;rfl
theorem Zw1{p p' g g' G D:Int}(hG:0<G)(hD:0<D)(h1:g'*G=g*D)(h2:p'*G=p*D):((Int.gcd g' p':Nat):Int)*G=((Int.gcd g p:Nat):Int)*D:=by
  have a1:=Int.gcd_mul_right g' G p'
  have a2:=Int.gcd_mul_right g D p
  rw [h1,h2,a2]at a1
  have e1:((G.natAbs:Nat):Int)=G:=O
  have e2:((D.natAbs:Nat):Int)=D:=O
  have h3:=congrArg (fun n:Nat=>(n:Int)) a1
  push_cast at h3
  rw [e1,e2]at h3
  exact h3.symm
theorem Zh9{p p' g g' G D:Int}(hG:0<G)(hD:0<D)(hg:0<g)(h1:p'*G=p*D)(h2:g'*G=g*D)(hv:g∣p):p'/g'=p/g:=by
  obtain⟨t,rfl⟩:=hv
  have h3:p'*G=(g'*t)*G:=by rw [h1,Int.mul_right_comm g t D,←h2,Int.mul_right_comm]
  have h4:p'=g'*t:=Int.eq_of_mul_eq_mul_right O h3
  have h5:g'≠0:=fun e=>by rw [e,Int.zero_mul]at h2;have:=Int.mul_pos hg hD;omega
  rw [h4,Int.mul_ediv_cancel_left _ h5,Int.mul_ediv_cancel_left _ O]
theorem Zok(o a:Int)(x y z:List Int):∀i j,j≤i→gS o a 1 x y z i∣gS o a 1 x y z j∧∀k,k<j→gS o a 1 x y z i∣pl (Zr k x y z) a 1
  | 0, j, h => by obtain rfl : j = 0 := by omega
                  exact⟨Int.dvd_refl _,fun k hk=>O⟩
  | i+1,j,h=>by
    have h1:gS o a 1 x y z (i+1)∣gS o a 1 x y z i:=Int.gcd_dvd_left ..
    have h2:gS o a 1 x y z (i+1)∣pl (Zr i x y z) a 1:=Int.gcd_dvd_right ..
    by_cases hj:j=i+1
    · subst hj
      obtain⟨h3,h4⟩:=Zok o a x y z i i (Nat.le_refl _)
      exact⟨Int.dvd_refl _,fun k hk=>by
        rcases Nat.lt_succ_iff_lt_or_eq.1 hk with q | q
        · exact Int.dvd_trans h1 (h4 k q)
        · subst q;exact h2⟩
    · obtain⟨h3,h4⟩:=Zok o a x y z i j O
      exact⟨Int.dvd_trans h1 h3,fun k hk=>Int.dvd_trans h1 (h4 k hk)⟩
theorem Prt.pl{q g:Zz}{G:Int}(h:Prt q g G){a a':Int}(ht:a*(g.1.2.1-g.1.1)=(q.1.1-g.1.1)+(q.1.2.1-q.1.1)*a')(i:Nat) :
    Sky.pl (Zr i q.2.1.2 q.2.2.1.2 q.2.2.2.2) a' 1*G=Sky.pl (Zr i g.2.1.2 g.2.2.1.2 g.2.2.2.2) a 1*(g.1.2.1-g.1.1)^5:=by
  have h1:=h.x i (a:Rat) (a':Rat) (by exact_mod_cast ht)
  rw [←Ycx,←Ycx,←Hf]at h1
  have h2:((Sky.pl (Zr i q.2.1.2 q.2.2.1.2 q.2.2.2.2) a' 1*G:Int):Rat)=((Sky.pl (Zr i g.2.1.2 g.2.2.1.2 g.2.2.2.2) a 1*(g.1.2.1-g.1.1)^5:Int):Rat):=by
    rw [Rat.intCast_mul,Rat.intCast_mul,h1,Rat.mul_comm]
  exact_mod_cast h2
theorem Zwn{q g:Zz}{G:Int}(h:Prt q g G)(hg:SgG g){a a':Int}(ha:0≤a∧a≤1)(ht:a*(g.1.2.1-g.1.1)=(q.1.1-g.1.1)+(q.1.2.1-q.1.1)*a') :
  (∀i,i<3→pl (Zr i q.2.1.2 q.2.2.1.2 q.2.2.2.2) a' 1/gS q.1.2.2 a' 1 q.2.1.2 q.2.2.1.2 q.2.2.2.2 3=pl (Zr i g.2.1.2 g.2.2.1.2 g.2.2.2.2) a 1/gS g.1.2.2 a 1 g.2.1.2 g.2.2.1.2 g.2.2.2.2 3)∧
  q.1.2.2*1^5/gS q.1.2.2 a' 1 q.2.1.2 q.2.2.1.2 q.2.2.2.2 3=g.1.2.2*1^5/gS g.1.2.2 a 1 g.2.1.2 g.2.2.1.2 g.2.2.2.2 3:=by
 have hd:0<g.1.2.1-g.1.1:=by have:=h.a0;have:=h.b0;have:=h.ab;omega
 have hD:0<(g.1.2.1-g.1.1)^5:=Int.pow_pos hd
 have hpos:=(Zmo hg (a:=a) (d:=1) ⟨ha.1,O⟩ ⟨O3,O3⟩ 3).1
 have hpl:=fun i=>h.pl ht i
 have hs:∀i,gS q.1.2.2 a' 1 q.2.1.2 q.2.2.1.2 q.2.2.2.2 i*G=gS g.1.2.2 a 1 g.2.1.2 g.2.2.1.2 g.2.2.2.2 i*(g.1.2.1-g.1.1)^5:=by
  intro i
  induction i with
  | zero=>
   show q.1.2.2*1^5*G=g.1.2.2*1^5*_
   rw [Int.one_pow,Int.mul_one,Int.mul_one];exact h.o
  | succ i ih=>
   show((Int.gcd (gS q.1.2.2 a' 1 q.2.1.2 q.2.2.1.2 q.2.2.2.2 i) (pl (Zr i q.2.1.2 q.2.2.1.2 q.2.2.2.2) a' 1):Nat):Int)*G=((Int.gcd (gS g.1.2.2 a 1 g.2.1.2 g.2.2.1.2 g.2.2.2.2 i) (pl (Zr i g.2.1.2 g.2.2.1.2 g.2.2.2.2) a 1):Nat):Int)*_
   exact Zw1 h.g0 hD ih (hpl i)
 obtain⟨d1,d2⟩:=Zok g.1.2.2 a g.2.1.2 g.2.2.1.2 g.2.2.2.2 3 3 (Nat.le_refl _)
 obtain⟨d3,-⟩:=Zok g.1.2.2 a g.2.1.2 g.2.2.1.2 g.2.2.2.2 3 0 O3
 refine⟨fun i hi=>Zh9 h.g0 hD hpos (hpl i) (hs 3) (d2 i hi),Zh9 h.g0 hD hpos ?_ (hs 3) d3⟩
 rw [Int.one_pow,Int.mul_one,Int.mul_one];exact h.o
theorem me_prt{g h q r:Zz}{G K:Int}(hg:SgG g)(hh:SgG h)(pq:Prt q g G)(pr:Prt r h K)(he:q.1.2.1=g.1.2.1)(hb:r.1.1=h.1.1)(hm:meG g h=true):meG q r=true:=by
 obtain⟨q1,q2⟩:=Zwn pq hg (a:=1) (a':=1) ⟨O3,O3⟩ (by rw [he];omega)
 obtain⟨r1,r2⟩:=Zwn pr hh (a:=0) (a':=0) ⟨O3,O3⟩ (by rw [hb];omega)
 unfold meG Zg9 Yb1 at *
 rw [Bool.and_eq_true,decide_eq_true_iff,decide_eq_true_iff]at *
 obtain⟨h0,h1,h2,h3,h4⟩:=hm
 refine⟨by rw [he,hb];exact h0,?_,?_,?_,?_⟩
 ·exact(q1 0 O3).trans (h1.trans (r1 0 O3).symm)
 ·exact(q1 1 O3).trans (h2.trans (r1 1 O3).symm)
 ·exact(q1 2 O3).trans (h3.trans (r1 2 O3).symm)
 ·exact q2.trans (h4.trans r2.symm)
structure Chn (ps:List Zz):Prop where
 lt:∀g∈ps,g.1.1<g.1.2.1
 eq:∀(i:Nat) (g h:Zz),ps[i]? = some g→ps[i+1]? = some h→g.1.2.1=h.1.1
theorem Chn.tail{g:Zz}{r:List Zz}(h:Chn (g :: r)):Chn r:=⟨fun x hx=>h.lt x (List.mem_cons_of_mem _ hx),fun i x y hx hy=>h.eq (i+1) x y hx hy⟩
theorem Chn.ge:∀{r:List Zz} {g:Zz},Chn (g :: r)→∀x∈r,g.1.2.1≤x.1.1
 | [],_,_,_,hx=>nomatch hx
 | h :: r,g,hc,x,hx=>by
  have h1:=hc.eq 0 g h rfl rfl
  rcases List.mem_cons.1 hx with rfl | hx
  ·omega
  ·have:=Chn.ge hc.tail x hx
   have:=hc.lt h O5
   omega
theorem Zon{fr to:Int} : ∀{ps:List Zz},Chn ps→∀(j:Nat) (f f':Zz),(ps.filter (Lv fr to))[j]? = some f→(ps.filter (Lv fr to))[j+1]? = some f'→∃i:Nat,ps[i]? = some f∧ps[i+1]? = some f'
 | [],_,j,f,f',h,_=>by simp at h
 | g :: r,hc,j,f,f',h1,h2=>by
  cases hp:Lv fr to g with
  | false=>
   rw [List.filter_cons_of_neg (by rw [hp];exact Bool.false_ne_true)]at h1 h2
   obtain⟨i,a,b⟩:=Zon hc.tail j f f' h1 h2
   exact⟨i+1,a,b⟩
  | true=>
   rw [List.filter_cons_of_pos hp]at h1 h2
   match j with
   | j+1=>
    obtain⟨i,a,b⟩:=Zon hc.tail j f f' h1 h2
    exact⟨i+1,a,b⟩
   | 0=>
    obtain rfl:g=f:=by simpa using h1
    have h2:(r.filter (Lv fr to))[0]? = some f':=h2
    have hm:f'∈r.filter (Lv fr to):=List.mem_of_getElem? h2
    obtain⟨hm1,hm2⟩:=List.mem_filter.1 hm
    match r,hc,h2,hm1 with
    | h :: r,hc,h2,hm1=>
     have e1:=hc.eq 0 g h rfl rfl
     have l1:=hc.lt h O5
     have c1:=of_decide_eq_true hp
     have c2:=of_decide_eq_true hm2
     have hh:Lv fr to h=true:=by
      refine decide_eq_true ?_
      unfold cA cB at *
      rcases List.mem_cons.1 hm1 with rfl | q
      ·exact c2
      ·have:=Chn.ge hc.tail f' q
       omega
     rw [List.filter_cons_of_pos hh]at h2
     obtain rfl:h=f':=by simpa using h2
     exact⟨0,rfl,rfl⟩
theorem getD_some{α:Type}{l:List α}{i:Nat}{x d:α}(h:l[i]? = some x):l.getD i d=x:=by rw [List.getD_eq_getElem?_getD,h];rfl
theorem Zjl{ps:List Zz}(hi:∀g∈ps,Gin g)(hb:Me ps=true):Chn ps∧(∀g∈ps,seB g=true)∧∀(i:Nat) (g h:Zz),ps[i]? = some g→ps[i+1]? = some h→meG g h=true:=by
 obtain⟨h1,h2,h3⟩:=Dt hb
 have hse:∀g∈ps,seB g=true:=fun g hg=>by
  obtain⟨i,hi',e⟩:=List.mem_iff_getElem.1 hg
  have:=Zag (h1 i hi')
  rw [List.getD_eq_getElem?_getD,List.getElem?_eq_getElem hi',Option.getD_some,e]at this
  exact this
 have hme:∀(i:Nat) (g h:Zz),ps[i]? = some g→ps[i+1]? = some h→meG g h=true:=fun i g h hg hh=>by
  have hlt:=(List.getElem?_eq_some_iff.1 hh).1
  have:=h1 (i+1) hlt
  rw [Zdm (Zag this) O,Nat.add_sub_cancel,getD_some hg,getD_some hh]at this
  exact this
 refine⟨⟨fun g hg=>(Gr (hi g hg) (hse g hg)).t2,fun i g h hg hh=>?_⟩,hse,hme⟩
 have:=hme i g h hg hh
 unfold meG Zg9 at this
 rw [Bool.and_eq_true,decide_eq_true_iff]at this
 exact this.1
structure Pat (fr to:Int) (ps qs:List Zz):Prop where
 gin:∀q∈qs,Gin q
 pb:Me qs=true
 len:qs.length=(ps.filter (Lv fr to)).length
 prt:∀(j:Nat) (q:Zz),qs[j]? = some q→∃f:Zz,(ps.filter (Lv fr to))[j]? = some f∧f∈ps∧Prt q f (cG fr to f)
 nxt:∀(j:Nat) (q r:Zz),qs[j]? = some q→qs[j+1]? = some r→∃(i:Nat) (f h:Zz),ps[i]? = some f∧ps[i+1]? = some h∧Prt q f (cG fr to f)∧Prt r h (cG fr to h)∧q.1.2.1=f.1.2.1∧r.1.1=h.1.1
theorem Yfo{fr to:Int}{ps qs:List Zz}(hi:∀g∈ps,Gin g)(hb:Me ps=true)(hall:Kt fr to ps=true)(hu:qs.map unS=(ps.filter (Lv fr to)).map (Zz9 fr to))(hne:ps.filter (Lv fr to)≠[]):Pat fr to ps qs:=by
 obtain⟨hc,hse,hme⟩:=Zjl hi hb
 have hl:qs.length=(ps.filter (Lv fr to)).length:=by have:=congrArg List.length hu;rwa [List.length_map,List.length_map]at this
 have hq:∀(j:Nat) (q:Zz),qs[j]? = some q→∃f:Zz,(ps.filter (Lv fr to))[j]? = some f∧f∈ps∧Lv fr to f=true∧unS q=Zz9 fr to f∧Gin q∧seB q=true∧Prt q f (cG fr to f):=fun j q hj=>by
  have hlt:=(List.getElem?_eq_some_iff.1 hj).1
  have hf:(ps.filter (Lv fr to))[j]? = some ((ps.filter (Lv fr to))[j]' O):=List.getElem?_eq_getElem O
  generalize (ps.filter (Lv fr to))[j]' O=f at hf
  obtain⟨m1,m2⟩:=List.mem_filter.1 (List.mem_of_getElem? hf)
  have e:=congrArg (fun l:List Ykg=>l[j]?) hu
  simp only [List.getElem?_map,hj,hf,Option.map_some,Option.some.injEq]at e
  have hk:Zko fr to f=true:=List.all_eq_true.1 hall f (List.mem_of_getElem? hf)
  obtain⟨a,b,c⟩:=Yji (hi f m1) (hse f m1) m2 hk e
  exact⟨f,hf,m1,m2,e,a,b,c⟩
 have hn:∀(j:Nat) (q r:Zz),qs[j]? = some q→qs[j+1]? = some r→∃(i:Nat) (f h:Zz),ps[i]? = some f∧ps[i+1]? = some h∧Prt q f (cG fr to f)∧Prt r h (cG fr to h)∧q.1.2.1=f.1.2.1∧r.1.1=h.1.1:=fun j q r hj hr=>by
  obtain⟨f,f1,f2,f3,f4,-,-,f7⟩:=hq j q hj
  obtain⟨h,h1,h2,h3,h4,-,-,h7⟩:=hq (j+1) r hr
  obtain⟨i,i1,i2⟩:=Zon hc j f h f1 h1
  have e1:=hc.eq i f h i1 i2
  have c1:=of_decide_eq_true f3
  have c2:=of_decide_eq_true h3
  have q1:q.1=(cA fr f,cB to f,mdO (cO f) (cG fr to f)):=congrArg Prod.fst f4
  have r1:r.1=(cA fr h,cB to h,mdO (cO h) (cG fr to h)):=congrArg Prod.fst h4
  refine⟨i,f,h,i1,i2,f7,h7,?_,?_⟩
  ·rw [q1];show cB to f=_;unfold cA cB at *;omega
  ·rw [r1];show cA fr h=_;unfold cA cB at *;omega
 have hgin:∀q∈qs,Gin q:=fun q hqm=>by
  obtain⟨j,hj⟩:=List.mem_iff_getElem?.1 hqm
  obtain⟨f,-,-,-,-,h,-⟩:=hq j q hj
  exact h
 have h256:qs.length≤256:=by
  have h1:=List.length_filter_le (Lv fr to) ps
  have h2:=(Dt hb).2.2
  omega
 have h1:1≤qs.length:=by have:=List.length_pos_iff.2 hne;omega
 refine⟨hgin,?_,hl,fun j q hj=>?_,hn⟩
 ·rw [Zey (fun i hilt=>?_),decide_eq_true ⟨h1,h256⟩]
  have hj:qs[i]? = some (qs[i]'hilt):=List.getElem?_eq_getElem hilt
  generalize qs[i]'hilt=q at hj
  obtain⟨f,-,-,-,-,-,hs,-⟩:=hq i q hj
  rcases Nat.eq_zero_or_pos i with h0 | h0
  ·exact Ztm (by rw [getD_some hj];exact hs) h0
  ·rw [Zdm (by rw [getD_some hj];exact hs) h0,getD_some hj]
   have hj':qs[i-1]? = some (qs[i-1]' O):=List.getElem?_eq_getElem O
   generalize qs[i-1]' O=p at hj'
   rw [getD_some hj']
   obtain⟨k,f,h,k1,k2,k3,k4,k5,k6⟩:=hn (i-1) p q hj' (by rw [Nat.sub_add_cancel h0];exact hj)
   have m1:=List.mem_of_getElem? k1
   have m2:=List.mem_of_getElem? k2
   exact me_prt (Gr (hi f m1) (hse f m1)) (Gr (hi h m2) (hse h m2)) k3 k4 k5 k6 (hme k f h k1 k2)
 ·obtain⟨f,f1,f2,-,-,-,-,f7⟩:=hq j q hj
  exact⟨f,f1,f2,f7⟩
theorem Yfp{fr to:Int} : ∀{ps:List Zz},Chn ps→ps≠[]→spF ps≤fr→fr<to→to≤spL ps→ps.filter (Lv fr to)≠[]
 | [],_,h,_,_,_=>absurd rfl h
 | g :: r,hc,_,h1,h2,h3=>by
  have l1:=hc.lt g O5
  have h1:g.1.1≤fr:=h1
  by_cases hp:Lv fr to g=true
  ·rw [List.filter_cons_of_pos hp];exact List.cons_ne_nil _ _
  ·have hp2:¬cA fr g<cB to g:=fun h=>hp (decide_eq_true h)
   have e:g.1.2.1≤fr:=by unfold cA cB at hp2;omega
   rw [List.filter_cons_of_neg hp]
   match r,hc,h3 with
   | [],_,h3=>
    have h3:to≤g.1.2.1:=h3
    omega
   | h :: r,hc,h3=>
    have e1:=hc.eq 0 g h rfl rfl
    refine Yfp hc.tail (List.cons_ne_nil _ _) (by show h.1.1≤fr;omega) h2 ?_
    have:spL (g :: h :: r)=spL (h :: r):=by unfold spL;simp
    rw [←this];exact h3
theorem lim0{e C:Rat}(hC:0<C)(h:∀r:Rat,0<r→r≤1→-(C*r)≤e∧e≤C*r):e=0:=by
 have pos:∀e:Rat,0<e→(∀r:Rat,0<r→r≤1→e≤C*r)→False:=fun e he h=>by
  have hq:0<e/(2*C):=by
   have:0<(2*C)⁻¹:=by rw [Rat.inv_pos];grind
   have:=Rat.mul_pos he this
   grind
  have e1:e/(2*C)*(2*C)=e:=Rat.div_mul_cancel O4
  by_cases h1:e/(2*C)≤1
  ·have:=h _ hq h1
   grind
  ·have:=h 1 O3 O3
   have h2:1<e/(2*C):=O4
   have h3:=Rat.mul_lt_mul_of_pos_right h2 (show(0:Rat)<2*C by grind)
   grind
 rcases(show e=0∨0<e∨0 < -e by grind)with q | q | q
 ·exact q
 ·exact(pos e q fun r h0 h1=>(h r h0 h1).2).elim
 ·exact(pos (-e) q fun r h0 h1=>by have:=(h r h0 h1).1;grind).elim
theorem Zcd{X c:List Int}{G K s:Rat}(hG:0<G)(hK:0<K)(hs:0<s){v:Rat}(h:∀u:Rat,Zb X u*G=K*Zb c (v+s*u))(u:Rat):Zb (ld X) u*G=K*s*Zb (ld c) (v+s*u):=by
 obtain⟨M,hM,h1⟩:=Zcc u (u+1) X
 obtain⟨N,hN,h2⟩:=Zcc (v+s*u) (v+s*(u+1)) c
 have key:Zb (ld X) u*G-K*s*Zb (ld c) (v+s*u)=0:=by
  refine lim0 (C:=G*M+K*(N*(s*s))) (by
   have:=Rat.mul_pos hG hM
   have:=Rat.mul_pos hK (Rat.mul_pos hN (Rat.mul_pos hs hs))
   grind) fun r r0 r1=>?_
  obtain⟨a1,a2⟩:=h1 u (u+r) Rat.le_refl O4 O4
  have hsr:0<s*r:=Rat.mul_pos hs r0
  have hsr1:s*r≤s:=by have:=Rat.mul_le_mul_of_nonneg_left r1 (Rat.le_of_lt hs);grind
  obtain⟨b1,b2⟩:=h2 (v+s*u) (v+s*(u+r)) Rat.le_refl O4 O4
  have e1:=h u
  have e2:=h (u+r)
  generalize Zb (ld X) u=x' at *
  generalize Zb (ld c) (v+s*u)=c' at *
  generalize Zb X u=x0 at *
  generalize Zb X (u+r)=x1 at *
  generalize Zb c (v+s*u)=c0 at *
  generalize Zb c (v+s*(u+r))=c1 at *
  have p1:x1-x0-(u+r-u)*x'≤M*r*r:=O4
  have p2:-(M*r*r)≤x1-x0-(u+r-u)*x':=O4
  have q1:c1-c0-s*r*c'≤N*(s*r)*(s*r):=O4
  have q2:-(N*(s*r)*(s*r))≤c1-c0-s*r*c':=O4
  have p1':=Rat.mul_le_mul_of_nonneg_left p1 (Rat.le_of_lt hG)
  have p2':=Rat.mul_le_mul_of_nonneg_left p2 (Rat.le_of_lt hG)
  have q1':=Rat.mul_le_mul_of_nonneg_left q1 (Rat.le_of_lt hK)
  have q2':=Rat.mul_le_mul_of_nonneg_left q2 (Rat.le_of_lt hK)
  have f1:r*(x'*G-K*s*c')≤r*((G*M+K*(N*(s*s)))*r):=O4
  have f2:r*(-((G*M+K*(N*(s*s)))*r))≤r*(x'*G-K*s*c'):=O4
  exact⟨Rat.le_of_mul_le_mul_left f2 r0,Rat.le_of_mul_le_mul_left f1 r0⟩
 grind
def dR(o:Nat)(c:List Int)(u:Rat):Rat:=Zb (dN o (tzl c)) u
theorem dR1(c:List Int)(u:Rat):dR 1 c u=Zb (ld c) u:=by
 show Zb (Yo (tzl c)) u=_
 rw [Mo];exact Hj (Ng c) u
theorem dR2(c:List Int)(u:Rat):dR 2 c u=Zb (ld (ld c)) u:=by
 show Zb (Yo (Yo (tzl c))) u=_
 rw [Mo];exact Hj (fun x=>dR1 c x) u
theorem spd_sq(o:Nat)(x y z:List Int)(u:Rat):spd o x y z u=dR o x u*dR o x u+dR o y u*dR o y u+dR o z u*dR o z u:=by
 unfold spd
 show Zb (Ct (Ct (Ct [] _) _) _) u=_
 rw [Zi9,Zi9,Zi9,Zv,Zv,Zv]
 show(0:Rat)+dR o x u*dR o x u+dR o y u*dR o y u+dR o z u*dR o z u=_
 grind
theorem Zum{X c:List Int}{G K s v:Rat}(hG:0<G)(hK:0<K)(hs:0<s)(h:∀u:Rat,Zb X u*G=K*Zb c (v+s*u)){o:Nat}(ho:o=1∨o=2)(u:Rat):dR o X u*G=K*s^o*dR o c (v+s*u):=by
 rcases ho with rfl | rfl
 ·rw [dR1,dR1,Zcd hG hK hs h u,Rat.pow_succ,Rat.pow_zero];grind
 ·have h1:=Zcd hG (Rat.mul_pos hK hs) hs (Zcd hG hK hs h) u
  rw [dR2,dR2,h1,Rat.pow_succ,Rat.pow_succ,Rat.pow_zero];grind
theorem Prt.num{q g:Zz}{G:Int}(h:Prt q g G):∃v s:Rat,0≤v∧0<s∧v+s≤1∧s*((g.1.2.1-g.1.1:Int):Rat)=((q.1.2.1-q.1.1:Int):Rat)∧v*((g.1.2.1-g.1.1:Int):Rat)=((q.1.1-g.1.1:Int):Rat)∧(0:Rat)<((g.1.2.1-g.1.1:Int):Rat)∧
  ∀i (u:Rat),Zb (Zr i q.2.1.2 q.2.2.1.2 q.2.2.2.2) u*(G:Rat)=((g.1.2.1-g.1.1:Int):Rat)^5*Zb (Zr i g.2.1.2 g.2.2.1.2 g.2.2.2.2) (v+s*u):=by
 have h1:=h.a0
 have h2:=h.b0
 have h3:=h.ab
 have hx:=h.x
 generalize g.1.2.1-g.1.1=d at *
 generalize q.1.2.1-q.1.1=b at *
 generalize q.1.1-g.1.1=a at *
 have hd:(0:Rat)<(d:Rat):=by exact_mod_cast (show 0<d by omega)
 have ha:(0:Rat)≤(a:Rat):=by exact_mod_cast h1
 have hb:(0:Rat)<(b:Rat):=by exact_mod_cast h2
 have hab:(a:Rat)+(b:Rat)≤(d:Rat):=by exact_mod_cast h3
 have hi:0<(d:Rat)⁻¹:=Rat.inv_pos.2 hd
 have e1:(a:Rat)/d*d=a:=Rat.div_mul_cancel O4
 have e2:(b:Rat)/d*d=b:=Rat.div_mul_cancel O4
 refine⟨(a:Rat)/d,(b:Rat)/d,?_,?_,?_,e2,e1,hd,fun i u=>hx i _ u (by
  have e3:(b:Rat)/d*u*d=((b:Rat)/d*d)*u:=by rw [Rat.mul_assoc,Rat.mul_comm u,←Rat.mul_assoc]
  rw [Rat.add_mul,e1,e3,e2])⟩
 ·rw [Rat.div_def];exact Rat.mul_nonneg ha (Rat.le_of_lt hi)
 ·rw [Rat.div_def];exact Rat.mul_pos hb hi
 ·have:((a:Rat)/d+b/d)*d≤1*d:=by rw [Rat.add_mul,e1,e2];grind
  exact Rat.le_of_mul_le_mul_right this hd
theorem Zwi{q g:Zz}{G m:Int}(hg:SgG g)(hq:SgG q)(h:Prt q g G)(h0:0≤m)(h1:m≤10000){o:Nat}(ho:o=1∨o=2)(hb:Hm (Lr o m g)=false):Hm (Lr o m q)=false:=by
 cases hc:Hm (Lr o m q)with
 | false=>rfl
 | true=>
  exfalso
  obtain⟨u,u0,u1,u2⟩:=(Zw6 hq h0 h1 ho).1 hc
  obtain⟨v,s,v0,s0,vs,e1,e2,d0,hx⟩:=h.num
  have hG:(0:Rat)<(G:Rat):=by exact_mod_cast h.g0
  have hD:(0:Rat)<((g.1.2.1-g.1.1:Int):Rat)^5:=Rat.pow_pos d0
  have ht:Hm (Lr o m g)=true:=(Zw6 hg h0 h1 ho).2 ⟨v+s*u,?_,?_,?_⟩
  ·rw [hb]at ht;cases ht
  ·have:=Rat.mul_nonneg (Rat.le_of_lt s0) u0;grind
  ·have:=Rat.mul_le_mul_of_nonneg_left u1 (Rat.le_of_lt s0);grind
  ·have k0:=Zum hG hD s0 (hx 0) ho u
   have k1:=Zum hG hD s0 (hx 1) ho u
   have k2:=Zum hG hD s0 (hx 2) ho u
   simp only [Zr]at k0 k1 k2
   rw [spd_sq]at u2 ⊢
   have hoq:((q.1.2.2:Int):Rat)*(G:Rat)=((g.1.2.2:Int):Rat)*((g.1.2.1-g.1.1:Int):Rat)^5:=by
    have:=h.o
    rw [←Hf];exact_mod_cast this
   unfold Zhk at u2 ⊢
   rw [Rat.intCast_mul,Rat.intCast_mul,Hf,Hf,Hf,←e1]at u2
   rw [Rat.intCast_mul,Rat.intCast_mul,Hf,Hf,Hf]
   have hso:0<s^o:=Rat.pow_pos s0
   have es:s^(2*o)=s^o*s^o:=by rw [show 2*o=o+o by omega,Zsn]
   rw [Zg7,es]at u2
   generalize (((1000:Int)^(2*o):Int):Rat)=Ki at *
   generalize ((g.1.2.1-g.1.1:Int):Rat)^(2*o)=T2 at *
   generalize ((g.1.2.1-g.1.1:Int):Rat)^5=D at *
   generalize s^o=so at *
   generalize dR o q.2.1.2 u=x' at *
   generalize dR o q.2.2.1.2 u=y' at *
   generalize dR o q.2.2.2.2 u=z' at *
   generalize dR o g.2.1.2 (v+s*u)=x at *
   generalize dR o g.2.2.1.2 (v+s*u)=y at *
   generalize dR o g.2.2.2.2 (v+s*u)=z at *
   generalize ((q.1.2.2:Int):Rat)=ov' at *
   generalize ((g.1.2.2:Int):Rat)=ov at *
   generalize (m:Rat)=mm at *
   generalize (G:Rat)=GG at *
   have hm:=Rat.mul_lt_mul_of_pos_right u2 (Rat.mul_pos hG hG)
   have f1:mm^2*ov'^2*(so*so*T2)*(GG*GG)=(mm^2*ov^2*T2)*((D*so)*(D*so)):=by
    have:ov'^2*(GG*GG)=ov^2*(D*D):=by
     rw [Rat.pow_succ,Rat.pow_succ,Rat.pow_zero,Rat.pow_succ,Rat.pow_succ,Rat.pow_zero]
     have h9:(ov'*GG)*(ov'*GG)=(ov*D)*(ov*D):=by rw [hoq]
     grind
    have h8:mm^2*ov'^2*(so*so*T2)*(GG*GG)=mm^2*(so*so*T2)*(ov'^2*(GG*GG)):=O4
    rw [h8,this];grind
   have f2:Ki*(x'*x'+y'*y'+z'*z')*(GG*GG)=Ki*(x*x+y*y+z*z)*((D*so)*(D*so)):=by
    have g0:(x'*GG)*(x'*GG)=(D*so*x)*(D*so*x):=by rw [k0]
    have g1:(y'*GG)*(y'*GG)=(D*so*y)*(D*so*y):=by rw [k1]
    have g2:(z'*GG)*(z'*GG)=(D*so*z)*(D*so*z):=by rw [k2]
    have h8:Ki*(x'*x'+y'*y'+z'*z')*(GG*GG)=Ki*((x'*GG)*(x'*GG)+(y'*GG)*(y'*GG)+(z'*GG)*(z'*GG)):=O4
    rw [h8,g0,g1,g2];grind
   rw [f1,f2]at hm
   have hp:0<(D*so)*(D*so):=Rat.mul_pos (Rat.mul_pos hD hso) (Rat.mul_pos hD hso)
   exact Rat.lt_of_mul_lt_mul_right hm (Rat.le_of_lt hp)
theorem Zvn(d:List Int):∀k,slS d k=Ye (fun k=>cf d k*((k:Int)+1)) k
 | 0=>rfl
 | k+1=>by
  show slS d k+Xn [d.getD k 0,(k:Int)+1]=_
  rw [Yk,Zvn d k]
  congr 1
  show d.getD k 0*(((k:Int)+1)*1)=cf d k*((k:Int)+1)
  rw [Int.mul_one];rfl
theorem Zsf(c:List Int)(k:Nat):cf (c.drop 1) k=cf c (k+1):=by
 unfold cf
 rw [List.getD_eq_getElem?_getD,List.getD_eq_getElem?_getD,List.getElem?_drop,Nat.add_comm]
theorem Zxe(c:List Int):((enS c:Int):Rat)=Zb (ld c) 1:=by
 unfold enS
 rw [Zvn,Zgb]
 have h:∀x:Rat,Zb (ld c) x=Zb (mk (c.drop 1).length fun k=>cf (c.drop 1) k*((k:Int)+1)) x:=fun x=>Pr x _ _ fun i=>by
  rw [Zb0,Ol]
  split
  ·rw [Zsf]
  ·rw [Yj (p:=c) (by rw [List.length_drop]at *;omega),Int.zero_mul]
 rw [h,Zen]
 exact Na _ fun i hi=>by rw [Yc8];grind
theorem Zyc(c:List Int):((bgS c:Int):Rat)=Zb (ld c) 0:=by
 have h0:∀l:List Int,Zb l 0=((cf l 0:Int):Rat):=fun l=>by
  cases l with
  | nil=>rfl
  | cons a l=>show(a:Rat)+0*Zb l 0=((a:Int):Rat);grind
 rw [h0,Zb0]
 unfold bgS fsS
 split
 ·rename_i h
  rw [List.length_drop]at h
  rw [Yj O,Int.zero_mul]
 ·rw [show((c.drop 1).getD 0 0)=cf c 1 from Zsf c 0];push_cast;grind
theorem Yij{a b a' b' k l:Int}(hk:0<k)(hl:0<l)(hb:0<b)(hb':0<b')(h1:a'*k=a*l)(h2:b'*k=b*l):a'/Nh a' b'=a/Nh a b∧b'/Nh a' b'=b/Nh a b:=by
 unfold Nh
 rw [if_neg O,if_neg O]
 have hg:=Zw1 hk hl h1 h2
 have hpos:(0:Int)<((Int.gcd a b:Nat):Int):=by have:=Int.gcd_pos_of_ne_zero_right a (show b≠0 by omega);omega
 exact⟨Zh9 hk hl hpos h1 hg (Int.gcd_dvd_left ..),Zh9 hk hl hpos h2 hg (Int.gcd_dvd_right ..)⟩
theorem Zu9 {q g:Zz} {G:Int} (hg:SgG g) (hq:SgG q) (h:Prt q g G) (i:Nat) {e e':Int} {u t:Rat} (he':((e':Int):Rat)=Zb (ld (Zr i q.2.1.2 q.2.2.1.2 q.2.2.2.2)) u) (he:((e:Int):Rat)=Zb (ld (Zr i g.2.1.2 g.2.2.1.2 g.2.2.2.2)) t)
  (ht:t*((g.1.2.1-g.1.1:Int):Rat)=((q.1.1-g.1.1:Int):Rat)+((q.1.2.1-q.1.1:Int):Rat)*u) (hb':bl e'.natAbs≤80) (hb:bl e.natAbs≤80) :
  qr e' (Xn [q.1.2.2,q.1.2.1-q.1.1])=qr e (Xn [g.1.2.2,g.1.2.1-g.1.1]):=by
 obtain⟨v,s,v0,s0,vs,e1,e2,d0,hx⟩:=h.num
 have hG:(0:Rat)<(G:Rat):=by exact_mod_cast h.g0
 have hD:(0:Rat)<((g.1.2.1-g.1.1:Int):Rat)^5:=Rat.pow_pos d0
 have hd:0<g.1.2.1-g.1.1:=by have:=h.a0;have:=h.b0;have:=h.ab;omega
 have htv:v+s*u=t:=by
  have:(v+s*u)*((g.1.2.1-g.1.1:Int):Rat)=t*((g.1.2.1-g.1.1:Int):Rat):=by
   have e3:s*u*((g.1.2.1-g.1.1:Int):Rat)=(s*((g.1.2.1-g.1.1:Int):Rat))*u:=by rw [Rat.mul_assoc,Rat.mul_comm u,←Rat.mul_assoc]
   rw [ht,Rat.add_mul,e2,e3,e1]
  have h9:((g.1.2.1-g.1.1:Int):Rat)≠0:=O4
  grind
 have k1:=Zcd hG hD s0 (hx i) u
 rw [htv,←he,←he']at k1
 have k2:e'*(G*(g.1.2.1-g.1.1))=e*((g.1.2.1-g.1.1)^5*(q.1.2.1-q.1.1)):=by
  have:((e'*(G*(g.1.2.1-g.1.1)):Int):Rat)=((e*((g.1.2.1-g.1.1)^5*(q.1.2.1-q.1.1)):Int):Rat):=by
   rw [Rat.intCast_mul,Rat.intCast_mul,Rat.intCast_mul,Rat.intCast_mul,Hf,←Rat.mul_assoc,k1,←e1]
   grind
  exact_mod_cast this
 obtain⟨p1,p2,p3⟩:=Ztj hg
 obtain⟨q1,q2,q3⟩:=Ztj hq
 obtain⟨n1,n2,-⟩:=Ci (Ydc hb p1)
 obtain⟨m1,m2,-⟩:=Ci (Ydc hb' q1)
 unfold qr
 rw [n1,n2,m1,m2]
 have k3:Xn [q.1.2.2,q.1.2.1-q.1.1]*(G*(g.1.2.1-g.1.1))=Xn [g.1.2.2,g.1.2.1-g.1.1]*((g.1.2.1-g.1.1)^5*(q.1.2.1-q.1.1)):=by
  show q.1.2.2*((q.1.2.1-q.1.1)*1)*(G*(g.1.2.1-g.1.1))=g.1.2.2*((g.1.2.1-g.1.1)*1)*((g.1.2.1-g.1.1)^5*(q.1.2.1-q.1.1))
  have:=h.o
  generalize (g.1.2.1-g.1.1)^5=D at *
  have h8:q.1.2.2*((q.1.2.1-q.1.1)*1)*(G*(g.1.2.1-g.1.1))=(q.1.2.2*G)*((q.1.2.1-q.1.1)*(g.1.2.1-g.1.1)):=O4
  rw [h8,this];grind
 obtain⟨l1,l2⟩:=Yij (Int.mul_pos h.g0 hd) (Int.mul_pos (Int.pow_pos hd) h.b0) p3 q3 k2 k3
 rw [l1,l2]
theorem jo_prt{g h q r:Zz}{G K:Int}(hg:SgG g)(hh:SgG h)(hq:SgG q)(hr:SgG r)(pq:Prt q g G)(pr:Prt r h K)(he:q.1.2.1=g.1.2.1)(hb:r.1.1=h.1.1)(hj:joG g h=true):joG q r=true:=by
 have hj':Zhb g.1.1 g.1.2.1 g.1.2.2 g.2.1.2 g.2.2.1.2 g.2.2.2.2 h.1.1 h.1.2.1 h.1.2.2 h.2.1.2 h.2.2.1.2 h.2.2.2.2=true:=hj
 have hjk:∀k,k<3→jqP g.1.1 g.1.2.1 g.1.2.2 g.2.1.2 g.2.2.1.2 g.2.2.2.2 h.1.1 h.1.2.1 h.1.2.2 h.2.1.2 h.2.2.1.2 h.2.2.2.2 k:=fun k hk=>by
  by_cases hc:jqP g.1.1 g.1.2.1 g.1.2.2 g.2.1.2 g.2.2.1.2 g.2.2.2.2 h.1.1 h.1.2.1 h.1.2.2 h.2.1.2 h.2.2.1.2 h.2.2.2.2 k
  ·exact hc
  ·rw [Yix hk hc]at hj';cases hj'
 refine Yiw fun k hk=>?_
 have h1:=hjk k hk
 unfold jqP at *
 have a1:=Zu9 hg hq pq k (u:=1) (t:=1) (Zxe _) (Zxe _) (by rw [he];push_cast;grind) (Yf5 (hq.hc k) (hq.lc k).2) (Yf5 (hg.hc k) (hg.lc k).2)
 have a2:=Zu9 hh hr pr k (u:=0) (t:=0) (Zyc _) (Zyc _) (by rw [hb];push_cast;grind) (Yf6 (hr.hc k)) (Yf6 (hh.hc k))
 rw [a1,a2];exact h1
theorem Zoq{ps:List Zz}{sp ac:Int}(h:fiB ps sp ac=none):∀k,k<ps.length→frB ps sp ac k=0:=fun k hk=>by
 by_cases hc:frB ps sp ac k=0
 ·exact hc
 ·exfalso
  unfold fiB at h
  have h1:=Option.map_eq_none_iff.1 h
  have:=(List.find?_eq_none.1 h1) k (List.mem_range.2 hk)
  simp at this
  exact hc this
theorem Zmq{ps:List Zz}{sp ac:Int}{i:Nat}(h:frB ps sp ac i=0):¬(0<i∧joG (ps.getD (i-1) G0) (ps.getD i G0)=false)∧Hm (Lr 1 sp (ps.getD i G0))=false∧Hm (Lr 2 ac (ps.getD i G0))=false:=by
 unfold frB at h
 split at h
 ·cases h
 ·rename_i h1
  split at h
  ·cases h
  ·rename_i h2
   split at h
   ·cases h
   ·rename_i h3
    exact⟨h1,by simpa using h2,by simpa using h3⟩
theorem Zt9{ps:List Zz}{sp ac:Int}(h:∀k,k<ps.length→frB ps sp ac k=0):fiB ps sp ac=none:=Zrm (Nat.le_refl _) h
theorem fi_prt{fr to sp ac:Int}{ps qs:List Zz}(hi:∀g∈ps,Gin g)(hb:Me ps=true)(hP:Pat fr to ps qs)(hs:1≤sp∧sp≤10000∧1≤ac∧ac≤10000)(h:fiB ps sp ac=none):fiB qs sp ac=none:=by
 have hsg:=Dd hi hb
 have hsq:=Dd hP.gin hP.pb
 have hall:=Zoq h
 have hpos:∀f∈ps,Hm (Lr 1 sp f)=false∧Hm (Lr 2 ac f)=false:=fun f hf=>by
  obtain⟨k,hk,e⟩:=List.mem_iff_getElem.1 hf
  obtain⟨-,b,c⟩:=Zmq (hall k hk)
  rw [List.getD_eq_getElem?_getD,List.getElem?_eq_getElem hk,Option.getD_some,e]at b c
  exact⟨b,c⟩
 refine Zt9 fun j hj=>?_
 have hjq:qs[j]? = some (qs[j]'hj):=List.getElem?_eq_getElem hj
 generalize qs[j]'hj=q at hjq
 have hqm:=List.mem_of_getElem? hjq
 obtain⟨f,-,f2,f3⟩:=hP.prt j q hjq
 obtain⟨n1,n2⟩:=hpos f f2
 refine Zw5 ?_ (by rw [getD_some hjq];exact Zwi (hsg f f2) (hsq q hqm) f3 O O (.inl rfl) n1) (by rw [getD_some hjq];exact Zwi (hsg f f2) (hsq q hqm) f3 O O (.inr rfl) n2)
 rintro⟨h0,hjo⟩
 have hj':qs[j-1]? = some (qs[j-1]' O):=List.getElem?_eq_getElem O
 generalize qs[j-1]' O=p at hj'
 rw [getD_some hjq,getD_some hj']at hjo
 obtain⟨i,f',h',i1,i2,i3,i4,i5,i6⟩:=hP.nxt (j-1) p q hj' (by rw [Nat.sub_add_cancel h0];exact hjq)
 have m1:=List.mem_of_getElem? i1
 have m2:=List.mem_of_getElem? i2
 have hlt:=(List.getElem?_eq_some_iff.1 i2).1
 obtain⟨z,-,-⟩:=Zmq (hall (i+1) hlt)
 rw [Nat.add_sub_cancel,getD_some i1,getD_some i2]at z
 have hjt:joG f' h'=true:=by
  cases hc:joG f' h' with
  | true=>rfl
  | false=>exact absurd ⟨O,hc⟩ z
 rw [jo_prt (hsg f' m1) (hsg h' m2) (hsq p (List.mem_of_getElem? hj')) (hsq q hqm) i3 i4 i5 i6 hjt]at hjo
 cases hjo
theorem Zop{ps:List Zz}(hsg:∀g∈ps,SgG g){sp ac sp' ac':Int}(h0:0≤sp)(h1:0≤ac)(hs:sp≤sp')(ha:ac≤ac')(hs':sp'≤10000)(ha':ac'≤10000)(h:fiB ps sp ac=none):fiB ps sp' ac'=none:=by
 have hall:=Zoq h
 refine Zt9 fun j hj=>?_
 obtain⟨a,b,c⟩:=Zmq (hall j hj)
 have hm:=Zf (d:=G0) hj
 exact Zw5 a (Zgf (hsg _ hm) h0 hs hs' (.inl rfl) b) (Zgf (hsg _ hm) h1 ha ha' (.inr rfl) c)
theorem Zt8{ps:List Zz}{sp ac:Int} : fiB ps sp ac=none↔Fn 1 ps sp=true∧Fn 2 ps ac=true∧Zfd ps=true:=by
 constructor
 ·intro h
  have hall:=Zoq h
  refine⟨Zof fun i hi=>(Zmq (hall i hi)).2.1,Zof fun i hi=>(Zmq (hall i hi)).2.2,Zwx fun k h1 h2=>?_⟩
  cases hc:joG (ps.getD (k-1) G0) (ps.getD k G0)with
  | true=>rfl
  | false=>exact absurd ⟨O,hc⟩ (Zmq (hall k h2)).1
 ·rintro⟨h1,h2,h3⟩
  refine Zt9 fun j hj=>Zw5 ?_ ?_ ?_
  ·rintro⟨h0,hc⟩
   rw [Zwy h0 hj hc]at h3;cases h3
  ·cases hc:Hm (Lr 1 sp (ps.getD j G0))with
   | false=>rfl
   | true=>rw [Zog hj hc]at h1;cases h1
  ·cases hc:Hm (Lr 2 ac (ps.getD j G0))with
   | false=>rfl
   | true=>rw [Zog hj hc]at h2;cases h2
theorem Zvf{ps:List Zz}(hsg:∀g∈ps,SgG g){o:Nat}(ho:o=1∨o=2){m:Int}(h0:0≤m)(h1:m≤10000):Fn o ps m=true↔(Cq o ps:Int)≤m:=by
 obtain⟨a1,a2,a3⟩:=Yaw hsg ho
 constructor
 ·intro h
  by_cases hc:(Cq o ps:Int)≤m
  ·exact hc
  ·have:=a2 m.toNat O
   rw [show((m.toNat:Nat):Int)=m by omega,h]at this;cases this
 ·intro h
  exact Zj7 hsg O h h1 ho (a3 O)
theorem Yec{ps:List Zz}(hsg:∀g∈ps,SgG g){sp ac:Int}(hs:1≤sp∧sp≤10000∧1≤ac∧ac≤10000):((Fi ps).2.2≠0∧fiB ps sp ac≠none)∨((Fi ps).2.2=0∧(fiB ps sp ac=none↔sp≥(Fi ps).1∧ac≥(Fi ps).2.1)):=by
 have k1:=Zvf hsg (.inl rfl) (m:=sp) O hs.2.1
 have k2:=Zvf hsg (.inr rfl) (m:=ac) O hs.2.2.2
 by_cases h:10000<Cq 1 ps∨10000<Cq 2 ps
 ·left
  rw [Zsx h]
  refine⟨O3,fun e=>?_⟩
  obtain⟨a,b,-⟩:=Zt8.1 e
  have:=k1.1 a
  have:=k2.1 b
  omega
 ·cases hj:Zfd ps with
  | false=>
   left
   rw [Zvg O O hj]
   refine⟨O3,fun e=>?_⟩
   rw [(Zt8.1 e).2.2]at hj;cases hj
  | true=>
   right
   rw [Yax O O hj,Zt8,k1,k2]
   exact⟨rfl,⟨fun h=>⟨h.1,h.2.1⟩,fun h=>⟨h.1,h.2,hj⟩⟩⟩
theorem lh_no{ps:List Zz}(hsg:∀g∈ps,SgG g){sp ac:Int}(hs:1≤sp∧sp≤10000∧1≤ac∧ac≤10000)(h:fiB ps sp ac≠none):(Fi ps).2.2≠0∨((Fi ps).2.2=0∧¬sp≥(Fi ps).1)∨((Fi ps).2.2=0∧sp≥(Fi ps).1∧¬ac≥(Fi ps).2.1):=by
 rcases Yec hsg hs with⟨a,_⟩ | ⟨a,b⟩
 ·exact .inl a
 ·right
  by_cases hc:sp≥(Fi ps).1
  ·exact .inr ⟨a,hc,fun hd=>h (b.2 ⟨hc,hd⟩)⟩
  ·exact .inl ⟨a,hc⟩
theorem Ztx{ps:List Zz}(hsg:∀g∈ps,SgG g){sp ac:Int}(hs:1≤sp∧sp≤10000∧1≤ac∧ac≤10000)(h:fiB ps sp ac=none):(Fi ps).2.2=0∧sp≥(Fi ps).1∧ac≥(Fi ps).2.1:=by
 rcases Yec hsg hs with⟨_,b⟩ | ⟨a,b⟩
 ·exact absurd h b
 ·exact⟨a,b.1 h⟩
theorem lh_pat{fr to:Int}{ps qs:List Zz}(hi:∀g∈ps,Gin g)(hb:Me ps=true)(hr:spF ps≤fr∧fr<to∧to≤spL ps)(hca:Kt fr to ps=true)(hu:qs.map unS=Zuo fr to ps):Pat fr to ps qs:=
 Yfo hi hb hca (hu.trans (if_pos hca)) (Yfp (Zjl hi hb).1 (fun e=>by have:=(Dt hb).2.1;rw [e]at this;simp at this) hr.1 hr.2.1 hr.2.2)
theorem Zo4{fr to:Int}{ps:List Zz}(h:Kt fr to ps=true):Zr6 fr to ps=0:=if_pos h
theorem Zo3{fr to:Int}{ps:List Zz}(h:Kt fr to ps=false):Zr6 fr to ps=7:=if_neg (by rw [h];exact Bool.false_ne_true)
theorem Yed{fr to:Int}{ps:List Zz}(hi:∀g∈ps,Gin g)(hb:Me ps=true):∀g∈ps,Lv fr to g=true→MdG fr to g:=fun g hg hc=>Ydr (hi g hg) ((Zjl hi hb).2.1 g hg) hc
theorem Zhx{α:Type}{o:Option α}(h:o≠none):o.isSome=true:=by cases o with
 | none=>exact absurd rfl h
 | some x=>rfl
theorem Gx(mo:Int):¬mo≥0∨(mo≥0∧¬mo≤10000)∨(mo≥0∧mo≤10000):=O
set_option maxHeartbeats 1000000 in
theorem Zt4(v:Value)(ps:List Zz)(sp ac mo tf tt:Int)(hp:∀g∈ps,Gin g)(hf:Zdu ps 3=false):Cal Tryz.prog 8 #[v,.agg #[.int .i64 sp,.int .i64 ac],.int .i64 mo,.int .i64 tf,.int .i64 tt] [Pq 6 Mj qG v ps] false (G:=Unit) (fun _=>True) (fun _=> .bool true) (fun _=>[]):=by
 refine Zd Tryz.func8 Tryz.ntmps8 fun w0 sc hw hsc=>?_
 refine go 2 ?_
 refine Yd (Yg 2) fun bx _=>?_
 refine go 7 ?_
 refine cl 2 [1] (Ba _ ps 3) fun _ _=>?_
 refine dt (Zj (r':= .bool true) (Yp rfl rfl) (congrArg (fun b=>Value.bool (!b)) hf)) ?_
 refine go 15 ?_
 refine cl 2 [] (Nc) fun _ _=>?_
 refine go 5 ?_
 exact Xj hsc () Tryz.results8 rfl trivial Za
set_option maxHeartbeats 1000000 in
theorem Zzx(v:Value)(ps:List Zz)(sp ac mo tf tt:Int)(hp:∀g∈ps,Gin g)(hf:Zdu ps 3=true)(hb:Me ps=false):Cal Tryz.prog 8 #[v,.agg #[.int .i64 sp,.int .i64 ac],.int .i64 mo,.int .i64 tf,.int .i64 tt] [Pq 6 Mj qG v ps] false (G:=Unit) (fun _=>True) (fun _=> .bool true) (fun _=>[]):=by
 refine Zd Tryz.func8 Tryz.ntmps8 fun w0 sc hw hsc=>?_
 refine go 2 ?_
 refine Yd (Yg 2) fun bx _=>?_
 refine go 7 ?_
 refine cl 2 [1] (Ba _ ps 3) fun _ _=>?_
 refine dt (Zj (r':= .bool false) (Yp rfl rfl) (congrArg (fun b=>Value.bool (!b)) hf)) ?_
 refine go 2 ?_
 refine Fl 2 [1] (Lc _ _ hp) fun _ _=>?_
 refine Ly (Zj (r':= .bool true) (Yp rfl rfl) (congrArg (fun b=>Value.bool (!b)) hb)) rfl rfl ?_
 refine go 11 ?_
 refine cl 2 [] (Nc) fun _ _=>?_
 refine go 5 ?_
 exact Xj hsc () Tryz.results8 rfl trivial Za
set_option maxHeartbeats 1000000 in
theorem Zt3(v:Value)(ps:List Zz)(sp ac mo tf tt:Int)(hp:∀g∈ps,Gin g)(hf:Zdu ps 3=true)(hb:Me ps=true)(hl:¬(1≤sp∧sp≤10000∧1≤ac∧ac≤10000)):Cal Tryz.prog 8 #[v,.agg #[.int .i64 sp,.int .i64 ac],.int .i64 mo,.int .i64 tf,.int .i64 tt] [Pq 6 Mj qG v ps] false (G:=Unit) (fun _=>True) (fun _=> .bool true) (fun _=>[]):=by
 refine Zd Tryz.func8 Tryz.ntmps8 fun w0 sc hw hsc=>?_
 refine go 2 ?_
 refine Yd (Yg 2) fun bx _=>?_
 refine go 7 ?_
 refine cl 2 [1] (Ba _ ps 3) fun _ _=>?_
 refine dt (Zj (r':= .bool false) (Yp rfl rfl) (congrArg (fun b=>Value.bool (!b)) hf)) ?_
 refine go 2 ?_
 refine Fl 2 [1] (Lc _ _ hp) fun _ _=>?_
 refine Ly (Zj (r':= .bool false) (Yp rfl rfl) (congrArg (fun b=>Value.bool (!b)) hb)) rfl rfl ?_
 refine go 3 ?_
 refine Fl 2 [] (Ds _ _) fun _ _=>?_
 refine Ly (Zj (r':= .bool true) (Yp rfl rfl) (congrArg (fun b=>Value.bool (!b)) (decide_eq_false hl))) rfl rfl ?_
 refine go 6 ?_
 refine cl 2 [] (Nc) fun _ _=>?_
 refine go 5 ?_
 exact Xj hsc () Tryz.results8 rfl trivial Za
set_option maxHeartbeats 1000000 in
theorem Zt1(v:Value)(ps:List Zz)(sp ac mo tf tt:Int)(hp:∀g∈ps,Gin g)(hf:Zdu ps 3=true)(hb:Me ps=true)(hl:(1≤sp∧sp≤10000∧1≤ac∧ac≤10000))(hfi:fiB ps sp ac≠none)(hr:¬(spF ps≤tf∧tf<tt∧tt≤spL ps)):Cal Tryz.prog 8 #[v,.agg #[.int .i64 sp,.int .i64 ac],.int .i64 mo,.int .i64 tf,.int .i64 tt] [Pq 6 Mj qG v ps] false (G:=Unit) (fun _=>True) (fun _=> .bool true) (fun _=>[]):=by
 refine Zd Tryz.func8 Tryz.ntmps8 fun w0 sc hw hsc=>?_
 have hsg:=Dd hp hb
 refine go 2 ?_
 refine Yd (Yg 2) fun bx _=>?_
 refine go 7 ?_
 refine cl 2 [1] (Ba _ ps 3) fun _ _=>?_
 refine dt (Zj (r':= .bool false) (Yp rfl rfl) (congrArg (fun b=>Value.bool (!b)) hf)) ?_
 refine go 2 ?_
 refine Fl 2 [1] (Lc _ _ hp) fun _ _=>?_
 refine Ly (Zj (r':= .bool false) (Yp rfl rfl) (congrArg (fun b=>Value.bool (!b)) hb)) rfl rfl ?_
 refine go 3 ?_
 refine Fl 2 [] (Ds _ _) fun _ _=>?_
 refine Ly (Zj (r':= .bool false) (Yp rfl rfl) (congrArg (fun b=>Value.bool (!b)) (decide_eq_true hl))) rfl rfl ?_
 refine go 10 ?_
 refine cl 2 [1] (Ko _ _ _ _ hp hb hl) fun _ _=>?_
 refine go 1 ?_
 refine dt (Zj (r':= .bool false) (Zap rfl rfl rfl) (by rw [Zhx hfi];rfl)) ?_
 refine go 9 ?_
 refine cl 2 [1] (Cj _ _ _ _ hp hb hl) fun _ _=>?_
 refine go 2 ?_
 refine kt (Zhx hfi) ?_
 refine go 1 ?_
 refine Yd (Zs 3) fun bx_2 _=>?_
 refine go 9 ?_
 refine kf (decide_eq_false O3) ?_
 refine go 2 ?_
 refine kfg (decide_eq_false O3) ?_
 refine go 4 ?_
 refine Ly (Zj (r':= .bool false) (Zmu rfl rfl rfl Tryz.underlying4) rfl) rfl rfl ?_
 refine go 9 ?_
 refine cl 3 [1] (Zdo _ _ hp hb) fun _ _=>?_
 refine go 3 ?_
 refine Yd (Zs 4) fun bx_3 _=>?_
 refine go 6 ?_
 rcases lh_no hsg hl hfi with hc1 | ⟨hc1,hc2⟩ | ⟨hc1,hc2,hc3⟩
 ·refine go 2 ?_
  refine kf (decide_eq_false hc1) ?_
  refine go 18 ?_
  refine ktg (decide_eq_true hc1) ?_
  refine go 9 ?_
  refine jn (G:=Unit) [0,3,4,6,11] [0,1,2,3,4] (fun _=>[]) (fun _=>[]) (fun _=>True) ?_ ?_
  ·refine go 1 ?_
   rcases Gx mo with hm1 | ⟨hm1,hm2⟩ | ⟨hm1,hm2⟩
   ·refine go 2 ?_
    refine kf (decide_eq_false hm1) ?_
    refine go 11 ?_
    exact Qu () trivial trivial trivial
   ·refine go 2 ?_
    refine kt (decide_eq_true hm1) ?_
    refine go 2 ?_
    refine kfg (decide_eq_false hm2) ?_
    refine go 8 ?_
    exact Qu () trivial trivial trivial
   ·refine go 2 ?_
    refine kt (decide_eq_true hm1) ?_
    refine go 2 ?_
    refine ktg (decide_eq_true hm2) ?_
    refine go 8 ?_
    exact Qu () trivial trivial trivial
  ·rintro _ -
   refine go 5 ?_
   refine cl 4 [1] (Ax _ _ _ _ hp hb hr) fun _ _=>?_
   refine go 11 ?_
   refine kt (decide_eq_true O3) ?_
   refine go 9 ?_
   refine cl 4 [] (Nc) fun _ _=>?_
   refine go 5 ?_
   exact Xj hsc () Tryz.results8 rfl trivial Za
 ·refine go 2 ?_
  refine kt (decide_eq_true hc1) ?_
  refine go 6 ?_
  refine kfg (decide_eq_false hc2) ?_
  refine go 7 ?_
  refine Ly (Zj (r':= .bool false) (Zhd rfl rfl rfl Tryz.underlying4) rfl) rfl rfl ?_
  refine go 3 ?_
  refine kfg (decide_eq_false (fun h=>h hc1)) ?_
  refine go 9 ?_
  refine jn (G:=Unit) [0,3,4,6,11] [0,1,2,3,4] (fun _=>[]) (fun _=>[]) (fun _=>True) ?_ ?_
  ·refine go 1 ?_
   rcases Gx mo with hm1 | ⟨hm1,hm2⟩ | ⟨hm1,hm2⟩
   ·refine go 2 ?_
    refine kf (decide_eq_false hm1) ?_
    refine go 11 ?_
    exact Qu () trivial trivial trivial
   ·refine go 2 ?_
    refine kt (decide_eq_true hm1) ?_
    refine go 2 ?_
    refine kfg (decide_eq_false hm2) ?_
    refine go 8 ?_
    exact Qu () trivial trivial trivial
   ·refine go 2 ?_
    refine kt (decide_eq_true hm1) ?_
    refine go 2 ?_
    refine ktg (decide_eq_true hm2) ?_
    refine go 8 ?_
    exact Qu () trivial trivial trivial
  ·rintro _ -
   refine go 5 ?_
   refine cl 4 [1] (Ax _ _ _ _ hp hb hr) fun _ _=>?_
   refine go 11 ?_
   refine kt (decide_eq_true O3) ?_
   refine go 9 ?_
   refine cl 4 [] (Nc) fun _ _=>?_
   refine go 5 ?_
   exact Xj hsc () Tryz.results8 rfl trivial Za
 ·refine go 2 ?_
  refine kt (decide_eq_true hc1) ?_
  refine go 6 ?_
  refine ktg (decide_eq_true hc2) ?_
  refine go 5 ?_
  refine kfg (decide_eq_false hc3) ?_
  refine go 1 ?_
  refine Ly (Zj (r':= .bool false) (Zhd rfl rfl rfl Tryz.underlying4) rfl) rfl rfl ?_
  refine go 3 ?_
  refine kfg (decide_eq_false (fun h=>h hc1)) ?_
  refine go 9 ?_
  refine jn (G:=Unit) [0,3,4,6,11] [0,1,2,3,4] (fun _=>[]) (fun _=>[]) (fun _=>True) ?_ ?_
  ·refine go 1 ?_
   rcases Gx mo with hm1 | ⟨hm1,hm2⟩ | ⟨hm1,hm2⟩
   ·refine go 2 ?_
    refine kf (decide_eq_false hm1) ?_
    refine go 11 ?_
    exact Qu () trivial trivial trivial
   ·refine go 2 ?_
    refine kt (decide_eq_true hm1) ?_
    refine go 2 ?_
    refine kfg (decide_eq_false hm2) ?_
    refine go 8 ?_
    exact Qu () trivial trivial trivial
   ·refine go 2 ?_
    refine kt (decide_eq_true hm1) ?_
    refine go 2 ?_
    refine ktg (decide_eq_true hm2) ?_
    refine go 8 ?_
    exact Qu () trivial trivial trivial
  ·rintro _ -
   refine go 5 ?_
   refine cl 4 [1] (Ax _ _ _ _ hp hb hr) fun _ _=>?_
   refine go 11 ?_
   refine kt (decide_eq_true O3) ?_
   refine go 9 ?_
   refine cl 4 [] (Nc) fun _ _=>?_
   refine go 5 ?_
   exact Xj hsc () Tryz.results8 rfl trivial Za
set_option maxHeartbeats 1000000 in
theorem Zt2(v:Value)(ps:List Zz)(sp ac mo tf tt:Int)(hp:∀g∈ps,Gin g)(hf:Zdu ps 3=true)(hb:Me ps=true)(hl:(1≤sp∧sp≤10000∧1≤ac∧ac≤10000))(hfi:fiB ps sp ac≠none)(hr:(spF ps≤tf∧tf<tt∧tt≤spL ps)):Cal Tryz.prog 8 #[v,.agg #[.int .i64 sp,.int .i64 ac],.int .i64 mo,.int .i64 tf,.int .i64 tt] [Pq 6 Mj qG v ps] false (G:=Unit) (fun _=>True) (fun _=> .bool true) (fun _=>[]):=by
 refine Zd Tryz.func8 Tryz.ntmps8 fun w0 sc hw hsc=>?_
 have hsg:=Dd hp hb
 refine go 2 ?_
 refine Yd (Yg 2) fun bx _=>?_
 refine go 7 ?_
 refine cl 2 [1] (Ba _ ps 3) fun _ _=>?_
 refine dt (Zj (r':= .bool false) (Yp rfl rfl) (congrArg (fun b=>Value.bool (!b)) hf)) ?_
 refine go 2 ?_
 refine Fl 2 [1] (Lc _ _ hp) fun _ _=>?_
 refine Ly (Zj (r':= .bool false) (Yp rfl rfl) (congrArg (fun b=>Value.bool (!b)) hb)) rfl rfl ?_
 refine go 3 ?_
 refine Fl 2 [] (Ds _ _) fun _ _=>?_
 refine Ly (Zj (r':= .bool false) (Yp rfl rfl) (congrArg (fun b=>Value.bool (!b)) (decide_eq_true hl))) rfl rfl ?_
 refine go 10 ?_
 refine cl 2 [1] (Ko _ _ _ _ hp hb hl) fun _ _=>?_
 refine go 1 ?_
 refine dt (Zj (r':= .bool false) (Zap rfl rfl rfl) (by rw [Zhx hfi];rfl)) ?_
 refine go 9 ?_
 refine cl 2 [1] (Cj _ _ _ _ hp hb hl) fun _ _=>?_
 refine go 2 ?_
 refine kt (Zhx hfi) ?_
 refine go 1 ?_
 refine Yd (Zs 3) fun bx_2 _=>?_
 refine go 9 ?_
 refine kf (decide_eq_false O3) ?_
 refine go 2 ?_
 refine kfg (decide_eq_false O3) ?_
 refine go 4 ?_
 refine Ly (Zj (r':= .bool false) (Zmu rfl rfl rfl Tryz.underlying4) rfl) rfl rfl ?_
 refine go 9 ?_
 refine cl 3 [1] (Zdo _ _ hp hb) fun _ _=>?_
 refine go 3 ?_
 refine Yd (Zs 4) fun bx_3 _=>?_
 refine go 6 ?_
 rcases lh_no hsg hl hfi with hc1 | ⟨hc1,hc2⟩ | ⟨hc1,hc2,hc3⟩
 ·refine go 2 ?_
  refine kf (decide_eq_false hc1) ?_
  refine go 18 ?_
  refine ktg (decide_eq_true hc1) ?_
  refine go 9 ?_
  refine jn (G:=Unit) [0,3,4,6,11] [0,1,2,3,4] (fun _=>[]) (fun _=>[]) (fun _=>True) ?_ ?_
  ·refine go 1 ?_
   rcases Gx mo with hm1 | ⟨hm1,hm2⟩ | ⟨hm1,hm2⟩
   ·refine go 2 ?_
    refine kf (decide_eq_false hm1) ?_
    refine go 11 ?_
    exact Qu () trivial trivial trivial
   ·refine go 2 ?_
    refine kt (decide_eq_true hm1) ?_
    refine go 2 ?_
    refine kfg (decide_eq_false hm2) ?_
    refine go 8 ?_
    exact Qu () trivial trivial trivial
   ·refine go 2 ?_
    refine kt (decide_eq_true hm1) ?_
    refine go 2 ?_
    refine ktg (decide_eq_true hm2) ?_
    refine go 8 ?_
    exact Qu () trivial trivial trivial
  ·rintro _ -
   refine go 5 ?_
   refine cl 5 [1] (Ziv _ _ _ _ hp hb hr hsg (Yed hp hb)) fun g hg=>?_
   refine go 9 ?_
   cases hca:Kt tf tt ps
   ·refine go 2 ?_
    refine kt (decide_eq_true (by rw [Zo3 hca];decide)) ?_
    refine go 9 ?_
    refine cl 5 [] (Nc) fun _ _=>?_
    refine go 5 ?_
    exact Xj hsc () Tryz.results8 rfl trivial Za
   ·refine go 2 ?_
    refine kf (decide_eq_false (by rw [Zo4 hca];decide)) ?_
    refine go 2 ?_
    refine Ly (Zj (r':= .bool true) (Yp rfl rfl) rfl) rfl rfl ?_
    refine go 6 ?_
    refine cl 5 [] (Nc) fun _ _=>?_
    refine go 5 ?_
    exact Xj hsc () Tryz.results8 rfl trivial Za
 ·refine go 2 ?_
  refine kt (decide_eq_true hc1) ?_
  refine go 6 ?_
  refine kfg (decide_eq_false hc2) ?_
  refine go 7 ?_
  refine Ly (Zj (r':= .bool false) (Zhd rfl rfl rfl Tryz.underlying4) rfl) rfl rfl ?_
  refine go 3 ?_
  refine kfg (decide_eq_false (fun h=>h hc1)) ?_
  refine go 9 ?_
  refine jn (G:=Unit) [0,3,4,6,11] [0,1,2,3,4] (fun _=>[]) (fun _=>[]) (fun _=>True) ?_ ?_
  ·refine go 1 ?_
   rcases Gx mo with hm1 | ⟨hm1,hm2⟩ | ⟨hm1,hm2⟩
   ·refine go 2 ?_
    refine kf (decide_eq_false hm1) ?_
    refine go 11 ?_
    exact Qu () trivial trivial trivial
   ·refine go 2 ?_
    refine kt (decide_eq_true hm1) ?_
    refine go 2 ?_
    refine kfg (decide_eq_false hm2) ?_
    refine go 8 ?_
    exact Qu () trivial trivial trivial
   ·refine go 2 ?_
    refine kt (decide_eq_true hm1) ?_
    refine go 2 ?_
    refine ktg (decide_eq_true hm2) ?_
    refine go 8 ?_
    exact Qu () trivial trivial trivial
  ·rintro _ -
   refine go 5 ?_
   refine cl 6 [1] (Ziv _ _ _ _ hp hb hr hsg (Yed hp hb)) fun g_2 hg_2=>?_
   refine go 9 ?_
   cases hca:Kt tf tt ps
   ·refine go 2 ?_
    refine kt (decide_eq_true (by rw [Zo3 hca];decide)) ?_
    refine go 9 ?_
    refine cl 6 [] (Nc) fun _ _=>?_
    refine go 5 ?_
    exact Xj hsc () Tryz.results8 rfl trivial Za
   ·refine go 2 ?_
    refine kf (decide_eq_false (by rw [Zo4 hca];decide)) ?_
    refine go 2 ?_
    refine Ly (Zj (r':= .bool true) (Yp rfl rfl) rfl) rfl rfl ?_
    refine go 6 ?_
    refine cl 6 [] (Nc) fun _ _=>?_
    refine go 5 ?_
    exact Xj hsc () Tryz.results8 rfl trivial Za
 ·refine go 2 ?_
  refine kt (decide_eq_true hc1) ?_
  refine go 6 ?_
  refine ktg (decide_eq_true hc2) ?_
  refine go 5 ?_
  refine kfg (decide_eq_false hc3) ?_
  refine go 1 ?_
  refine Ly (Zj (r':= .bool false) (Zhd rfl rfl rfl Tryz.underlying4) rfl) rfl rfl ?_
  refine go 3 ?_
  refine kfg (decide_eq_false (fun h=>h hc1)) ?_
  refine go 9 ?_
  refine jn (G:=Unit) [0,3,4,6,11] [0,1,2,3,4] (fun _=>[]) (fun _=>[]) (fun _=>True) ?_ ?_
  ·refine go 1 ?_
   rcases Gx mo with hm1 | ⟨hm1,hm2⟩ | ⟨hm1,hm2⟩
   ·refine go 2 ?_
    refine kf (decide_eq_false hm1) ?_
    refine go 11 ?_
    exact Qu () trivial trivial trivial
   ·refine go 2 ?_
    refine kt (decide_eq_true hm1) ?_
    refine go 2 ?_
    refine kfg (decide_eq_false hm2) ?_
    refine go 8 ?_
    exact Qu () trivial trivial trivial
   ·refine go 2 ?_
    refine kt (decide_eq_true hm1) ?_
    refine go 2 ?_
    refine ktg (decide_eq_true hm2) ?_
    refine go 8 ?_
    exact Qu () trivial trivial trivial
  ·rintro _ -
   refine go 5 ?_
   refine cl 7 [1] (Ziv _ _ _ _ hp hb hr hsg (Yed hp hb)) fun g_3 hg_3=>?_
   refine go 9 ?_
   cases hca:Kt tf tt ps
   ·refine go 2 ?_
    refine kt (decide_eq_true (by rw [Zo3 hca];decide)) ?_
    refine go 9 ?_
    refine cl 7 [] (Nc) fun _ _=>?_
    refine go 5 ?_
    exact Xj hsc () Tryz.results8 rfl trivial Za
   ·refine go 2 ?_
    refine kf (decide_eq_false (by rw [Zo4 hca];decide)) ?_
    refine go 2 ?_
    refine Ly (Zj (r':= .bool true) (Yp rfl rfl) rfl) rfl rfl ?_
    refine go 6 ?_
    refine cl 7 [] (Nc) fun _ _=>?_
    refine go 5 ?_
    exact Xj hsc () Tryz.results8 rfl trivial Za
end Go.Sky

