/- Rules, arithmetic and contracts: part 16. No conditions but those that each theorem names. -/
import Derived.Test.YtljmhpopdmadkaaGreatLw14
set_option linter.all false
set_option maxHeartbeats 4000000
namespace Go.Sky
open Go.Proofs.Tryz
open Go.Proofs
set_option synthInstance.maxHeartbeats 0
set_option synthInstance.maxSize 100000
set_option maxRecDepth 20000
set_option maxHeartbeats 4000000
set_option linter.unusedSimpArgs false
def gZ(o:Int)(l:List Int):Nat→Int
 | 0=>o
 | i+1=>(Int.gcd (gZ o l i) (cf l i):Int)
theorem gZ_ok{o:Int}{l:List Int}(ho:0<o)(hb:bl o.natAbs≤200)(hl:∀i,bl (cf l i).natAbs≤200):∀i,0<gZ o l i∧bl (gZ o l i).natAbs≤200
 | 0=>⟨ho,hb⟩
 | i+1=>by
  obtain⟨h1,h2⟩:=gZ_ok ho hb hl i
  have h3:0<Int.gcd (gZ o l i) (cf l i):=Int.gcd_pos_of_ne_zero_left _ O
  have h4:=Zif (gZ o l i) (cf l i)
  have h5:=hl i
  show 0<((Int.gcd _ _:Nat):Int)∧bl ((Int.gcd _ _:Nat):Int).natAbs≤200
  exact⟨O,O⟩
def plC(a d:Int)(x y z:List Int)(t:Nat):Int:=pl (Zr t x y z) a d
theorem Zw3(ov a d:Int)(x y z:List Int):∀i,i≤3→gZ (ov*d^5) (mk 3 (plC a d x y z)) i=gS ov a d x y z i
 | 0,_=>rfl
 | i+1,hi=>by
  show((Int.gcd (gZ _ _ i) (cf _ i):Nat):Int)=((Int.gcd _ _:Nat):Int)
  rw [Zw3 ov a d x y z i O,Ol,if_pos O];rfl
theorem Ycy{fr to ov:Int}{x y z:List Int}(h:Sgo fr to ov x y z){a d:Int}(ha:0≤a∧a≤3600000)(hd:1≤d∧d≤3600000)(i:Nat):bl (cf (mk 3 (plC a d x y z)) i).natAbs≤200:=by
 rw [Ol]
 split
 ·exact Nat.le_trans (Zb2 (h.hc i) ha hd (h.lc i).2) O3
 ·decide
def Zob(o:Int)(l:List Int):List Int:=mk 3 fun t=>cf l t/gZ o l 3
theorem Yik{o:Int}{l:List Int}{t:Nat}(h:t<3):cf (Zob o l) t=cf l t/gZ o l 3:=by unfold Zob;rw [Ol,if_pos h]
theorem Yd0{o:Int}{l:List Int}(h:∀j,bl (cf l j).natAbs≤200)(j:Nat):bl (cf (Zob o l) j).natAbs≤200:=by
 unfold Zob
 rw [Ol]
 split
 ·exact Zya (h j)
 ·decide
theorem Zgh{ov a d:Int}{x y z:List Int}{t:Nat}(h:t<3):cf (Zob (ov*d^5) (mk 3 (plC a d x y z))) t=plC a d x y z t/gS ov a d x y z 3:=by
 rw [Yik h,Zw3 _ _ _ _ _ _ 3 (Nat.le_refl _),Ol,if_pos h]
theorem Yih{g h:Zz}{l1 l2:List Int}(e1:l1=Zob (h.1.2.2*1^5) (mk 3 (plC 0 1 h.2.1.2 h.2.2.1.2 h.2.2.2.2)))(e2:l2=Zob (g.1.2.2*1^5) (mk 3 (plC 1 1 g.2.1.2 g.2.2.1.2 g.2.2.2.2)))(ht:h.1.1=g.1.2.1) :
  decide (cf l1 0=cf l2 0∧cf l1 1=cf l2 1∧cf l1 2=cf l2 2∧h.1.2.2*1^5/gS h.1.2.2 0 1 h.2.1.2 h.2.2.1.2 h.2.2.2.2 3=g.1.2.2*1^5/gS g.1.2.2 1 1 g.2.1.2 g.2.2.1.2 g.2.2.2.2 3)=meG g h:=by
 subst e1
 subst e2
 unfold meG Zg9 Yb1
 rw [decide_eq_true ht.symm,Bool.true_and,Zgh O3,Zgh O3,Zgh O3,Zgh O3,Zgh O3,Zgh O3]
 refine decide_eq_decide.2 ⟨fun⟨a,b,c,d⟩=>⟨a.symm,b.symm,c.symm,d.symm⟩,fun⟨a,b,c,d⟩=>⟨a.symm,b.symm,c.symm,d.symm⟩⟩
theorem me_no{g h:Zz}(ht:h.1.1≠g.1.2.1):meG g h=false:=by unfold meG Zg9;rw [decide_eq_false (fun e=>ht e.symm)];rfl
theorem Yat(ps:List Zz)(i:Nat):seB (ps.getD i G0)=false∨(seB (ps.getD i G0)=true∧i=0)∨(seB (ps.getD i G0)=true∧0<i∧(ps.getD i G0).1.1≠(ps.getD (i-1) G0).1.2.1)∨(seB (ps.getD i G0)=true∧0<i∧(ps.getD i G0).1.1=(ps.getD (i-1) G0).1.2.1):=by
 rcases Zly (ps.getD i G0) i with h | h | h
 ·exact .inl h
 ·exact .inr (.inl h)
 ·by_cases e:(ps.getD i G0).1.1=(ps.getD (i-1) G0).1.2.1
  ·exact .inr (.inr (.inr ⟨h.1,h.2,e⟩))
  ·exact .inr (.inr (.inl ⟨h.1,h.2,e⟩))
theorem gS_d{fr to ov:Int}{x y z:List Int}(h:Sgo fr to ov x y z){a d:Int}(ha:0≤a∧a≤3600000)(hd:1≤d∧d≤3600000):bl (ov*d^5/gS ov a d x y z 3).natAbs≤200:=Zya (Nat.le_trans (Zmo h ha hd 0).2 O3)
theorem Zga(n j:Int)(k:Nat)(hj:j=(k:Int))(hn:Qx n)(hk:k≤5):Cal Tryz.prog 99 #[.int .i64 n,.int .i64 j] [] true (G:=Value) (fun r=>True) (fun r=> .agg #[.bool (decide (n^k<0)),r]) (fun r=>[Hg r (n^k).natAbs]):=by
 refine Zd Tryz.func99 Tryz.ntmps99 fun w0 sc hw hsc=>?_
 have hbn:=Lu hn
 have hpb:=fun k=>Yg7 hbn k
 refine go 2 ?_
 refine Yd (Zs 1) fun bx _=>?_
 refine go 4 ?_
 refine cl 98 [] (Em 1 ⟨O3,O3⟩) fun v _=>?_
 refine Yd (Zs 97) fun bx_2 _=>?_
 refine go 10 ?_
 refine lp (G:=Nat×Value) [0,1,4,5] [0,1] (fun q=>[(6,.int .i64 (q.1:Int))]) (fun q=>[(97,box bx_2 77 #[.bool (decide (n^q.1<0)),q.2]),(98,Hg q.2 (n^q.1).natAbs)]) (fun q=>q.1≤k) (fun q=>k-q.1) (0,_) O1 ⟨rfl,trivial⟩ ⟨by rw [Int.pow_zero];rfl,by rw [Int.pow_zero];rfl,trivial⟩ ?_
 rintro⟨i,vs⟩ hi
 dsimp only at hi
 dsimp only
 have hp1:=hpb i
 refine go 8 ?_
 refine Zc rfl (fun h108=>?_) (fun h108=>?_)
 ·refine go 4 ?_
  refine Xw (fun _=>False) [(0,0),(1,0),(2,1),(3,1),(4,3)] ?_
  refine go 2 ?_
  refine Yx (Zh 2 [] (Em n hn)) fun v_2 _=>?_
  refine Yx (Zh 3 [98,2] (Bt _ _ (n^i) n)) fun v_3 _=>?_
  refine go 9 ⟨O,?_⟩
  refine Yn (Pb 3 98 rfl rfl rfl) ?_
  exact Xb (i+1,v_3) O1 O1 ⟨rfl,trivial⟩ ⟨by rw [Int.pow_succ];rfl,by rw [Int.pow_succ];rfl,trivial⟩
 ·obtain rfl:i=k:=O
  refine go 12 ?_
  exact Xj hsc _ Tryz.results99 rfl trivial (Mm 98 Za)
set_option maxHeartbeats 1000000 in
theorem Ztg(v w:Value)(zs:List (Int×SL))(o:Int)(hl3:zs.length=3)(ho:0<o)(hob:bl o.natAbs≤200)(hzb:∀i,bl (cf (Pw zs) i).natAbs≤200):Cal Tryz.prog 100 #[.agg #[v,.bool (decide (o<0)),w]] [pp v zs,Hg w (o).natAbs] true (G:=Value×List (Int×SL)×Value) (fun r=>Pw r.2.1=Zob o (Pw zs)) (fun r=> .agg #[r.1,.bool (decide (o/(gZ o (Pw zs) 3)<0)),r.2.2]) (fun r=>[pp r.1 r.2.1,Hg r.2.2 (o/(gZ o (Pw zs) 3)).natAbs]):=by
 refine Zd Tryz.func100 Tryz.ntmps100 fun w0 sc hw hsc=>?_
 have hli:=Ij zs
 have hgz:=gZ_ok ho hob hzb
 have hg3:=hgz 3
 refine go 2 ?_
 refine Yd (Yg 3) fun bx _=>?_
 refine Yd (Zs 4) fun bx_2 _=>?_
 refine go 6 ?_
 refine Yd (Zs 97) fun bx_3 _=>?_
 refine go 10 ?_
 refine Ze (Pb 2 98 rfl rfl rfl) ?_
 refine lp (G:=Nat×Value) [1,2,3] [0,1,2,3,4] (fun q=>[(4,.int .i64 (q.1:Int))]) (fun q=>[(97,box bx_3 77 #[.bool (decide (gZ o (Pw zs) q.1<0)),q.2]),(98,Hg q.2 (gZ o (Pw zs) q.1).natAbs)]) (fun q=>q.1≤3) (fun q=>3-q.1) (0,w) O1 ⟨rfl,trivial⟩ ⟨rfl,rfl,trivial⟩ ?_
 rintro⟨i,vs⟩ hi
 dsimp only at hi
 dsimp only
 have hci:=Fd zs i
 have hgi:=hgz i
 have hzi:=hzb i
 refine go 7 ?_
 refine Zc rfl (fun h88=>?_) (fun h88=>?_)
 ·refine go 4 ?_
  refine Xw (fun _=>False) [(0,0),(1,0),(2,0),(3,0),(4,0),(5,0),(6,1),(7,3)] ?_
  refine go 4 ?_
  refine Qe rfl rfl (Qa (Yf (ii:=1) (i:=i) rfl rfl rfl rfl Zi Tryz.underlying45 Tryz.sizeOf77 rfl)) ?_
  refine Qe rfl rfl (Qa (Pj (ii:=1) I0 rfl rfl rfl Zi pI)) ?_
  refine Fm rfl (Pk (n:=5) (r_gcd _ _ (gZ o (Pw zs) i) (zs.getD i I0).1 (by rw [hci];omega)) rfl rfl rfl ⟨rfl,rfl,trivial⟩ Tryz.call42 (Zk 98 rfl rfl rfl (He 1 rfl rfl (Zf) Zw)) rfl hw.h) (fun v _=>?_)
  refine go 9 ⟨O,?_⟩
  refine Yn (Pb 5 98 rfl rfl rfl) ?_
  exact Xb (i+1,v) O1 O1 ⟨rfl,trivial⟩ ⟨by rw [hci];rfl,by rw [hci];rfl,trivial⟩
 ·obtain rfl:i=3:=O
  refine go 7 ?_
  refine Yd (Zs 6) fun bx_4 _=>?_
  refine go 9 ?_
  refine Ze (Np 70 2 77 Zc2) ?_
  refine Ze (Oc qI 71) ?_
  refine lp (G:=Nat×Value×List (Int×SL)) [1,2,3,5] [0,97,98,1,2,3,4] (fun q=>[(6,.int .i64 (q.1:Int))]) (fun q=>[(70,Ma 2 77 Zc2 q.2.1 q.2.2),(71,De qI q.2.2),(6,box bx_4 101 #[q.2.1,.bool false,.slice none 0 0])]) (fun q=>(q.1≤3)∧(Pw q.2.2=mk q.1 (fun t=>cf (Pw zs) t/(gZ o (Pw zs) 3)))∧(q.2.2.length=q.1)) (fun q=>3-q.1) (0,.slice none 0 0,[]) ⟨O1,rfl,rfl⟩ ⟨rfl,trivial⟩ ⟨rfl,rfl,rfl,trivial⟩ ?_
  rintro⟨i,vo,ws⟩ ⟨hi,hz,hzl⟩
  dsimp only at hi hz hzl
  dsimp only
  have hci:=Fd zs i
  have hzi:=hzb i
  refine go 7 ?_
  refine Zc rfl (fun h92=>?_) (fun h92=>?_)
  ·refine go 4 ?_
   refine jn (G:=Value×Nat) [1,2,3,5,6] [0,70,71,6,97,98,1,2,3,4] (fun q=>[(7,.pointer (some ⟨q.2,0,none⟩))]) (fun q=>[(83,Hg q.1 ((zs.getD i I0).1/(gZ o (Pw zs) 3)).natAbs),(95,box q.2 77 #[.bool (decide ((zs.getD i I0).1/(gZ o (Pw zs) 3)<0)),q.1])]) (fun q=>True) ?_ ?_
   ·refine Mq [1,3,97] [13] ?_
    refine Zm (n:=8) [(0,0),(1,0),(2,0),(3,0),(4,0),(5,0)] ?_
    refine go 3 ?_
    refine Qe rfl rfl (stf (Yf (ii:=1) (i:=i) rfl rfl rfl rfl Zi Tryz.underlying45 Tryz.sizeOf77 rfl (show i<zs.length by omega)) ⟨rfl,rfl,rfl,trivial⟩) ?_
    refine Qe rfl rfl (stf (Pj (ii:=1) I0 rfl rfl rfl Zi pI (show i<zs.length by omega)) ⟨rfl,rfl,rfl,trivial⟩) ?_
    refine go 2 ?_
    refine Zk4 (n:=7) 6 10 11 ?_ ?_ ?_
    ·refine Hd rfl (Pk (n:=83) (Zl4 _ _ (zs.getD i I0).1 (gZ o (Pw zs) 3) (by rw [hci];omega) O) rfl rfl rfl ⟨rfl,rfl,trivial⟩ Tryz.call127 (He 1 rfl rfl (Zf) (Zk 98 rfl rfl rfl Zw)) rfl hw.h) (fun g _=>?_)
     refine Zm (n:=4) [(7,0),(8,0),(9,0)] ?_
     refine go 4 ?_
     refine Qq (n:=3) 10 11 ?_ ?_
     ·refine Ny (Oj 95) fun bx_5 ho=>?_
      refine Zm (n:=0) [(11,1),(12,1),(13,3)] ?_
      refine Yx (Oj 99) fun bx_6 ho2=>?_
      refine go 3 ?_
      refine Zy ?_
      exact Qu (_,_) trivial ⟨rfl,trivial⟩ ⟨rfl,rfl,trivial⟩
     ·refine Ny (Oj 99) fun bx_7 ho3=>?_
      refine Zm (n:=0) [(10,1),(12,1),(13,3)] ?_
      refine Yx (Oj 95) fun bx_8 ho4=>?_
      refine go 3 ?_
      refine Zy ?_
      exact Qu (_,_) trivial ⟨rfl,trivial⟩ ⟨rfl,rfl,trivial⟩
    ·refine Ny (Oj 95) fun bx_9 ho5=>?_
     refine Qq (n:=6) 6 11 ?_ ?_
     ·refine Hd rfl (Pk (n:=83) (Zl4 _ _ (zs.getD i I0).1 (gZ o (Pw zs) 3) (by rw [hci];omega) O) rfl rfl rfl ⟨rfl,rfl,trivial⟩ Tryz.call127 (He 1 rfl rfl (Zf) (Zk 98 rfl rfl rfl Zw)) rfl hw.h) (fun g_2 _=>?_)
      refine Zm (n:=0) [(7,0),(8,0),(9,0),(11,1),(12,1),(13,3)] ?_
      refine go 3 ?_
      refine Yx (Oj 99) fun bx_10 ho6=>?_
      refine go 3 ?_
      refine Zy ?_
      exact Qu (_,_) trivial ⟨rfl,trivial⟩ ⟨rfl,rfl,trivial⟩
     ·refine Ny (Oj 99) fun bx_11 ho7=>?_
      refine Zm (n:=0) [(6,1),(7,0),(8,0),(9,0),(12,1),(13,3)] ?_
      refine Fm rfl (Pk (n:=83) (Zl4 _ _ (zs.getD i I0).1 (gZ o (Pw zs) 3) (by rw [hci];omega) O) rfl rfl rfl ⟨rfl,rfl,trivial⟩ Tryz.call127 (He 1 rfl rfl (Zf) (Zk 98 rfl rfl rfl Zw)) rfl hw.h) (fun g_3 _=>?_)
      refine go 6 ?_
      refine Zy ?_
      exact Qu (_,_) trivial ⟨rfl,trivial⟩ ⟨rfl,rfl,trivial⟩
    ·refine Ny (Oj 99) fun bx_12 ho8=>?_
     refine Qq (n:=6) 6 10 ?_ ?_
     ·refine Hd rfl (Pk (n:=83) (Zl4 _ _ (zs.getD i I0).1 (gZ o (Pw zs) 3) (by rw [hci];omega) O) rfl rfl rfl ⟨rfl,rfl,trivial⟩ Tryz.call127 (He 1 rfl rfl (Zf) (Zk 98 rfl rfl rfl Zw)) rfl hw.h) (fun g_4 _=>?_)
      refine Zm (n:=0) [(7,0),(8,0),(9,0),(10,1),(12,1),(13,3)] ?_
      refine go 3 ?_
      refine Yx (Oj 95) fun bx_13 ho9=>?_
      refine go 3 ?_
      refine Zy ?_
      exact Qu (_,_) trivial ⟨rfl,trivial⟩ ⟨rfl,rfl,trivial⟩
     ·refine Ny (Oj 95) fun bx_14 ho10=>?_
      refine Zm (n:=0) [(6,1),(7,0),(8,0),(9,0),(12,1),(13,3)] ?_
      refine Fm rfl (Pk (n:=83) (Zl4 _ _ (zs.getD i I0).1 (gZ o (Pw zs) 3) (by rw [hci];omega) O) rfl rfl rfl ⟨rfl,rfl,trivial⟩ Tryz.call127 (He 1 rfl rfl (Zf) (Zk 98 rfl rfl rfl Zw)) rfl hw.h) (fun g_5 _=>?_)
      refine go 6 ?_
      refine Zy ?_
      exact Qu (_,_) trivial ⟨rfl,trivial⟩ ⟨rfl,rfl,trivial⟩
   ·rintro⟨qv,b6⟩ -
    dsimp only
    refine Zrq (Mp 83 rfl Zo) (fun sl hsl=>?_)
    subst hsl
    refine go 4 ?_
    refine tt (Qd (i:=7) (ivs:=[(0,_)]) (enc:=Zc2) [((zs.getD i I0).1/(gZ o (Pw zs) 3),sl)] rfl rfl ⟨rfl,rfl,trivial⟩ Tryz.underlying45 Tryz.ti77 rfl rfl rfl rfl rfl pI.cells rfl rfl hw.h) rfl (fun v_2 _=>?_)
    refine tt (Kq (i:=70) (j:=7) (by_:=32) rfl rfl rfl rfl rfl rfl O3 rfl (Xa pI) Tryz.underlying45 Tryz.ti77 rfl pI rfl rfl rfl O8 O3 rfl hw.h) rfl (fun v_3 _=>?_)
    refine go 10 ⟨O,?_⟩
    refine Yn (Xt (q:=qI) (z:=((zs.getD i I0).1/(gZ o (Pw zs) 3),sl)) 71 83 71 rfl rfl rfl rfl rfl) ?_
    exact Xb (i+1,_,ws ++ [((zs.getD i I0).1/(gZ o (Pw zs) 3),sl)]) ⟨O1,by rw [Zcr,Ze5,hz];dsimp only;rw [Fd],by simp [hzl]⟩ O1 ⟨rfl,trivial⟩ ⟨rfl,rfl,rfl,trivial⟩
  ·obtain rfl:i=3:=O
   refine go 6 ?_
   refine Ze (Pf 70 rfl rfl pI) ?_
   refine Ze (Hi 70 71 72 rfl rfl rfl rfl) ?_
   refine go 4 ?_
   refine cl 8 [2,98] (Zl4 _ _ o (gZ o (Pw zs) 3) O O) fun g_6 _=>?_
   refine go 14 ?_
   exact Xj hsc (_,ws,_) Tryz.results100 rfl hz (Mm 72 (Mm 8 Za))
theorem Zv8(v w:Value)(zs:List (Int×SL))(o:Int)(hl3:zs.length=3)(hob:bl o.natAbs≤200)(hzb:∀i,bl (cf (Pw zs) i).natAbs≤200):Cal Tryz.prog 98 #[.agg #[v,.bool (decide (o<0)),w]] [pp v zs,Hg w (o).natAbs] false (G:=Unit) (fun _=>True) (fun _=>plV (cf (Pw zs) 0) (cf (Pw zs) 1) (cf (Pw zs) 2) o) (fun _=>[]):=by
 refine Zd Tryz.func98 Tryz.ntmps98 fun w0 sc hw hsc=>?_
 have c0:=Fd zs 0
 have c1:=Fd zs 1
 have c2:=Fd zs 2
 have z0:=hzb 0
 have z1:=hzb 1
 have z2:=hzb 2
 refine go 2 ?_
 refine Yd (Yg 3) fun bx _=>?_
 refine Yd (Zs 4) fun bx_2 _=>?_
 refine go 3 ?_
 refine Xw (fun _=>False) [(0,0),(1,0),(2,0),(3,0),(5,0),(6,0),(7,0),(8,0),(10,0),(11,0),(12,0),(13,0),(15,0),(16,0),(4,1),(9,1),(14,1),(17,1),(18,0),(19,3)] ?_
 refine go 3 ⟨O,?_⟩
 refine Qe rfl rfl (Qa (Pj (ii:=1) I0 rfl rfl rfl Zi pI)) ?_
 refine go 3 ⟨O,?_⟩
 refine Qe rfl rfl (Qa (Pj (ii:=1) I0 rfl rfl rfl Zi pI)) ?_
 refine go 3 ⟨O,?_⟩
 refine Qe rfl rfl (Qa (Pj (ii:=1) I0 rfl rfl rfl Zi pI)) ?_
 refine go 2 ?_
 refine Fm rfl (Pk (n:=4) (Yce _ (zs.getD 0 I0).1 (by rw [c0];omega)) rfl rfl rfl ⟨rfl,trivial⟩ Tryz.call50 (He 1 rfl rfl (Zf) Zw) rfl hw.h) (fun _ _=>?_)
 refine Fm rfl (Pk (n:=4) (Yce _ (zs.getD 1 I0).1 (by rw [c1];omega)) rfl rfl rfl ⟨rfl,trivial⟩ Tryz.call50 (He 1 rfl rfl (Zf) Zw) rfl hw.h) (fun _ _=>?_)
 refine Fm rfl (Pk (n:=4) (Yce _ (zs.getD 2 I0).1 (by rw [c2];omega)) rfl rfl rfl ⟨rfl,trivial⟩ Tryz.call50 (He 1 rfl rfl (Zf) Zw) rfl hw.h) (fun _ _=>?_)
 refine Yx (Zh 4 [2] (Yce _ o O)) fun _ _=>?_
 refine Qe rfl rfl (Qa (Xl (ivs:=[(0,_),(1,_),(2,_),(3,_)]) rfl ⟨rfl,rfl,rfl,rfl,rfl,rfl,rfl,rfl,trivial⟩ (fun a w hs=>Zm1))) ?_
 refine go 4 ?_
 exact Xj hsc () Tryz.results98 (by rw [←c0,←c1,←c2]<;>rfl) trivial Za
theorem Ych(v w v2 w2:Value)(zs zs2:List (Int×SL))(o o2:Int)(hl3:zs.length=3)(hob:bl o.natAbs≤200)(hzb:∀i,bl (cf (Pw zs) i).natAbs≤200)(hl32:zs2.length=3)(hob2:bl o2.natAbs≤200)(hzb2:∀i,bl (cf (Pw zs2) i).natAbs≤200):Cal Tryz.prog 54 #[.agg #[v,.bool (decide (o<0)),w],.agg #[v2,.bool (decide (o2<0)),w2]] [pp v zs,Hg w (o).natAbs,pp v2 zs2,Hg w2 (o2).natAbs] false (G:=Unit) (fun _=>True) (fun _=> .bool (decide ((cf (Pw zs) 0)=(cf (Pw zs2) 0)∧(cf (Pw zs) 1)=(cf (Pw zs2) 1)∧(cf (Pw zs) 2)=(cf (Pw zs2) 2)∧o=o2))) (fun _=>[]):=by
 refine Zd Tryz.func54 Tryz.ntmps54 fun w0 sc hw hsc=>?_
 refine go 2 ?_
 refine Yd (Yg 5) fun bx _=>?_
 refine Yd (Yg 6) fun bx_2 _=>?_
 refine go 4 ?_
 refine Xw (fun _=>False) [(0,0),(2,0),(1,1),(3,1),(4,0),(5,3)] ?_
 refine go 2 ?_
 refine Yx (Zh 6 [1,2] (Zv8 _ _ _ o hl3 hob hzb)) fun _ _=>?_
 refine Yx (Zh 6 [3,4] (Zv8 _ _ _ o2 hl32 hob2 hzb2)) fun _ _=>?_
 refine Qe rfl rfl (Qa (Zhf rfl rfl rfl eg151 (fun w=>eqlP w _ _ _ _ _ _ _ _))) ?_
 refine go 4 ?_
 exact Xj hsc () Tryz.results54 rfl trivial Za
set_option maxHeartbeats 1000000 in
theorem Zl6(fr to ov:Int)(sx sy sz:SL)(x y z:List Int)(a d:Int)(hS:Sgo fr to ov x y z)(ha:0≤a∧a≤3600000)(hd:1≤d∧d≤3600000):Cal Tryz.prog 55 #[.agg #[.int .i64 fr,.int .i64 to,.int .i64 ov,Qo sx,Qo sy,Qo sz],.int .i64 a,.int .i64 d] [Ym 1 Yl (Qo sx) x,Ym 1 Yl (Qo sy) y,Ym 1 Yl (Qo sz) z] true (G:=Value×List (Int×SL)×Value) (fun r=>Pw r.2.1=Zob (ov*d^5) (mk 3 (plC a d x y z))) (fun r=> .agg #[r.1,.bool (decide ((ov*d^5)/gS ov a d x y z 3<0)),r.2.2]) (fun r=>[pp r.1 r.2.1,Hg r.2.2 ((ov*d^5)/gS ov a d x y z 3).natAbs]):=by
 refine Zd Tryz.func55 Tryz.ntmps55 fun w0 sc hw hsc=>?_
 have ho1:=hS.o1
 have ho2:=hS.o2
 have hgs:=Zmo hS ha hd 0
 have hbo:bl ov.natAbs≤64:=(Xo 64 _).2 O
 refine go 2 ?_
 refine Yd (Yg 4) fun bx _=>?_
 refine Yd (Zs 5) fun bx_2 _=>?_
 refine go 4 ?_
 refine Yd (Zs 6) fun bx_3 _=>?_
 refine go 5 ?_
 refine cl 7 [1,2,3] (Zjc _ _ _ _ _ _ _ _ _) fun v _=>?_
 refine go 10 ?_
 refine Ze (Np 70 2 77 Zc2) ?_
 refine Ze (Oc qI 71) ?_
 refine lp (G:=Nat×Value×List (Int×SL)) [1,2,3,6,7,8] [0,1,2,3,4,5,7] (fun q=>[(9,.int .i64 (q.1:Int))]) (fun q=>[(70,Ma 2 77 Zc2 q.2.1 q.2.2),(71,De qI q.2.2),(6,box bx_3 101 #[q.2.1,.bool false,.slice none 0 0])]) (fun q=>(q.1≤3)∧(Pw q.2.2=mk q.1 (plC a d x y z))∧(q.2.2.length=q.1)) (fun q=>3-q.1) (0,.slice none 0 0,[]) ⟨O1,rfl,rfl⟩ ⟨rfl,trivial⟩ ⟨rfl,rfl,rfl,trivial⟩ ?_
 rintro⟨i,vo,ws⟩ ⟨hi,hz,hzl⟩
 dsimp only at hi hz hzl
 dsimp only
 have hc:=hS.hc i
 have hlc:=hS.lc i
 refine go 7 ?_
 refine Zc rfl (fun h118=>?_) (fun h118=>?_)
 ·refine go 6 ?_
  refine dt (Xl (ivs:=[]) rfl trivial (fun a w hs=>b77_)) ?_
  refine Yd (Zs 97) fun bx_4 _=>?_
  refine go 10 ?_
  refine Ze (Np 98 1 3 Ha) ?_
  refine Ze (Pf 98 rfl rfl pN) ?_
  refine lp (G:=Nat×Value) [1,2,3,6,7,8,9,10] [0,70,71,6,1,2,3,4,5,7] (fun q=>[(11,.int .i64 (q.1:Int))]) (fun q=>[(97,box bx_4 77 #[.bool (decide ((plS (Zr i x y z) a d q.1)<0)),q.2]),(98,Hg q.2 ((plS (Zr i x y z) a d q.1)).natAbs)]) (fun q=>q.1≤(Zr i x y z).length) (fun q=>(Zr i x y z).length-q.1) (0,.slice none 0 0) O1 ⟨rfl,trivial⟩ ⟨rfl,rfl,trivial⟩ ?_
  rintro⟨k,vs⟩ hk
  dsimp only at hk
  dsimp only
  refine go 2 ?_
  refine Ze (Znc 7 40 ([(sx,x),(sy,y),(sz,z)].getD i C0) rfl rfl (Zf (show i<3 by omega)) rfl) ?_
  refine Ze (Mt 40 (q:=Ym 1 Yl (Qo ([(sx,x),(sy,y),(sz,z)].getD i C0).1) (Zr i x y z)) (congrArg (Ym 1 Yl _) (Yai O)) rfl rfl) ?_
  refine go 4 ?_
  refine dt (Yf (ii:=7) (i:=i) rfl rfl rfl rfl Zi Tryz.underlying80 Tryz.sizeOf22 rfl (show i<3 by omega)) ?_
  refine dt (Pj (ii:=7) C0 rfl rfl rfl Zi pC (show i<3 by omega)) ?_
  refine go 4 ?_
  refine Zc rfl (fun h120=>?_) (fun h120=>?_)
  ·refine go 4 ?_
   refine Xw (fun _=>False) [(0,0),(1,0),(2,0),(3,0),(4,0),(5,0),(6,0),(7,0),(9,0),(10,0),(12,0),(13,0),(14,0),(8,1),(11,1),(15,1),(16,1),(17,1),(18,1),(19,3)] ?_
   refine go 3 ?_
   refine Qe rfl rfl (Qa (Yf (ii:=7) (i:=i) rfl rfl rfl rfl Zi Tryz.underlying80 Tryz.sizeOf22 rfl (show i<3 by omega))) ?_
   refine Qe rfl rfl (Qa (Pj (ii:=7) C0 rfl rfl rfl Zi pC (show i<3 by omega))) ?_
   refine go 1 ?_
   refine Qe rfl rfl (Qa (Yf (ii:=40) (i:=k) rfl rfl rfl rfl Zo Tryz.underlying22 Tryz.sizeOf3 rfl)) ?_
   refine go 6 ⟨O,O,?_⟩
   refine Yx (Zh 8 [] (Em ((Zr i x y z).getD k 0) (Qv hc k))) fun v_2 _=>?_
   refine Yx (Zh 9 [] (Zga a _ k rfl ⟨O,O⟩ O)) fun v_3 _=>?_
   refine Yx (Zh 10 [] (Zga d _ (5-(k:Int)).toNat O ⟨O,O⟩ O)) fun v_4 _=>?_
   refine Yx (Zh 11 [9,10] (Bt _ _ (a^k) (d^(5-(k:Int)).toNat) (Nat.le_trans (Zgo ha O) O3) (Nat.le_trans (Zgo (a:=d) ⟨O,O⟩ O) O3))) fun v_5 _=>?_
   refine Yx (Zh 12 [8,11] (Bt _ _ ((Zr i x y z).getD k 0) (a^k*d^(5-(k:Int)).toNat) (Nat.le_trans (Lu (Qv hc k)) O3) (Nat.le_trans (Zph hc ha hd (k:=k) O).1 O3))) fun v_6 _=>?_
   refine Yx (Zh 13 [98,12] (Zv6 _ _ (plS (Zr i x y z) a d k) (plT (Zr i x y z) a d k) (Nat.le_trans (Zph hc ha hd O).2 O3) (Nat.le_trans (Zb2 hc ha hd O) O3))) fun v_7 _=>?_
   refine go 9 ⟨O,?_⟩
   refine Yn (Pb 13 98 rfl rfl rfl) ?_
   exact Xb (k+1,v_7) O1 O1 ⟨rfl,trivial⟩ ⟨rfl,rfl,trivial⟩
  ·obtain rfl:k=(Zr i x y z).length:=O
   refine go 5 ?_
   refine Zrq (Mp 98 rfl Zo) (fun sl hsl=>?_)
   subst hsl
   refine go 4 ?_
   refine tt (Qd (i:=14) (ivs:=[(0,_)]) (enc:=Zc2) [((plS (Zr i x y z) a d (Zr i x y z).length),sl)] rfl rfl ⟨rfl,rfl,trivial⟩ Tryz.underlying45 Tryz.ti77 rfl rfl rfl rfl rfl pI.cells rfl rfl hw.h) rfl (fun v_8 _=>?_)
   refine tt (Kq (i:=70) (j:=14) (by_:=32) rfl rfl rfl rfl rfl rfl O3 rfl (Xa pI) Tryz.underlying45 Tryz.ti77 rfl pI rfl rfl rfl O8 O3 rfl hw.h) rfl (fun v_9 _=>?_)
   refine go 10 ⟨O,?_⟩
   refine Yn (Xt (q:=qI) (z:=((plS (Zr i x y z) a d (Zr i x y z).length),sl)) 71 98 71 rfl rfl rfl rfl rfl) ?_
   exact Xb (i+1,_,ws ++ [((plS (Zr i x y z) a d (Zr i x y z).length),sl)]) ⟨O1,by rw [Zcr,Ze5,hz];dsimp only;rfl,by simp [hzl]⟩ O1 ⟨rfl,trivial⟩ ⟨rfl,rfl,rfl,trivial⟩
 ·obtain rfl:i=3:=O
  refine go 6 ?_
  refine Ze (Pf 70 rfl rfl pI) ?_
  refine Ze (Hi 70 71 72 rfl rfl rfl rfl) ?_
  refine go 3 ?_
  refine cl 15 [] (Em ov) fun v_10 _=>?_
  refine go 1 ?_
  refine cl 16 [] (Zga d 5 5 rfl ⟨O,O⟩ O3) fun v_11 _=>?_
  refine cl 17 [15,16] (Bt _ _ ov (d^5) (Nat.le_trans hbo O3) (Nat.le_trans (Zgo (a:=d) ⟨O,O⟩ (k:=5) O3) O3)) fun v_12 _=>?_
  refine go 7 ?_
  refine cl 18 [72,17] (Ztg _ _ ws (ov*d^5) hzl hgs.1 (Nat.le_trans hgs.2 O3) (fun j=>by rw [hz];exact Ycy hS ha hd j)) fun g hg=>?_
  refine go 4 ?_
  exact Xj hsc _ Tryz.results55 (by rw [hz,Zw3 _ _ _ _ _ _ 3 (Nat.le_refl _)]) (hg.trans (by rw [hz])) (Mm 18 (Mm 19 Za (by rw [hz,Zw3 _ _ _ _ _ _ 3 (Nat.le_refl _)])))
set_option maxHeartbeats 1000000 in
theorem Lc(v:Value)(ps:List Zz)(hp:∀g∈ps,Gin g):Cal Tryz.prog 25 #[v] [Pq 6 Mj qG v ps] false (G:=Unit) (fun _=>True) (fun _=> .bool (Me ps)) (fun _=>[]):=by
 refine Zd Tryz.func25 Tryz.ntmps25 fun w0 sc hw hsc=>?_
 refine Nd (Hq (i:=1) rfl Zi) (fun hlen=>?_)
 refine go 12 ?_
 refine lp (G:=Nat) [0] [0,1] (fun i=>[(3,.int .i64 (i:Int))]) (fun i=>[]) (fun i=>(i≤ps.length)∧(∀k,k<i→Zc1 ps k=true)) (fun i=>ps.length-i) 0 ⟨O1,fun k hk=>absurd hk (Nat.not_lt_zero k)⟩ ⟨rfl,trivial⟩ trivial ?_
 rintro i ⟨hi,hk⟩
 refine go 9 ?_
 refine Zc rfl (fun h134=>?_) (fun h134=>?_)
 ·refine go 5 ?_
  rcases Yat ps i with hc1 | ⟨hc1,hc2⟩ | ⟨hc1,hc2,hc3⟩ | ⟨hc1,hc2,hc3⟩
  ·have hgi:=hp _ (Zf (d:=G0) (show i<ps.length by omega))
   refine Ze (Xv (g:=(ps.getD i G0)) (z:=(ps.getD i G0).2.1) 1 51 rfl rfl (Zf) O5) ?_
   refine Ze (Xv (g:=(ps.getD i G0)) (z:=(ps.getD i G0).2.2.1) 1 52 rfl rfl (Zf) O5) ?_
   refine Ze (Xv (g:=(ps.getD i G0)) (z:=(ps.getD i G0).2.2.2) 1 53 rfl rfl (Zf) O5) ?_
   refine Xw (fun _=>False) [(0,0),(1,0),(2,0),(3,0),(4,1),(5,0),(6,0),(7,2),(8,2),(9,2),(10,2),(11,2),(12,2),(13,2),(14,2),(15,2),(16,2),(17,2),(18,2),(19,2),(20,2),(21,2),(22,2),(23,2),(24,2),(25,2),(26,2),(28,2),(29,2),(30,2),(31,2),(32,2),(27,2),(33,2),(34,2),(35,2),(36,2),(37,2),(38,0)] ?_
   refine go 2 ?_
   refine Qe rfl rfl (Qa (Yf (ii:=1) (i:=i) rfl rfl rfl rfl Zi Tryz.underlying29 Tryz.sizeOf24 rfl)) ?_
   refine Qe rfl rfl (Qa (Pj (ii:=1) G0 rfl rfl rfl Zi pG)) ?_
   refine Yx (Zh 1 [51,52,53] (Zcf _ _ _ _ _ _ _ _ _ hgi.f hgi.t hgi.o hgi.x hgi.y hgi.z)) fun _ _=>?_
   refine Qe rfl rfl (Qa (Zj (r':= .bool true) (Yp rfl rfl) (congrArg (fun b=>Value.bool (!b)) hc1))) ?_
   refine go 4 ?_
   refine Dr rfl rfl rfl rfl rfl ?_
   refine Dr rfl rfl rfl rfl rfl ?_
   refine Dr rfl rfl rfl rfl rfl ?_
   refine Dr rfl rfl rfl rfl rfl ?_
   refine Dr rfl rfl rfl rfl rfl ?_
   refine Dr rfl rfl rfl rfl rfl ?_
   refine Dr rfl rfl rfl rfl rfl ?_
   refine Dr rfl rfl rfl rfl rfl ?_
   refine Dr rfl rfl rfl rfl rfl ?_
   refine Dr rfl rfl rfl rfl rfl ?_
   refine Dr rfl rfl rfl rfl rfl ?_
   refine Dr rfl rfl rfl rfl rfl ?_
   refine Dr rfl rfl rfl rfl rfl ?_
   refine Dr rfl rfl rfl rfl rfl ?_
   refine Dr rfl rfl rfl rfl rfl ?_
   refine Dr rfl rfl rfl rfl rfl ?_
   refine Dr rfl rfl rfl rfl rfl ?_
   refine Dr rfl rfl rfl rfl rfl ?_
   refine Dr rfl rfl rfl rfl rfl ?_
   refine Dr rfl rfl rfl rfl rfl ?_
   refine Dr rfl rfl rfl rfl rfl ?_
   refine Dr rfl rfl rfl rfl rfl ?_
   refine Dr rfl rfl rfl rfl rfl ?_
   refine Dr rfl rfl rfl rfl rfl ?_
   refine Dr rfl rfl rfl rfl rfl ?_
   refine Dr rfl rfl rfl rfl rfl ?_
   refine Dr rfl rfl rfl rfl rfl ?_
   refine go 16 ?_
   exact Xj hsc () Tryz.results25 (by rw [Zex (i:=i) O (Ydb hc1)]) trivial Za
  ·have hgi:=hp _ (Zf (d:=G0) (show i<ps.length by omega))
   refine Ze (Xv (g:=(ps.getD i G0)) (z:=(ps.getD i G0).2.1) 1 51 rfl rfl (Zf) O5) ?_
   refine Ze (Xv (g:=(ps.getD i G0)) (z:=(ps.getD i G0).2.2.1) 1 52 rfl rfl (Zf) O5) ?_
   refine Ze (Xv (g:=(ps.getD i G0)) (z:=(ps.getD i G0).2.2.2) 1 53 rfl rfl (Zf) O5) ?_
   refine Xw (fun _=>False) [(0,0),(1,0),(2,0),(3,0),(4,1),(5,0),(6,0),(7,0),(8,0),(9,0),(10,2),(11,2),(12,2),(13,2),(14,2),(15,2),(16,2),(17,2),(18,2),(19,2),(20,2),(21,2),(22,2),(23,2),(24,2),(25,2),(26,2),(28,2),(29,2),(30,2),(31,2),(32,2),(27,2),(33,2),(34,2),(35,2),(36,2),(37,0),(38,0)] ?_
   refine go 2 ?_
   refine Qe rfl rfl (Qa (Yf (ii:=1) (i:=i) rfl rfl rfl rfl Zi Tryz.underlying29 Tryz.sizeOf24 rfl)) ?_
   refine Qe rfl rfl (Qa (Pj (ii:=1) G0 rfl rfl rfl Zi pG)) ?_
   refine Yx (Zh 1 [51,52,53] (Zcf _ _ _ _ _ _ _ _ _ hgi.f hgi.t hgi.o hgi.x hgi.y hgi.z)) fun _ _=>?_
   refine Qe rfl rfl (Qa (Zj (r':= .bool false) (Yp rfl rfl) (congrArg (fun b=>Value.bool (!b)) hc1))) ?_
   refine go 2 ?_
   refine Bu (Qa (Zj (r':= .bool false) (Zfn rfl rfl rfl) (congrArg Value.bool (decide_eq_false O)))) rfl rfl rfl rfl rfl ?_
   refine go 14 ?_
   refine Dr rfl rfl rfl rfl rfl ?_
   refine Dr rfl rfl rfl rfl rfl ?_
   refine Dr rfl rfl rfl rfl rfl ?_
   refine Dr rfl rfl rfl rfl rfl ?_
   refine Dr rfl rfl rfl rfl rfl ?_
   refine Dr rfl rfl rfl rfl rfl ?_
   refine Dr rfl rfl rfl rfl rfl ?_
   refine Dr rfl rfl rfl rfl rfl ?_
   refine Dr rfl rfl rfl rfl rfl ?_
   refine Dr rfl rfl rfl rfl rfl ?_
   refine Dr rfl rfl rfl rfl rfl ?_
   refine Dr rfl rfl rfl rfl rfl ?_
   refine Dr rfl rfl rfl rfl rfl ?_
   refine go 14 ⟨O,?_⟩
   exact Xb (i+1) ⟨O1,fun k h9=>by rcases Nat.lt_succ_iff_lt_or_eq.1 h9 with h8 | h8;exact hk k h8;subst h8;exact Ztm hc1 hc2⟩ O1 ⟨rfl,trivial⟩ trivial
  ·have hgi:=hp _ (Zf (d:=G0) (show i<ps.length by omega))
   refine Ze (Xv (g:=(ps.getD i G0)) (z:=(ps.getD i G0).2.1) 1 51 rfl rfl (Zf) O5) ?_
   refine Ze (Xv (g:=(ps.getD i G0)) (z:=(ps.getD i G0).2.2.1) 1 52 rfl rfl (Zf) O5) ?_
   refine Ze (Xv (g:=(ps.getD i G0)) (z:=(ps.getD i G0).2.2.2) 1 53 rfl rfl (Zf) O5) ?_
   refine Xw (fun _=>False) [(0,0),(1,0),(2,0),(3,0),(4,1),(5,0),(6,0),(7,0),(8,0),(9,0),(10,0),(11,0),(12,0),(13,0),(14,0),(15,0),(16,0),(17,0),(18,0),(19,0),(20,0),(21,0),(22,0),(23,2),(24,2),(25,2),(26,2),(28,2),(29,2),(30,2),(31,2),(32,2),(27,2),(33,2),(34,2),(35,2),(36,0),(37,0),(38,0)] ?_
   refine go 2 ?_
   refine Qe rfl rfl (Qa (Yf (ii:=1) (i:=i) rfl rfl rfl rfl Zi Tryz.underlying29 Tryz.sizeOf24 rfl)) ?_
   refine Qe rfl rfl (Qa (Pj (ii:=1) G0 rfl rfl rfl Zi pG)) ?_
   refine Yx (Zh 1 [51,52,53] (Zcf _ _ _ _ _ _ _ _ _ hgi.f hgi.t hgi.o hgi.x hgi.y hgi.z)) fun _ _=>?_
   refine Qe rfl rfl (Qa (Zj (r':= .bool false) (Yp rfl rfl) (congrArg (fun b=>Value.bool (!b)) hc1))) ?_
   refine go 2 ?_
   refine Bu (Qa (Zj (r':= .bool true) (Zfn rfl rfl rfl) (congrArg Value.bool (decide_eq_true O)))) rfl rfl rfl rfl rfl ?_
   refine go 3 ?_
   refine Bu (Qa (Yf (ii:=1) (i:=i) rfl rfl rfl rfl Zi Tryz.underlying29 Tryz.sizeOf24 rfl)) rfl rfl rfl rfl rfl ?_
   refine Bu (Qa (Zfo (ii:=1) rfl rfl rfl Zi Tryz.underlying24 rfl Tryz.sizeOf3 rfl)) rfl rfl rfl rfl rfl ?_
   refine Bu (Qa (Zfm (ii:=1) G0 rfl rfl rfl Zi Tryz.isAgg3 rfl)) rfl rfl rfl rfl rfl ?_
   refine go 3 ⟨O,?_⟩
   refine Bu (Qa (Yf (ii:=1) (i:=(i-1)) rfl rfl rfl rfl Zi Tryz.underlying29 Tryz.sizeOf24)) rfl rfl rfl rfl rfl ?_
   refine Bu (Qa (Zfo (ii:=1) rfl rfl rfl Zi Tryz.underlying24 rfl Tryz.sizeOf3 rfl)) rfl rfl rfl rfl rfl ?_
   refine Bu (Qa (Zfm (ii:=1) G0 rfl rfl rfl Zi Tryz.isAgg3 rfl)) rfl rfl rfl rfl rfl ?_
   refine Bu (Qa (Zj (r':= .bool true) (Yff rfl rfl rfl) (congrArg Value.bool (decide_eq_true hc3)))) rfl rfl rfl rfl rfl ?_
   refine go 31 ?_
   exact Xj hsc () Tryz.results25 (by rw [Zex (i:=i) O ((Zdm hc1 hc2).trans (me_no hc3))]) trivial Za
  ·refine Ze (Xv (g:=(ps.getD (i-1) G0)) (z:=(ps.getD (i-1) G0).2.1) 1 54 rfl rfl (Zf) O5) ?_
   refine Ze (Xv (g:=(ps.getD (i-1) G0)) (z:=(ps.getD (i-1) G0).2.2.1) 1 55 rfl rfl (Zf) O5) ?_
   refine Ze (Xv (g:=(ps.getD (i-1) G0)) (z:=(ps.getD (i-1) G0).2.2.2) 1 56 rfl rfl (Zf) O5) ?_
   have hgi:=hp _ (Zf (d:=G0) (show i<ps.length by omega))
   refine Ze (Xv (g:=(ps.getD i G0)) (z:=(ps.getD i G0).2.1) 1 51 rfl rfl (Zf) O5) ?_
   refine Ze (Xv (g:=(ps.getD i G0)) (z:=(ps.getD i G0).2.2.1) 1 52 rfl rfl (Zf) O5) ?_
   refine Ze (Xv (g:=(ps.getD i G0)) (z:=(ps.getD i G0).2.2.2) 1 53 rfl rfl (Zf) O5) ?_
   refine Xw (fun _=>False) [(0,0),(1,0),(2,0),(3,0),(4,1),(5,0),(6,0),(7,0),(8,0),(9,0),(10,0),(11,0),(12,0),(13,0),(14,0),(15,0),(16,0),(17,0),(18,0),(19,0),(20,0),(21,0),(22,0),(23,0),(24,0),(25,0),(26,0),(28,0),(29,0),(30,0),(31,0),(32,0),(27,1),(33,1),(34,1),(35,0),(36,0),(37,0),(38,0)] ?_
   refine go 2 ?_
   refine Qe rfl rfl (Qa (Yf (ii:=1) (i:=i) rfl rfl rfl rfl Zi Tryz.underlying29 Tryz.sizeOf24 rfl)) ?_
   refine Qe rfl rfl (Qa (Pj (ii:=1) G0 rfl rfl rfl Zi pG)) ?_
   refine Yx (Zh 1 [51,52,53] (Zcf _ _ _ _ _ _ _ _ _ hgi.f hgi.t hgi.o hgi.x hgi.y hgi.z)) fun _ _=>?_
   refine Qe rfl rfl (Qa (Zj (r':= .bool false) (Yp rfl rfl) (congrArg (fun b=>Value.bool (!b)) hc1))) ?_
   refine go 2 ?_
   refine Bu (Qa (Zj (r':= .bool true) (Zfn rfl rfl rfl) (congrArg Value.bool (decide_eq_true O)))) rfl rfl rfl rfl rfl ?_
   refine go 3 ?_
   refine Bu (Qa (Yf (ii:=1) (i:=i) rfl rfl rfl rfl Zi Tryz.underlying29 Tryz.sizeOf24 rfl)) rfl rfl rfl rfl rfl ?_
   refine Bu (Qa (Zfo (ii:=1) rfl rfl rfl Zi Tryz.underlying24 rfl Tryz.sizeOf3 rfl)) rfl rfl rfl rfl rfl ?_
   refine Bu (Qa (Zfm (ii:=1) G0 rfl rfl rfl Zi Tryz.isAgg3 rfl)) rfl rfl rfl rfl rfl ?_
   refine go 3 ⟨O,?_⟩
   refine Bu (Qa (Yf (ii:=1) (i:=(i-1)) rfl rfl rfl rfl Zi Tryz.underlying29 Tryz.sizeOf24)) rfl rfl rfl rfl rfl ?_
   refine Bu (Qa (Zfo (ii:=1) rfl rfl rfl Zi Tryz.underlying24 rfl Tryz.sizeOf3 rfl)) rfl rfl rfl rfl rfl ?_
   refine Bu (Qa (Zfm (ii:=1) G0 rfl rfl rfl Zi Tryz.isAgg3 rfl)) rfl rfl rfl rfl rfl ?_
   refine Bu (Qa (Zj (r':= .bool false) (Yff rfl rfl rfl) (congrArg Value.bool (decide_eq_false (fun e=>e hc3))))) rfl rfl rfl rfl rfl ?_
   refine go 3 ?_
   refine Bu (Qa (Yf (ii:=1) (i:=i) rfl rfl rfl rfl Zi Tryz.underlying29 Tryz.sizeOf24 rfl)) rfl rfl rfl rfl rfl ?_
   refine Bu (Qa (Pj (ii:=1) G0 rfl rfl rfl Zi pG)) rfl rfl rfl rfl rfl ?_
   refine go 3 ⟨O,?_⟩
   refine Bu (Qa (Yf (ii:=1) (i:=(i-1)) rfl rfl rfl rfl Zi Tryz.underlying29 Tryz.sizeOf24)) rfl rfl rfl rfl rfl ?_
   refine Bu (Qa (Pj (ii:=1) G0 rfl rfl rfl Zi pG)) rfl rfl rfl rfl rfl ?_
   refine Zhl rfl rfl rfl rfl rfl (Pk (n:=2) (Zl6 _ _ _ _ _ _ _ _ _ 0 1 (Gr hgi hc1) ⟨O3,O3⟩ ⟨O3,O3⟩) rfl rfl rfl ⟨rfl,rfl,rfl,trivial⟩ Tryz.call55 (Zk 51 rfl rfl rfl (Zk 52 rfl rfl rfl (Zk 53 rfl rfl rfl Zw))) rfl hw.h) (fun g hg=>?_)
   refine Zhl rfl rfl rfl rfl rfl (Pk (n:=4) (Zl6 _ _ _ _ _ _ _ _ _ 1 1 (Gr (hp _ (Zf)) (Zag (hk (i-1) O))) ⟨O3,O3⟩ ⟨O3,O3⟩) rfl rfl rfl ⟨rfl,rfl,rfl,trivial⟩ Tryz.call55 (Zk 54 rfl rfl rfl (Zk 55 rfl rfl rfl (Zk 56 rfl rfl rfl Zw))) rfl hw.h) (fun g_2 hg_2=>?_)
   refine Zhl rfl rfl rfl rfl rfl (Pk (n:=5) (Ych _ _ _ _ _ _ ((ps.getD i G0).1.2.2*1^5/gS (ps.getD i G0).1.2.2 0 1 (ps.getD i G0).2.1.2 (ps.getD i G0).2.2.1.2 (ps.getD i G0).2.2.2.2 3) ((ps.getD (i-1) G0).1.2.2*1^5/gS (ps.getD (i-1) G0).1.2.2 1 1 (ps.getD (i-1) G0).2.1.2 (ps.getD (i-1) G0).2.2.1.2 (ps.getD (i-1) G0).2.2.2.2 3) (by rw [←Ij,hg];exact Yi _ _) (gS_d (Gr hgi hc1) ⟨O3,O3⟩ ⟨O3,O3⟩) (fun j=>by rw [hg];exact Yd0 (fun j=>Ycy (Gr hgi hc1) ⟨O3,O3⟩ ⟨O3,O3⟩ j) j) (by rw [←Ij,hg_2];exact Yi _ _) (gS_d (Gr (hp _ (Zf)) (Zag (hk (i-1) O))) ⟨O3,O3⟩ ⟨O3,O3⟩) (fun j=>by rw [hg_2];exact Yd0 (fun j=>Ycy (Gr (hp _ (Zf)) (Zag (hk (i-1) O))) ⟨O3,O3⟩ ⟨O3,O3⟩ j) j)) rfl rfl rfl ⟨rfl,rfl,trivial⟩ Tryz.call54 (Zk 2 rfl rfl rfl (Zk 3 rfl rfl rfl (Zk 4 rfl rfl rfl (Zk 5 rfl rfl rfl Zw)))) rfl hw.h) (fun _ _=>?_)
   refine Bu (Qa (Zj (r':= .bool (!meG (ps.getD (i-1) G0) (ps.getD i G0))) (Yp rfl rfl) (congrArg (fun b=>Value.bool (!b)) (Yih hg hg_2 hc3)))) rfl rfl rfl rfl rfl ?_
   refine go 5 ?_
   refine Nw rfl (fun h135=>?_) (fun h135=>?_)
   ·refine go 11 ?_
    exact Xj hsc () Tryz.results25 (by rw [Zex (i:=i) O ((Zdm hc1 hc2).trans (Zpe ‹_›))]) trivial Za
   ·refine go 8 ⟨O,?_⟩
    exact Xb (i+1) ⟨O1,fun k h9=>by rcases Nat.lt_succ_iff_lt_or_eq.1 h9 with h8 | h8;exact hk k h8;subst h8;exact(Zdm hc1 hc2).trans (Zpf ‹_›)⟩ O1 ⟨rfl,trivial⟩ trivial
 ·obtain rfl:i=ps.length:=O
  refine go 11 ?_
  refine Yu (d:=52) rfl (fun s139=>?_) (fun s139=>?_)
  ·refine go 8 ?_
   exact Xj hsc () Tryz.results25 (by rw [Zey hk];first | exact congrArg Value.bool (decide_eq_decide.2 O) | exact congrArg Value.bool (decide_eq_false O)) trivial Za
  ·refine go 8 ?_
   exact Xj hsc () Tryz.results25 (by rw [Zey hk];first | exact congrArg Value.bool (decide_eq_decide.2 O) | exact congrArg Value.bool (decide_eq_false O)) trivial Za
theorem Zi9(p q:List Int)(x:Rat):Zb (Ct p q) x=Zb p x+Zb q x:=by
 rw [←Yw];exact Pr x _ _ fun i=>by rw [Zcy,Nl]
theorem Yb8(p q:List Int)(x:Rat):Zb (Cr p q) x=Zb p x-Zb q x:=by
 have:Zb (Cr p q) x=Zb (Nj p (q.map fun a=>-1*a)) x:=Pr x _ _ fun i=>by rw [Dl,Nl,Xr];omega
 rw [this,Yw,Zg];push_cast;grind
theorem Ycb(p:List Int)(x:Rat):Zb p x=(Ys p:Rat)*Zb (Zu p) x:=by
 rw [←Zg];exact Pr x _ _ fun i=>by rw [Xr,Int.mul_comm,Iw]
theorem Yft{p:List Int}(h:Tr p)(h0:p≠[]):(0:Rat)<(Ys p:Rat):=by
 have h1:=Ch h h0
 have h2:=Oe p
 exact_mod_cast (show 0<Ys p by omega)
theorem Ydg{p:List Int}(h:Tr p)(x:Rat):Zb (Zu p) x<0↔Zb p x<0:=by
 by_cases h0:p=[]
 ·subst h0;rfl
 ·have hc:=Yft h h0
  rw [Ycb p]
  constructor
  ·intro h
   have:=Rat.mul_lt_mul_of_pos_left h hc
   rw [Rat.mul_zero]at this;exact this
  ·intro h
   by_cases q:Zb (Zu p) x<0
   ·exact q
   ·exact absurd (Rat.mul_nonneg (Rat.le_of_lt hc) (Rat.not_lt.1 q)) (Rat.not_le.2 h)
theorem Ydh{xs:List Int}(h:Cvd xs):Hm xs=true↔Zsr xs 0 1:=by
 have e0:qv (0,1)=0:=O7
 have e1:qv (1,1)=1:=O7
 have:=Zn6 h (a:=(0,1)) (b:=(1,1)) O3 O3 (by rw [e0,e1];decide)
 rw [e0,e1]at this
 exact this
def spd(o:Nat)(x y z:List Int)(u:Rat):Rat:=Zb (Yhx o x y z 3) u
theorem Yeu(o:Nat)(m ov T:Int)(x y z:List Int)(u:Rat):Zb (Ey o m ov T x y z) u<0↔(Zhk o m ov T:Rat)<((1000^(2*o):Int):Rat)*spd o x y z u:=by
 rw [←Ycd,Ydg (by unfold Yhy;exact Qm _)]
 unfold Yhy
 rw [Yb8,Ng,Qj,Az]
 unfold spd
 constructor<;>intro h<;>grind
theorem Zw6{fr to ov m:Int}{x y z:List Int}(h:Sgo fr to ov x y z)(h0:0≤m)(h1:m≤10000){o:Nat}(ho:o=1∨o=2) :
  Hm (Ey o m ov (to-fr) x y z)=true↔∃u:Rat,0≤u∧u≤1∧(Zhk o m ov (to-fr):Rat)<((1000^(2*o):Int):Rat)*spd o x y z u:=by
 rw [Ydh (Cl h h0 h1 ho).2.2]
 unfold Zsr
 exact exists_congr fun u=>and_congr Iff.rfl (and_congr Iff.rfl (Yeu o m ov (to-fr) x y z u))
theorem Zy6{o:Nat}{m n ov T:Int}(h0:0≤m)(h:m≤n)(hT:0≤T):Zhk o m ov T≤Zhk o n ov T:=by
 unfold Zhk
 have h1:m^2≤n^2:=by rw [Int.pow_succ,Int.pow_succ,Int.pow_zero,Int.one_mul,Int.pow_succ,Int.pow_succ,Int.pow_zero,Int.one_mul];exact Int.mul_le_mul h h h0 O
 exact Int.mul_le_mul_of_nonneg_right (Int.mul_le_mul_of_nonneg_right h1 (by rw [Int.pow_succ,Int.pow_succ,Int.pow_zero,Int.one_mul];rw [←Int.natAbs_mul_self];exact Int.natCast_nonneg _)) (Int.pow_nonneg hT)
theorem Zgf{g:Zz}(h:SgG g){m n:Int}(h0:0≤m)(hm:m≤n)(h1:n≤10000){o:Nat}(ho:o=1∨o=2)(hb:Hm (Lr o m g)=false):Hm (Lr o n g)=false:=by
 cases hc:Hm (Lr o n g)with
 | false=>rfl
 | true=>
  obtain⟨u,u0,u1,u2⟩:=(Zw6 h O h1 ho).1 hc
  have:=(Zw6 h h0 O ho).2 ⟨u,u0,u1,by have:(Zhk o m g.1.2.2 (g.1.2.1-g.1.1):Rat)≤(Zhk o n g.1.2.2 (g.1.2.1-g.1.1):Rat):=(by exact_mod_cast Zy6 h0 hm (by have:=h.t2;omega));grind⟩
  rw [show Hm (Ey o m g.1.2.2 (g.1.2.1-g.1.1) g.2.1.2 g.2.2.1.2 g.2.2.2.2)=Hm (Lr o m g)from rfl,hb]at this
  cases this
theorem Zj7{ps:List Zz}(h:∀g∈ps,SgG g){m n:Int}(h0:0≤m)(hm:m≤n)(h1:n≤10000){o:Nat}(ho:o=1∨o=2)(hb:Fn o ps m=true):Fn o ps n=true:=by
 unfold Fn at *
 rw [List.all_eq_true]at *
 intro g hg
 have:=hb g hg
 rw [Zgf (h g hg) h0 hm h1 ho (by simpa using this)];rfl
theorem Zf4{p:Nat→Bool}(b:Nat)(hp:∀k l,k≤l→l≤b→p k=true→p l=true):∀(f i j:Nat),i≤j→j≤b+1→j-i<2^f→(∀k,k<i→p k=false)→(j≤b→p j=true)→
  i≤Za0 p f i j∧Za0 p f i j≤j∧(∀k,k<Za0 p f i j→p k=false)∧(Za0 p f i j≤b→p (Za0 p f i j)=true)
 | 0,i,j,hij,hj,hf,h1,h2=>by
  have e:i=j:=by simp at hf;omega
  subst e
  exact⟨Nat.le_refl _,hij,h1,h2⟩
 | f+1,i,j,hij,hj,hf,h1,h2=>by
  by_cases hlt:i<j
  ·have hpw:2^(f+1)=2*2^f:=by rw [Nat.pow_succ,Nat.mul_comm]
   cases hm:p ((i+j)/2)with
   | true=>
    rw [Ybd hlt hm]
    obtain⟨a,b',c,d⟩:=Zf4 b hp f i ((i+j)/2) O O O h1 (fun _=>hm)
    exact⟨a,O,c,d⟩
   | false=>
    rw [Ybe hlt hm]
    obtain⟨a,b',c,d⟩:=Zf4 b hp f ((i+j)/2+1) j O hj O (fun k hk=>by
     cases hc:p k with
     | false=>rfl
     | true=>rw [hp k ((i+j)/2) O O hc]at hm;cases hm) h2
    exact⟨O,b',c,d⟩
  ·have e:i=j:=O
   rw [Zlu hlt]
   exact⟨Nat.le_refl _,hij,h1,by rw [e];exact h2⟩
def lstB(o:Nat)(ps:List Zz):Nat:=Za0 (fun n=>Fn o ps (n:Int)) 14 0 10000
theorem Yaw{ps:List Zz}(h:∀g∈ps,SgG g){o:Nat}(ho:o=1∨o=2) :
  Cq o ps≤10001∧(∀k:Nat,k<Cq o ps→Fn o ps (k:Int)=false)∧(Cq o ps≤10000→Fn o ps (Cq o ps:Int)=true):=by
 obtain⟨-,b,c,d⟩:=Zf4 (p:=fun n=>Fn o ps (n:Int)) 10000 (fun k l hk hl e=>Zj7 h O O O ho e) 14 0 10001 O O O3 (fun k hk=>absurd hk (Nat.not_lt_zero k)) (fun h=>absurd h O)
 exact⟨b,c,d⟩
def lsV(o:Nat)(ps:List Zz):Nat:=if Fn o ps 10000 then lstB o ps else 0
def Ov(c:List Int)(a b d:Int):List Int:=Yb (Lm (tzl c) a b d) (d^(6-c.length))
theorem Zk0{a:Int}(h:a.natAbs≤3600000):bl a.natAbs≤22:=(Xo 22 _).2 (Nat.lt_of_le_of_lt h O3)
theorem Zm0{d:Int}(h:bl d.natAbs≤22):∀k,k≤5→bl (d^k).natAbs≤132
 | 0,_=>by rw [Int.pow_zero];decide
 | k+1,hk=>by
  have key:∀k,bl (d^k).natAbs≤22*k+1:=fun k=>by
   induction k with
   | zero=>rw [Int.pow_zero];decide
   | succ k ih=>rw [Int.pow_succ];have:=Yv (d^k) d;omega
  have:=key (k+1);omega
theorem Zo7{c:List Int}(hc:∀a∈c,Qx a)(hl:1≤c.length∧c.length≤6){a b d:Int}(ha:a.natAbs≤3600000)(hb:b.natAbs≤3600000)(hd:1≤d∧d≤3600000) :
  Vp (tzl c)∧¬Zkp (tzl c) a b d∧Vp (Lm (tzl c) a b d)∧bl (d^(6-c.length)).natAbs≤132∧(∀i,bl (cf (Lm (tzl c) a b d) i*d^(6-c.length)).natAbs≤65536)∧Vp (Ov c a b d)∧Sz 1000 (Ov c a b d)∧(Ov c a b d).length≤6:=by
 have l0:(tzl c).length≤6:=Nat.le_trans (Kx c) hl.2
 have s0:Sz 64 (tzl c):=(ab_in hc).sz O3
 have b1:=Zk0 ha
 have b2:=Zk0 hb
 have b3:bl d.natAbs≤22:=Zk0 O
 have hnf:=cp_not (cp_nf s0 b1 b2 b3 O O)
 have hs:Sz 300 (Lm (tzl c) a b d):=by
  have hc:=Zhv (x:=a) (y:=b) (z:=d) (m:=22) s0 b1 b2 b3 ((tzl c).length-1)
  unfold Lm
  split
  ·exact Sz.nil _
  ·refine(Sz.tzl hc).mono ?_
   have:((tzl c).length-1)*(22+1)≤5*23:=Nat.mul_le_mul O O
   omega
 have ht:Tr (Lm (tzl c) a b d):=by
  unfold Lm
  split
  ·exact .inl rfl
  ·exact Qm _
 have hl2:(Lm (tzl c) a b d).length≤6:=Nat.le_trans (Zdr _ _ _ _) l0
 have hp:=Zm0 b3 (6-c.length) O
 have hq:∀i,bl (cf (Lm (tzl c) a b d) i*d^(6-c.length)).natAbs≤500:=fun i=>by
  have h1:=hs i
  have h2:=Yv (cf (Lm (tzl c) a b d) i) (d^(6-c.length))
  omega
 have hs3:Sz 1000 (Ov c a b d):=fun i=>by unfold Ov;rw [Yy];have:=hq i;omega
 have hl3:(Ov c a b d).length≤6:=Nat.le_trans (Ib _ _) hl2
 exact⟨⟨s0.mono O,Qm _,O⟩,hnf,⟨hs.mono O,ht,O⟩,hp,fun i=>by have:=hq i;omega,⟨hs3.mono O,Xi _ _,O⟩,hs3,hl3⟩
def Zqx(zs:List (SL×List Int)):List (SL×List Int):=zs ++ List.replicate (3-zs.length) ((none,0,0),[])
theorem Yef{zs:List (SL×List Int)}(h:zs.length≤3):(Zqx zs).length=3:=by unfold Zqx;rw [List.length_append,List.length_replicate];omega
theorem Yc3{zs:List (SL×List Int)}{i:Nat}{z:SL×List Int}(hi:i<3)(h:zs.length=i):(Zqx zs).set i z=Zqx (zs ++ [z]):=by
 subst h
 unfold Zqx
 rw [List.set_append_right _ _ (Nat.le_refl _),Nat.sub_self,List.length_append,List.append_assoc]
 congr 1
 obtain⟨k,hk⟩:∃k,3-zs.length=k+1:=⟨2-zs.length,O⟩
 rw [hk,List.replicate_succ,List.set_cons_zero,show 3-(zs.length+[z].length)=k by simp;omega]
 rfl
theorem Zsb{zs:List (SL×List Int)}{i t:Nat}{s:SL}{f:Nat→List Int}{d0:SL×List Int}(hl:zs.length=i)(h:∀t,t<i→(zs.getD t d0).2=f t)(ht:t<i+1):((zs ++ [(s,f i)]).getD t d0).2=f t:=by
 subst hl
 rw [List.getD_eq_getElem?_getD]
 rcases Nat.lt_succ_iff_lt_or_eq.1 ht with h9 | h9
 ·rw [List.getElem?_append_left h9,←List.getD_eq_getElem?_getD];exact h t h9
 ·subst h9;simp
theorem Ya0{zs:List (SL×List Int)}{x y z:List Int}{a b d:Int}{d0:SL×List Int}(hl:zs.length=3)(h:∀t,t<3→(zs.getD t d0).2=Ov (Zr t x y z) a b d):∃s1 s2 s3:SL,zs=[(s1,Ov x a b d),(s2,Ov y a b d),(s3,Ov z a b d)]:=by
 match zs,hl with
 | [z0,z1,z2],_=>
  have h0:=h 0 O3
  have h1:=h 1 O3
  have h2:=h 2 O3
  simp [Zr]at h0 h1 h2
  exact⟨z0.1,z1.1,z2.1,by rw [←h0,←h1,←h2]⟩
open Go.RowKit (Below)
variable {P:Program} {N:Nat} {sc:Nat→Prop} {env env':Qt} {H H':Hp} {Q Q':Exit→Act→World→Prop}
def YJI(P:Program)(w0:World)(l:Nat)(M:Nat→Prop)(J:Nat→World→Prop)(Jx:World→Prop){α G:Type}(xs:List α)(ys:α→G→List Value)(its:α→G→List Pc):Prop:=
 ∀k x g,xs[k]? = some x→∀W W1,J k W→w0.heap.size≤W.heap.size→Below W.heap.size W W1→(∀p∈its x g,p.holds W1∧p.own=false∧∀b,p.fp b→W.heap.size≤b)→
  YieldAt Fence.wide 0 P l (ys x g).toArray W1 fun e W'=>(e= .returned (.bool true)∧J (k+1) W'∧Chg (fun b=>M b∨w0.heap.size≤b) W1 W')∨(e= .returned (.bool false)∧Jx W'∧Chg (fun b=>M b∨w0.heap.size≤b) W1 W')
def Zk5(J:World→Prop):Prop:=∀W W',J W→Below W.heap.size W W'→J W'
def CalI(P:Program)(f:FuncId)(lb:List Value)(pre:List Pc){α G:Type}(xs:List α)(ys:α→G→List Value)(its:α→G→List Pc):Prop:=
 ∀(l:Nat) (M:Nat→Prop) (J:Nat→World→Prop) (Jx:World→Prop) (w:World),
  (∀p∈pre,p.holds w)→(∀p∈pre,∀b,p.fp b→¬M b)→(∀k,Zk5 (J k))→Zk5 Jx→J 0 w→YJI P w l M J Jx xs ys its→
  Calls P f (.func (.yield l) #[] #[] :: lb).toArray w fun e w'=>(∃v,e= .returned v)∧(J xs.length w'∨Jx w')
def Ygn(P:Program)(fn:Func)(n:Nat)(J:Nat→World→Prop)(Jx:World→Prop):Exit→Act→World→Prop:=
 bodyPost P fn fun e w'=>(∃v,e= .returned v)∧(J n w'∨Jx w')
theorem Yj4 {f:FuncId} {fn:Func} {c:Code} {lb:List Value} {pre:List Pc} {α G:Type} {xs:List α} {ys:α→G→List Value} {its:α→G→List Pc} {N:Nat}
  (hf:P.funcs[f]? = some fn) (hb:fn.body=some c) (hN:fn.ntmps=N) (hle:Nat.ble (lb.length+1) N=true) (hro:AllRo pre)
  (h:∀(l:Nat) (M:Nat→Prop) (J:Nat→World→Prop) (Jx:World→Prop) w0 (sc:Nat→Prop),(∀b,w0.heap.size≤b→sc b)→(∀p∈pre,∀b,p.fp b→b<w0.heap.size∧¬M b)→(∀k,Zk5 (J k))→Zk5 Jx→J 0 w0→YJI P w0 l M J Jx xs ys its→
   E P N sc c (Ygn P fn xs.length J Jx) (Po 0 (.func (.yield l) #[] #[] :: lb)) ((0,Xf w0 (fun _=>False)) :: Xx 1 pre)) :
  CalI P f lb pre xs ys its:=fun l M J Jx w hp hm hJ hJx hJ0 hY=>by
 refine calls_of_wp hf hb (h l M J Jx w (fun b=>w.heap.size≤b∨∃q∈pre,q.fp b) (fun b hb=> .inl hb) (fun p hpp b hb=>⟨p.lt w b (hp p hpp) hb,hm p hpp b hb⟩) hJ hJx hJ0 hY _ w ?_)
 have hle':lb.length+1≤N:=by simpa using hle
 refine⟨by simp [hN];omega,rfl,fun t v ht=>?_,fun i p hi=>?_,fun i j p q hne hi hj ho b hb hb'=>?_,fun i p hi0 hi b hb=>?_⟩
 ·have h1:=(Ii (.func (.yield l) #[] #[] :: lb) 0 t v ht).2
  have h1:(Value.func (.yield l) #[] #[] :: lb).toArray[t]? = some v:=by simpa using h1
  have hlt:=(Array.getElem?_eq_some_iff.1 h1).1
  rw [Array.getD_eq_getD_getElem?,Array.getElem?_append_left hlt,h1];rfl
 ·by_cases h0:0=i
  ·subst h0;rw [Zx]at hi;cases hi;exact Chg.refl _ w
  ·rw [Zl _ _ h0]at hi
   exact hp p (Pp pre 1 i p hi).2
 ·by_cases h0:0=i
  ·subst h0;rw [Zx]at hi;cases hi;cases ho
  ·rw [Zl _ _ h0]at hi
   rw [hro.mem p (Pp pre 1 i p hi).2]at ho;cases ho
 ·rw [Zl _ _ (fun e=>hi0 e.symm)]at hi
  exact .inr ⟨p,(Pp pre 1 i p hi).2,hb⟩
def LI(P:Program)(N:Nat)(sc:Nat→Prop)(ops:Array Oper)(rest:List Oper)(Q:Exit→Act→World→Prop)(env:Qt)(H:Hp):Prop:=
 ∀a w,Sat N sc env H a w→wpListIn Fence.wide 0 P ops Q rest a w
theorem e_li{id:Nat}{l:List Oper}(h:LI P N sc l.toArray l Q env H):E P N sc (.region id l.toArray false) Q env H:=fun a w hs=>
 (wpIn_wide (n:=0)).1 (wpIn_region_lit (h a w hs))
theorem Zgs{ops:Array Oper}{o:Oper}{ts:Array Value}(hg:o.guard=none):Region.wanted o (yielded ops ts)=true:=by simp [Region.wanted,hg]
theorem Zjz{ops:Array Oper}{o:Oper}{rest:List Oper}{d:Nat}{v:Value}(hv:Ml P N sc o env H v)(hg:o.guard=none)(hd:o.dst=some d)(hN:Nat.blt d N=true)(h:LI P N sc ops rest Q ((d,v) :: env) H):LI P N sc ops (o :: rest) Q env H:=fun a w hs=>by
 unfold wpListIn
 rw [if_pos (Zgs hg)]
 refine⟨fun _ _=>trivial,?_⟩
 show o.uponIn Fence.wide 0 P a _ Q ((execOp a.eval o).run P w)
 rw [hv a w hs]
 show wpListIn Fence.wide 0 P ops Q rest (a.put o.dst v) w
 rw [hd]
 exact h _ w (hs.put d v hN)
theorem Yea{ops:Array Oper}(h:X N sc .normal Q env H):LI P N sc ops [] Q env H:=fun a w hs=>h a w hs
theorem Sat.base {w0 W1 W':World} {M:Nat→Prop} {pre:List Pc} {a:Act} (hs:Sat N sc env H a W1) (hpre:∀p∈pre,∀b,p.fp b→b<w0.heap.size∧¬M b) (hro:AllRo pre) (hsub:HSub (Xx 1 pre) H)
  (hc:Chg (fun b=>M b∨w0.heap.size≤b) W1 W'):Sat N sc env ((0,Xf W' (fun _=>False)) :: Xx 1 pre) a W':=by
 refine⟨hs.size,hs.defers,hs.env,fun i p hi=>?_,fun i j p q hne hi hj ho b hb hb'=>?_,fun i p hi0 hi b hb=>?_⟩
 ·by_cases h0:0=i
  ·subst h0;rw [Zx]at hi;cases hi;exact Chg.refl _ _
  ·rw [Zl _ _ h0]at hi
   have hp:=(Pp pre 1 i p hi).2
   refine p.stable _ _ (hs.hold i p (hsub.lk i p hi)) ⟨hc.os,hc.tape,hc.output,hc.size,fun k hk hn=>hc.block k hk (fun hf=>?_)⟩
   have:=hpre p hp k (Classical.not_not.1 hn)
   rcases hf with h | h
   ·exact this.2 h
   ·omega
 ·by_cases h0:0=i
  ·subst h0;rw [Zx]at hi;cases hi;cases ho
  ·rw [Zl _ _ h0]at hi
   rw [hro.mem p (Pp pre 1 i p hi).2]at ho;cases ho
 ·rw [Zl _ _ (fun e=>hi0 e.symm)]at hi
  exact hs.scope i p hi0 (hsub.lk i p hi) b hb
theorem Yd8 {ops:Array Oper} {rest:List Oper} {o:Oper} {d l:Nat} {x:Operand} {ops':List Operand} {tys:Array TypeId} {vs:List Value} {w0 W:World} {M:Nat→Prop} {J:Nat→World→Prop} {Jx:World→Prop} {α G:Type} {xs:List α} {ys:α→G→List Value} {its:α→G→List Pc} {pre:List Pc}
  (k:Nat) (y:α) (g:G) (hY:YJI P w0 l M J Jx xs ys its) (hy:xs[k]? = some y) (hJ:J k W) (hW:w0.heap.size≤W.heap.size) (hpre:∀p∈pre,∀b,p.fp b→b<w0.heap.size∧¬M b)
  (ho:o.op= .call { callee:= .value x,args:=ops'.toArray,argTypes:=tys }) (hg:o.guard=none) (hd:o.dst=some d) (hN:Nat.blt d N=true) (hx:ev env x=some (.func (.yield l) #[] #[])) (hargs:EvL env ops' vs) (hvs:vs=ys y g)
  (h0:lk H 0=some (Xf W (fun _=>False))) (hits:∀p∈its y g,p.own=false∧(∀b,p.fp b→W.heap.size≤b)∧∃i it,lk H i=some it∧∀w,it.holds w→p.holds w)
  (hro:AllRo pre) (hsub:HSub (Xx 1 pre) H)
  (ht:∀W',J (k+1) W'→w0.heap.size≤W'.heap.size→LI P N sc ops rest Q ((d,.bool true) :: env) ((0,Xf W' (fun _=>False)) :: Xx 1 pre))
  (hf:∀W',Jx W'→w0.heap.size≤W'.heap.size→LI P N sc ops rest Q ((d,.bool false) :: env) ((0,Xf W' (fun _=>False)) :: Xx 1 pre)):LI P N sc ops (o :: rest) Q env H:=fun a w hs=>by
 subst hvs
 have hB:=Pz (hs.hold 0 _ h0)
 obtain⟨fn,tmps,assign,body,hrun,hround⟩:=hY k y g hy W w hJ hW hB (fun p hp=>by
  obtain⟨h1,h2,i,it,hi,hh⟩:=hits p hp
  exact⟨hh w (hs.hold i it hi),h1,h2⟩)
 have hrr:(o.semAt Fence.wide.round a.eval).run P w= .ok (.round l fn tmps assign body) w:=by
  show(execOp a.eval o).run P w=_
  have hm:=hargs.map hs
  have hxx:=hs.ev hx
  simp [execOp,ho,resolve,invoke,Deferred.ofValue,hm,hxx,hrun,Sem.run_bind]
 unfold wpListIn
 rw [if_pos (Zgs hg)]
 refine⟨fun _ _=>trivial,?_⟩
 rw [hrr]
 refine⟨fun h=>(by cases h),hround.mono ?_⟩
 have hsz:w0.heap.size≤w.heap.size:=Nat.le_trans hW hB.size
 rintro e W' (⟨rfl,hJ',hc⟩ | ⟨rfl,hJ',hc⟩)
 ·show wpListIn Fence.wide 0 P ops Q rest (a.put o.dst _) W'
  rw [hd]
  exact ht W' hJ' (Nat.le_trans hsz hc.size) _ W' ((hs.base hpre hro hsub hc).put d _ hN)
 ·show wpListIn Fence.wide 0 P ops Q rest (a.put o.dst _) W'
  rw [hd]
  exact hf W' hJ' (Nat.le_trans hsz hc.size) _ W' ((hs.base hpre hro hsub hc).put d _ hN)
theorem Yal{fn:Func}{J:Nat→World→Prop}{Jx:World→Prop}{W:World}{n:Nat}{e:Exit}(he:e= .ret∨e= .normal)(hf:fn.results=#[])(h0:lk H 0=some (Xf W (fun _=>False)))(hJs:∀k,Zk5 (J k))(hxs:Zk5 Jx)(h:J n W∨Jx W):X N sc e (Ygn P fn n J Jx) env H:=fun a w hs=>by
 have hB:=Pz (hs.hold 0 _ h0)
 have key:a.defers=[]∧∃v,(results fn a.tmps).run P w= .ok v w∧((∃u,Ending.returned v= .returned u)∧(J n w∨Jx w)):=
  ⟨hs.defers,_,Zjb hf,⟨_,rfl⟩,h.imp (fun h=>hJs n W w h hB) (fun h=>hxs W w h hB)⟩
 rcases he with rfl | rfl<;>exact key
end Go.Sky
namespace Go.Sky
open Go.RowKit (Below)
variable {P:Program} {N:Nat} {sc:Nat→Prop} {env env':Qt} {H H':Hp} {Q Q':Exit→Act→World→Prop}
def FpM:Hp→Hp→Prop
 | [],_=>True
 | (i,p) :: r,H=>(p.own=true∨∀b,p.fp b→∃j q,lk H j=some q∧q.fp b)∧FpM r H
theorem FpM.lk:∀{H' H:Hp},FpM H' H→∀i p,lk H' i=some p→p.own=true∨∀b,p.fp b→∃j q,lk H j=some q∧q.fp b
 | [],_,_,_,_,h=>by cases h
 | (k,u) :: r,H,h,i,p,hi=>by
  by_cases hk:k=i
  ·subst hk;rw [Zx]at hi;cases hi;exact h.1
  ·rw [Zl _ _ hk]at hi;exact FpM.lk h.2 i p hi
structure Kps (sc:Nat→Prop) (w:World) (Mf:Nat→Prop) (Hn:Hp) (W:World):Prop where
 hold:∀i it,lk Hn i=some it→it.holds W
 sep:∀i j it jt,i≠j→lk Hn i=some it→lk Hn j=some jt→it.own=true→∀b,it.fp b→jt.fp b→False
 scope:∀i it,i≠0→lk Hn i=some it→∀b,it.fp b→sc b
 off:∀i it,lk Hn i=some it→it.own=false→∀b,it.fp b→b<w.heap.size∨w.heap.size+2≤b
 mf:∀i it,lk Hn i=some it→it.own=true→∀b,it.fp b→Mf b
def Mof(w:World)(H:Hp)(b:Nat):Prop:=(∃i q,lk H i=some q∧q.own=true∧q.fp b)∨w.heap.size+2≤b
theorem Kps.chg{w:World}{Mf:Nat→Prop}{Hn:Hp}{W W':World}(h:Kps sc w Mf Hn W)(hc:∀i it,lk Hn i=some it→Chg (fun b=>¬it.fp b) W W'):Kps sc w Mf Hn W':=
 ⟨fun i it hi=>it.stable _ _ (h.hold i it hi) (hc i it hi),h.sep,h.scope,h.off,h.mf⟩
theorem Kps.stays{w:World}{Mf:Nat→Prop}{Hn:Hp}{W W':World}(h:Kps sc w Mf Hn W)(hB:Below W.heap.size W W'):Kps sc w Mf Hn W':=h.chg fun _ _ _=>Chg.of_below hB
theorem Kps.put{w:World}{Hn:Hp}{W:World}{d:Nat}{o:Obj}(h:Kps sc w (Mof w H) Hn W)(hlt:∀i q,lk H i=some q→∀b,q.fp b→b<w.heap.size)(hd:w.heap.size≤d∧d<w.heap.size+2):Kps sc w (Mof w H) Hn (W.putObj d o):=
 h.chg fun i it hi=>⟨rfl,rfl,rfl,O5,fun k hk hn=>World.putObj_heap_other (fun e=>hn fun hf=>by
  subst e
  cases ho:it.own with
  | false=>rcases h.off i it hi ho _ hf with h | h<;>omega
  | true=>
   rcases h.mf i it hi ho _ hf with⟨j,q,hq,_,hqf⟩ | h
   ·have:=hlt j q hq _ hqf;omega
   ·omega)⟩
theorem Kps.sat{w:World}{Mf:Nat→Prop}{Hn:Hp}{W:World}{a:Act}(h:Kps sc w Mf Hn W)(hsz:a.tmps.size=N)(hd:a.defers=[])(he:∀t v,lk env t=some v→a.tmps.getD t undef=v):Sat N sc env Hn a W:=⟨hsz,hd,he,h.hold,h.sep,h.scope⟩
def Zoh(H:Hp)(w0:World):Prop:=lk H 0=some (Xf w0 (fun _=>False))∧lk H 92=none
def Mfs(sc:Nat→Prop)(w:World)(H:Hp)(b:Nat):Prop:=Mof w H b∨¬sc b
theorem Sat.ps {w Wb W3:World} {Hn Hall:Hp} {a:Act} (hs:Sat N sc env ((92,Xf Wb (Mfs sc w H)) :: Hn) a W3) (h92:lk Hn 92=none) (h0:∀q,lk Hn 0=some q→q.own=false) (hb:w.heap.size+2≤Wb.heap.size)
  (hf:FpM Hn Hall) (hpp:∀j q,lk Hall j=some q→∀b,q.fp b→q.own=true→Mof w H b) (hpp2:∀j q,lk Hall j=some q→∀b,q.fp b→q.own=false→b<w.heap.size∨w.heap.size+2≤b) (hlt:∀i q,lk H i=some q→∀b,q.fp b→b<w.heap.size):Kps sc w (Mof w H) Hn W3:=by
 have hl:∀i it,lk Hn i=some it→lk ((92,Xf Wb (Mfs sc w H)) :: Hn) i=some it:=fun i it hi=>by
  by_cases h1:92=i
  ·subst h1;rw [h92]at hi;cases hi
  ·rw [Zl _ _ h1];exact hi
 have hmf:∀i it,lk Hn i=some it→it.own=true→∀b,it.fp b→Mof w H b:=fun i it hi ho b hb'=>by
  have h92i:i≠92:=fun e=>by subst e;rw [h92]at hi;cases hi
  have h0i:i≠0:=fun e=>by subst e;rw [h0 it hi]at ho;cases ho
  have hsc:=hs.scope i it h0i (hl i it hi) b hb'
  have:=hs.sep i 92 it _ h92i (hl i it hi) (Zx _ _ _) ho b hb'
  by_cases hlt':b<Wb.heap.size
  ·rcases(Classical.not_not.1 fun hn=>this ⟨hlt',hn⟩:Mfs sc w H b)with h | h
   ·exact h
   ·exact absurd hsc h
  ·exact .inr O
 refine⟨fun i it hi=>hs.hold i it (hl i it hi),fun i j it jt hne hi hj=>hs.sep i j it jt hne (hl i it hi) (hl j jt hj),fun i it hi0 hi=>hs.scope i it hi0 (hl i it hi),fun i it hi ho b hb'=>?_,hmf⟩
 rcases hf.lk i it hi with h | h
 ·rw [ho]at h;cases h
 ·obtain⟨j,q,hq,hqb⟩:=h b hb'
  cases hqo:q.own with
  | false=>exact hpp2 j q hq b hqb hqo
  | true=>
   rcases hpp j q hq b hqb hqo with⟨i',q',hq',_,hf'⟩ | h
   ·exact .inl (hlt i' q' hq' b hf')
   ·exact .inr h
def RB(N:Nat)(sc:Nat→Prop)(Mf:Nat→Prop)(Hall:Hp){GG GX:Type}(HH:GG→Hp)(inv:GG→Prop)(HX:GX→Hp)(invx:GX→Prop)(Wb:World):Exit→Act→World→Prop:=fun e a W=>
 (e= .normal∧∃gg,inv gg∧FpM (HH gg) Hall∧∃env',Sat N sc env' ((92,Xf Wb Mf) :: HH gg) a W)∨(e= .ret∧∃gx,invx gx∧FpM (HX gx) Hall∧∃env',Sat N sc env' ((92,Xf Wb Mf) :: HX gx) a W)
def RA(P:Program)(N:Nat)(sc:Nat→Prop)(l:Nat)(Mf:Nat→Prop)(Hall:Hp)(body:Code){GG GX:Type}(HH:GG→Hp)(inv:GG→Prop)(HX:GX→Hp)(invx:GX→Prop)(Wa:World):Exit→Act→World→Prop:=fun e a W=>
 e= .normal∧∃env1 H1,lk H1 92=none∧(∀q,lk H1 0=some q→q.own=false)∧FpM H1 Hall∧Sat N sc env1 ((92,Xf Wa Mf) :: H1) a W∧
  ∀Wb a W,Sat N sc env1 ((92,Xf Wb Mf) :: H1) a W→body.wpIn (Fence.wide.inRound l) 0 P (RB N sc Mf Hall HH inv HX invx Wb) a W
theorem Zwo:∀(l:List Pc) (n:Nat) (H:Hp) (j:Nat) (q:Pc),lk (adds n l H) j=some q→q∈l∨lk H j=some q
 | [],_,_,_,_,h=> .inr h
 | p :: r,n,H,j,q,h=>by
  by_cases hn:n=j
  ·subst hn;rw [show adds n (p :: r) H=(n,p) :: adds (n+1) r H from rfl,Zx]at h;cases h;exact .inl (List.mem_cons_self ..)
  ·rw [show adds n (p :: r) H=(n,p) :: adds (n+1) r H from rfl,Zl _ _ hn]at h
   exact(Zwo r (n+1) H j q h).imp (List.mem_cons_of_mem _) id
@[reducible] def renv:List Nat→List Value→Qt→Qt
 | p :: ps,v :: vs,env=>renv ps vs ((p,v) :: env)
 | _,_,env=>env
theorem Sat.rounds{w:World} : ∀(ps:List Nat) (vs:List Value) {env:Qt} {tm:Array Value},(ps.all fun p=>Nat.blt p N)=true→Sat N sc env H { tmps:=tm,defers:=[] } w→
  Sat N sc (renv ps vs env) H { tmps:=(ps.zip vs).foldl (fun t pv=>t.setIfInBounds pv.1 pv.2) tm,defers:=[] } w
 | [],_,_,_,_,h=>h
 | _ :: _,[],_,_,_,h=>h
 | p :: ps,v :: vs,env,tm,hp,h=>by
  simp only [List.all_cons,Bool.and_eq_true]at hp
  exact Sat.rounds ps vs (env:=(p,v) :: env) hp.2 (h.put p v hp.1)
theorem Zrl {fn:Func} {w0 W:World} {preF:List Pc} {al:Bool} {GF:Type} {φ:GF→Prop} {Yc:GF→Value} {itsF:GF→List Pc} {a:Act} {D:Nat}
  (hD:W.heap[D]? = some (.deferred (some []))) (h:Zb6 P fn w0 preF al φ Yc itsF .ret { a with defers:=[] } (W.putObj D (.deferred none))) :
  Co P fn w0 preF al φ Yc itsF .ret { a with defers:=[{ target:= .collected D,args:=#[] }] } W:=by
 obtain⟨-,v,hr,hR⟩:=h
 exact⟨O5,.inl ⟨_,_,rfl,run_takeDeferred hD,⟨v,hr,hR⟩⟩⟩
theorem e_rfi {g:Operand} {gf idc bk0:Nat} {ps:List Nat} {assign body:Code} {lbv:List Value} {pre:List Pc} {α G:Type} {xs:List α} {ys:α→G→List Value} {its:α→G→List Pc} {lc:List Oper} {fn:Func} {w0:World} {preF:List Pc} {al:Bool} {GF:Type} {φ:GF→Prop} {Yc:GF→Value} {itsF:GF→List Pc}
  {GG GX:Type} (HH:Nat→GG→Hp) (inv:Nat→GG→Prop) (HX:GX→Hp) (invx:GX→Prop) (gg0:GG)
  (hg:ev env g=some (.func (.func gf) #[] lbv.toArray)) (eg:∀args w,(callFunc gf args).run P w= .ok (.enter gf args) w) (hc:CalI P gf lbv pre xs ys its)
  (hp:∀p∈pre,p.own=false∧∃i,lk H i=some p) (hps:∀x gi,(ys x gi).length=ps.length) (hpN:(ps.all fun p=>Nat.blt p N)=true)
  (hw:∀b,w0.heap.size≤b→sc b) (h0:lk H 0=some (Xf w0 (fun _=>False)))
  (hi0:inv 0 gg0) (hs0:HSub (HH 0 gg0) H) (hk:∀k gg,Zoh (HH k gg) w0) (hkx:∀gx,Zoh (HX gx) w0)
  (hround:∀k x gi gg,xs[k]? = some x→inv k gg→∀l Mf Wa a W,Sat N sc (renv ps (ys x gi) env) ((92,Xf Wa Mf) :: adds 100 (its x gi) (HH k gg)) a W→
   assign.wpIn (Fence.wide.inRound l) 0 P (RA P N sc l Mf (adds 100 (its x gi) (HH k gg)) body (HH (k+1)) (inv (k+1)) HX invx Wa) a W)
  (hlc:lc.all Gv=true)
  (hC:∀gg,inv xs.length gg→∀D od,L P N sc lc.toArray lc (Hl fun e a w=>e= .normal∧∃env2 H2,lk H2 92=none∧FpSub H2 (HH xs.length gg)∧Sat N sc env2 ((92,fx D od) :: H2) a w∧X N sc .ret (Zb6 P fn w0 preF al φ Yc itsF) env2 H2) env ((92,fx D od) :: HH xs.length gg))
  (hX:∀gx,invx gx→X N sc .ret (Zb6 P fn w0 preF al φ Yc itsF) env (HX gx)) :
  E P N sc (.rangeFunc g ps.toArray assign body) (Exit.inBlock bk0 (Exit.then ((Code.seq (.region idc lc.toArray false) .ret).wp P (Co P fn w0 preF al φ Yc itsF)) (Co P fn w0 preF al φ Yc itsF))) env H:=fun a w hs=>by
 have hlt:∀i p,lk H i=some p→∀b,p.fp b→b<w.heap.size:=fun i p hi b hb=>p.lt w b (hs.hold i p hi) hb
 have hw0:w0.heap.size≤w.heap.size:=(hs.hold 0 _ h0).size
 refine(wpIn_wide (n:=0)).1 (wpIn_rangeFunc ?_)
 intro fn' hfn
 obtain⟨rec,hrec⟩:∃rec:LoopState→Option Code→Loop,rec=fun st pe=>{ state:=st,pending:=pe,fn:=fn',tmps:=a.tmps,params:=ps.toArray,assign,body,defers:=w.heap.size }:=⟨_,rfl⟩
 obtain⟨W1,hW1⟩:∃W1,(w.alloc (.deferred (some []))).alloc (.loop (rec .ready none))=W1:=⟨_,rfl⟩
 have hL1:W1.heap[w.heap.size+1]? = some (.loop (rec .ready none)):=by
  rw [←hW1];have:=World.alloc_heap_new (w.alloc (.deferred (some []))) (.loop (rec .ready none));rwa [World.size_alloc]at this
 have hK1:W1.heap[w.heap.size]? = some (.deferred (some [])):=by
  rw [←hW1];exact(Below.heap_alloc _ _ _ O5).trans (World.alloc_heap_new w _)
 have hb1:Below w.heap.size w W1:=by
  rw [←hW1];exact((Below.refl _ w).alloc (Nat.le_refl _) _).alloc O5 _
 have hs1:W1.heap.size=w.heap.size+2:=by rw [←hW1];simp
 have e0:(#[.func (.yield (w.heap.size+1)) #[] #[]] ++ lbv.toArray:Array Value)=(Value.func (.yield (w.heap.size+1)) #[] #[] :: lbv).toArray:=O5
 refine⟨w.heap.size+1,[{ target:= .collected w.heap.size,args:=#[] }],W1,{ target:= .fn (.func gf) lbv.toArray,args:=#[.func (.yield (w.heap.size+1)) #[] #[]] },W1,gf,
  (Value.func (.yield (w.heap.size+1)) #[] #[] :: lbv).toArray,W1,?_,?_,fun _ _=>trivial,?_,fun h=>(by cases h),?_⟩
 ·rw [←hW1,hrec];exact run_enterLoop_outer _ _ _ _ _
 ·simp only [resolve,hs.ev hg]
  simp [go_sem]
 ·simp [invoke,go_sem,eg]
 have hstay:∀(Hn:Hp) (r:Loop),Zk5 fun W=>W.heap[w.heap.size+1]? = some (.loop r)∧W.heap[w.heap.size]? = some (.deferred (some []))∧W1.heap.size≤W.heap.size∧Kps sc w (Mof w H) Hn W:=fun Hn r W W' ⟨h1,h2,h3,h4⟩ hB=>
  ⟨(hB.block _ (Array.getElem?_eq_some_iff.1 h1).1).trans h1,(hB.block _ (Array.getElem?_eq_some_iff.1 h2).1).trans h2,Nat.le_trans h3 hB.size,h4.stays hB⟩
 have hlN:¬Mof w H (w.heap.size+1):=fun h=>by
  rcases h with⟨i,q,hq,_,hf⟩ | h
  ·have:=hlt i q hq _ hf;omega
  ·omega
 have hDN:¬Mof w H w.heap.size:=fun h=>by
  rcases h with⟨i,q,hq,_,hf⟩ | h
  ·have:=hlt i q hq _ hf;omega
  ·omega
 have hoD:∀(Hn:Hp) (W:World),Kps sc w (Mof w H) Hn W→∀(o:Obj),Kps sc w (Mof w H) Hn (W.putObj w.heap.size o):=fun Hn W h o=>h.put hlt ⟨Nat.le_refl _,O⟩
 have hol:∀(Hn:Hp) (W:World),Kps sc w (Mof w H) Hn W→∀(o:Obj),Kps sc w (Mof w H) Hn (W.putObj (w.heap.size+1) o):=fun Hn W h o=>h.put hlt ⟨O,O⟩
 refine callsIn_wide.2 ((hc (w.heap.size+1) (fun b=>(∃i q,lk H i=some q∧q.own=true∧q.fp b)∨b=w.heap.size+1)
  (fun k W=>∃gg,inv k gg∧(W.heap[w.heap.size+1]? = some (.loop (rec .ready none))∧W.heap[w.heap.size]? = some (.deferred (some []))∧W1.heap.size≤W.heap.size∧Kps sc w (Mof w H) (HH k gg) W))
  (fun W=>∃gx,invx gx∧(W.heap[w.heap.size+1]? = some (.loop (rec .done (some .ret)))∧W.heap[w.heap.size]? = some (.deferred (some []))∧W1.heap.size≤W.heap.size∧Kps sc w (Mof w H) (HX gx) W)) W1
  ?_ ?_ ?_ ?_ ?_ ?_).mono ?_)
 ·intro p hpp
  obtain⟨ho,i,hi⟩:=hp p hpp
  exact p.stable _ _ (hs.hold i p hi) (Chg.of_below hb1)
 ·rintro p hpp b hb (⟨i,q,hq,hqo,hqb⟩ | rfl)
  ·obtain⟨ho,j,hj⟩:=hp p hpp
   exact hs.sep i j q p (fun e=>by subst e;rw [hq]at hj;cases hj;rw [ho]at hqo;cases hqo) hq hj hqo b hqb hb
  ·obtain⟨ho,j,hj⟩:=hp p hpp
   have:=hlt j p hj _ hb;omega
 ·rintro k W W' ⟨gg,hg1,h⟩ hB;exact⟨gg,hg1,hstay _ _ W W' h hB⟩
 ·rintro W W' ⟨gx,hg1,h⟩ hB;exact⟨gx,hg1,hstay _ _ W W' h hB⟩
 ·refine⟨gg0,hi0,hL1,hK1,Nat.le_refl _,fun i it hi=>it.stable _ _ (hs.hold i it (hs0.lk i it hi)) (Chg.of_below hb1),fun i j it jt hne hi hj=>hs.sep i j it jt hne (hs0.lk i it hi) (hs0.lk j jt hj),
   fun i it hi0 hi=>hs.scope i it hi0 (hs0.lk i it hi),fun i it hi _ b hb=> .inl (hlt i it (hs0.lk i it hi) b hb),fun i it hi ho b hb=> .inl ⟨i,it,hs0.lk i it hi,ho,hb⟩⟩
 ·rintro k x gi hx W Wa ⟨gg,hinv,hl,hd,hsz,hps1⟩ hsW hB hits
  have hl':Wa.heap[w.heap.size+1]? = some (.loop (rec .ready none)):=(hB.block _ O).trans hl
  have hd':Wa.heap[w.heap.size]? = some (.deferred (some [])):=(hB.block _ O).trans hd
  have hy:=run_yield (P:=P) (args:=(ys x gi).toArray) hl' (by rw [hrec];simp [hps])
  have hitsz:∀p∈its x gi,∀b,p.fp b→w.heap.size+2≤b:=fun p hp b hb=>by have:=(hits p hp).2.2 b hb;omega
  have s1:Sat N sc env (HH k gg) { tmps:=a.tmps,defers:=[] } Wa:=(hps1.stays hB).sat hs.size rfl hs.env
  have s2:Sat N sc env (adds 100 (its x gi) (HH k gg)) { tmps:=a.tmps,defers:=[] } Wa:=s1.adds (w1:=Wa) _ _ fun p hpp=>⟨(hits p hpp).1,(hits p hpp).2.1,fun b hb=>hw b (by have:=hitsz p hpp b hb;omega),fun j jt hj ho b hb hb'=>by
   have h1:=(hits p hpp).2.2 b hb
   have h2:=jt.lt W b (hps1.hold j jt hj) hb'
   omega⟩
  have hall:∀j q,lk (adds 100 (its x gi) (HH k gg)) j=some q→(q∈its x gi)∨lk (HH k gg) j=some q:=fun j q h=>Zwo _ _ _ j q h
  have hpp:∀j q,lk (adds 100 (its x gi) (HH k gg)) j=some q→∀b,q.fp b→q.own=true→Mof w H b:=fun j q hj b hb ho=>by
   rcases hall j q hj with h | h
   ·rw [(hits q h).2.1]at ho;cases ho
   ·exact hps1.mf j q h ho b hb
  have hpp2:∀j q,lk (adds 100 (its x gi) (HH k gg)) j=some q→∀b,q.fp b→q.own=false→b<w.heap.size∨w.heap.size+2≤b:=fun j q hj b hb ho=>by
   rcases hall j q hj with h | h
   ·exact .inr (hitsz q h b hb)
   ·exact hps1.off j q h ho b hb
  have s3:=s2.rounds ps (ys x gi) hpN
  have s4:Sat N sc (renv ps (ys x gi) env) ((92,Xf Wa (Mfs sc w H)) :: adds 100 (its x gi) (HH k gg)) _ Wa:=s3.add 92 (Xf Wa (Mfs sc w H)) (Chg.refl _ _) (fun j jt hne hj Lp b hb hb'=>by
   rcases Lp with h | h
   ·cases h
   ·exact hb.2 (.inl (hpp j jt hj b hb' h))) (fun b hb=>Classical.not_not.1 fun hn=>hb.2 (.inr hn))
  have hlM:¬Mfs sc w H (w.heap.size+1):=fun h=>h.elim hlN (fun hn=>hn (hw _ O))
  have hDM:¬Mfs sc w H w.heap.size:=fun h=>h.elim hDN (fun hn=>hn (hw _ hw0))
  rw [hrec]at hy
  refine⟨fn',_,assign,body,hy,roundIn_of_wpIn hfn ?_⟩
  have hr:=hround k x gi gg hx hinv (w.heap.size+1) (Mfs sc w H) Wa _ Wa s4
  have e3:(ps.toArray.zip (ys x gi).toArray).foldl (fun t (p,v)=>t.setIfInBounds p v) a.tmps=(ps.zip (ys x gi)).foldl (fun t pv=>t.setIfInBounds pv.1 pv.2) a.tmps:=O5
  have hsWa:w.heap.size+2≤Wa.heap.size:=by have:=hB.size;omega
  have hk0:∀(Hn:Hp),Zoh Hn w0→∀q,lk Hn 0=some q→q.own=false:=fun Hn h q hq=>by rw [h.1]at hq;cases hq;rfl
  rw [show(ps.toArray.zip (ys x gi).toArray).foldl (fun t (x:Nat×Value)=>t.setIfInBounds x.1 x.2) a.tmps=(ps.zip (ys x gi)).foldl (fun t pv=>t.setIfInBounds pv.1 pv.2) a.tmps from e3]
  refine wpIn_mono hr ?_
  rintro e a1 W2 ⟨rfl,env1,H1,h92,hK1',hF1,hs1',hbody⟩
  have hc2:Chg (Mfs sc w H) Wa W2:=hs1'.hold 92 _ (Zx _ _ _)
  have hl2:W2.heap[w.heap.size+1]? = some (.loop (rec .ready none)):=(hc2.block _ O hlM).trans hl'
  have hd2:W2.heap[w.heap.size]? = some (.deferred (some [])):=(hc2.block _ O hDM).trans hd'
  have p1:=hs1'.ps h92 hK1' hsWa hF1 hpp hpp2 hlt
  have hsz2:Wa.heap.size≤W2.heap.size:=hc2.size
  obtain⟨W2b,hW2b⟩:∃W2b,W2.putObj (w.heap.size+1) (.loop { rec .ready none with state:= .busy })=W2b:=⟨_,rfl⟩
  have s2b:Sat N sc env1 ((92,Xf W2b (Mfs sc w H)) :: H1) a1 W2b:=by
   have p2:=hol _ _ p1 (.loop { rec .ready none with state:= .busy })
   rw [hW2b]at p2
   refine(p2.sat hs1'.size hs1'.defers hs1'.env).add 92 (Xf W2b (Mfs sc w H)) (Chg.refl _ _) (fun j jt hne hj Lp b hb hb'=>?_) (fun b hb=>Classical.not_not.1 fun hn=>hb.2 (.inr hn))
   rcases Lp with h | h
   ·cases h
   ·exact hb.2 (.inl (p2.mf j jt hj h b hb'))
  have hsz2b:W2.heap.size=W2b.heap.size:=by rw [←hW2b];simp
  have hl2b:W2b.heap[w.heap.size+1]? = some (.loop { rec .ready none with state:= .busy }):=by rw [←hW2b];exact World.putObj_heap_same O
  have hd2b:W2b.heap[w.heap.size]? = some (.deferred (some [])):=by rw [←hW2b];exact(World.putObj_heap_other O).trans hd2
  refine⟨W2b,by rw [←hW2b];exact run_beginRound hl2 (by rw [hrec]),wpIn_mono (hbody W2b a1 W2b s2b) ?_⟩
  have hfin:∀(Hn:Hp) (env':Qt) (a3:Act) (W3:World),Zoh Hn w0→FpM Hn (adds 100 (its x gi) (HH k gg))→Sat N sc env' ((92,Xf W2b (Mfs sc w H)) :: Hn) a3 W3→∀(r:Loop),
    W3.heap[w.heap.size+1]? = some (.loop { rec .ready none with state:= .busy })∧(((W3.putObj (w.heap.size+1) (.loop r)).heap[w.heap.size+1]? = some (.loop r)∧(W3.putObj (w.heap.size+1) (.loop r)).heap[w.heap.size]? = some (.deferred (some []))∧
     W1.heap.size≤(W3.putObj (w.heap.size+1) (.loop r)).heap.size∧Kps sc w (Mof w H) Hn (W3.putObj (w.heap.size+1) (.loop r)))∧
     Chg (fun b=>((∃i q,lk H i=some q∧q.own=true∧q.fp b)∨b=w.heap.size+1)∨W1.heap.size≤b) Wa (W3.putObj (w.heap.size+1) (.loop r))):=by
   intro Hn env' a3 W3 hkn hFn hs3 r
   have hc3:Chg (Mfs sc w H) W2b W3:=hs3.hold 92 _ (Zx _ _ _)
   have hl3:=(hc3.block _ O hlM).trans hl2b
   have hd3:=(hc3.block _ O hDM).trans hd2b
   have hsz3:=hc3.size
   have p3:=hs3.ps hkn.2 (hk0 Hn hkn) O hFn hpp hpp2 hlt
   refine⟨hl3,⟨World.putObj_heap_same O,(World.putObj_heap_other O).trans hd3,O8,hol _ _ p3 _⟩,?_⟩
   have k0:(Xf w0 (fun _=>False)).holds Wa:=hps1.stays hB |>.hold 0 _ (hk k gg).1
   have k3:(Xf w0 (fun _=>False)).holds W3:=p3.hold 0 _ hkn.1
   refine⟨?_,?_,?_,O8,fun b hb hn=>?_⟩
   ·exact hc3.os.trans ((by rw [←hW2b];rfl:W2b.os=W2.os).trans hc2.os)
   ·exact hc3.tape.trans ((by rw [←hW2b];rfl:W2b.tape=W2.tape).trans hc2.tape)
   ·exact hc3.output.trans ((by rw [←hW2b];rfl:W2b.output=W2.output).trans hc2.output)
   ·have hbl:b≠w.heap.size+1:=fun e=>hn (.inl (.inr e))
    have hMb:¬Mof w H b:=fun h=>by
     rcases h with h | h
     ·exact hn (.inl (.inl h))
     ·exact hn (.inr O)
    refine(World.putObj_heap_other hbl).trans ?_
    by_cases hsb:sc b
    ·have hMf:¬Mfs sc w H b:=fun h=>h.elim hMb (fun h=>h hsb)
     refine(hc3.block b O hMf).trans ?_
     have:W2b.heap[b]? = W2.heap[b]?:=by rw [←hW2b];exact World.putObj_heap_other hbl
     exact this.trans (hc2.block b hb hMf)
    ·have hb0:b<w0.heap.size:=by
      rcases Nat.lt_or_ge b w0.heap.size with h | h
      ·exact h
      ·exact absurd (hw b h) hsb
     exact(k3.block b hb0 (fun h=>h)).trans (k0.block b hb0 (fun h=>h)).symm
  rintro e a3 W3 (⟨rfl,gg',hi',hF',env',hs3⟩ | ⟨rfl,gx,hi',hF',env',hs3⟩)
  ·obtain⟨hl3,hJ3,hC3⟩:=hfin _ env' a3 W3 (hk (k+1) gg') hF' hs3 (rec .ready none)
   have:=run_endRound (P:=P) none hl3
   rw [show({ ({ rec .ready none with state:= .busy } : Loop)with state:=if(none:Option Code).isNone then LoopState.ready else .done,pending:=none } : Loop)=rec .ready none by rw [hrec];rfl]at this
   exact⟨_,_,this,.inl ⟨rfl,⟨gg',hi',hJ3⟩,hC3⟩⟩
  ·obtain⟨hl3,hJ3,hC3⟩:=hfin _ env' a3 W3 (hkx gx) hF' hs3 (rec .done (some .ret))
   have:=run_endRound (P:=P) (some .ret) hl3
   rw [show({ ({ rec .ready none with state:= .busy } : Loop)with state:=if(some Code.ret).isNone then LoopState.ready else .done,pending:=some .ret } : Loop)=rec .done (some .ret) by rw [hrec];rfl]at this
   exact⟨_,_,this,.inr ⟨rfl,⟨gx,hi',hJ3⟩,hC3⟩⟩
 ·have hnd:∀(Hn:Hp) (W:World),Kps sc w (Mof w H) Hn W→Kps sc w (Mof w H) Hn ((W.putObj (w.heap.size+1) (.loop (rec .exhausted none))).putObj w.heap.size (.deferred none)):=fun Hn W h=>hoD _ _ (hol _ _ h _) _
  rintro e W2 ⟨⟨v,rfl⟩,⟨gg,hinv,hl,hd,hsz,hp2⟩ | ⟨gx,hinv,hl,hd,hsz,hp2⟩⟩
  ·refine⟨none,_,by have:=run_endLoop (P:=P) hl (by rw [hrec];simp);rw [hrec]at this;exact this,?_⟩
   obtain⟨W3,hW3⟩:∃W3,W2.putObj (w.heap.size+1) (.loop (rec .exhausted none))=W3:=⟨_,rfl⟩
   have p3:=hol _ _ hp2 (.loop (rec .exhausted none))
   rw [hW3]at p3
   have hd3:W3.heap[w.heap.size]? = some (.deferred (some [])):=by rw [←hW3];exact(World.putObj_heap_other O).trans hd
   have hsz3:W3.heap.size=W2.heap.size:=by rw [←hW3];simp
   rw [show W2.putObj (w.heap.size+1) (.loop { state:= .exhausted,pending:=none,fn:=fn',tmps:=a.tmps,params:=ps.toArray,assign:=assign,body:=body,defers:=w.heap.size })=W3 by rw [←hW3,hrec]]
   have s3:Sat N sc env (HH xs.length gg) { tmps:=a.tmps,defers:=[] } W3:=p3.sat hs.size rfl hs.env
   have s4:Sat N sc env ((92,fx w.heap.size (.deferred (some []))) :: HH xs.length gg) { tmps:=a.tmps,defers:=[] } W3:=s3.add 92 _ hd3 (fun j jt hne hj Lp b hb hb'=>by
    rcases Lp with h | h
    ·cases h
    ·have hb:b=w.heap.size:=hb
     subst hb
     exact hDN (p3.mf j jt hj h _ hb')) (fun b hb=>hw b (by have hb:b=w.heap.size:=hb;omega))
   rw [hs.defers]
   refine wp_seq (wp_region_lit (Zh5 (P:=P) (ops:=lc.toArray) (Q:=Exit.then (Code.ret.wp P (Co P fn w0 preF al φ Yc itsF)) (Co P fn w0 preF al φ Yc itsF)) (ds:=[{ target:= .collected w.heap.size,args:=#[] }]) lc { tmps:=a.tmps,defers:=[] } W3 hlc ?_))
   refine Mu (fun e a' W' h=>?_) lc _ W3 (hC gg hinv _ _ _ W3 s4)
   cases e with
   | normal=>
    obtain⟨-,env2,H2,h92,hfs,hs5,hx⟩:=h
    refine wp_ret (Zrl (hs5.hold 92 _ (Zx _ _ _)) ?_)
    have hl2:∀i it,lk H2 i=some it→lk ((92,fx w.heap.size (.deferred (some []))) :: H2) i=some it:=fun i it hi=>by
     by_cases h1:92=i
     ·subst h1;rw [h92]at hi;cases hi
     ·rw [Zl _ _ h1];exact hi
    refine hx _ _ ⟨hs5.size,rfl,hs5.env,fun i it hi=>it.stable _ _ (hs5.hold i it (hl2 i it hi)) ⟨rfl,rfl,rfl,O5,fun k hk hn=>World.putObj_heap_other (fun e=>hn fun hf=>?_)⟩,fun i j it jt hne hi hj=>hs5.sep i j it jt hne (hl2 i it hi) (hl2 j jt hj),fun i it hi0 hi=>hs5.scope i it hi0 (hl2 i it hi)⟩
    subst e
    obtain⟨q,hq,hoq,hfq⟩:=hfs.lk i it hi
    cases hqo:q.own with
    | true=>exact hDN (p3.mf i q hq hqo _ (hfq _ hf))
    | false=>rcases p3.off i q hq hqo _ (hfq _ hf)with h | h<;>omega
   | _=>exact h.elim
  ·refine⟨some .ret,_,by have:=run_endLoop (P:=P) hl (by rw [hrec];simp);rw [hrec]at this;exact this,wpIn_ret ?_⟩
   have p3:=hol _ _ hp2 (.loop { rec .done (some .ret)with state:= .exhausted })
   have hd3:(W2.putObj (w.heap.size+1) (.loop { rec .done (some .ret)with state:= .exhausted })).heap[w.heap.size]? = some (.deferred (some [])):=(World.putObj_heap_other O).trans hd
   rw [hrec]at p3 hd3
   rw [hs.defers]
   exact Zrl hd3 (hX gx hinv _ _ ((hoD _ _ p3 _).sat hs.size rfl hs.env))
end Go.Sky
namespace Go.Sky
open Go.Proofs
set_option synthInstance.maxHeartbeats 0
set_option synthInstance.maxSize 100000
set_option maxRecDepth 20000
set_option maxHeartbeats 4000000
set_option linter.unusedSimpArgs false
theorem Zgz(fr to ov:Int)(vx vy vz:Value)(x y z:List Int)(ca cb cd:Int)(hS:Sgo fr to ov x y z)(ha:ca.natAbs≤3600000)(hb:cb.natAbs≤3600000)(hd:1≤cd∧cd≤3600000):Cal Tryz.prog 149 #[.agg #[.int .i64 fr,.int .i64 to,.int .i64 ov,vx,vy,vz],.int .i64 ca,.int .i64 cb,.int .i64 cd] [Ym 1 Yl vx x,Ym 1 Yl vy y,Ym 1 Yl vz z] true (G:=SL×SL×SL) (fun g=>True) (fun g=> .agg #[Qo g.1,Qo g.2.1,Qo g.2.2]) (fun g=>[Ym 2 wv (Qo g.1) (Ov x ca cb cd),Ym 2 wv (Qo g.2.1) (Ov y ca cb cd),Ym 2 wv (Qo g.2.2) (Ov z ca cb cd)]):=by
 refine Zd Tryz.func149 Tryz.ntmps149 fun w0 sc hw hsc=>?_
 have hba:=Zk0 ha
 have hbb:=Zk0 hb
 have hbd:bl cd.natAbs≤22:=Zk0 O
 refine go 2 ?_
 refine Yd (Yg 4) fun bx _=>?_
 refine Yd (Zs 5) fun bx_2 _=>?_
 refine go 6 ?_
 refine cl 5 [1,2,3] (Znb _ _ _ _ _ _ _ _ _) fun _ _=>?_
 refine go 4 ?_
 refine Ze (Mt 5 (q:=box bx_2 205 (cellsOf (Kk (α:=List Int)) (Zqx [])).toArray) (congrArg (box bx_2 205) (show _=(cellsOf (Kk (α:=List Int)) (Zqx [])).toArray from rfl)) rfl rfl) ?_
 refine Ze (Oc qZ 71) ?_
 refine lp (G:=Nat×List (SL×List Int)) [1,2,3,8,14] [0,1,2,3,4] (fun q=>[(15,.int .i64 (q.1:Int))]) (fun q=>[(5,box bx_2 205 (cellsOf (Kk (α:=List Int)) (Zqx q.2)).toArray),(71,De qZ q.2)]) (fun q=>(q.1≤3)∧(q.2.length=q.1)∧(∀t,t<q.1→(q.2.getD t Z0).2=Ov (Zr t x y z) ca cb cd)) (fun q=>3-q.1) (0,[]) ⟨O1,rfl,fun t ht=>absurd ht (Nat.not_lt_zero t)⟩ ⟨rfl,trivial⟩ ⟨rfl,rfl,trivial⟩ ?_
 rintro⟨i,zs⟩ ⟨hi,hzl,hzs⟩
 dsimp only at hi hzl hzs
 dsimp only
 have hc:=hS.hc i
 have hlc:=hS.lc i
 obtain⟨q1,q2,q3,q4,q5,q6,q7,q8⟩:=Zo7 hc hlc ha hb hd
 have hex:(6-((Zr i x y z).length:Int)).toNat=6-(Zr i x y z).length:=O
 refine go 6 ?_
 refine Zc rfl (fun h204=>?_) (fun h204=>?_)
 ·refine go 5 ?_
  refine Ze (Zdh i 1 2 3 50 rfl rfl rfl rfl rfl rfl) ?_
  refine go 2 ?_
  refine dt (Zkn (i:=i) rfl rfl rfl Tryz.underlying124 Tryz.sizeOf22 Tryz.isAgg22 rfl) ?_
  refine go 7 ?_
  refine cl 6 [50] (Zh3 _ _ hc (Nat.le_trans hlc.2 O3)) fun _ _=>?_
  refine Qn (Mt 6 (q:=Ym 2 wv _ (tzl (Zr i x y z))) (congrArg (Ym 2 wv _) (if_neg (Zvb hlc.2))) rfl rfl) ?_
  refine go 11 ?_
  refine cl 6 [] (Zp ca) fun _ _=>?_
  refine go 1 ?_
  refine cl 6 [] (Zp cb) fun _ _=>?_
  refine go 1 ?_
  refine cl 6 [] (Zp cd) fun _ _=>?_
  refine cl 7 [6] (Znv _ (tzl (Zr i x y z)) ca cb cd q1 O O O O q2) fun _ _=>?_
  refine go 13 ⟨O,?_⟩
  refine cl 7 [] (Gg cd (6-((Zr i x y z).length:Int)) (Nat.le_trans hbd O3) O O) fun _ _=>?_
  refine cl 8 [7] (Ic _ _ (cd^(6-((Zr i x y z).length:Int)).toNat) q3 (by rw [hex];exact Nat.le_trans q4 O3) (by rw [hex];exact q5)) fun _ _=>?_
  refine Yiv (Mp 8 rfl Zo) (fun sn hsn=>?_)
  subst hsn
  refine Qn (Mt 8 (q:=Ym 2 wv (Qo sn) (Ov (Zr i x y z) ca cb cd)) (congrArg (Ym 2 wv (Qo sn)) (by rw [hex];rfl)) rfl rfl) ?_
  refine Qn (Xt (q:=qZ) (z:=(sn,(Ov (Zr i x y z) ca cb cd))) 71 8 71 rfl rfl rfl rfl rfl) ?_
  refine go 3 ?_
  refine dt (Iq (i:=i) rfl rfl rfl Tryz.underlying205 Tryz.sizeOf39 rfl) ?_
  refine tt (Zvh (i:=5) (j:=i) (k:=1) (enc:=Kk) (sn,(Ov (Zr i x y z) ca cb cd)) rfl rfl rfl rfl rfl pS (by rw [Yef O];omega) rfl hw.h trivial) rfl (fun _ _=>?_)
  refine go 7 ⟨O,?_⟩
  exact Xb (i+1,zs ++ [(sn,(Ov (Zr i x y z) ca cb cd))]) ⟨O1,by rw [List.length_append,hzl];rfl,fun t ht=>Zsb hzl hzs ht⟩ O1 ⟨rfl,trivial⟩ ⟨by rw [Yc3 O hzl];rfl,rfl,trivial⟩
 ·obtain rfl:i=3:=O
  refine go 6 ?_
  obtain⟨s1,s2,s3,rfl⟩:=Ya0 hzl hzs
  refine Ze (Zdj (q:=qZ) 71 81 (s1,Ov x ca cb cd) rfl rfl O5 rfl) ?_
  refine Ze (Zdj (q:=qZ) 71 82 (s2,Ov y ca cb cd) rfl rfl O5 rfl) ?_
  refine Ze (Zdj (q:=qZ) 71 83 (s3,Ov z ca cb cd) rfl rfl O5 rfl) ?_
  refine go 1 ?_
  refine dt (Zr1 (i:=5) (enc:=Kk) (l:=[(s1,Ov x ca cb cd),(s2,Ov y ca cb cd),(s3,Ov z ca cb cd)]) rfl rfl rfl pS Tryz.isAgg205 Tryz.sizeOf205 rfl) ?_
  refine tt (Zir (i:=5) (enc:=Kk) (l:=[(s1,Ov x ca cb cd),(s2,Ov y ca cb cd),(s3,Ov z ca cb cd)]) rfl rfl rfl rfl rfl pS Tryz.sizeOf205 rfl rfl rfl hw.h trivial) rfl (fun _ _=>?_)
  refine go 3 ?_
  exact Zli (.inl rfl) hsc (s1,s2,s3) _ (fun a w hs=>Zep hs Tryz.results149 (Kb (i:=5) (vs:=cellsOf Kk [(s1,Ov x ca cb cd),(s2,Ov y ca cb cd),(s3,Ov z ca cb cd)]) rfl rfl Tryz.isAgg205 Tryz.sizeOf205 rfl)) rfl trivial rfl (Iz 81 rfl rfl rfl (Iz 82 rfl rfl rfl (Iz 83 rfl rfl rfl Za)))
theorem Zz0{x:Int}{s:Bool}(hx:x.natAbs≤9223372036854775807)(h:sg s x):(x=0∧dg U x.natAbs=[])∨(s=true∧x<0∧dg U x.natAbs=[x.natAbs])∨(s=false∧0<x∧dg U x.natAbs=[x.natAbs]):=by
 have hd:x.natAbs≠0→dg U x.natAbs=[x.natAbs]:=fun h0=>by
  have hU:x.natAbs<U:=Nat.lt_of_le_of_lt hx O3
  rw [Zao O3 O,Nat.mod_eq_of_lt hU,Nat.div_eq_of_lt hU];rfl
 rcases Int.lt_trichotomy x 0 with q | q | q
 ·right;left
  refine⟨?_,q,hd O⟩
  cases s
  ·have:=h.2 rfl;omega
  ·rfl
 ·subst q;exact .inl ⟨rfl,rfl⟩
 ·right;right
  refine⟨?_,q,hd O⟩
  cases s
  ·rfl
  ·have:=h.1 rfl;omega
theorem int_wn{x:Int}(hx:x.natAbs≤9223372036854775807)(h:x<0):IntKind.i64.wrap (18446744073709551616-(x.natAbs:Int))=x:=by
 simp only [IntKind.wrap,IntKind.bits,IntKind.signed]
 simp
 omega
theorem int_wp{x:Int}(hx:x.natAbs≤9223372036854775807)(h:0<x):IntKind.i64.wrap ((([x.natAbs]:List Nat).getD 0 0:Nat):Int)=x:=by
 show IntKind.i64.wrap (x.natAbs:Int)=x
 rw [Za3 ⟨O,O⟩];omega
theorem int_d0{x:Int}(hx:x.natAbs≤9223372036854775807):¬((([x.natAbs]:List Nat).getD 0 0:Nat):Int)≥9223372036854775808:=by
 show ¬(x.natAbs:Int)≥_
 omega
theorem Yek{x:Int}(hx:x.natAbs≤9223372036854775807):¬((([x.natAbs]:List Nat).getD 0 0:Nat):Int)>9223372036854775808:=by
 show ¬(x.natAbs:Int)>_
 omega
theorem int_m{x:Int}(h:x<0)(hx:x.natAbs≤9223372036854775807):(-((([x.natAbs]:List Nat).getD 0 0:Nat):Int))%18446744073709551616=18446744073709551616-(x.natAbs:Int):=by
 show(-(x.natAbs:Int))%_=_
 omega
theorem Zpt(x:Int)(hx:x.natAbs≤9223372036854775807):Cal Tryz.prog 185 #[wv x] [] false (G:=Unit) (fun _=>True) (fun _=> .tuple #[.int .i64 x,.int .i64 0]) (fun _=>[]):=by
 refine Zd Tryz.func185 Tryz.ntmps185 fun w0 sc hw hsc=>?_
 have hbx:bl x.natAbs≤65536:=Nat.le_trans ((Xo 63 _).2 (Nat.lt_of_le_of_lt hx O3)) O3
 refine go 2 ?_
 refine Yd (Yg 1) fun bx _=>?_
 refine go 8 ?_
 refine cl 1 [] (Lb _ ‹_›) fun _ _=>?_
 refine go 9 ?_
 refine cl 2 [] (Xu _ _ (Yz _)) fun g hg=>?_
 refine Yd (Zs 3) fun bx_2 _=>?_
 refine go 6 ?_
 rcases Zz0 hx hg with⟨rfl,hc2⟩ | ⟨hc1,hc2,hc3⟩ | ⟨hc1,hc2,hc3⟩
 ·refine go 4 ?_
  refine kt (decide_eq_true (by rw [hc2];rfl)) ?_
  refine go 13 ?_
  exact Nz hsc () Tryz.results185 rfl trivial Za
 ·refine go 4 ?_
  refine kf (decide_eq_false (by rw [hc3];simp)) ?_
  refine go 9 ?_
  refine kf (decide_eq_false (by rw [hc3];simp)) ?_
  refine go 3 ?_
  refine Ly (Zj (r':= .bool false) (Yp rfl rfl) (congrArg (fun b=>Value.bool (!b)) hc1)) rfl rfl ?_
  refine go 13 ⟨by rw [hc3];exact Nat.zero_lt_one,by rw [hc3];exact Nat.zero_lt_one,?_⟩
  refine kfg (decide_eq_false (by rw [hc3];exact Yek hx)) ?_
  refine go 8 ?_
  refine kt hc1 ?_
  refine go 10 ⟨by rw [hc3];exact Nat.zero_lt_one,by rw [hc3];exact Nat.zero_lt_one,?_⟩
  refine dt (Yav (r:=18446744073709551616-(x.natAbs:Int)) rfl rfl (by rw [hc3];exact int_m hc2 hx)) ?_
  refine dt (Zfx (r:=x) rfl rfl Tryz.underlying111 Tryz.underlying3 (int_wn hx hc2)) ?_
  refine go 7 ?_
  exact Nz hsc () Tryz.results185 rfl trivial Za
 ·refine go 4 ?_
  refine kf (decide_eq_false (by rw [hc3];simp)) ?_
  refine go 9 ?_
  refine kf (decide_eq_false (by rw [hc3];simp)) ?_
  refine go 3 ?_
  refine Ly (Zj (r':= .bool true) (Yp rfl rfl) (congrArg (fun b=>Value.bool (!b)) hc1)) rfl rfl ?_
  refine go 5 ⟨by rw [hc3];exact Nat.zero_lt_one,by rw [hc3];exact Nat.zero_lt_one,?_⟩
  refine kfg (decide_eq_false (by rw [hc3];exact int_d0 hx)) ?_
  refine go 7 ⟨by rw [hc3];exact Nat.zero_lt_one,by rw [hc3];exact Nat.zero_lt_one,?_⟩
  refine kfg (decide_eq_false (by rw [hc3];exact Yek hx)) ?_
  refine go 8 ?_
  refine kf hc1 ?_
  refine go 13 ⟨by rw [hc3];exact Nat.zero_lt_one,by rw [hc3];exact Nat.zero_lt_one,?_⟩
  refine dt (Zfx (r:=x) rfl rfl Tryz.underlying111 Tryz.underlying3 (by rw [hc3];exact int_wp hx hc2)) ?_
  refine go 5 ?_
  exact Nz hsc () Tryz.results185 rfl trivial Za
variable {P:Program} {N:Nat} {sc:Nat→Prop} {env env':Qt} {H H':Hp}
def Dj(c:List Int)(g:Int):List Int:=if c.length=0 then [0]else c.map (· / g)
def mdO(ov g:Int):Int:=if ov/g≤4294967296 then ov/g else 0
def mdL(ov g:Int)(c:List Int):List Int:=if ov/g≤4294967296 then Dj c g else []
def Gm(ov:Int)(x y z:List Int):Int:=Nk ov (Ns 3 x y z)
structure Mdh (ov:Int) (x y z:List Int):Prop where
 o:0<ov
 b:bl ov.natAbs≤1000
 s:∀i,Sz 1000 (Zr i x y z)
 l:∀i,(Zr i x y z).length≤6
 c:∀i k,(cf (Zr i x y z) k).natAbs≤ov.natAbs*2146435072
theorem Zfe:∀(l:List Int) (g:Int),0≤g→0≤Nk g l
 | [],_,h=>h
 | x :: l,g,h=>Zfe l _ (Int.natCast_nonneg _)
theorem Zw2:∀(l:List Int) (g:Int),Nk g l∣g∧∀x∈l,Nk g l∣x
 | [],g=>⟨Int.dvd_refl _,fun x h=>nomatch h⟩
 | x :: l,g=>by
  obtain⟨h1,h2⟩:=Zw2 l ((Int.gcd g x:Nat):Int)
  exact⟨Int.dvd_trans h1 (Int.gcd_dvd_left ..),fun y hy=>by
   rcases List.mem_cons.1 hy with rfl | hy
   ·exact Int.dvd_trans h1 (Int.gcd_dvd_right ..)
   ·exact h2 y hy⟩
theorem Zts{x y z:List Int}{i:Nat}{a:Int}(hi:i<3)(h:a∈Zr i x y z):a∈Ns 3 x y z:=by
 match i,hi with
 | 0,_=>exact List.mem_append.2 (.inl (List.mem_append.2 (.inl h)))
 | 1,_=>exact List.mem_append.2 (.inl (List.mem_append.2 (.inr h)))
 | 2,_=>exact List.mem_append.2 (.inr h)
theorem Mdh.g{ov:Int}{x y z:List Int}(h:Mdh ov x y z):0<Gm ov x y z∧Gm ov x y z∣ov∧∀i,i<3→∀a∈Zr i x y z,Gm ov x y z∣a:=by
 obtain⟨h1,h2⟩:=Zw2 (Ns 3 x y z) ov
 have h3:=Zfe (Ns 3 x y z) ov (Int.le_of_lt h.o)
 have ho:=h.o
 refine⟨?_,h1,fun i hi a ha=>h2 a (Zts hi ha)⟩
 rcases Int.lt_or_eq_of_le h3 with q | q
 ·exact q
 ·exact absurd (Int.zero_dvd.1 (q▸h1)) O
theorem Mdh.fc{ov:Int}{x y z:List Int}(h:Mdh ov x y z)(i k:Nat):bl (Nk (Nk ov (Ns i x y z)) ((Zr i x y z).take k)).natAbs≤1000:=by
 have hm:∀i,∀a∈Zr i x y z,bl a.natAbs≤1000:=fun i a ha=>by
  obtain⟨j,hj⟩:=List.mem_iff_getElem?.1 ha
  have:=h.s i j
  unfold cf at this
  rw [List.getD_eq_getElem?_getD,hj]at this
  exact this
 have hf:∀a∈Ns i x y z,bl a.natAbs≤1000:=fun a ha=>by
  unfold Ns at ha
  have h0:=hm 0
  have h1:=hm 1
  have h2:=hm 2
  simp only [Zr]at h0 h1 h2
  split at ha
  ·cases ha
  ·exact h0 a ha
  ·rcases List.mem_append.1 ha with q | q
   ·exact h0 a q
   ·exact h1 a q
  ·rcases List.mem_append.1 ha with q | q
   ·rcases List.mem_append.1 q with q | q
    ·exact h0 a q
    ·exact h1 a q
   ·exact h2 a q
 exact Zfq (fun a ha=>hm i a (List.mem_of_mem_take ha)) (Zfq hf h.b)
theorem Mdh.fit{ov:Int}{x y z:List Int}(h:Mdh ov x y z)(hs:ov/Gm ov x y z≤4294967296){i:Nat}(hi:i<3)(k:Nat):((Zr i x y z).getD k 0/Gm ov x y z).natAbs≤9223372036854775807:=by
 obtain⟨g1,⟨s,hs1⟩,g3⟩:=h.g
 have hc:Gm ov x y z∣(Zr i x y z).getD k 0:=by
  rcases Nat.lt_or_ge k (Zr i x y z).length with q | q
  ·exact g3 i hi _ (Zf (d:=0) q)
  ·rw [List.getD_eq_getElem?_getD,List.getElem?_eq_none q];exact Int.dvd_zero _
 obtain⟨t,ht⟩:=hc
 have h9:((Zr i x y z).getD k 0).natAbs≤ov.natAbs*2146435072:=h.c i k
 generalize Gm ov x y z=g at *
 rw [ht,Int.mul_ediv_cancel_left _ O]
 rw [hs1,Int.mul_ediv_cancel_left _ O]at hs
 rw [ht,hs1,Int.natAbs_mul,Int.natAbs_mul,Nat.mul_assoc]at h9
 have h8:=Nat.le_of_mul_le_mul_left h9 O
 have ho:=h.o
 have h7:0<s:=by
  rw [hs1]at ho
  by_cases q:0<s
  ·exact q
  ·have:=Int.mul_nonpos_of_nonneg_of_nonpos (Int.le_of_lt g1) (show s≤0 by omega);omega
 have h6:s.natAbs*2146435072≤4294967296*2146435072:=Nat.mul_le_mul_right _ O
 exact Nat.le_trans h8 (Nat.le_trans h6 O3)
theorem mdO_t{ov g:Int}(h:ov/g≤4294967296):mdO ov g=ov/g:=if_pos h
theorem Zmi{ov g:Int}{c:List Int}(h:ov/g≤4294967296):mdL ov g c=Dj c g:=if_pos h
theorem mdO_f{ov g:Int}(h:¬ov/g≤4294967296):mdO ov g=0:=if_neg h
theorem Ydq{ov g:Int}{c:List Int}(h:¬ov/g≤4294967296):mdL ov g c=[]:=if_neg h
theorem dvL_0{c:List Int}{g:Int}(h:c.length=0):Dj c g=[0]:=if_pos h
theorem dvL_n{c:List Int}{g:Int}(h:c.length≠0):Dj c g=c.map (· / g):=if_neg h
theorem Yds{c:List Int}{g:Int}{k:Nat}(h:k<c.length):(c.take k).map (· / g) ++ [c.getD k 0/g]=(c.take (k+1)).map (· / g):=by
 rw [Pa 0 _ _ h,List.map_append];rfl
abbrev C6 (a b c:Value) (f:Nat→Value):Array Value:=#[a,b,c,f 0,f 1,f 2]
def upd(f:Nat→Value)(i:Nat)(v:Value)(j:Nat):Value:=if j=i then v else f j
theorem c6_get{a b c:Value}{f:Nat→Value}{i:Nat}(h:i<3):(C6 a b c f)[3+i]? = some (f i):=by
 match i,h with
 | 0,_=>rfl
 | 1,_=>rfl
 | 2,_=>rfl
theorem Yfy{a b c:Value}{f:Nat→Value}{i:Nat}{v:Value}(h:i<3):(C6 a b c (upd f i v))[3+i]? = some v:=by rw [c6_get h];unfold upd;rw [if_pos rfl]
theorem c6_lay{a b c:Value}{f:Nat→Value}{i:Nat}{u v:Value}(h:i<3):Gy (C6 a b c (upd f i u)) (3+i) [v]=C6 a b c (upd f i v):=by
 match i,h with
 | 0,_=>rfl
 | 1,_=>rfl
 | 2,_=>rfl
theorem Zuv{a b c:Value}{f g:Nat→Value}(h:∀j,j<3→f j=g j):C6 a b c f=C6 a b c g:=by
 unfold C6;rw [h 0 O3,h 1 O3,h 2 O3]
theorem p3_sel{b i:Nat}(h:i<3):Zr i (Value.pointer (some ⟨b,3,none⟩)) (Value.pointer (some ⟨b,4,none⟩)) (Value.pointer (some ⟨b,5,none⟩))= .pointer (some ⟨b,3+i,none⟩):=by
 match i,h with
 | 0,_=>rfl
 | 1,_=>rfl
 | 2,_=>rfl
theorem c3_get{a b c:Value}{i:Nat}(h:i<3):(#[a,b,c]:Array Value)[0+i*1]? = some (Zr i a b c):=by
 match i,h with
 | 0,_=>rfl
 | 1,_=>rfl
 | 2,_=>rfl
def fz(zs:List (SL×List Int))(j:Nat):Value:=Qo (zs.getD j ((none,0,0),[])).1
theorem fz_upd{zs:List (SL×List Int)}{i:Nat}(h:zs.length=i)(j:Nat):fz zs j=upd (fz zs) i (.slice none 0 0) j:=by
 unfold upd
 split
 ·rename_i e;subst e;subst h
  unfold fz;rw [List.getD_eq_getElem?_getD,List.getElem?_eq_none (Nat.le_refl _)];rfl
 ·rfl
theorem Zw4{zs:List (SL×List Int)}{i:Nat}{s:SL}{c:List Int}(h:zs.length=i)(j:Nat):upd (fz zs) i (Qo s) j=fz (zs ++ [(s,c)]) j:=by
 subst h
 unfold upd fz
 split
 ·rename_i e;subst e;simp
 ·rename_i e
  rw [List.getD_eq_getElem?_getD,List.getD_eq_getElem?_getD]
  rcases Nat.lt_or_ge j zs.length with q | q
  ·rw [List.getElem?_append_left q]
  ·rw [List.getElem?_eq_none q,List.getElem?_eq_none O8]
theorem Zq5{zs:List (SL×List Int)}{i t:Nat}{s:SL}{f:Nat→List Int}{d0:SL×List Int}{c:List Int}(hl:zs.length=i)(h:∀t,t<i→(zs.getD t d0).2=f t)(hc:c=f i)(ht:t<i+1):((zs ++ [(s,c)]).getD t d0).2=f t:=hc▸Zsb hl h ht
theorem mds_of{zs:List (SL×List Int)}{x y z:List Int}{g:Int}{d0:SL×List Int}(hl:zs.length=3)(h:∀t,t<3→(zs.getD t d0).2=Dj (Zr t x y z) g):∃s1 s2 s3:SL,zs=[(s1,Dj x g),(s2,Dj y g),(s3,Dj z g)]:=by
 match zs,hl with
 | [z0,z1,z2],_=>
  have h0:=h 0 O3
  have h1:=h 1 O3
  have h2:=h 2 O3
  simp [Zr]at h0 h1 h2
  exact⟨z0.1,z1.1,z2.1,by rw [←h0,←h1,←h2]⟩
theorem Ybs{a b:Int} : 0<(a-b).sign↔¬a≤b:=by rw [sgp];omega
theorem t_st6 {M:Nat→Prop} {o:Oper} {x y:Operand} {t tb:TypeId} {i b n:Nat} {c0 c1 c2 u:Value} {f:Nat→Value} {v:Value} {w0:World} {M0:Nat→Prop} (ho:o.op= .store t x y) (hd:o.dst=none)
  (hx:ev env x=some (.pointer (some ⟨b,3+n,none⟩))) (hy:ev env y=some v) (hH:lk H i=some (box b tb (C6 c0 c1 c2 (upd f n u)))) (hi0:i≠0) (hk:∀w,(sizeOf t).run P w= .ok 1 w) (hn:n<3) (h1:One N sc env H v)
  (h0:lk H 0=some (Xf w0 M0)) (hw:∀b,w0.heap.size≤b→sc b) (hM:M b) :
  T P N sc M o env H (G:=Unit) (fun _=>True) (fun _=>env) (fun _=>(i,box b tb (C6 c0 c1 c2 (upd f n v))) :: H):=by
 have:=t_stp1 (P:=P) (N:=N) (sc:=sc) (M:=M) ho hd hx hy hH hi0 hk (by show Nat.ble (3+n+1) 6=true;simp;omega) h1 h0 hw hM
 rw [c6_lay hn]at this
 exact this
theorem bl_dlq{a b:Int}{n:Nat}(h:bl a.natAbs≤n)(hb:0<b)(ha:0≤a):bl (a/b).natAbs≤n:=(Xo n _).2 (Nat.lt_of_le_of_lt (by
  have h1:=Int.ediv_le_self b ha
  have h2:=Int.ediv_nonneg ha (Int.le_of_lt hb)
  omega) ((Xo n _).1 h))
theorem Yes{zs:List (SL×List Int)}{n:Nat}{s:SL}{c:List Int}(h:∀z∈zs,∀b,(Qo z.1).ownBlock=some b→n≤b)(h2:∀b,(Qo s).ownBlock=some b→n≤b):∀z∈zs ++ [(s,c)],∀b,(Qo z.1).ownBlock=some b→n≤b:=fun z hz=>by
 rcases List.mem_append.1 hz with q | q
 ·exact h z q
 ·rw [List.mem_singleton.1 q];exact h2
theorem fr3{n:Nat}{s1 s2 s3:SL}{c1 c2 c3 l1 l2 l3:List Int}(h:∀z∈[(s1,c1),(s2,c2),(s3,c3)],∀b,(Qo z.1).ownBlock=some b→n≤b):∀p∈[Ym 1 Yl (Qo s1) l1,Ym 1 Yl (Qo s2) l2,Ym 1 Yl (Qo s3) l3],∀b,p.fp b→n≤b:=fun p hp b hb=>by
 simp only [List.mem_cons,List.not_mem_nil,or_false]at hp
 rcases hp with rfl | rfl | rfl
 ·exact h (s1,c1) O5 b hb.2
 ·exact h (s2,c2) O5 b hb.2
 ·exact h (s3,c3) O5 b hb.2
theorem fr0{n:Nat}{l1 l2 l3:List Int} : ∀p∈[Ym 1 Yl (Qo (none,0,0)) l1,Ym 1 Yl (Qo (none,0,0)) l2,Ym 1 Yl (Qo (none,0,0)) l3],∀b,p.fp b→n≤b:=fun p hp b hb=>by
 simp only [List.mem_cons,List.not_mem_nil,or_false]at hp
 rcases hp with rfl | rfl | rfl<;>cases hb.2
end Go.Sky
namespace Go.Sky
open Go.RowKit (Below)
variable {P:Program} {N:Nat} {sc:Nat→Prop} {env env':Qt} {H H':Hp} {Q Q':Exit→Act→World→Prop} {M:Nat→Prop}
theorem f_new{w0:World}{p:Pc}(i:Nat)(hi:lk H i=some p)(ho:p.own=true)(h0:lk H 0=some (Xf w0 (fun _=>False)))(hi0:i≠0:=by decide):∀a w,Sat N sc env H a w→∀b,p.fp b→w0.heap.size≤b:=fun a w hs b hb=>by
  rcases Nat.lt_or_ge b w0.heap.size with h | h
  · exact(hs.sep i 0 p _ hi0 hi h0 ho b hb ⟨h,fun h=>h⟩).elim
  · exact h
theorem Yam {fn:Func} {pre:List Pc} {G:Type} {φ:G→Prop} {Yc:G→Value} {its:G→List Pc} {w0:World} {e:Exit} (he:e= .ret∨e= .normal)
    (g:G) (v:Value) (hfr:∀p∈its g,∀b,p.fp b→w0.heap.size≤b) (hres:∀a w,Sat N sc env H a w→(results fn a.tmps).run P w= .ok v w) (hv:Yc g=v) (hg:φ g) (h0:lk H 0=some (Xf w0 (fun _=>False))) (hgive:Give H true (its g)) :
    X N sc e (Zb6 P fn w0 pre false φ Yc its) env H:=fun a w hs=>by
  have key : a.defers = [] ∧ ∃ v, (results fn a.tmps).run P w = .ok v w ∧ (∃ g, Ending.returned v = .returned (Yc g) ∧ φ g ∧ Below w0.heap.size w0 w ∧
        ∀p∈its g,p.holds w∧p.own=false∧∀b,p.fp b→w0.heap.size≤b∨(false=true∧∃q∈pre,q.fp b)):=by
    refine⟨hs.defers,v,hres a w hs,g,by rw [hv],hg,Pz (hs.hold 0 _ h0),fun p hp=>?_⟩
    obtain⟨ho,h | ⟨h1,h2⟩⟩:=hgive.mem p hp
    case inr=>exact⟨h1 w,ho,fun b hb=>absurd hb (h2 b)⟩
    obtain⟨i,it,hi0,hi,himp,hfp,hal⟩:=h
    exact⟨himp w (hs.hold i it hi),ho,fun b hb=> .inl (hfr p hp b hb)⟩
  rcases he with rfl | rfl
  · exact key
  · exact key
section
variable {f:FuncId} {xs:List Operand} {ats:Array TypeId} {d:Nat} {vs:List Value} {pre:List Pc} {G:Type} {φ:G→Prop} {Yc:G→Value} {its:G→List Pc} {w0:World} {M0:Nat→Prop} {ty:TypeId} {pos:String} {af:Array Edge} {g:Option (Nat×Bool)}
theorem Yg6 {o:Oper} {n:Nat} (hc:Cal P f vs.toArray pre false φ Yc its)
    (ho:o.op= .call { callee:= .value (.func f),args:=xs.toArray,argTypes:=ats }) (hd:o.dst=some d) (hN:Nat.blt d N=true)
    (hargs:EvL env xs vs) (hcall:∀args w,(callFunc f args).run P w= .ok (.enter f args) w) (hpre:PreOk H false pre)
    (h0:lk H 0=some (Xf w0 M0)) (hw:∀b,w0.heap.size≤b→sc b) :
    T P N sc M o env H (fun g=>φ g∧∀p∈its g,∀b,p.fp b→w0.heap.size≤b) (fun g=>(d,Yc g) :: env) (fun g=>adds n (its g) H):=fun a w hs K Q hK=>by
  have h9:w0.heap.size≤w.heap.size:=(hs.hold 0 _ h0).size
  have hr:(execOp a.eval o).run P w= .ok (.enter f vs.toArray) w:=by
    have hm:=hargs.map hs
    simp [execOp,ho,resolve,invoke,Act.eval,Deferred.ofValue,hm,hcall]
  unfold Oper.wp
  rw [hr]
  refine(hc w (fun p hp=>by
    obtain⟨i,it,_,hi,himp,_,_⟩:=hpre.mem p hp
    exact himp w (hs.hold i it hi))).mono ?_
  rintro e w' ⟨g,rfl,hg,hbel,hits⟩
  show K (a.put o.dst (Yc g)) w'
  rw [hd]
  have hs':Sat N sc env H a w':=hs.chg0 (Chg.of_below hbel)
  have hnew:∀p∈its g,∀b,p.fp b→w.heap.size≤b:=fun p hp b hb=>by
    rcases(hits p hp).2.2 b hb with h | ⟨h,_⟩
    · exact h
    · cases h
  refine hK g _ _ ⟨hg,fun p hp b hb=>Nat.le_trans h9 (hnew p hp b hb)⟩ (Sat.put (hs'.adds (w1:=w) (its g) n ?_) d _ hN) (Chg.of_below hbel)
  intro p hp
  obtain⟨h1,h2,h3⟩:=hits p hp
  refine⟨h1,h2,fun b hb=>hw b (Nat.le_trans h9 (hnew p hp b hb)),fun j jt hj hown b hb hb'=>?_⟩
  have:=jt.lt w b (hs.hold j jt hj) hb'
  have:=hnew p hp b hb
  omega
theorem Zyp(n:Nat)(ids:List Nat)(hc:Cal P f vs.toArray pre false φ Yc its){G':G→Hp}[hx:EvI env xs vs][hf:CalF P f][hp:PreL P H false ids pre][h0:Som (lk2 H 0) (Xf w0 M0)][hN:TB (ltb d N)][hw:Hw w0 sc][ha:∀g,AddI n (its g) H (G' g)] :
    T P N sc M ⟨some d,.call { callee:= .value (.func f),args:=xs.toArray,argTypes:=ats },ty,pos,af,g⟩ env H (fun g=>φ g∧∀p∈its g,∀b,p.fp b→w0.heap.size≤b) (fun g=>(d,Yc g) :: env) G':=
  (Yg6 (n:=n) hc rfl rfl (Og hN.h) hx.h hf.h hp.h h0.l hw.h).conv fun g=>(ha g).h
end
theorem hw_up{w0 W:World}(h:Hw w0 sc)(hW:w0.heap.size≤W.heap.size):Hw W sc:=⟨fun b hb=>h.h b (Nat.le_trans hW hb)⟩
theorem Zkl {o:Oper} {x y:Operand} {ats:Array TypeId} {k:IntKind} {m n:Int} (ho:o.op= .call { callee:= .builtin .min,args:=#[x,y],argTypes:=ats })
    (hx:ev env x=some (.int k m)) (hy:ev env y=some (.int k n)):Ml P N sc o env H (.int k (min m n)):=fun a w hs=>by
  simp [execOp,ho,resolve,hs.ev hx,hs.ev hy,invoke,builtin,Builtin.min_,Builtin.min2]
  by_cases h:n<m
  · rw [if_pos h];omega
  · rw [if_neg h];omega
theorem d_lbw {o:Oper} {x:Operand} {t tb:TypeId} {i b k:Nat} {cs:Array Value} (ho:o.op= .load t x) (hx:ev env x=some (.pointer (some ⟨b,0,none⟩))) (hH:lk H i=some (box b tb cs)) (ht:∀w,(isAgg t).run P w= .ok true w) (hk:∀w,(sizeOf t).run P w= .ok k w)
    (hl:cs.size=k):Ml P N sc o env H (.agg cs):=by
  have:=Zr3 (P:=P) (N:=N) (sc:=sc) (vs:=cs.toList) ho hx hH ht hk (by simpa using hl) (fun n u hu=>by rw [Nat.zero_add];simpa using hu)
  simpa using this
end Go.Sky
namespace Go.Sky
open Go.Proofs
set_option synthInstance.maxHeartbeats 0
set_option synthInstance.maxSize 100000
set_option maxRecDepth 20000
set_option maxHeartbeats 4000000
set_option linter.unusedSimpArgs false
theorem Zca(fr to ov:Int)(vx vy vz:Value)(x y z:List Int)(hM:Mdh ov x y z):Cal Tryz.prog 148 #[.int .i64 fr,.int .i64 to,.agg #[vx,vy,vz],wv ov] [Ym 2 wv vx x,Ym 2 wv vy y,Ym 2 wv vz z] false (G:=SL×SL×SL) (fun g=>True) (fun g=> .tuple #[.agg #[.int .i64 fr,.int .i64 to,.int .i64 (mdO ov (Gm ov x y z)),Qo g.1,Qo g.2.1,Qo g.2.2],.bool (decide (ov/(Gm ov x y z)≤4294967296))]) (fun g=>[Ym 1 Yl (Qo g.1) (mdL ov (Gm ov x y z) x),Ym 1 Yl (Qo g.2.1) (mdL ov (Gm ov x y z) y),Ym 1 Yl (Qo g.2.2) (mdL ov (Gm ov x y z) z)]):=by
 refine Zd Tryz.func148 Tryz.ntmps148 fun w0 sc hw hsc=>?_
 have ho:=hM.o
 have hob:=hM.b
 obtain⟨hg1,hg2,hg3⟩:=hM.g
 have hgb:bl (Gm ov x y z).natAbs≤1000:=hM.fc 3 0
 have hq0:0≤ov/(Gm ov x y z):=Int.ediv_nonneg (Int.le_of_lt ho) (Int.le_of_lt hg1)
 refine go 2 ?_
 refine Yd (Yg 4) fun bx _=>?_
 refine Yd (Yg 5) fun bx_2 _=>?_
 refine Yd (Zs 6) fun bx_3 _=>?_
 refine go 6 ?_
 refine Yd (Zs 7) fun bx_4 _=>?_
 refine go 11 ?_
 refine lp (G:=Nat) [0,1,6,7,8,10,24] [0,1,2,3,4,5,6] (fun i=>[(25,.int .i64 (i:Int))]) (fun i=>[(7,box bx_4 93 (wc (Nk ov (Ns i x y z))))]) (fun i=>i≤3) (fun i=>3-i) 0 O1 ⟨rfl,trivial⟩ ⟨rfl,trivial⟩ ?_
 rintro i hi
 have hfc:=hM.fc i
 have hl6:=hM.l i
 refine go 6 ?_
 refine Zc rfl (fun h179=>?_) (fun h179=>?_)
 ·refine go 5 ?_
  refine Ze (Zdh i 1 2 3 50 rfl rfl rfl rfl rfl rfl) ?_
  refine go 1 ?_
  refine dt (Zkn (i:=i) rfl rfl rfl Tryz.underlying205 Tryz.sizeOf39 Tryz.isAgg39 rfl) ?_
  refine go 11 ?_
  refine lp (G:=Nat) [0,1,6,7,8,10,24,25,28,29] [0,1,2,3,4,5,6,50] (fun k=>[(30,.int .i64 (k:Int))]) (fun k=>[(7,box bx_4 93 (wc (Nk (Nk ov (Ns i x y z)) ((Zr i x y z).take k))))]) (fun k=>k≤(Zr i x y z).length) (fun k=>(Zr i x y z).length-k) 0 O1 ⟨rfl,trivial⟩ ⟨rfl,trivial⟩ ?_
  rintro k hk
  refine go 6 ?_
  refine Zc rfl (fun h180=>?_) (fun h180=>?_)
  ·refine go 8 ⟨O2,O2,?_⟩
   refine Yd (Zs 8) fun bx_5 _=>?_
   refine go 6 ?_
   refine cl 8 [] (Zna (Nk (Nk ov (Ns i x y z)) ((Zr i x y z).take k)) ((Zr i x y z).getD k 0) (Nat.le_trans (hfc k) O3) (Nat.le_trans (hM.s i k) O3)) fun _ _=>?_
   refine go 8 ⟨O,?_⟩
   exact Xb (k+1) O1 O1 ⟨rfl,trivial⟩ ⟨by rw [Ae _ O];rfl,trivial⟩
  ·obtain rfl:k=(Zr i x y z).length:=O
   rw [List.take_length]
   refine go 10 ⟨O,?_⟩
   exact Xb (i+1) O1 O1 ⟨rfl,trivial⟩ ⟨by rw [Es x y z O,Im];rfl,trivial⟩
 ·obtain rfl:i=3:=O
  refine go 9 ?_
  refine dt (Xl (ivs:=[(0,_),(1,_)]) rfl ⟨rfl,rfl,rfl,rfl,trivial⟩ (fun a w hs=>b24_01 ((Zn rfl) a w hs) ((Zn rfl) a w hs))) ?_
  refine Yd (Zs 9) fun bx_6 _=>?_
  refine go 7 ?_
  refine cl 9 [] (Zf7 ov (Gm ov x y z) (Nat.le_trans hob O3) (Nat.le_trans hgb O3) O) fun _ _=>?_
  refine Yd (Zs 10) fun bx_7 _=>?_
  refine go 5 ?_
  refine Xw (fun _=>False) [(0,0),(1,1),(2,1),(3,0)] ?_
  refine go 1 ?_
  refine Yx (Zh 10 [] (Zp 4294967296 ⟨O3,O3⟩)) fun _ _=>?_
  refine Yx (Zh 10 [] (Zd9 (ov/(Gm ov x y z)) 4294967296 (Nat.le_trans (bl_dlq hob hg1 (Int.le_of_lt ho)) O3) O3)) fun _ _=>?_
  refine go 3 ?_
  refine Zc rfl (fun h186=>?_) (fun h186=>?_)
  ·have hsm:¬ov/(Gm ov x y z)≤4294967296:=Ybs.1 h186
   refine go 9 ?_
   exact Yam (.inl rfl) ((none,0,0),(none,0,0),(none,0,0)) _ fr0 (fun a w hs=>Zte hs Tryz.results148 (Kb (i:=6) rfl rfl Tryz.isAgg24 Tryz.sizeOf24 rfl) rfl) (by rw [mdO_f hsm,decide_eq_false hsm]) trivial rfl (Mi (Ydq hsm) (Mi (Ydq hsm) (Mi (Ydq hsm) Za)))
  ·have hsm:ov/(Gm ov x y z)≤4294967296:=Classical.not_not.1 fun h=>h186 (Ybs.2 h)
   refine go 5 ?_
   refine cl 10 [] (Zpt (ov/(Gm ov x y z)) O) fun _ _=>?_
   refine go 13 ?_
   refine dt (Xl (ivs:=[(0,_),(1,_),(2,_)]) rfl ⟨rfl,rfl,rfl,rfl,rfl,rfl,trivial⟩ (fun a w hs=>Ygc ((Zn rfl) a w hs) ((Zn rfl) a w hs) ((Zn rfl) a w hs))) ?_
   refine go 4 ?_
   refine Ze (Mt 9 (q:=box bx_6 24 (C6 (.int .i64 fr) (.int .i64 to) (.int .i64 (ov/(Gm ov x y z))) (fz []))) (congrArg (box bx_6 24) (show _=(C6 (.int .i64 fr) (.int .i64 to) (.int .i64 (ov/(Gm ov x y z))) (fz []))from rfl)) rfl rfl) ?_
   refine Ze (Oc qC 71) ?_
   refine lp (G:=Nat×List (SL×List Int)) [6,8,10,15,59] [0,7,1,2,3,4,5,6,10] (fun q=>[(60,.int .i64 (q.1:Int))]) (fun q=>[(9,box bx_6 24 (C6 (.int .i64 fr) (.int .i64 to) (.int .i64 (ov/(Gm ov x y z))) (fz q.2))),(71,De qC q.2)]) (fun q=>(q.1≤3)∧(q.2.length=q.1)∧(∀t,t<q.1→(q.2.getD t Z0).2=Dj (Zr t x y z) (Gm ov x y z))∧(∀z∈q.2,∀b,(Qo z.1).ownBlock=some b→w0.heap.size≤b)) (fun q=>3-q.1) (0,[]) ⟨O1,rfl,fun t ht=>absurd ht (Nat.not_lt_zero t),fun z hz=>nomatch hz⟩ ⟨rfl,trivial⟩ ⟨rfl,rfl,trivial⟩ ?_
   rintro⟨i,zs⟩ ⟨hi,hzl,hzs,hfz⟩
   dsimp only at hi hzl hzs hfz
   dsimp only
   have hl6:=hM.l i
   refine go 6 ?_
   refine Zc rfl (fun h190=>?_) (fun h190=>?_)
   ·refine go 7 ?_
    refine dt (Zj (r':= .pointer (some ⟨bx_6,3+i,none⟩)) (Zkn (i:=i) rfl rfl rfl Tryz.underlying250 Tryz.sizeOf249 Tryz.isAgg249 rfl) (p3_sel O)) ?_
    refine go 6 ?_
    refine Ze (Zdh i 1 2 3 52 rfl rfl rfl rfl rfl rfl) ?_
    refine Ze (Np 60 1 3 Yl) ?_
    refine go 2 ?_
    refine dt (Iq (i:=i) rfl rfl rfl Tryz.underlying205 Tryz.sizeOf39 rfl) ?_
    refine dt (Yfi (i:=4) rfl rfl rfl Tryz.isAgg39 (c3_get O)) ?_
    refine go 5 ?_
    refine lp (G:=Nat×Value) [6,8,10,15,18,59,60,66,67] [0,71,7,1,2,3,4,5,6,10,52] (fun q=>[(68,.int .i64 (q.1:Int))]) (fun q=>[(9,box bx_6 24 (C6 (.int .i64 fr) (.int .i64 to) (.int .i64 (ov/(Gm ov x y z))) (upd (fz zs) i q.2))),(60,Ma 1 3 Yl q.2 (((Zr i x y z).take q.1).map (· / (Gm ov x y z))))]) (fun q=>q.1≤(Zr i x y z).length) (fun q=>(Zr i x y z).length-q.1) (0,_) O1 ⟨rfl,trivial⟩ ⟨by rw [Zuv (fun j _=>fz_upd hzl j)];rfl,by rw [List.take_zero];rfl,trivial⟩ ?_
    rintro⟨k,vr⟩ hk
    dsimp only at hk
    dsimp only
    refine go 6 ?_
    refine Zc rfl (fun h191=>?_) (fun h191=>?_)
    ·refine go 8 ⟨O2,O2,?_⟩
     refine Yd (Zs 11) fun bx_8 _=>?_
     refine go 7 ?_
     refine cl 11 [] (Zf7 ((Zr i x y z).getD k 0) (Gm ov x y z) (Nat.le_trans (hM.s i k) O3) (Nat.le_trans hgb O3) O) fun _ _=>?_
     refine cl 11 [] (Zpt ((Zr i x y z).getD k 0/(Gm ov x y z)) (hM.fit hsm O k)) fun _ _=>?_
     refine go 11 ?_
     refine dt (Yfi (i:=9) rfl rfl rfl Tryz.isAgg22 (Yfy O)) ?_
     refine go 1 ?_
     refine tt (Qd (i:=12) (ivs:=[(0,_)]) (enc:=Yl) ([(Zr i x y z).getD k 0/(Gm ov x y z)]:List Int) rfl rfl ⟨rfl,rfl,trivial⟩ Tryz.underlying22 Tryz.ti3 rfl rfl rfl rfl rfl pZ.cells rfl rfl hw.h) rfl (fun v _=>?_)
     refine tt (Kq (i:=60) (j:=12) (by_:=8) rfl rfl rfl rfl rfl rfl O3 rfl (Xa pZ) Tryz.underlying22 Tryz.ti3 rfl pZ rfl rfl rfl O8 O3 rfl hw.h) rfl (fun v_2 _=>?_)
     refine go 1 ?_
     refine tt (t_st6 (i:=9) (n:=i) rfl rfl rfl rfl rfl O3 Tryz.sizeOf22 O (Pt (i:=60) rfl (Xa pZ)) rfl hw.h trivial) rfl (fun _ _=>?_)
     refine go 7 ⟨O,?_⟩
     exact Xb (k+1,_) O1 O1 ⟨rfl,trivial⟩ ⟨rfl,by rw [←Yds O];rfl,trivial⟩
    ·obtain rfl:k=(Zr i x y z).length:=O
     rw [List.take_length]
     refine go 9 ?_
     refine dt (Yfi (i:=9) rfl rfl rfl Tryz.isAgg22 (Yfy O)) ?_
     refine go 4 ?_
     refine Zc rfl (fun h195=>?_) (fun h195=>?_)
     ·have hc0:(Zr i x y z).length=0:=by simpa using h195
      refine go 2 ?_
      refine tt (Qd (i:=13) (ivs:=[(0,_)]) (enc:=Yl) ([0]:List Int) rfl rfl ⟨rfl,rfl,trivial⟩ Tryz.underlying22 Tryz.ti3 rfl rfl rfl rfl rfl pZ.cells rfl rfl hw.h) rfl (fun v_3 _=>?_)
      refine go 1 ?_
      refine tt (t_st6 (i:=9) (n:=i) rfl rfl rfl rfl rfl O3 Tryz.sizeOf22 O (Pt (i:=13) rfl (Xa pZ)) rfl hw.h trivial) rfl (fun _ _=>?_)
      refine go 7 ⟨O,?_⟩
      refine Yaj (f_new 13 rfl rfl rfl) (fun hfr=>?_)
      refine Yn (Pf 13 rfl rfl pZ) ?_
      refine Zyl (Mp 13 rfl Zo) (fun sn hsn=>?_)
      subst hsn
      refine Yn (Mt 13 (q:=Ym 1 Yl (Qo sn) (Dj (Zr i x y z) (Gm ov x y z))) (congrArg (Ym 1 Yl (Qo sn)) (dvL_0 hc0).symm) rfl rfl) ?_
      refine Yn (Xt (q:=qC) (z:=(sn,Dj (Zr i x y z) (Gm ov x y z))) 71 13 71 rfl rfl rfl rfl rfl) ?_
      exact Xb (i+1,zs ++ [(sn,Dj (Zr i x y z) (Gm ov x y z))]) ⟨O1,by rw [List.length_append,hzl];rfl,fun t ht=>Zq5 (f:=fun t=>Dj (Zr t x y z) (Gm ov x y z)) hzl hzs rfl ht,Yes hfz hfr⟩ O1 ⟨rfl,trivial⟩ ⟨by rw [Zuv (fun j _=>Zw4 (c:=Dj (Zr i x y z) (Gm ov x y z)) hzl j)];rfl,rfl,trivial⟩
     ·have hc0:(Zr i x y z).length≠0:=by simpa using h195
      refine go 7 ⟨O,?_⟩
      refine Yaj (f_new 60 rfl rfl rfl) (fun hfr=>?_)
      refine Yn (Pf 60 rfl rfl pZ) ?_
      refine Zyl (Mp 60 rfl Zo) (fun sn hsn=>?_)
      subst hsn
      refine Yn (Mt 60 (q:=Ym 1 Yl (Qo sn) (Dj (Zr i x y z) (Gm ov x y z))) (congrArg (Ym 1 Yl (Qo sn)) (dvL_n hc0).symm) rfl rfl) ?_
      refine Yn (Xt (q:=qC) (z:=(sn,Dj (Zr i x y z) (Gm ov x y z))) 71 60 71 rfl rfl rfl rfl rfl) ?_
      exact Xb (i+1,zs ++ [(sn,Dj (Zr i x y z) (Gm ov x y z))]) ⟨O1,by rw [List.length_append,hzl];rfl,fun t ht=>Zq5 (f:=fun t=>Dj (Zr t x y z) (Gm ov x y z)) hzl hzs rfl ht,Yes hfz hfr⟩ O1 ⟨rfl,trivial⟩ ⟨by rw [Zuv (fun j _=>Zw4 (c:=Dj (Zr i x y z) (Gm ov x y z)) hzl j)];rfl,rfl,trivial⟩
   ·obtain rfl:i=3:=O
    refine go 6 ?_
    obtain⟨s1,s2,s3,rfl⟩:=mds_of hzl hzs
    refine Ze (Zdj (q:=qC) 71 81 (s1,Dj x (Gm ov x y z)) rfl rfl O5 rfl) ?_
    refine Ze (Mt 81 (q:=Ym 1 Yl (Qo s1) (mdL ov (Gm ov x y z) x)) (congrArg (Ym 1 Yl (Qo s1)) (Zmi hsm).symm) rfl rfl) ?_
    refine Ze (Zdj (q:=qC) 71 82 (s2,Dj y (Gm ov x y z)) rfl rfl O5 rfl) ?_
    refine Ze (Mt 82 (q:=Ym 1 Yl (Qo s2) (mdL ov (Gm ov x y z) y)) (congrArg (Ym 1 Yl (Qo s2)) (Zmi hsm).symm) rfl rfl) ?_
    refine Ze (Zdj (q:=qC) 71 83 (s3,Dj z (Gm ov x y z)) rfl rfl O5 rfl) ?_
    refine Ze (Mt 83 (q:=Ym 1 Yl (Qo s3) (mdL ov (Gm ov x y z) z)) (congrArg (Ym 1 Yl (Qo s3)) (Zmi hsm).symm) rfl rfl) ?_
    refine Ze (Mt 9 (q:=box bx_6 24 #[.int .i64 fr,.int .i64 to,.int .i64 (ov/(Gm ov x y z)),Qo s1,Qo s2,Qo s3]) rfl rfl rfl) ?_
    refine go 7 ?_
    exact Yam (.inl rfl) (s1,s2,s3) _ (fr3 hfz) (fun a w hs=>Zte hs Tryz.results148 (Kb (i:=6) rfl rfl Tryz.isAgg24 Tryz.sizeOf24 rfl) rfl) (by rw [mdO_t hsm,decide_eq_true hsm]) trivial rfl (Iz 81 rfl rfl rfl (Iz 82 rfl rfl rfl (Iz 83 rfl rfl rfl Za)))
abbrev Ykg:=(Int×Int×Int)×List Int×List Int×List Int
def unS(g:Zz):Ykg:=(g.1,g.2.1.2,g.2.2.1.2,g.2.2.2.2)
abbrev cA (fr:Int) (g:Zz):Int:=max fr g.1.1
abbrev cB (to:Int) (g:Zz):Int:=min to g.1.2.1
abbrev cX (fr to:Int) (g:Zz) (c:List Int):List Int:=Ov c (cA fr g-g.1.1) (cB to g-cA fr g) (g.1.2.1-g.1.1)
abbrev cO (g:Zz):Int:=g.1.2.2*(g.1.2.1-g.1.1)^5
def cG(fr to:Int)(g:Zz):Int:=Gm (cO g) (cX fr to g g.2.1.2) (cX fr to g g.2.2.1.2) (cX fr to g g.2.2.2.2)
def Lv(fr to:Int)(g:Zz):Bool:=decide (cA fr g<cB to g)
def Zko(fr to:Int)(g:Zz):Bool:=decide (cO g/cG fr to g≤4294967296)
def Zz9(fr to:Int)(g:Zz):Ykg:=((cA fr g,cB to g,mdO (cO g) (cG fr to g)),mdL (cO g) (cG fr to g) (cX fr to g g.2.1.2),mdL (cO g) (cG fr to g) (cX fr to g g.2.2.1.2),mdL (cO g) (cG fr to g) (cX fr to g g.2.2.2.2))
def MdG(fr to:Int)(g:Zz):Prop:=Mdh (cO g) (cX fr to g g.2.1.2) (cX fr to g g.2.2.1.2) (cX fr to g g.2.2.2.2)
theorem fl_get{ps:List Zz}{p:Zz→Bool}{i:Nat}{d:Zz}(hi:i<ps.length)(hp:p (ps.getD i d)=true):(ps.filter p)[((ps.take i).filter p).length]? = some (ps.getD i d):=by
 have h:=List.take_append_drop i ps
 have h2:ps.drop i=ps.getD i d :: ps.drop (i+1):=by
  rw [List.getD_eq_getElem?_getD,List.getElem?_eq_getElem hi,Option.getD_some]
  exact List.drop_eq_getElem_cons hi
 conv=>lhs;arg 1;rw [←h,h2]
 rw [List.filter_append,List.filter_cons_of_pos hp]
 simp
theorem fl_t{ps:List Zz}{p:Zz→Bool}{i:Nat}{d:Zz}(hi:i<ps.length)(hp:p (ps.getD i d)=true):((ps.take (i+1)).filter p).length=((ps.take i).filter p).length+1:=by
 rw [Pa d _ _ hi,List.filter_append,List.filter_cons_of_pos hp,List.length_append];rfl
theorem fl_f{ps:List Zz}{p:Zz→Bool}{i:Nat}{d:Zz}(hi:i<ps.length)(hp:p (ps.getD i d)=false):((ps.take (i+1)).filter p).length=((ps.take i).filter p).length:=by
 rw [Pa d _ _ hi,List.filter_append,List.filter_cons_of_neg (by rw [hp];exact Bool.false_ne_true),List.length_append];rfl
theorem Zl7{d:Int}(h:1≤d∧d≤3600000):bl (d^5).natAbs≤132:=Zm0 (Zk0 O) 5 (Nat.le_refl _)
theorem Yfr{W:Nat}{H:Hp}{s1 s2 s3:SL}{l1 l2 l3:List Int}(h:∀p∈[Ym 1 Yl (Qo s1) l1,Ym 1 Yl (Qo s2) l2,Ym 1 Yl (Qo s3) l3],∀b,p.fp b→W≤b)(i:Nat)(h1:lk H i=some (Ym 1 Yl (Qo s1) l1))(h2:lk H (i+1)=some (Ym 1 Yl (Qo s2) l2))(h3:lk H (i+2)=some (Ym 1 Yl (Qo s3) l3)) :
  ∀p∈[Ym 1 Yl (Qo s1) l1,Ym 1 Yl (Qo s2) l2,Ym 1 Yl (Qo s3) l3],p.own=false∧(∀b,p.fp b→W≤b)∧∃i it,lk H i=some it∧∀w,it.holds w→p.holds w:=fun p hp=>by
 have h9:=h p hp
 simp only [List.mem_cons,List.not_mem_nil,or_false]at hp
 rcases hp with rfl | rfl | rfl
 ·exact⟨rfl,h9,_,_,h1,fun _ h=>h⟩
 ·exact⟨rfl,h9,_,_,h2,fun _ h=>h⟩
 ·exact⟨rfl,h9,_,_,h3,fun _ h=>h⟩
theorem cut_b{fr to:Int}{g:Zz}(hg:SgG g)(h:Lv fr to g=true):(cA fr g-g.1.1).natAbs≤3600000∧(cB to g-cA fr g).natAbs≤3600000∧Qx (cA fr g-g.1.1)∧Qx (cB to g-cA fr g):=by
 have h1:=of_decide_eq_true h
 have ht1:=hg.t1
 have ht2:=hg.t2
 have ht3:=hg.t3
 unfold cA cB at *
 exact⟨O,O,⟨O,O⟩,⟨O,O⟩⟩
end Go.Sky

