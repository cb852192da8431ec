/- The law: part 16. No conditions but those that each theorem names. -/
import Derived.Test.YtljmhpopdmadkaaGreatLv14
set_option linter.all false
namespace Go.Sky
open Go.Proofs.Tryz
open Go.Proofs
set_option synthInstance.maxHeartbeats 0
set_option synthInstance.maxSize 100000
set_option maxRecDepth 20000
set_option maxHeartbeats 4000000
set_option linter.unusedSimpArgs false
theorem Ztb(v w u w2 u2:Value)(zs:List (Int×SL))(x y x2 y2:Int)(hx:bl x.natAbs≤1000000)(hy:bl y.natAbs≤1000000)(hx2:bl x2.natAbs≤1000000)(hy2:bl y2.natAbs≤1000000)(hp2:0<y2)(hd:Cvd (Zb zs)):Ok prog 143 #[v,.agg #[.bool (decide (x<0)),w,.bool (decide (y<0)),u],.agg #[.bool (decide (x2<0)),w2,.bool (decide (y2<0)),u2]] [pp v zs,Om w x.natAbs,Om u y.natAbs,Om w2 x2.natAbs,Om u2 y2.natAbs] (.bool (crb (Eu (Zb zs)) (x,y) (x2,y2))):=by
 refine Zh func143 ntmps143 fun w0 sc hw hsc=>?_
 have hli:=Zd zs
 have hd7:=hd.l
 have hr1:=Zxw (Eu (Zb zs)) (x,y)
 have hr2:=Zxw (Eu (Zb zs)) (x2,y2)
 have hr3:=Zik (Zb zs)
 refine go 2 ?_
 refine Ya (Yl 6) fun bx _=>Ya (Yl 7) fun bx_2 _=>go 11 ?_
 refine Zc J (fun h52=>?_) (fun h52=>?_)
 ·refine go 7 ?_
  exact Xa hsc () results143 (by rw [Yiu O]) trivial Za
 ·have hz0:(Zb zs).length≠0:=O
  obtain⟨o1,o2,o3,o4,-⟩:=Zat hd (fun e=>hz0 (by rw [e];rfl))
  refine go 5 ?_
  refine cl 8 [1] (r4_odd _ _ hd O) fun g hg=>?_
  have hO:Zb g.2=Mt (Zb zs):=hg
  have hl7:=congrArg List.length hO
  rw [Zd]at hl7
  refine go 8 ?_
  refine cl 8 [8,2,3,4,5] (Ych _ _ _ _ _ _ x y x2 y2 (by rw [hO];exact o2) (fun e=>o1.one (List.eq_nil_of_length_eq_zero (by rw [←hO,Zd];exact e))) (by rw [hO];exact o3.mono O) O hx hy hx2 hy2) fun _ _=>go 5 ?_
  refine Zg (Mz 8 (v':= .int .i64 ((chv (Eu (Zb zs)) (x,y))-(chv (Eu (Zb zs)) (x2,y2)))) J (by rw [hO,Zxq hz0,Zxq hz0]))<|go 3 ?_
  refine cl 8 [8,4,5] (Cl _ _ _ _ x2 y2 hx2 hy2 (by rw [hO];exact o2.sz.mono O)) fun _ _=>go 3 ?_
  refine Zc J (fun h57=>?_) (fun h57=>?_)
  ·have hfz:Fv x2 y2 (Mt (Zb zs))=0:=by rw [←hO];exact h57
   refine go 14 ⟨O,?_⟩
   exact Xa hsc () results143 (by first | rw [crx_t hd hz0 hp2 hfz] | rw [crx_f hd hz0 hp2 hfz]) trivial Za
  ·have hfz:¬Fv x2 y2 (Mt (Zb zs))=0:=by rw [←hO];exact h57
   refine go 10 ?_
   exact Xa hsc () results143 (by first | rw [crx_t hd hz0 hp2 hfz] | rw [crx_f hd hz0 hp2 hfz]) trivial Za
theorem Zqo(v w u w2 u2:Value)(zs:List (Int×SL))(x y x2 y2:Int)(hx:bl x.natAbs≤1000000)(hy:bl y.natAbs≤1000000)(hx2:bl x2.natAbs≤1000000)(hy2:bl y2.natAbs≤1000000)(hp:0<y)(hp2:0<y2)(hd:Cvd (Zb zs))(hc:¬0<cmp (x,y) (x2,y2)):Ok prog 101 #[v,.agg #[.bool (decide (x<0)),w,.bool (decide (y<0)),u],.agg #[.bool (decide (x2<0)),w2,.bool (decide (y2<0)),u2]] [pp v zs,Om w x.natAbs,Om u y.natAbs,Om w2 x2.natAbs,Om u2 y2.natAbs] (.bool (ngb (Qs (Zb zs)) (Eu (Zb zs)) (x,y) (x2,y2))):=by
 refine Zh func101 ntmps101 fun w0 sc hw hsc=>?_
 have hli:=Zd zs
 have hd7:=hd.l
 have hdz:Sz 1000000 (Zb zs):=hd.v.sz.mono O
 refine go 2 ?_
 refine Ya (Yl 6) fun bx _=>Ya (Yl 7) fun bx_2 _=>go 8 ?_
 refine cl 7 [2,3,4,5] (Zjd _ _ _ _ x y x2 y2 O O O O) fun _ _=>go 3 ?_
 refine Zc J (fun h65=>?_) (fun h65=>?_)
 ·refine go 4 ?_
  refine cl 7 [1,2,3] (Cl _ _ _ _ x y hx hy hdz) fun _ _=>go 6 ?_
  exact Xa hsc () results101 (by rw [ngb_e (show cmp (x,y) (x2,y2)=0 by assumption)]) trivial Za
 ·refine go 6 ?_
  refine cl 7 [1,2,3] (Cl _ _ _ _ x y hx hy hdz) fun _ _=>go 2 ?_
  refine Ys (d:=19) J (fun s68=>?_) (fun s68=>?_)
  ·refine go 21 ?_
   exact Xa hsc () results101 (by first | rw [Zwb hd hp hp2 hc ‹_›] | rw [Zwa hd hp hp2 hc ‹_›] | rw [Zv9 (show ¬cmp (x,y) (x2,y2)=0 by assumption) ‹_›] | rw [Zv8 (show ¬cmp (x,y) (x2,y2)=0 by assumption) ‹_›]) trivial Za
  ·refine go 2 ?_
   refine Bl 7 [1,4,5] (Cl _ _ _ _ x2 y2 hx2 hy2 hdz) fun _ _=>go 3 ?_
   refine Ys (d:=25) J (fun s68_2=>?_) (fun s68_2=>?_)
   ·refine go 15 ?_
    exact Xa hsc () results101 (by first | rw [Zwb hd hp hp2 hc ‹_›] | rw [Zwa hd hp hp2 hc ‹_›] | rw [Zv9 (show ¬cmp (x,y) (x2,y2)=0 by assumption) ‹_›] | rw [Zv8 (show ¬cmp (x,y) (x2,y2)=0 by assumption) ‹_›]) trivial Za
   ·refine go 2 ?_
    refine Bl 7 [1,2,3] (Zqp x y hx hy _ _ _ _ _ 185 hd.v hd.s O (Nat.lt_succ_self _)) fun _ _=>go 3 ?_
    refine Ys (d:=31) J (fun s68_3=>?_) (fun s68_3=>?_)
    ·refine go 9 ?_
     exact Xa hsc () results101 (by first | rw [Zwb hd hp hp2 hc ‹_›] | rw [Zwa hd hp hp2 hc ‹_›] | rw [Zv9 (show ¬cmp (x,y) (x2,y2)=0 by assumption) ‹_›] | rw [Zv8 (show ¬cmp (x,y) (x2,y2)=0 by assumption) ‹_›]) trivial Za
    ·refine go 3 ?_
     refine Bl 7 [1,2,3,4,5] (Ztb _ _ _ _ _ _ x y x2 y2 hx hy hx2 hy2 hp2 hd) fun _ _=>go 5 ?_
     exact Xa hsc () results101 (by first | rw [Zwb hd hp hp2 hc ‹_›] | rw [Zwa hd hp hp2 hc ‹_›] | rw [Zv9 (show ¬cmp (x,y) (x2,y2)=0 by assumption) ‹_›] | rw [Zv8 (show ¬cmp (x,y) (x2,y2)=0 by assumption) ‹_›]) trivial Za
theorem Zy5(v:Value)(zs:List (Int×SL))(hd:Cvd (Zb zs)):Cal Tryz.prog 56 #[v] [pp v zs] false (G:=Unit) (fun _=>True) (fun _=> .bool (Em (Zb zs))) (fun _=>[]):=by
 refine Zh Tryz.func56 Tryz.ntmps56 fun w0 sc hw hsc=>?_
 refine go 8 ?_
 refine cl 2 [] (Nm 0 ⟨O3,O3⟩) fun v _=>?_
 refine cl 3 [] (Nm 1 ⟨O3,O3⟩) fun v_2 _=>?_
 refine dt (Xh (ivs:=[(0,_),(1,_)]) rfl ⟨rfl,rfl,rfl,rfl,trivial⟩ (fun a w hs=>Zuo)) ?_
 refine cl 4 [] (Nm 1 ⟨O3,O3⟩) fun v_3 _=>?_
 refine cl 5 [] (Nm 1 ⟨O3,O3⟩) fun v_4 _=>?_
 refine dt (Xh (ivs:=[(0,_),(1,_)]) rfl ⟨rfl,rfl,rfl,rfl,trivial⟩ (fun a w hs=>Zuo)) ?_
 refine cl 5 [1,2,3,4,5] (Zqo _ _ _ _ _ _ 0 1 1 1 O3 O3 O3 O3 O3 O3 hd Yfc) fun _ _=>?_
 refine go 4 ?_
 exact Xa hsc () Tryz.results56 rfl trivial Za
def gZ(o:Int)(l:List Int):Nat→Int
 | 0=>o
 | i+1=>(Int.gcd (gZ o l i) (cf l i):Int)
theorem gZ_ok{o:Int}{l:List Int}(ho:0<o)(hb:bl o.natAbs≤200)(hl:∀i,bl (cf l i).natAbs≤200):∀i,0<gZ o l i∧bl (gZ o l i).natAbs≤200
 | 0=>⟨ho,hb⟩
 | i+1=>by
  obtain⟨h1,h2⟩:=gZ_ok ho hb hl i
  have h3:0<Int.gcd (gZ o l i) (cf l i):=Int.gcd_pos_of_ne_zero_left _ O
  have h4:=Zf1 (gZ o l i) (cf l i)
  have h5:=hl i
  show 0<((Int.gcd _ _:Nat):Int)∧bl ((Int.gcd _ _:Nat):Int).natAbs≤200
  exact⟨O,O⟩
def plC(a d:Int)(x y z:List Int)(t:Nat):Int:=pl (Ym t x y z) a d
theorem Zwy(ov a d:Int)(x y z:List Int):∀i,i≤3→gZ (ov*d^5) (mk 3 (plC a d x y z)) i=gS ov a d x y z i
 | 0,_=>rfl
 | i+1,hi=>by
  show((Int.gcd (gZ _ _ i) (cf _ i):Nat):Int)=((Int.gcd _ _:Nat):Int)
  rw [Zwy ov a d x y z i O,Mn,if_pos O];rfl
theorem Yc1{fr to ov:Int}{x y z:List Int}(h:Sgo fr to ov x y z){a d:Int}(ha:0≤a∧a≤3600000)(hd:1≤d∧d≤3600000)(i:Nat):bl (cf (mk 3 (plC a d x y z)) i).natAbs≤200:=by
 rw [Mn]
 split
 ·exact Nat.le_trans (Zca (h.hc i) ha hd (h.lc i).2) O3
 ·decide
def Zn8(o:Int)(l:List Int):List Int:=mk 3 fun t=>cf l t/gZ o l 3
theorem Yhw{o:Int}{l:List Int}{t:Nat}(h:t<3):cf (Zn8 o l) t=cf l t/gZ o l 3:=by unfold Zn8;rw [Mn,if_pos h]
theorem Ydy{o:Int}{l:List Int}(h:∀j,bl (cf l j).natAbs≤200)(j:Nat):bl (cf (Zn8 o l) j).natAbs≤200:=by
 unfold Zn8
 rw [Mn]
 split
 ·exact Zho (h j)
 ·decide
theorem Zgp{ov a d:Int}{x y z:List Int}{t:Nat}(h:t<3):cf (Zn8 (ov*d^5) (mk 3 (plC a d x y z))) t=plC a d x y z t/gS ov a d x y z 3:=by
 rw [Yhw h,Zwy _ _ _ _ _ _ 3 (Nat.le_refl _),Mn,if_pos h]
theorem Yht{g h:Qu}{l1 l2:List Int}(e1:l1=Zn8 (h.1.2.2*1^5) (mk 3 (plC 0 1 h.2.1.2 h.2.2.1.2 h.2.2.2.2)))(e2:l2=Zn8 (g.1.2.2*1^5) (mk 3 (plC 1 1 g.2.1.2 g.2.2.1.2 g.2.2.2.2)))(ht:h.1.1=g.1.2.1) :
  decide (cf l1 0=cf l2 0∧cf l1 1=cf l2 1∧cf l1 2=cf l2 2∧h.1.2.2*1^5/gS h.1.2.2 0 1 h.2.1.2 h.2.2.1.2 h.2.2.2.2 3=g.1.2.2*1^5/gS g.1.2.2 1 1 g.2.1.2 g.2.2.1.2 g.2.2.2.2 3)=meG g h:=by
 subst e1
 subst e2
 unfold meG Zme sameP
 rw [decide_eq_true ht.symm,Bool.true_and,Zgp O3,Zgp O3,Zgp O3,Zgp O3,Zgp O3,Zgp O3]
 refine decide_eq_decide.2 ⟨fun⟨a,b,c,d⟩=>⟨a.symm,b.symm,c.symm,d.symm⟩,fun⟨a,b,c,d⟩=>⟨a.symm,b.symm,c.symm,d.symm⟩⟩
theorem me_no{g h:Qu}(ht:h.1.1≠g.1.2.1):meG g h=false:=by unfold meG Zme;rw [decide_eq_false (fun e=>ht e.symm)];rfl
theorem Yas(ps:List Qu)(i:Nat):seB (ps.getD i G0)=false∨(seB (ps.getD i G0)=true∧i=0)∨(seB (ps.getD i G0)=true∧0<i∧(ps.getD i G0).1.1≠(ps.getD (i-1) G0).1.2.1)∨(seB (ps.getD i G0)=true∧0<i∧(ps.getD i G0).1.1=(ps.getD (i-1) G0).1.2.1):=by
 rcases Zlv (ps.getD i G0) i with h | h | h
 ·exact .inl h
 ·exact .inr (.inl h)
 ·by_cases e:(ps.getD i G0).1.1=(ps.getD (i-1) G0).1.2.1
  ·exact .inr (.inr (.inr ⟨h.1,h.2,e⟩))
  ·exact .inr (.inr (.inl ⟨h.1,h.2,e⟩))
theorem gS_d{fr to ov:Int}{x y z:List Int}(h:Sgo fr to ov x y z){a d:Int}(ha:0≤a∧a≤3600000)(hd:1≤d∧d≤3600000):bl (ov*d^5/gS ov a d x y z 3).natAbs≤200:=Zho (Nat.le_trans (Zrj h ha hd 0).2 O3)
theorem Zgj(n j:Int)(k:Nat)(hj:j=(k:Int))(hn:Pu n)(hk:k≤5):Cal Tryz.prog 99 #[.int .i64 n,.int .i64 j] [] true (G:=Value) (fun r=>True) (fun r=> .agg #[.bool (decide (n^k<0)),r]) (fun r=>[Om r (n^k).natAbs]):=by
 refine Zh Tryz.func99 Tryz.ntmps99 fun w0 sc hw hsc=>?_
 have hbn:=Kf hn
 have hpb:=fun k=>Dg hbn k
 refine go 2 ?_
 refine Ya (Zs 1) fun bx _=>?_
 refine go 4 ?_
 refine cl 98 [] (Nm 1 ⟨O3,O3⟩) fun v _=>?_
 refine Ya (Zs 97) fun bx_2 _=>?_
 refine go 10 ?_
 refine lp (G:=Nat×Value) [0,1,4,5] [0,1] (fun q=>[(6,.int .i64 (q.1:Int))]) (fun q=>[(97,box bx_2 77 #[.bool (decide (n^q.1<0)),q.2]),(98,Om q.2 (n^q.1).natAbs)]) (fun q=>q.1≤k) (fun q=>k-q.1) (0,_) O1 ⟨rfl,trivial⟩ ⟨by rw [Int.pow_zero];rfl,by rw [Int.pow_zero];rfl,trivial⟩ ?_
 rintro⟨i,vs⟩ hi
 dsimp only at hi
 dsimp only
 have hp1:=hpb i
 refine go 8 ?_
 refine Zc rfl (fun h108=>?_) (fun h108=>?_)
 ·refine go 4 ?_
  refine Xx (fun _=>False) [(0,0),(1,0),(2,1),(3,1),(4,3)] ?_
  refine go 2 ?_
  refine Yh (Zj 2 [] (Nm n hn)) fun v_2 _=>?_
  refine Yh (Zj 3 [98,2] (Ot _ _ (n^i) n)) fun v_3 _=>?_
  refine go 9 ⟨O,?_⟩
  refine Zw (Xe 3 98 rfl rfl rfl) ?_
  exact Yq (i+1,v_3) O1 O1 ⟨rfl,trivial⟩ ⟨by rw [Int.pow_succ];rfl,by rw [Int.pow_succ];rfl,trivial⟩
 ·obtain rfl:i=k:=O
  refine go 12 ?_
  exact Xa hsc _ Tryz.results99 rfl trivial (Oe 98 Za)
set_option maxHeartbeats 1000000 in
theorem Ztd(v w:Value)(zs:List (Int×SL))(o:Int)(hl3:zs.length=3)(ho:0<o)(hob:bl o.natAbs≤200)(hzb:∀i,bl (cf (Zb zs) i).natAbs≤200):Cal Tryz.prog 100 #[.agg #[v,.bool (decide (o<0)),w]] [pp v zs,Om w (o).natAbs] true (G:=Value×List (Int×SL)×Value) (fun r=>Zb r.2.1=Zn8 o (Zb zs)) (fun r=> .agg #[r.1,.bool (decide (o/(gZ o (Zb zs) 3)<0)),r.2.2]) (fun r=>[pp r.1 r.2.1,Om r.2.2 (o/(gZ o (Zb zs) 3)).natAbs]):=by
 refine Zh Tryz.func100 Tryz.ntmps100 fun w0 sc hw hsc=>?_
 have hli:=Zd zs
 have hgz:=gZ_ok ho hob hzb
 have hg3:=hgz 3
 refine go 2 ?_
 refine Ya (Yl 3) fun bx _=>?_
 refine Ya (Zs 4) fun bx_2 _=>?_
 refine go 6 ?_
 refine Ya (Zs 97) fun bx_3 _=>?_
 refine go 10 ?_
 refine Zg (Xe 2 98 rfl rfl rfl) ?_
 refine lp (G:=Nat×Value) [1,2,3] [0,1,2,3,4] (fun q=>[(4,.int .i64 (q.1:Int))]) (fun q=>[(97,box bx_3 77 #[.bool (decide (gZ o (Zb zs) q.1<0)),q.2]),(98,Om q.2 (gZ o (Zb zs) q.1).natAbs)]) (fun q=>q.1≤3) (fun q=>3-q.1) (0,w) O1 ⟨rfl,trivial⟩ ⟨rfl,rfl,trivial⟩ ?_
 rintro⟨i,vs⟩ hi
 dsimp only at hi
 dsimp only
 have hci:=Qt zs i
 have hgi:=hgz i
 have hzi:=hzb i
 refine go 7 ?_
 refine Zc rfl (fun h88=>?_) (fun h88=>?_)
 ·refine go 4 ?_
  refine Xx (fun _=>False) [(0,0),(1,0),(2,0),(3,0),(4,0),(5,0),(6,1),(7,3)] ?_
  refine go 4 ?_
  refine Qo rfl rfl (Qq (Zy (ii:=1) (i:=i) rfl rfl rfl rfl Zi Tryz.underlying45 Tryz.sizeOf77 rfl)) ?_
  refine Qo rfl rfl (Qq (Xy (ii:=1) I0 rfl rfl rfl Zi pI)) ?_
  refine Kg rfl (Yz (n:=5) (Zvr _ _ (gZ o (Zb zs) i) (zs.getD i I0).1 (by rw [hci];omega)) rfl rfl rfl ⟨rfl,rfl,trivial⟩ Tryz.call42 (Zk 98 rfl rfl rfl (Xu 1 rfl rfl (Zf) Zo)) rfl hw.h) (fun v _=>?_)
  refine go 9 ⟨O,?_⟩
  refine Zw (Xe 5 98 rfl rfl rfl) ?_
  exact Yq (i+1,v) O1 O1 ⟨rfl,trivial⟩ ⟨by rw [hci];rfl,by rw [hci];rfl,trivial⟩
 ·obtain rfl:i=3:=O
  refine go 7 ?_
  refine Ya (Zs 6) fun bx_4 _=>?_
  refine go 9 ?_
  refine Zg (Px 70 2 77 Nr) ?_
  refine Zg (Qi qI 71) ?_
  refine lp (G:=Nat×Value×List (Int×SL)) [1,2,3,5] [0,97,98,1,2,3,4] (fun q=>[(6,.int .i64 (q.1:Int))]) (fun q=>[(70,Ns 2 77 Nr q.2.1 q.2.2),(71,Hy qI q.2.2),(6,box bx_4 101 #[q.2.1,.bool false,.slice none 0 0])]) (fun q=>(q.1≤3)∧(Zb q.2.2=mk q.1 (fun t=>cf (Zb zs) t/(gZ o (Zb zs) 3)))∧(q.2.2.length=q.1)) (fun q=>3-q.1) (0,.slice none 0 0,[]) ⟨O1,rfl,rfl⟩ ⟨rfl,trivial⟩ ⟨rfl,rfl,rfl,trivial⟩ ?_
  rintro⟨i,vo,ws⟩ ⟨hi,hz,hzl⟩
  dsimp only at hi hz hzl
  dsimp only
  have hci:=Qt zs i
  have hzi:=hzb i
  refine go 7 ?_
  refine Zc rfl (fun h92=>?_) (fun h92=>?_)
  ·refine go 4 ?_
   refine jn (G:=Value×Nat) [1,2,3,5,6] [0,70,71,6,97,98,1,2,3,4] (fun q=>[(7,.pointer (some ⟨q.2,0,none⟩))]) (fun q=>[(83,Om q.1 ((zs.getD i I0).1/(gZ o (Zb zs) 3)).natAbs),(95,box q.2 77 #[.bool (decide ((zs.getD i I0).1/(gZ o (Zb zs) 3)<0)),q.1])]) (fun q=>True) ?_ ?_
   ·refine Pm [1,3,97] [13] ?_
    refine Zl (n:=8) [(0,0),(1,0),(2,0),(3,0),(4,0),(5,0)] ?_
    refine go 3 ?_
    refine Qo rfl rfl (stf (Zy (ii:=1) (i:=i) rfl rfl rfl rfl Zi Tryz.underlying45 Tryz.sizeOf77 rfl (show i<zs.length by omega)) ⟨rfl,rfl,rfl,trivial⟩) ?_
    refine Qo rfl rfl (stf (Xy (ii:=1) I0 rfl rfl rfl Zi pI (show i<zs.length by omega)) ⟨rfl,rfl,rfl,trivial⟩) ?_
    refine go 2 ?_
    refine Zdt (n:=7) 6 10 11 ?_ ?_ ?_
    ·refine Lj rfl (Yz (n:=83) (Lh _ _ (zs.getD i I0).1 (gZ o (Zb zs) 3) (by rw [hci];omega) O) rfl rfl rfl ⟨rfl,rfl,trivial⟩ Tryz.call127 (Xu 1 rfl rfl (Zf) (Zk 98 rfl rfl rfl Zo)) rfl hw.h) (fun g _=>?_)
     refine Zl (n:=4) [(7,0),(8,0),(9,0)] ?_
     refine go 4 ?_
     refine Qp (n:=3) 10 11 ?_ ?_
     ·refine Nb (Ql 95) fun bx_5 ho=>?_
      refine Zl (n:=0) [(11,1),(12,1),(13,3)] ?_
      refine Yh (Ql 99) fun bx_6 ho2=>?_
      refine go 3 ?_
      refine Zp ?_
      exact Pw (_,_) trivial ⟨rfl,trivial⟩ ⟨rfl,rfl,trivial⟩
     ·refine Nb (Ql 99) fun bx_7 ho3=>?_
      refine Zl (n:=0) [(10,1),(12,1),(13,3)] ?_
      refine Yh (Ql 95) fun bx_8 ho4=>?_
      refine go 3 ?_
      refine Zp ?_
      exact Pw (_,_) trivial ⟨rfl,trivial⟩ ⟨rfl,rfl,trivial⟩
    ·refine Nb (Ql 95) fun bx_9 ho5=>?_
     refine Qp (n:=6) 6 11 ?_ ?_
     ·refine Lj rfl (Yz (n:=83) (Lh _ _ (zs.getD i I0).1 (gZ o (Zb zs) 3) (by rw [hci];omega) O) rfl rfl rfl ⟨rfl,rfl,trivial⟩ Tryz.call127 (Xu 1 rfl rfl (Zf) (Zk 98 rfl rfl rfl Zo)) rfl hw.h) (fun g_2 _=>?_)
      refine Zl (n:=0) [(7,0),(8,0),(9,0),(11,1),(12,1),(13,3)] ?_
      refine go 3 ?_
      refine Yh (Ql 99) fun bx_10 ho6=>?_
      refine go 3 ?_
      refine Zp ?_
      exact Pw (_,_) trivial ⟨rfl,trivial⟩ ⟨rfl,rfl,trivial⟩
     ·refine Nb (Ql 99) fun bx_11 ho7=>?_
      refine Zl (n:=0) [(6,1),(7,0),(8,0),(9,0),(12,1),(13,3)] ?_
      refine Kg rfl (Yz (n:=83) (Lh _ _ (zs.getD i I0).1 (gZ o (Zb zs) 3) (by rw [hci];omega) O) rfl rfl rfl ⟨rfl,rfl,trivial⟩ Tryz.call127 (Xu 1 rfl rfl (Zf) (Zk 98 rfl rfl rfl Zo)) rfl hw.h) (fun g_3 _=>?_)
      refine go 6 ?_
      refine Zp ?_
      exact Pw (_,_) trivial ⟨rfl,trivial⟩ ⟨rfl,rfl,trivial⟩
    ·refine Nb (Ql 99) fun bx_12 ho8=>?_
     refine Qp (n:=6) 6 10 ?_ ?_
     ·refine Lj rfl (Yz (n:=83) (Lh _ _ (zs.getD i I0).1 (gZ o (Zb zs) 3) (by rw [hci];omega) O) rfl rfl rfl ⟨rfl,rfl,trivial⟩ Tryz.call127 (Xu 1 rfl rfl (Zf) (Zk 98 rfl rfl rfl Zo)) rfl hw.h) (fun g_4 _=>?_)
      refine Zl (n:=0) [(7,0),(8,0),(9,0),(10,1),(12,1),(13,3)] ?_
      refine go 3 ?_
      refine Yh (Ql 95) fun bx_13 ho9=>?_
      refine go 3 ?_
      refine Zp ?_
      exact Pw (_,_) trivial ⟨rfl,trivial⟩ ⟨rfl,rfl,trivial⟩
     ·refine Nb (Ql 95) fun bx_14 ho10=>?_
      refine Zl (n:=0) [(6,1),(7,0),(8,0),(9,0),(12,1),(13,3)] ?_
      refine Kg rfl (Yz (n:=83) (Lh _ _ (zs.getD i I0).1 (gZ o (Zb zs) 3) (by rw [hci];omega) O) rfl rfl rfl ⟨rfl,rfl,trivial⟩ Tryz.call127 (Xu 1 rfl rfl (Zf) (Zk 98 rfl rfl rfl Zo)) rfl hw.h) (fun g_5 _=>?_)
      refine go 6 ?_
      refine Zp ?_
      exact Pw (_,_) trivial ⟨rfl,trivial⟩ ⟨rfl,rfl,trivial⟩
   ·rintro⟨qv,b6⟩ -
    dsimp only
    refine Zde (Pi 83 rfl Zn) (fun sl hsl=>?_)
    subst hsl
    refine go 4 ?_
    refine tt (Qg (i:=7) (ivs:=[(0,_)]) (enc:=Nr) [((zs.getD i I0).1/(gZ o (Zb zs) 3),sl)] rfl rfl ⟨rfl,rfl,trivial⟩ Tryz.underlying45 Tryz.ti77 rfl rfl rfl rfl rfl pI.cells rfl rfl hw.h) (fun v_2 _=>?_)
    refine tt (Lk (i:=70) (j:=7) (by_:=32) rfl rfl rfl rfl rfl rfl O3 rfl (Yw pI) Tryz.underlying45 Tryz.ti77 rfl pI rfl rfl rfl O9 O3 rfl hw.h) (fun v_3 _=>?_)
    refine go 10 ⟨O,?_⟩
    refine Zw (Yp (q:=qI) (z:=((zs.getD i I0).1/(gZ o (Zb zs) 3),sl)) 71 83 71 rfl rfl rfl rfl rfl) ?_
    exact Yq (i+1,_,ws ++ [((zs.getD i I0).1/(gZ o (Zb zs) 3),sl)]) ⟨O1,by rw [Mg,Gr,hz];dsimp only;rw [Qt],by simp [hzl]⟩ O1 ⟨rfl,trivial⟩ ⟨rfl,rfl,rfl,trivial⟩
  ·obtain rfl:i=3:=O
   refine go 6 ?_
   refine Zg (Qa 70 rfl rfl pI) ?_
   refine Zg (Pd 70 71 72 rfl rfl rfl rfl) ?_
   refine go 4 ?_
   refine cl 8 [2,98] (Lh _ _ o (gZ o (Zb zs) 3) O O) fun g_6 _=>?_
   refine go 14 ?_
   exact Xa hsc (_,ws,_) Tryz.results100 rfl hz (Oe 72 (Oe 8 Za))
theorem Zvy(v w:Value)(zs:List (Int×SL))(o:Int)(hl3:zs.length=3)(hob:bl o.natAbs≤200)(hzb:∀i,bl (cf (Zb zs) i).natAbs≤200):Cal Tryz.prog 98 #[.agg #[v,.bool (decide (o<0)),w]] [pp v zs,Om w (o).natAbs] false (G:=Unit) (fun _=>True) (fun _=>plV (cf (Zb zs) 0) (cf (Zb zs) 1) (cf (Zb zs) 2) o) (fun _=>[]):=by
 refine Zh Tryz.func98 Tryz.ntmps98 fun w0 sc hw hsc=>?_
 have c0:=Qt zs 0
 have c1:=Qt zs 1
 have c2:=Qt zs 2
 have z0:=hzb 0
 have z1:=hzb 1
 have z2:=hzb 2
 refine go 2 ?_
 refine Ya (Yl 3) fun bx _=>?_
 refine Ya (Zs 4) fun bx_2 _=>?_
 refine go 3 ?_
 refine Xx (fun _=>False) [(0,0),(1,0),(2,0),(3,0),(5,0),(6,0),(7,0),(8,0),(10,0),(11,0),(12,0),(13,0),(15,0),(16,0),(4,1),(9,1),(14,1),(17,1),(18,0),(19,3)] ?_
 refine go 3 ⟨O,?_⟩
 refine Qo rfl rfl (Qq (Xy (ii:=1) I0 rfl rfl rfl Zi pI)) ?_
 refine go 3 ⟨O,?_⟩
 refine Qo rfl rfl (Qq (Xy (ii:=1) I0 rfl rfl rfl Zi pI)) ?_
 refine go 3 ⟨O,?_⟩
 refine Qo rfl rfl (Qq (Xy (ii:=1) I0 rfl rfl rfl Zi pI)) ?_
 refine go 2 ?_
 refine Kg rfl (Yz (n:=4) (Ycd _ (zs.getD 0 I0).1 (by rw [c0];omega)) rfl rfl rfl ⟨rfl,trivial⟩ Tryz.call50 (Xu 1 rfl rfl (Zf) Zo) rfl hw.h) (fun _ _=>?_)
 refine Kg rfl (Yz (n:=4) (Ycd _ (zs.getD 1 I0).1 (by rw [c1];omega)) rfl rfl rfl ⟨rfl,trivial⟩ Tryz.call50 (Xu 1 rfl rfl (Zf) Zo) rfl hw.h) (fun _ _=>?_)
 refine Kg rfl (Yz (n:=4) (Ycd _ (zs.getD 2 I0).1 (by rw [c2];omega)) rfl rfl rfl ⟨rfl,trivial⟩ Tryz.call50 (Xu 1 rfl rfl (Zf) Zo) rfl hw.h) (fun _ _=>?_)
 refine Yh (Zj 4 [2] (Ycd _ o O)) fun _ _=>?_
 refine Qo rfl rfl (Qq (Xh (ivs:=[(0,_),(1,_),(2,_),(3,_)]) rfl ⟨rfl,rfl,rfl,rfl,rfl,rfl,rfl,rfl,trivial⟩ (fun a w hs=>Zmu))) ?_
 refine go 4 ?_
 exact Xa hsc () Tryz.results98 (by rw [←c0,←c1,←c2]<;>rfl) trivial Za
theorem Yck(v w v2 w2:Value)(zs zs2:List (Int×SL))(o o2:Int)(hl3:zs.length=3)(hob:bl o.natAbs≤200)(hzb:∀i,bl (cf (Zb zs) i).natAbs≤200)(hl32:zs2.length=3)(hob2:bl o2.natAbs≤200)(hzb2:∀i,bl (cf (Zb zs2) i).natAbs≤200):Cal Tryz.prog 54 #[.agg #[v,.bool (decide (o<0)),w],.agg #[v2,.bool (decide (o2<0)),w2]] [pp v zs,Om w (o).natAbs,pp v2 zs2,Om w2 (o2).natAbs] false (G:=Unit) (fun _=>True) (fun _=> .bool (decide ((cf (Zb zs) 0)=(cf (Zb zs2) 0)∧(cf (Zb zs) 1)=(cf (Zb zs2) 1)∧(cf (Zb zs) 2)=(cf (Zb zs2) 2)∧o=o2))) (fun _=>[]):=by
 refine Zh Tryz.func54 Tryz.ntmps54 fun w0 sc hw hsc=>?_
 refine go 2 ?_
 refine Ya (Yl 5) fun bx _=>?_
 refine Ya (Yl 6) fun bx_2 _=>?_
 refine go 4 ?_
 refine Xx (fun _=>False) [(0,0),(2,0),(1,1),(3,1),(4,0),(5,3)] ?_
 refine go 2 ?_
 refine Yh (Zj 6 [1,2] (Zvy _ _ _ o hl3 hob hzb)) fun _ _=>?_
 refine Yh (Zj 6 [3,4] (Zvy _ _ _ o2 hl32 hob2 hzb2)) fun _ _=>?_
 refine Qo rfl rfl (Qq (Zdr rfl rfl rfl eg151 (fun w=>eqlP w _ _ _ _ _ _ _ _))) ?_
 refine go 4 ?_
 exact Xa hsc () Tryz.results54 rfl trivial Za
set_option maxHeartbeats 1000000 in
theorem Zl3(fr to ov:Int)(sx sy sz:SL)(x y z:List Int)(a d:Int)(hS:Sgo fr to ov x y z)(ha:0≤a∧a≤3600000)(hd:1≤d∧d≤3600000):Cal Tryz.prog 55 #[.agg #[.int .i64 fr,.int .i64 to,.int .i64 ov,Mb sx,Mb sy,Mb sz],.int .i64 a,.int .i64 d] [Xc 1 Xg (Mb sx) x,Xc 1 Xg (Mb sy) y,Xc 1 Xg (Mb sz) z] true (G:=Value×List (Int×SL)×Value) (fun r=>Zb r.2.1=Zn8 (ov*d^5) (mk 3 (plC a d x y z))) (fun r=> .agg #[r.1,.bool (decide ((ov*d^5)/gS ov a d x y z 3<0)),r.2.2]) (fun r=>[pp r.1 r.2.1,Om r.2.2 ((ov*d^5)/gS ov a d x y z 3).natAbs]):=by
 refine Zh Tryz.func55 Tryz.ntmps55 fun w0 sc hw hsc=>?_
 have ho1:=hS.o1
 have ho2:=hS.o2
 have hgs:=Zrj hS ha hd 0
 have hbo:bl ov.natAbs≤64:=(Xn 64 _).2 O
 refine go 2 ?_
 refine Ya (Yl 4) fun bx _=>?_
 refine Ya (Zs 5) fun bx_2 _=>?_
 refine go 4 ?_
 refine Ya (Zs 6) fun bx_3 _=>?_
 refine go 5 ?_
 refine cl 7 [1,2,3] (Cm _ _ _ _ _ _ _ _ _) fun v _=>?_
 refine go 10 ?_
 refine Zg (Px 70 2 77 Nr) ?_
 refine Zg (Qi qI 71) ?_
 refine lp (G:=Nat×Value×List (Int×SL)) [1,2,3,6,7,8] [0,1,2,3,4,5,7] (fun q=>[(9,.int .i64 (q.1:Int))]) (fun q=>[(70,Ns 2 77 Nr q.2.1 q.2.2),(71,Hy qI q.2.2),(6,box bx_3 101 #[q.2.1,.bool false,.slice none 0 0])]) (fun q=>(q.1≤3)∧(Zb q.2.2=mk q.1 (plC a d x y z))∧(q.2.2.length=q.1)) (fun q=>3-q.1) (0,.slice none 0 0,[]) ⟨O1,rfl,rfl⟩ ⟨rfl,trivial⟩ ⟨rfl,rfl,rfl,trivial⟩ ?_
 rintro⟨i,vo,ws⟩ ⟨hi,hz,hzl⟩
 dsimp only at hi hz hzl
 dsimp only
 have hc:=hS.hc i
 have hlc:=hS.lc i
 refine go 7 ?_
 refine Zc rfl (fun h118=>?_) (fun h118=>?_)
 ·refine go 6 ?_
  refine dt (Xh (ivs:=[]) rfl trivial (fun a w hs=>Zpg)) ?_
  refine Ya (Zs 97) fun bx_4 _=>?_
  refine go 10 ?_
  refine Zg (Px 98 1 3 Kc) ?_
  refine Zg (Qa 98 rfl rfl pN) ?_
  refine lp (G:=Nat×Value) [1,2,3,6,7,8,9,10] [0,70,71,6,1,2,3,4,5,7] (fun q=>[(11,.int .i64 (q.1:Int))]) (fun q=>[(97,box bx_4 77 #[.bool (decide ((plS (Ym i x y z) a d q.1)<0)),q.2]),(98,Om q.2 ((plS (Ym i x y z) a d q.1)).natAbs)]) (fun q=>q.1≤(Ym i x y z).length) (fun q=>(Ym i x y z).length-q.1) (0,.slice none 0 0) O1 ⟨rfl,trivial⟩ ⟨rfl,rfl,trivial⟩ ?_
  rintro⟨k,vs⟩ hk
  dsimp only at hk
  dsimp only
  refine go 2 ?_
  refine Zg (Ci 7 40 ([(sx,x),(sy,y),(sz,z)].getD i C0) rfl rfl (Zf (show i<3 by omega)) rfl) ?_
  refine Zg (Ia 40 (q:=Xc 1 Xg (Mb ([(sx,x),(sy,y),(sz,z)].getD i C0).1) (Ym i x y z)) (congrArg (Xc 1 Xg _) (Zip O)) rfl rfl) ?_
  refine go 4 ?_
  refine dt (Zy (ii:=7) (i:=i) rfl rfl rfl rfl Zi Tryz.underlying80 Tryz.sizeOf22 rfl (show i<3 by omega)) ?_
  refine dt (Xy (ii:=7) C0 rfl rfl rfl Zi pC (show i<3 by omega)) ?_
  refine go 4 ?_
  refine Zc rfl (fun h120=>?_) (fun h120=>?_)
  ·refine go 4 ?_
   refine Xx (fun _=>False) [(0,0),(1,0),(2,0),(3,0),(4,0),(5,0),(6,0),(7,0),(9,0),(10,0),(12,0),(13,0),(14,0),(8,1),(11,1),(15,1),(16,1),(17,1),(18,1),(19,3)] ?_
   refine go 3 ?_
   refine Qo rfl rfl (Qq (Zy (ii:=7) (i:=i) rfl rfl rfl rfl Zi Tryz.underlying80 Tryz.sizeOf22 rfl (show i<3 by omega))) ?_
   refine Qo rfl rfl (Qq (Xy (ii:=7) C0 rfl rfl rfl Zi pC (show i<3 by omega))) ?_
   refine go 1 ?_
   refine Qo rfl rfl (Qq (Zy (ii:=40) (i:=k) rfl rfl rfl rfl Zn Tryz.underlying22 Tryz.sizeOf3 rfl)) ?_
   refine go 6 ⟨O,O,?_⟩
   refine Yh (Zj 8 [] (Nm ((Ym i x y z).getD k 0) (Qm hc k))) fun v_2 _=>?_
   refine Yh (Zj 9 [] (Zgj a _ k rfl ⟨O,O⟩ O)) fun v_3 _=>?_
   refine Yh (Zj 10 [] (Zgj d _ (5-(k:Int)).toNat O ⟨O,O⟩ O)) fun v_4 _=>?_
   refine Yh (Zj 11 [9,10] (Ot _ _ (a^k) (d^(5-(k:Int)).toNat) (Nat.le_trans (Zgw ha O) O3) (Nat.le_trans (Zgw (a:=d) ⟨O,O⟩ O) O3))) fun v_5 _=>?_
   refine Yh (Zj 12 [8,11] (Ot _ _ ((Ym i x y z).getD k 0) (a^k*d^(5-(k:Int)).toNat) (Nat.le_trans (Kf (Qm hc k)) O3) (Nat.le_trans (Zpa hc ha hd (k:=k) O).1 O3))) fun v_6 _=>?_
   refine Yh (Zj 13 [98,12] (Zdj _ _ (plS (Ym i x y z) a d k) (plT (Ym i x y z) a d k) (Nat.le_trans (Zpa hc ha hd O).2 O3) (Nat.le_trans (Zca hc ha hd O) O3))) fun v_7 _=>?_
   refine go 9 ⟨O,?_⟩
   refine Zw (Xe 13 98 rfl rfl rfl) ?_
   exact Yq (k+1,v_7) O1 O1 ⟨rfl,trivial⟩ ⟨rfl,rfl,trivial⟩
  ·obtain rfl:k=(Ym i x y z).length:=O
   refine go 5 ?_
   refine Zde (Pi 98 rfl Zn) (fun sl hsl=>?_)
   subst hsl
   refine go 4 ?_
   refine tt (Qg (i:=14) (ivs:=[(0,_)]) (enc:=Nr) [((plS (Ym i x y z) a d (Ym i x y z).length),sl)] rfl rfl ⟨rfl,rfl,trivial⟩ Tryz.underlying45 Tryz.ti77 rfl rfl rfl rfl rfl pI.cells rfl rfl hw.h) (fun v_8 _=>?_)
   refine tt (Lk (i:=70) (j:=14) (by_:=32) rfl rfl rfl rfl rfl rfl O3 rfl (Yw pI) Tryz.underlying45 Tryz.ti77 rfl pI rfl rfl rfl O9 O3 rfl hw.h) (fun v_9 _=>?_)
   refine go 10 ⟨O,?_⟩
   refine Zw (Yp (q:=qI) (z:=((plS (Ym i x y z) a d (Ym i x y z).length),sl)) 71 98 71 rfl rfl rfl rfl rfl) ?_
   exact Yq (i+1,_,ws ++ [((plS (Ym i x y z) a d (Ym i x y z).length),sl)]) ⟨O1,by rw [Mg,Gr,hz];dsimp only;rfl,by simp [hzl]⟩ O1 ⟨rfl,trivial⟩ ⟨rfl,rfl,rfl,trivial⟩
 ·obtain rfl:i=3:=O
  refine go 6 ?_
  refine Zg (Qa 70 rfl rfl pI) ?_
  refine Zg (Pd 70 71 72 rfl rfl rfl rfl) ?_
  refine go 3 ?_
  refine cl 15 [] (Nm ov) fun v_10 _=>?_
  refine go 1 ?_
  refine cl 16 [] (Zgj d 5 5 rfl ⟨O,O⟩ O3) fun v_11 _=>?_
  refine cl 17 [15,16] (Ot _ _ ov (d^5) (Nat.le_trans hbo O3) (Nat.le_trans (Zgw (a:=d) ⟨O,O⟩ (k:=5) O3) O3)) fun v_12 _=>?_
  refine go 7 ?_
  refine cl 18 [72,17] (Ztd _ _ ws (ov*d^5) hzl hgs.1 (Nat.le_trans hgs.2 O3) (fun j=>by rw [hz];exact Yc1 hS ha hd j)) fun g hg=>?_
  refine go 4 ?_
  exact Xa hsc _ Tryz.results55 (by rw [hz,Zwy _ _ _ _ _ _ 3 (Nat.le_refl _)]) (hg.trans (by rw [hz])) (Oe 18 (Oe 19 Za (by rw [hz,Zwy _ _ _ _ _ _ 3 (Nat.le_refl _)])))
set_option maxHeartbeats 1000000 in
theorem Zdk(v:Value)(ps:List Qu)(hp:∀g∈ps,Gin g):Cal Tryz.prog 25 #[v] [Nv 6 Ep qG v ps] false (G:=Unit) (fun _=>True) (fun _=> .bool (Gp ps)) (fun _=>[]):=by
 refine Zh Tryz.func25 Tryz.ntmps25 fun w0 sc hw hsc=>?_
 refine Oc (Lp (i:=1) rfl Zi) (fun hlen=>?_)
 refine go 12 ?_
 refine lp (G:=Nat) [0] [0,1] (fun i=>[(3,.int .i64 (i:Int))]) (fun i=>[]) (fun i=>(i≤ps.length)∧(∀k,k<i→Zdd ps k=true)) (fun i=>ps.length-i) 0 ⟨O1,fun k hk=>absurd hk (Nat.not_lt_zero k)⟩ ⟨rfl,trivial⟩ trivial ?_
 rintro i ⟨hi,hk⟩
 refine go 9 ?_
 refine Zc rfl (fun h134=>?_) (fun h134=>?_)
 ·refine go 5 ?_
  rcases Yas ps i with hc1 | ⟨hc1,hc2⟩ | ⟨hc1,hc2,hc3⟩ | ⟨hc1,hc2,hc3⟩
  ·have hgi:=hp _ (Zf (d:=G0) (show i<ps.length by omega))
   refine Zg (Xv (g:=(ps.getD i G0)) (z:=(ps.getD i G0).2.1) 1 51 rfl rfl (Zf) O5) ?_
   refine Zg (Xv (g:=(ps.getD i G0)) (z:=(ps.getD i G0).2.2.1) 1 52 rfl rfl (Zf) O5) ?_
   refine Zg (Xv (g:=(ps.getD i G0)) (z:=(ps.getD i G0).2.2.2) 1 53 rfl rfl (Zf) O5) ?_
   refine Xx (fun _=>False) [(0,0),(1,0),(2,0),(3,0),(4,1),(5,0),(6,0),(7,2),(8,2),(9,2),(10,2),(11,2),(12,2),(13,2),(14,2),(15,2),(16,2),(17,2),(18,2),(19,2),(20,2),(21,2),(22,2),(23,2),(24,2),(25,2),(26,2),(28,2),(29,2),(30,2),(31,2),(32,2),(27,2),(33,2),(34,2),(35,2),(36,2),(37,2),(38,0)] ?_
   refine go 2 ?_
   refine Qo rfl rfl (Qq (Zy (ii:=1) (i:=i) rfl rfl rfl rfl Zi Tryz.underlying29 Tryz.sizeOf24 rfl)) ?_
   refine Qo rfl rfl (Qq (Xy (ii:=1) G0 rfl rfl rfl Zi pG)) ?_
   refine Yh (Zj 1 [51,52,53] (Zct _ _ _ _ _ _ _ _ _ hgi.f hgi.t hgi.o hgi.x hgi.y hgi.z)) fun _ _=>?_
   refine Qo rfl rfl (Qq (Yg (r':= .bool true) (Qj rfl rfl) (congrArg (fun b=>Value.bool (!b)) hc1))) ?_
   refine go 4 ?_
   refine Dy rfl rfl rfl rfl rfl ?_
   refine Dy rfl rfl rfl rfl rfl ?_
   refine Dy rfl rfl rfl rfl rfl ?_
   refine Dy rfl rfl rfl rfl rfl ?_
   refine Dy rfl rfl rfl rfl rfl ?_
   refine Dy rfl rfl rfl rfl rfl ?_
   refine Dy rfl rfl rfl rfl rfl ?_
   refine Dy rfl rfl rfl rfl rfl ?_
   refine Dy rfl rfl rfl rfl rfl ?_
   refine Dy rfl rfl rfl rfl rfl ?_
   refine Dy rfl rfl rfl rfl rfl ?_
   refine Dy rfl rfl rfl rfl rfl ?_
   refine Dy rfl rfl rfl rfl rfl ?_
   refine Dy rfl rfl rfl rfl rfl ?_
   refine Dy rfl rfl rfl rfl rfl ?_
   refine Dy rfl rfl rfl rfl rfl ?_
   refine Dy rfl rfl rfl rfl rfl ?_
   refine Dy rfl rfl rfl rfl rfl ?_
   refine Dy rfl rfl rfl rfl rfl ?_
   refine Dy rfl rfl rfl rfl rfl ?_
   refine Dy rfl rfl rfl rfl rfl ?_
   refine Dy rfl rfl rfl rfl rfl ?_
   refine Dy rfl rfl rfl rfl rfl ?_
   refine Dy rfl rfl rfl rfl rfl ?_
   refine Dy rfl rfl rfl rfl rfl ?_
   refine Dy rfl rfl rfl rfl rfl ?_
   refine Dy rfl rfl rfl rfl rfl ?_
   refine go 16 ?_
   exact Xa hsc () Tryz.results25 (by rw [Ze8 (i:=i) O (Yda hc1)]) trivial Za
  ·have hgi:=hp _ (Zf (d:=G0) (show i<ps.length by omega))
   refine Zg (Xv (g:=(ps.getD i G0)) (z:=(ps.getD i G0).2.1) 1 51 rfl rfl (Zf) O5) ?_
   refine Zg (Xv (g:=(ps.getD i G0)) (z:=(ps.getD i G0).2.2.1) 1 52 rfl rfl (Zf) O5) ?_
   refine Zg (Xv (g:=(ps.getD i G0)) (z:=(ps.getD i G0).2.2.2) 1 53 rfl rfl (Zf) O5) ?_
   refine Xx (fun _=>False) [(0,0),(1,0),(2,0),(3,0),(4,1),(5,0),(6,0),(7,0),(8,0),(9,0),(10,2),(11,2),(12,2),(13,2),(14,2),(15,2),(16,2),(17,2),(18,2),(19,2),(20,2),(21,2),(22,2),(23,2),(24,2),(25,2),(26,2),(28,2),(29,2),(30,2),(31,2),(32,2),(27,2),(33,2),(34,2),(35,2),(36,2),(37,0),(38,0)] ?_
   refine go 2 ?_
   refine Qo rfl rfl (Qq (Zy (ii:=1) (i:=i) rfl rfl rfl rfl Zi Tryz.underlying29 Tryz.sizeOf24 rfl)) ?_
   refine Qo rfl rfl (Qq (Xy (ii:=1) G0 rfl rfl rfl Zi pG)) ?_
   refine Yh (Zj 1 [51,52,53] (Zct _ _ _ _ _ _ _ _ _ hgi.f hgi.t hgi.o hgi.x hgi.y hgi.z)) fun _ _=>?_
   refine Qo rfl rfl (Qq (Yg (r':= .bool false) (Qj rfl rfl) (congrArg (fun b=>Value.bool (!b)) hc1))) ?_
   refine go 2 ?_
   refine Af (Qq (Yg (r':= .bool false) (Zfw rfl rfl rfl) (congrArg Value.bool (decide_eq_false O)))) rfl rfl rfl rfl rfl ?_
   refine go 14 ?_
   refine Dy rfl rfl rfl rfl rfl ?_
   refine Dy rfl rfl rfl rfl rfl ?_
   refine Dy rfl rfl rfl rfl rfl ?_
   refine Dy rfl rfl rfl rfl rfl ?_
   refine Dy rfl rfl rfl rfl rfl ?_
   refine Dy rfl rfl rfl rfl rfl ?_
   refine Dy rfl rfl rfl rfl rfl ?_
   refine Dy rfl rfl rfl rfl rfl ?_
   refine Dy rfl rfl rfl rfl rfl ?_
   refine Dy rfl rfl rfl rfl rfl ?_
   refine Dy rfl rfl rfl rfl rfl ?_
   refine Dy rfl rfl rfl rfl rfl ?_
   refine Dy rfl rfl rfl rfl rfl ?_
   refine go 14 ⟨O,?_⟩
   exact Yq (i+1) ⟨O1,fun k h9=>by rcases Nat.lt_succ_iff_lt_or_eq.1 h9 with h8 | h8;exact hk k h8;subst h8;exact Ydb hc1 hc2⟩ O1 ⟨rfl,trivial⟩ trivial
  ·have hgi:=hp _ (Zf (d:=G0) (show i<ps.length by omega))
   refine Zg (Xv (g:=(ps.getD i G0)) (z:=(ps.getD i G0).2.1) 1 51 rfl rfl (Zf) O5) ?_
   refine Zg (Xv (g:=(ps.getD i G0)) (z:=(ps.getD i G0).2.2.1) 1 52 rfl rfl (Zf) O5) ?_
   refine Zg (Xv (g:=(ps.getD i G0)) (z:=(ps.getD i G0).2.2.2) 1 53 rfl rfl (Zf) O5) ?_
   refine Xx (fun _=>False) [(0,0),(1,0),(2,0),(3,0),(4,1),(5,0),(6,0),(7,0),(8,0),(9,0),(10,0),(11,0),(12,0),(13,0),(14,0),(15,0),(16,0),(17,0),(18,0),(19,0),(20,0),(21,0),(22,0),(23,2),(24,2),(25,2),(26,2),(28,2),(29,2),(30,2),(31,2),(32,2),(27,2),(33,2),(34,2),(35,2),(36,0),(37,0),(38,0)] ?_
   refine go 2 ?_
   refine Qo rfl rfl (Qq (Zy (ii:=1) (i:=i) rfl rfl rfl rfl Zi Tryz.underlying29 Tryz.sizeOf24 rfl)) ?_
   refine Qo rfl rfl (Qq (Xy (ii:=1) G0 rfl rfl rfl Zi pG)) ?_
   refine Yh (Zj 1 [51,52,53] (Zct _ _ _ _ _ _ _ _ _ hgi.f hgi.t hgi.o hgi.x hgi.y hgi.z)) fun _ _=>?_
   refine Qo rfl rfl (Qq (Yg (r':= .bool false) (Qj rfl rfl) (congrArg (fun b=>Value.bool (!b)) hc1))) ?_
   refine go 2 ?_
   refine Af (Qq (Yg (r':= .bool true) (Zfw rfl rfl rfl) (congrArg Value.bool (decide_eq_true O)))) rfl rfl rfl rfl rfl ?_
   refine go 3 ?_
   refine Af (Qq (Zy (ii:=1) (i:=i) rfl rfl rfl rfl Zi Tryz.underlying29 Tryz.sizeOf24 rfl)) rfl rfl rfl rfl rfl ?_
   refine Af (Qq (Zkk (ii:=1) rfl rfl rfl Zi Tryz.underlying24 rfl Tryz.sizeOf3 rfl)) rfl rfl rfl rfl rfl ?_
   refine Af (Qq (Zkj (ii:=1) G0 rfl rfl rfl Zi Tryz.isAgg3 rfl)) rfl rfl rfl rfl rfl ?_
   refine go 3 ⟨O,?_⟩
   refine Af (Qq (Zy (ii:=1) (i:=(i-1)) rfl rfl rfl rfl Zi Tryz.underlying29 Tryz.sizeOf24)) rfl rfl rfl rfl rfl ?_
   refine Af (Qq (Zkk (ii:=1) rfl rfl rfl Zi Tryz.underlying24 rfl Tryz.sizeOf3 rfl)) rfl rfl rfl rfl rfl ?_
   refine Af (Qq (Zkj (ii:=1) G0 rfl rfl rfl Zi Tryz.isAgg3 rfl)) rfl rfl rfl rfl rfl ?_
   refine Af (Qq (Yg (r':= .bool true) (Ye3 rfl rfl rfl) (congrArg Value.bool (decide_eq_true hc3)))) rfl rfl rfl rfl rfl ?_
   refine go 31 ?_
   exact Xa hsc () Tryz.results25 (by rw [Ze8 (i:=i) O ((Zjq hc1 hc2).trans (me_no hc3))]) trivial Za
  ·refine Zg (Xv (g:=(ps.getD (i-1) G0)) (z:=(ps.getD (i-1) G0).2.1) 1 54 rfl rfl (Zf) O5) ?_
   refine Zg (Xv (g:=(ps.getD (i-1) G0)) (z:=(ps.getD (i-1) G0).2.2.1) 1 55 rfl rfl (Zf) O5) ?_
   refine Zg (Xv (g:=(ps.getD (i-1) G0)) (z:=(ps.getD (i-1) G0).2.2.2) 1 56 rfl rfl (Zf) O5) ?_
   have hgi:=hp _ (Zf (d:=G0) (show i<ps.length by omega))
   refine Zg (Xv (g:=(ps.getD i G0)) (z:=(ps.getD i G0).2.1) 1 51 rfl rfl (Zf) O5) ?_
   refine Zg (Xv (g:=(ps.getD i G0)) (z:=(ps.getD i G0).2.2.1) 1 52 rfl rfl (Zf) O5) ?_
   refine Zg (Xv (g:=(ps.getD i G0)) (z:=(ps.getD i G0).2.2.2) 1 53 rfl rfl (Zf) O5) ?_
   refine Xx (fun _=>False) [(0,0),(1,0),(2,0),(3,0),(4,1),(5,0),(6,0),(7,0),(8,0),(9,0),(10,0),(11,0),(12,0),(13,0),(14,0),(15,0),(16,0),(17,0),(18,0),(19,0),(20,0),(21,0),(22,0),(23,0),(24,0),(25,0),(26,0),(28,0),(29,0),(30,0),(31,0),(32,0),(27,1),(33,1),(34,1),(35,0),(36,0),(37,0),(38,0)] ?_
   refine go 2 ?_
   refine Qo rfl rfl (Qq (Zy (ii:=1) (i:=i) rfl rfl rfl rfl Zi Tryz.underlying29 Tryz.sizeOf24 rfl)) ?_
   refine Qo rfl rfl (Qq (Xy (ii:=1) G0 rfl rfl rfl Zi pG)) ?_
   refine Yh (Zj 1 [51,52,53] (Zct _ _ _ _ _ _ _ _ _ hgi.f hgi.t hgi.o hgi.x hgi.y hgi.z)) fun _ _=>?_
   refine Qo rfl rfl (Qq (Yg (r':= .bool false) (Qj rfl rfl) (congrArg (fun b=>Value.bool (!b)) hc1))) ?_
   refine go 2 ?_
   refine Af (Qq (Yg (r':= .bool true) (Zfw rfl rfl rfl) (congrArg Value.bool (decide_eq_true O)))) rfl rfl rfl rfl rfl ?_
   refine go 3 ?_
   refine Af (Qq (Zy (ii:=1) (i:=i) rfl rfl rfl rfl Zi Tryz.underlying29 Tryz.sizeOf24 rfl)) rfl rfl rfl rfl rfl ?_
   refine Af (Qq (Zkk (ii:=1) rfl rfl rfl Zi Tryz.underlying24 rfl Tryz.sizeOf3 rfl)) rfl rfl rfl rfl rfl ?_
   refine Af (Qq (Zkj (ii:=1) G0 rfl rfl rfl Zi Tryz.isAgg3 rfl)) rfl rfl rfl rfl rfl ?_
   refine go 3 ⟨O,?_⟩
   refine Af (Qq (Zy (ii:=1) (i:=(i-1)) rfl rfl rfl rfl Zi Tryz.underlying29 Tryz.sizeOf24)) rfl rfl rfl rfl rfl ?_
   refine Af (Qq (Zkk (ii:=1) rfl rfl rfl Zi Tryz.underlying24 rfl Tryz.sizeOf3 rfl)) rfl rfl rfl rfl rfl ?_
   refine Af (Qq (Zkj (ii:=1) G0 rfl rfl rfl Zi Tryz.isAgg3 rfl)) rfl rfl rfl rfl rfl ?_
   refine Af (Qq (Yg (r':= .bool false) (Ye3 rfl rfl rfl) (congrArg Value.bool (decide_eq_false (fun e=>e hc3))))) rfl rfl rfl rfl rfl ?_
   refine go 3 ?_
   refine Af (Qq (Zy (ii:=1) (i:=i) rfl rfl rfl rfl Zi Tryz.underlying29 Tryz.sizeOf24 rfl)) rfl rfl rfl rfl rfl ?_
   refine Af (Qq (Xy (ii:=1) G0 rfl rfl rfl Zi pG)) rfl rfl rfl rfl rfl ?_
   refine go 3 ⟨O,?_⟩
   refine Af (Qq (Zy (ii:=1) (i:=(i-1)) rfl rfl rfl rfl Zi Tryz.underlying29 Tryz.sizeOf24)) rfl rfl rfl rfl rfl ?_
   refine Af (Qq (Xy (ii:=1) G0 rfl rfl rfl Zi pG)) rfl rfl rfl rfl rfl ?_
   refine Zht rfl rfl rfl rfl rfl (Yz (n:=2) (Zl3 _ _ _ _ _ _ _ _ _ 0 1 (Zak hgi hc1) ⟨O3,O3⟩ ⟨O3,O3⟩) rfl rfl rfl ⟨rfl,rfl,rfl,trivial⟩ Tryz.call55 (Zk 51 rfl rfl rfl (Zk 52 rfl rfl rfl (Zk 53 rfl rfl rfl Zo))) rfl hw.h) (fun g hg=>?_)
   refine Zht rfl rfl rfl rfl rfl (Yz (n:=4) (Zl3 _ _ _ _ _ _ _ _ _ 1 1 (Zak (hp _ (Zf)) (Zfa (hk (i-1) O))) ⟨O3,O3⟩ ⟨O3,O3⟩) rfl rfl rfl ⟨rfl,rfl,rfl,trivial⟩ Tryz.call55 (Zk 54 rfl rfl rfl (Zk 55 rfl rfl rfl (Zk 56 rfl rfl rfl Zo))) rfl hw.h) (fun g_2 hg_2=>?_)
   refine Zht rfl rfl rfl rfl rfl (Yz (n:=5) (Yck _ _ _ _ _ _ ((ps.getD i G0).1.2.2*1^5/gS (ps.getD i G0).1.2.2 0 1 (ps.getD i G0).2.1.2 (ps.getD i G0).2.2.1.2 (ps.getD i G0).2.2.2.2 3) ((ps.getD (i-1) G0).1.2.2*1^5/gS (ps.getD (i-1) G0).1.2.2 1 1 (ps.getD (i-1) G0).2.1.2 (ps.getD (i-1) G0).2.2.1.2 (ps.getD (i-1) G0).2.2.2.2 3) (by rw [←Zd,hg];exact Yu _ _) (gS_d (Zak hgi hc1) ⟨O3,O3⟩ ⟨O3,O3⟩) (fun j=>by rw [hg];exact Ydy (fun j=>Yc1 (Zak hgi hc1) ⟨O3,O3⟩ ⟨O3,O3⟩ j) j) (by rw [←Zd,hg_2];exact Yu _ _) (gS_d (Zak (hp _ (Zf)) (Zfa (hk (i-1) O))) ⟨O3,O3⟩ ⟨O3,O3⟩) (fun j=>by rw [hg_2];exact Ydy (fun j=>Yc1 (Zak (hp _ (Zf)) (Zfa (hk (i-1) O))) ⟨O3,O3⟩ ⟨O3,O3⟩ j) j)) rfl rfl rfl ⟨rfl,rfl,trivial⟩ Tryz.call54 (Zk 2 rfl rfl rfl (Zk 3 rfl rfl rfl (Zk 4 rfl rfl rfl (Zk 5 rfl rfl rfl Zo)))) rfl hw.h) (fun _ _=>?_)
   refine Af (Qq (Yg (r':= .bool (!meG (ps.getD (i-1) G0) (ps.getD i G0))) (Qj rfl rfl) (congrArg (fun b=>Value.bool (!b)) (Yht hg hg_2 hc3)))) rfl rfl rfl rfl rfl ?_
   refine go 5 ?_
   refine Oy rfl (fun h135=>?_) (fun h135=>?_)
   ·refine go 11 ?_
    exact Xa hsc () Tryz.results25 (by rw [Ze8 (i:=i) O ((Zjq hc1 hc2).trans (Zkp ‹_›))]) trivial Za
   ·refine go 8 ⟨O,?_⟩
    exact Yq (i+1) ⟨O1,fun k h9=>by rcases Nat.lt_succ_iff_lt_or_eq.1 h9 with h8 | h8;exact hk k h8;subst h8;exact(Zjq hc1 hc2).trans (Zkq ‹_›)⟩ O1 ⟨rfl,trivial⟩ trivial
 ·obtain rfl:i=ps.length:=O
  refine go 11 ?_
  refine Ys (d:=52) rfl (fun s139=>?_) (fun s139=>?_)
  ·refine go 8 ?_
   exact Xa hsc () Tryz.results25 (by rw [Zic hk];first | exact congrArg Value.bool (decide_eq_decide.2 O) | exact congrArg Value.bool (decide_eq_false O)) trivial Za
  ·refine go 8 ?_
   exact Xa hsc () Tryz.results25 (by rw [Zic hk];first | exact congrArg Value.bool (decide_eq_decide.2 O) | exact congrArg Value.bool (decide_eq_false O)) trivial Za
theorem Yb3(p q:List Int)(x:Rat):Ze (Gj p q) x=Ze p x-Ze q x:=by
 have:Ze (Gj p q) x=Ze (Mp p (q.map fun a=>-1*a)) x:=Nz x _ _ fun i=>by rw [Lu,Lv,Qd];omega
 rw [this,Xf,Zm];push_cast;grind
theorem Yb6(p:List Int)(x:Rat):Ze p x=(Yk p:Rat)*Ze (Zr p) x:=by
 rw [←Zm];exact Nz x _ _ fun i=>by rw [Qd,Int.mul_comm,Ir]
theorem Yfb{p:List Int}(h:Tr p)(h0:p≠[]):(0:Rat)<(Yk p:Rat):=by
 have h1:=El h h0
 have h2:=Nf p
 exact_mod_cast (show 0<Yk p by omega)
theorem Ydi{p:List Int}(h:Tr p)(x:Rat):Ze (Zr p) x<0↔Ze p x<0:=by
 by_cases h0:p=[]
 ·subst h0;rfl
 ·have hc:=Yfb h h0
  rw [Yb6 p]
  constructor
  ·intro h
   have:=Rat.mul_lt_mul_of_pos_left h hc
   rw [Rat.mul_zero]at this;exact this
  ·intro h
   by_cases q:Ze (Zr p) x<0
   ·exact q
   ·exact absurd (Rat.mul_nonneg (Rat.le_of_lt hc) (Rat.not_lt.1 q)) (Rat.not_le.2 h)
theorem Ydj{xs:List Int}(h:Cvd xs):Em xs=true↔Zsl xs 0 1:=by
 have e0:qv (0,1)=0:=O8
 have e1:qv (1,1)=1:=O8
 have:=Zfc h (a:=(0,1)) (b:=(1,1)) O3 O3 (by rw [e0,e1];decide)
 rw [e0,e1]at this
 exact this
def spd(o:Nat)(x y z:List Int)(u:Rat):Rat:=Ze (Ze1 o x y z 3) u
theorem Yem(o:Nat)(m ov T:Int)(x y z:List Int)(u:Rat):Ze (Fc o m ov T x y z) u<0↔(Oz o m ov T:Rat)<((1000^(2*o):Int):Rat)*spd o x y z u:=by
 rw [←Eg,Ydi (by unfold Zbp;exact Pk _)]
 unfold Zbp
 rw [Yb3,Mf,Pq,Zd1]
 unfold spd
 constructor<;>intro h<;>grind
theorem formB{fr to ov m:Int}{x y z:List Int}(h:Sgo fr to ov x y z)(h0:0≤m)(h1:m≤10000){o:Nat}(ho:o=1∨o=2) :
  Em (Fc o m ov (to-fr) x y z)=true↔∃u:Rat,0≤u∧u≤1∧(Oz o m ov (to-fr):Rat)<((1000^(2*o):Int):Rat)*spd o x y z u:=by
 rw [Ydj (Gs h h0 h1 ho).2.2]
 unfold Zsl
 exact exists_congr fun u=>and_congr Iff.rfl (and_congr Iff.rfl (Yem o m ov (to-fr) x y z u))
theorem Zy2{o:Nat}{m n ov T:Int}(h0:0≤m)(h:m≤n)(hT:0≤T):Oz o m ov T≤Oz o n ov T:=by
 unfold Oz
 have h1:m^2≤n^2:=by rw [Int.pow_succ,Int.pow_succ,Int.pow_zero,Int.one_mul,Int.pow_succ,Int.pow_succ,Int.pow_zero,Int.one_mul];exact Int.mul_le_mul h h h0 O
 exact Int.mul_le_mul_of_nonneg_right (Int.mul_le_mul_of_nonneg_right h1 (by rw [Int.pow_succ,Int.pow_succ,Int.pow_zero,Int.one_mul];rw [←Int.natAbs_mul_self];exact Int.natCast_nonneg _)) (Int.pow_nonneg hT)
theorem Zzj{g:Qu}(h:SgG g){m n:Int}(h0:0≤m)(hm:m≤n)(h1:n≤10000){o:Nat}(ho:o=1∨o=2)(hb:Em (Gg o m g)=false):Em (Gg o n g)=false:=by
 cases hc:Em (Gg o n g)with
 | false=>rfl
 | true=>
  obtain⟨u,u0,u1,u2⟩:=(formB h O h1 ho).1 hc
  have:=(formB h h0 O ho).2 ⟨u,u0,u1,by have:(Oz o m g.1.2.2 (g.1.2.1-g.1.1):Rat)≤(Oz o n g.1.2.2 (g.1.2.1-g.1.1):Rat):=(by exact_mod_cast Zy2 h0 hm (by have:=h.t2;omega));grind⟩
  rw [show Em (Fc o m g.1.2.2 (g.1.2.1-g.1.1) g.2.1.2 g.2.2.1.2 g.2.2.2.2)=Em (Gg o m g)from rfl,hb]at this
  cases this
theorem Zd8{ps:List Qu}(h:∀g∈ps,SgG g){m n:Int}(h0:0≤m)(hm:m≤n)(h1:n≤10000){o:Nat}(ho:o=1∨o=2)(hb:Nw o ps m=true):Nw o ps n=true:=by
 unfold Nw at *
 rw [List.all_eq_true]at *
 intro g hg
 have:=hb g hg
 rw [Zzj (h g hg) h0 hm h1 ho (by simpa using this)];rfl
theorem Zcl{p:Nat→Bool}(b:Nat)(hp:∀k l,k≤l→l≤b→p k=true→p l=true):∀(f i j:Nat),i≤j→j≤b+1→j-i<2^f→(∀k,k<i→p k=false)→(j≤b→p j=true)→
  i≤Zah p f i j∧Zah p f i j≤j∧(∀k,k<Zah p f i j→p k=false)∧(Zah p f i j≤b→p (Zah p f i j)=true)
 | 0,i,j,hij,hj,hf,h1,h2=>by
  have e:i=j:=by simp at hf;omega
  subst e
  exact⟨Nat.le_refl _,hij,h1,h2⟩
 | f+1,i,j,hij,hj,hf,h1,h2=>by
  by_cases hlt:i<j
  ·have hpw:2^(f+1)=2*2^f:=by rw [Nat.pow_succ,Nat.mul_comm]
   cases hm:p ((i+j)/2)with
   | true=>
    rw [Zsv hlt hm]
    obtain⟨a,b',c,d⟩:=Zcl b hp f i ((i+j)/2) O O O h1 (fun _=>hm)
    exact⟨a,O,c,d⟩
   | false=>
    rw [Zsw hlt hm]
    obtain⟨a,b',c,d⟩:=Zcl b hp f ((i+j)/2+1) j O hj O (fun k hk=>by
     cases hc:p k with
     | false=>rfl
     | true=>rw [hp k ((i+j)/2) O O hc]at hm;cases hm) h2
    exact⟨O,b',c,d⟩
  ·have e:i=j:=O
   rw [Zgc hlt]
   exact⟨Nat.le_refl _,hij,h1,by rw [e];exact h2⟩
def Zzr(o:Nat)(ps:List Qu):Nat:=Zah (fun n=>Nw o ps (n:Int)) 14 0 10000
theorem Zpu{ps:List Qu}(h:∀g∈ps,SgG g){o:Nat}(ho:o=1∨o=2) :
  Ee o ps≤10001∧(∀k:Nat,k<Ee o ps→Nw o ps (k:Int)=false)∧(Ee o ps≤10000→Nw o ps (Ee o ps:Int)=true):=by
 obtain⟨-,b,c,d⟩:=Zcl (p:=fun n=>Nw o ps (n:Int)) 10000 (fun k l hk hl e=>Zd8 h O O O ho e) 14 0 10001 O O O3 (fun k hk=>absurd hk (Nat.not_lt_zero k)) (fun h=>absurd h O)
 exact⟨b,c,d⟩
theorem Zif{ps:List Qu}(h:∀g∈ps,SgG g){o:Nat}(ho:o=1∨o=2)(hk:Nw o ps 10000=true):Zzr o ps=Ee o ps∧Ee o ps≤10000:=by
 obtain⟨a1,a2,a3⟩:=Zpu h ho
 obtain⟨-,b,c,d⟩:=Zcl (p:=fun n=>Nw o ps (n:Int)) 10000 (fun k l hk hl e=>Zd8 h O O O ho e) 14 0 10000 O O O3 (fun k hk=>absurd hk (Nat.not_lt_zero k)) (fun _=>hk)
 have ht:Ee o ps≤10000:=by
  rcases Nat.lt_or_ge 10000 (Ee o ps)with q | q
  ·have:=a2 10000 q
   rw [show Nw o ps ((10000:Nat):Int)=Nw o ps 10000 from rfl,hk]at this;cases this
  ·exact q
 refine⟨?_,ht⟩
 have e1:=a3 ht
 have e2:Nw o ps (Zzr o ps:Int)=true:=d b
 rcases Nat.lt_trichotomy (Zzr o ps) (Ee o ps)with q | q | q
 ·rw [a2 _ q]at e2;cases e2
 ·exact q
 ·rw [c _ q]at e1;cases e1
theorem Yau{ps:List Qu}(h:∀g∈ps,SgG g){o:Nat}(ho:o=1∨o=2)(hk:Nw o ps 10000=false):10000<Ee o ps:=by
 obtain⟨a1,a2,a3⟩:=Zpu h ho
 rcases Nat.lt_or_ge 10000 (Ee o ps)with q | q
 ·exact q
 ·have:=Zd8 h O (show((Ee o ps:Nat):Int)≤10000 by omega) (Int.le_refl _) ho (a3 q)
  rw [hk]at this;cases this
def lsV(o:Nat)(ps:List Qu):Nat:=if Nw o ps 10000 then Zzr o ps else 0
theorem Ydx{o:Nat}{ps:List Qu}(h:Nw o ps 10000=true):lsV o ps=Zzr o ps:=if_pos h
theorem lsV_f{o:Nat}{ps:List Qu}(h:Nw o ps 10000=false):lsV o ps=0:=if_neg (by rw [h];exact Bool.false_ne_true)
theorem tv_3{ps:List Qu}(h:∀g∈ps,SgG g)(hk:¬(Nw 1 ps 10000=true∧Nw 2 ps 10000=true)):Bw ps=(0,0,3):=by
 refine Zsr ?_
 cases h1:Nw 1 ps 10000 with
 | false=>exact .inl (Yau h (.inl rfl) h1)
 | true=>
  cases h2:Nw 2 ps 10000 with
  | false=>exact .inr (Yau h (.inr rfl) h2)
  | true=>exact absurd ⟨h1,h2⟩ hk
theorem tv_10{ps:List Qu}(h:∀g∈ps,SgG g)(h1:Nw 1 ps 10000=true)(h2:Nw 2 ps 10000=true)(h3:Zfn ps=false):Bw ps=(0,0,10):=
 Zu1 (by have:=(Zif h (.inl rfl) h1).2;omega) (by have:=(Zif h (.inr rfl) h2).2;omega) h3
theorem tv_0{ps:List Qu}(h:∀g∈ps,SgG g)(h1:Nw 1 ps 10000=true)(h2:Nw 2 ps 10000=true)(h3:Zfn ps=true):Bw ps=((lsV 1 ps:Int),(lsV 2 ps:Int),0):=by
 have a:=Zif h (.inl rfl) h1
 have b:=Zif h (.inr rfl) h2
 rw [Ydx h1,Ydx h2,a.1,b.1]
 exact Yav O O h3
theorem Zyl(a b:Bool):a=false∨(a=true∧b=false)∨(a=true∧b=true):=by cases a<;>cases b<;>simp
set_option maxHeartbeats 1000000 in
theorem Zl2(v:Value)(ps:List Qu)(m:Int)(o:Nat)(ho:o=1∨o=2)(hsg:∀g∈ps,SgG g)(h0:0≤m)(h1:m≤10000):Cal Tryz.prog 102 #[v,.int .i64 m,.int .i64 (o:Int)] [Nv 6 Ep qG v ps] false (G:=Unit) (fun _=>True) (fun _=> .bool (Nw o ps m)) (fun _=>[]):=by
 refine Zh Tryz.func102 Tryz.ntmps102 fun w0 sc hw hsc=>?_
 refine Oc (Lp (i:=1) rfl Zi) (fun hlen=>?_)
 refine go 12 ?_
 refine lp (G:=Nat) [0,1,2] [0,1] (fun i=>[(7,.int .i64 (i:Int))]) (fun i=>[]) (fun i=>(i≤ps.length)∧(∀k,k<i→Em (Gg o m (ps.getD k G0))=false)) (fun i=>ps.length-i) 0 ⟨O1,fun k hk=>absurd hk (Nat.not_lt_zero k)⟩ ⟨rfl,trivial⟩ trivial ?_
 rintro i ⟨hi,hk⟩
 refine go 9 ?_
 refine Zc rfl (fun h108=>?_) (fun h108=>?_)
 ·refine go 5 ?_
  have hgi:=hsg _ (Zf (d:=G0) (show i<ps.length by omega))
  refine Zg (Xv (g:=(ps.getD i G0)) (z:=(ps.getD i G0).2.1) 1 51 rfl rfl (Zf) O5) ?_
  refine Zg (Xv (g:=(ps.getD i G0)) (z:=(ps.getD i G0).2.2.1) 1 52 rfl rfl (Zf) O5) ?_
  refine Zg (Xv (g:=(ps.getD i G0)) (z:=(ps.getD i G0).2.2.2) 1 53 rfl rfl (Zf) O5) ?_
  refine go 3 ?_
  refine dt (Zy (ii:=1) (i:=i) rfl rfl rfl rfl Zi Tryz.underlying29 Tryz.sizeOf24 rfl) ?_
  refine dt (Xy (ii:=1) G0 rfl rfl rfl Zi pG) ?_
  refine go 2 ?_
  refine cl 2 [51,52,53] (Ycj _ _ _ _ _ _ _ _ _ m o hgi ho h0 h1) fun g hg=>?_
  refine cl 2 [2] (Zy5 _ _ (by rw [hg];exact(Gs hgi h0 h1 ho).2.2)) fun _ _=>?_
  refine go 2 ?_
  refine Oy rfl (fun h109=>?_) (fun h109=>?_)
  ·have hc3:Em (Gg o m (ps.getD i G0))=true:=by rw [hg]at h109;exact h109
   refine go 11 ?_
   exact Xa hsc () Tryz.results102 (by rw [Zws (i:=i) O hc3]) trivial Za
  ·have hc3:Em (Gg o m (ps.getD i G0))=false:=by rw [hg]at h109;exact h109
   refine go 8 ⟨O,?_⟩
   exact Yq (i+1) ⟨O1,fun k h9=>by rcases Nat.lt_succ_iff_lt_or_eq.1 h9 with h8 | h8;exact hk k h8;subst h8;exact hc3⟩ O1 ⟨rfl,trivial⟩ trivial
 ·obtain rfl:i=ps.length:=O
  refine go 11 ?_
  exact Xa hsc () Tryz.results102 (by rw [Zwr hk]) trivial Za
set_option maxHeartbeats 1000000 in
theorem Zl1(v:Value)(ps:List Qu)(o:Nat)(ho:o=1∨o=2)(hsg:∀g∈ps,SgG g):Cal Tryz.prog 59 #[v,.int .i64 (o:Int)] [Nv 6 Ep qG v ps] false (G:=Unit) (fun _=>True) (fun _=> .tuple #[.int .i64 (lsV o ps:Int),.bool (Nw o ps 10000)]) (fun _=>[]):=by
 refine Zh Tryz.func59 Tryz.ntmps59 fun w0 sc hw hsc=>?_
 refine go 11 ?_
 refine cl 1 [1] (Zl2 v ps 10000 o ho hsg O3 O3) fun _ _=>?_
 refine go 3 ?_
 refine Oy rfl (fun h118=>?_) (fun h118=>?_)
 ·have hk9:=Zkp h118
  refine go 8 ?_
  exact Mi hsc () Tryz.results59 (by rw [lsV_f hk9,hk9];rfl) trivial Za
 ·have hk9:=Zkq h118
  refine go 10 ?_
  refine lp (G:=Nat×Nat×Nat) [0,1] [0,1] (fun q=>[(6,.int .i64 (q.1:Int)),(7,.int .i64 (q.2.1:Int))]) (fun q=>[]) (fun q=>(q.1≤q.2.1∧q.2.1≤10000)∧(q.2.1-q.1<2^q.2.2)∧(Zah (fun n=>Nw o ps (n:Int)) q.2.2 q.1 q.2.1=Zzr o ps)) (fun q=>q.2.1-q.1) (0,10000,14) ⟨⟨O3,O3⟩,O3,rfl⟩ ⟨rfl,rfl,trivial⟩ trivial ?_
  rintro⟨i,j,f⟩ ⟨hij,hf,hs⟩
  dsimp only at hij hf hs
  dsimp only
  refine go 8 ?_
  refine Zc rfl (fun h122=>?_) (fun h122=>?_)
  ·have hlt:i<j:=O
   obtain⟨f9,rfl,hpw⟩:=Yba hlt hf
   refine go 7 ?_
   refine dt (Zdn rfl rfl rfl O) ?_
   refine dt (Zhh (n:=2) rfl rfl rfl O O) ?_
   refine go 8 ?_
   refine cl 1 [1] (Zl2 v ps (((i+j)/2):Nat) o ho hsg O O) fun _ _=>?_
   refine go 2 ?_
   refine Oy rfl (fun h124=>?_) (fun h124=>?_)
   ·refine go 5 ?_
    exact Yq (i,(i+j)/2,f9) ⟨⟨O6,O6⟩,O6,by dsimp only;rw [←hs];exact(Zsv hlt (by simp_all)).symm⟩ O6 ⟨rfl,rfl,trivial⟩ trivial
   ·refine go 6 ⟨O,?_⟩
    exact Yq (((i+j)/2)+1,j,f9) ⟨⟨O6,O6⟩,O6,by dsimp only;rw [←hs];exact(Zsw hlt (by simp_all)).symm⟩ O6 ⟨rfl,rfl,trivial⟩ trivial
  ·have hge:¬i<j:=O
   refine go 13 ?_
   exact Mi hsc () Tryz.results59 (by rw [Ydx hk9,hk9,←hs,Zgc hge]) trivial Za
set_option maxHeartbeats 1000000 in
theorem Yg8(v:Value)(ps:List Qu)(hsg:∀g∈ps,SgG g):Cal Tryz.prog 28 #[v] [Nv 6 Ep qG v ps] false (G:=Unit) (fun _=>True) (fun _=> .tuple #[.agg #[.int .i64 (Bw ps).1,.int .i64 (Bw ps).2.1],.int .i64 (Bw ps).2.2]) (fun _=>[]):=by
 refine Zh Tryz.func28 Tryz.ntmps28 fun w0 sc hw hsc=>?_
 refine Oc (Lp (i:=1) rfl Zi) (fun hlen=>?_)
 refine go 2 ?_
 refine Ya (Zs 2) fun bx _=>?_
 refine go 6 ?_
 refine cl 2 [1] (Zl1 v ps 1 (.inl rfl) hsg) fun _ _=>?_
 refine go 10 ?_
 refine cl 2 [1] (Zl1 v ps 2 (.inr rfl) hsg) fun _ _=>?_
 refine go 9 ?_
 rcases Zyl (Nw 1 ps 10000) (Nw 2 ps 10000)with hc1 | ⟨hc1,hc2⟩ | ⟨hc1,hc2⟩
 ·refine go 2 ?_
  refine dt (Yg (r':= .bool true) (Qj rfl rfl) (congrArg (fun b=>Value.bool (!b)) hc1)) ?_
  refine go 9 ?_
  refine dt (Xh (ivs:=[]) rfl trivial (fun a w hs=>Zsd)) ?_
  refine go 6 ?_
  exact Mi hsc () Tryz.results28 (by rw [tv_3 hsg (fun h=>by rw [hc1]at h;cases h.1)]) trivial Za
 ·refine go 2 ?_
  refine dt (Yg (r':= .bool false) (Qj rfl rfl) (congrArg (fun b=>Value.bool (!b)) hc1)) ?_
  refine go 2 ?_
  refine Dc (Yg (r':= .bool true) (Qj rfl rfl) (congrArg (fun b=>Value.bool (!b)) hc2)) rfl rfl ?_
  refine go 6 ?_
  refine dt (Xh (ivs:=[]) rfl trivial (fun a w hs=>Zsd)) ?_
  refine go 6 ?_
  exact Mi hsc () Tryz.results28 (by rw [tv_3 hsg (fun h=>by rw [hc2]at h;cases h.2)]) trivial Za
 ·refine go 2 ?_
  refine dt (Yg (r':= .bool false) (Qj rfl rfl) (congrArg (fun b=>Value.bool (!b)) hc1)) ?_
  refine go 2 ?_
  refine Dc (Yg (r':= .bool false) (Qj rfl rfl) (congrArg (fun b=>Value.bool (!b)) hc2)) rfl rfl ?_
  refine go 13 ?_
  refine lp (G:=Nat) [0,2,4,6] [0,1,2] (fun i=>[(8,.int .i64 (i:Int))]) (fun i=>[]) (fun i=>(1≤i)∧(∀k,1≤k→k<i→joG (ps.getD (k-1) G0) (ps.getD k G0)=true)) (fun i=>ps.length-i) 1 ⟨O1,fun k h1 h2=>absurd h2 O⟩ ⟨rfl,trivial⟩ trivial ?_
  rintro i ⟨hi1,hk⟩
  refine go 9 ?_
  refine Zc rfl (fun h140=>?_) (fun h140=>?_)
  ·refine go 5 ?_
   refine Zg (Xv (g:=(ps.getD (i-1) G0)) (z:=(ps.getD (i-1) G0).2.1) 1 54 rfl rfl (Zf) O5) ?_
   refine Zg (Xv (g:=(ps.getD (i-1) G0)) (z:=(ps.getD (i-1) G0).2.2.1) 1 55 rfl rfl (Zf) O5) ?_
   refine Zg (Xv (g:=(ps.getD (i-1) G0)) (z:=(ps.getD (i-1) G0).2.2.2) 1 56 rfl rfl (Zf) O5) ?_
   refine Zg (Xv (g:=(ps.getD i G0)) (z:=(ps.getD i G0).2.1) 1 51 rfl rfl (Zf) O5) ?_
   refine Zg (Xv (g:=(ps.getD i G0)) (z:=(ps.getD i G0).2.2.1) 1 52 rfl rfl (Zf) O5) ?_
   refine Zg (Xv (g:=(ps.getD i G0)) (z:=(ps.getD i G0).2.2.2) 1 53 rfl rfl (Zf) O5) ?_
   refine Xx (fun _=>False) [(0,0),(1,0),(2,0),(3,0),(4,0),(5,0),(6,0),(7,0),(8,0),(9,1),(10,0)] ?_
   refine go 3 ⟨O,?_⟩
   refine Qo rfl rfl (Qq (Zy (ii:=1) (i:=(i-1)) rfl rfl rfl rfl Zi Tryz.underlying29 Tryz.sizeOf24)) ?_
   refine Qo rfl rfl (Qq (Xy (ii:=1) G0 rfl rfl rfl Zi pG)) ?_
   refine go 2 ?_
   refine Qo rfl rfl (Qq (Zy (ii:=1) (i:=i) rfl rfl rfl rfl Zi Tryz.underlying29 Tryz.sizeOf24 rfl)) ?_
   refine Qo rfl rfl (Qq (Xy (ii:=1) G0 rfl rfl rfl Zi pG)) ?_
   refine Yh (Zj 2 [54,55,56,51,52,53] (Zy4 _ _ _ _ _ _ _ _ _ _ _ _ _ _ _ _ _ _ (hsg _ (Zf)) (hsg _ (Zf)))) fun _ _=>?_
   refine go 3 ?_
   refine Oy rfl (fun h141=>?_) (fun h141=>?_)
   ·refine go 2 ?_
    refine dt (Xh (ivs:=[]) rfl trivial (fun a w hs=>Zsd)) ?_
    refine go 10 ?_
    exact Mi hsc () Tryz.results28 (by rw [tv_10 hsg hc1 hc2 (Zwv hi1 O (Zkp ‹_›))]) trivial Za
   ·refine go 8 ⟨O,?_⟩
    exact Yq (i+1) ⟨O1,fun k h1 h9=>by rcases Nat.lt_succ_iff_lt_or_eq.1 h9 with h8 | h8;exact hk k h1 h8;subst h8;exact Zkq ‹_›⟩ O1 ⟨rfl,trivial⟩ trivial
  ·refine go 9 ?_
   refine dt (Xh (ivs:=[(0,_),(1,_)]) rfl ⟨rfl,rfl,rfl,rfl,trivial⟩ (fun a w hs=>Zkw ((Zu rfl) a w hs) ((Zu rfl) a w hs))) ?_
   refine go 5 ?_
   exact Mi hsc () Tryz.results28 (by rw [tv_0 hsg hc1 hc2 (Zwu fun k h1 h2=>hk k h1 O)]) trivial Za
set_option maxHeartbeats 1000000 in
theorem Ztu(v:Value)(ps:List Qu)(hp:∀g∈ps,Gin g)(hf:Zlc ps 3=false):Cal Tryz.prog 6 #[v] [Nv 6 Ep qG v ps] false (G:=Unit) (fun _=>True) (fun _=> .bool true) (fun _=>[]):=by
 refine Zh Tryz.func6 Tryz.ntmps6 fun w0 sc hw hsc=>?_
 refine go 9 ?_
 refine cl 1 [1] (Znk _ ps 3) fun _ _=>?_
 refine dt (Yg (r':= .bool true) (Qj rfl rfl) (congrArg (fun b=>Value.bool (!b)) hf)) ?_
 refine go 5 ?_
 refine cl 1 [] (Zgr) fun _ _=>?_
 refine go 5 ?_
 exact Xa hsc () Tryz.results6 rfl trivial Za
set_option maxHeartbeats 1000000 in
theorem Ztv(v:Value)(ps:List Qu)(hp:∀g∈ps,Gin g)(hf:Zlc ps 3=true)(hb:Gp ps=false):Cal Tryz.prog 6 #[v] [Nv 6 Ep qG v ps] false (G:=Unit) (fun _=>True) (fun _=> .bool true) (fun _=>[]):=by
 refine Zh Tryz.func6 Tryz.ntmps6 fun w0 sc hw hsc=>?_
 refine go 9 ?_
 refine cl 1 [1] (Znk _ ps 3) fun _ _=>?_
 refine dt (Yg (r':= .bool false) (Qj rfl rfl) (congrArg (fun b=>Value.bool (!b)) hf)) ?_
 refine go 8 ?_
 refine cl 1 [1] (Zts _ _ hp hb) fun _ _=>?_
 refine go 3 ?_
 refine Ya (Zs 2) fun bx _=>?_
 refine go 8 ?_
 refine cl 2 [1] (Zdk _ _ hp) fun _ _=>?_
 refine dt (Yg (r':= .bool true) (Qj rfl rfl) (congrArg (fun b=>Value.bool (!b)) hb)) ?_
 refine go 6 ?_
 refine dt (Xh (ivs:=[]) rfl trivial (fun a w hs=>Zsd)) ?_
 refine dt (Yg (r':= .bool true) (Zdr rfl rfl rfl Yie (fun w=>eqB26 w _ _ _ _)) (congrArg Value.bool (decide_eq_true ⟨rfl,rfl⟩))) ?_
 refine go 2 ?_
 refine ktg (decide_eq_true O3) ?_
 refine go 2 ?_
 refine Bl 2 [] (Zgr) fun _ _=>?_
 refine go 6 ?_
 exact Xa hsc () Tryz.results6 rfl trivial Za
set_option maxHeartbeats 1000000 in
theorem Zz0(v:Value)(ps:List Qu)(hp:∀g∈ps,Gin g)(hf:Zlc ps 3=true)(hb:Gp ps=true):Cal Tryz.prog 6 #[v] [Nv 6 Ep qG v ps] false (G:=Unit) (fun _=>True) (fun _=> .bool true) (fun _=>[]):=by
 refine Zh Tryz.func6 Tryz.ntmps6 fun w0 sc hw hsc=>?_
 have hsg:=Znu hp hb
 refine go 9 ?_
 refine cl 1 [1] (Znk _ ps 3) fun _ _=>?_
 refine dt (Yg (r':= .bool false) (Qj rfl rfl) (congrArg (fun b=>Value.bool (!b)) hf)) ?_
 refine go 8 ?_
 refine cl 1 [1] (Ztt _ _ hp hb) fun _ _=>?_
 refine go 3 ?_
 refine Ya (Zs 2) fun bx _=>?_
 refine go 8 ?_
 refine cl 2 [1] (Zdk _ _ hp) fun _ _=>?_
 refine dt (Yg (r':= .bool false) (Qj rfl rfl) (congrArg (fun b=>Value.bool (!b)) hb)) ?_
 refine go 8 ?_
 refine cl 2 [1] (Yg8 _ _ hsg) fun _ _=>?_
 refine go 3 ?_
 refine Ya (Zs 3) fun bx_2 _=>?_
 refine go 8 ?_
 refine dt (Yg (r':= .bool true) (Zdr rfl rfl rfl Yie (fun w=>eqB26 w _ _ _ _)) (congrArg Value.bool (decide_eq_true ⟨rfl,rfl⟩))) ?_
 refine go 3 ?_
 refine ktg (decide_eq_true rfl) ?_
 refine go 2 ?_
 refine Bl 3 [] (Zgr) fun _ _=>?_
 refine go 5 ?_
 exact Xa hsc () Tryz.results6 rfl trivial Za
theorem law_l2(v:Value)(ps:List Qu)(hp:∀g∈ps,Gin g) :
  Cal prog 6 #[v] [Nv 6 Ep qG v ps] false (G:=Unit) (fun _=>True) (fun _=> .bool true) (fun _=>[]):=by
 cases hf:Zlc ps 3 with
 | false=>exact Ztu v ps hp hf
 | true=>
  cases hb:Gp ps with
  | false=>exact Ztv v ps hp hf hb
  | true=>exact Zz0 v ps hp hf hb
end Go.Sky
namespace Go.Proofs.YtljmhpopdmadkaaGreat
open Go.ChangeShapes Go.WideShapes Go.ChangeAt Go.RowKit Go.Joins Go.Deep Go.Sky
theorem own:ownKnob Tryz.prog.godebug=none:=O7
theorem Yh1:laidOutB Tryz.prog=true:=O7
set_option maxRecDepth 100000 in
theorem lifted(os:Os)(started:os.Started)(H:Type)(enc:TypeId×Value→H) :
  ReturnsInHanded {} Tryz.checked os 6 .any (Rows.limitsTopSpec.pre6 enc Tryz.prog Tryz.f6 Rows.limitsTopRow.domain false) (Rows.limitsTopSpec.post enc Tryz.prog Tryz.f6 false true false false):=by
 refine returnsInHanded_of_change (C:=Tryz.checked) own started O7 Tryz.func6
  (ChangeSpec.witness6 (enc:=enc) (C:=Tryz.checked) false ⟨#[],#[.slice none 0 0],[]⟩ 8 O7 O7 O7 O7) ?_
 intro W base args ds gs before hval0 hW hcnd _
 have hval:∀(j:Nat) t v,Tryz.f6.params[j]? = some t→args[j]? = some v→Value.okWide Tryz.prog W .any base t v:=hval0
 have hW':=hW
 obtain⟨p,q,hA0,hV,rfl,hfz,hnd⟩:=hW
 have hA:DataW.TrodAll enc Tryz.prog W 0 (fun _=>true) true Tryz.f6.params.toList args.toList ds p:=hA0
 rw [Tryz.params6]at hA hval
 obtain⟨v0,vs0,d0,ds0,p0,q0,hargs,rfl,rfl,h0,r0⟩:=trodAll_cons hA
 obtain⟨rfl,rfl,rfl⟩:=trodAll_nil r0
 obtain rfl:args=#[v0]:=by cases args;simp_all
 obtain⟨rfl,rfl⟩:=trodVars_none hV
 have lt0:∀x∈p0,x.block<W.heap.size:=by obtain⟨m,hm⟩:=h0;exact DataW.trod_lt m _ _ _ hm
 obtain⟨l0,hl0,hn0⟩:=Zzg Tryz.underlying29 Tryz.underlying24 rfl rfl rfl rfl rfl rfl rfl rfl rfl rfl rfl rfl Tryz.underlying3 Tryz.underlying22 Tryz.underlying3 O7 O7 O7 O7 (hval 0 29 v0 rfl rfl) h0
 clear hA0 hval0
 refine(law_l2 v0 l0 hn0 W (fun p hp=>by cases hp with | head=>exact hl0 | tail _ hp=>cases hp)).mono fun e W' ⟨_,he,_,bel,_⟩=>?_
 subst he
 exact⟨_,rfl,_,_,_,[],_,[],hW',trodAll_mk1 (shut_bool Tryz.underlying4 _),(trodAll_cons_mk (Below.trod Yh1 O7 (of_decide_eq_true O7) h0 bel lt0) trodAll_mk0),rfl,bel.frame _,fun h=>by cases h⟩
theorem x_holds : Rows.LimitsTopSaid :=
 OpenClaim.holds_of_wide 6 Tryz.f6 rfl rfl rfl rfl rfl rfl rfl ⟨rfl,rfl,rfl,rfl,rfl⟩ rfl rfl rfl rfl rfl O7 Tryz.func6 O7
  (of_decide_eq_true O7) (by unfold Func.isWrapper;first | (rw [if_pos O8];kernel_rfl) | (rw [if_neg O8];exact⟨rfl,rfl⟩))
  (fun os started H enc _=>lifted os started H enc)
#print axioms x_holds
end Go.Proofs.YtljmhpopdmadkaaGreat

