/- The law: part 16. No conditions but those that each theorem names. -/
import Derived.Test.YtljmhpopdmadkaaGreatLu14
set_option linter.all false
namespace Go.Sky
open Go.Proofs.Tryz
open Go.Proofs
set_option synthInstance.maxHeartbeats 0
set_option synthInstance.maxSize 100000
set_option maxRecDepth 20000
set_option maxHeartbeats 4000000
set_option linter.unusedSimpArgs false
theorem Ztd(v w u w2 u2:Value)(zs:List (Int×SL))(x y x2 y2:Int)(hx:bl x.natAbs≤1000000)(hy:bl y.natAbs≤1000000)(hx2:bl x2.natAbs≤1000000)(hy2:bl y2.natAbs≤1000000)(hp2:0<y2)(hd:Cvd (Zb zs)):Ok prog 143 #[v,.agg #[.bool (decide (x<0)),w,.bool (decide (y<0)),u],.agg #[.bool (decide (x2<0)),w2,.bool (decide (y2<0)),u2]] [pp v zs,Om w x.natAbs,Om u y.natAbs,Om w2 x2.natAbs,Om u2 y2.natAbs] (.bool (crb (Er (Zb zs)) (x,y) (x2,y2))):=by
 refine Zh func143 ntmps143 fun w0 sc hw hsc=>?_
 have hli:=Zd zs
 have hd7:=hd.l
 have hr1:=Zxr (Er (Zb zs)) (x,y)
 have hr2:=Zxr (Er (Zb zs)) (x2,y2)
 have hr3:=Zii (Zb zs)
 refine go 2 ?_
 refine Zy (Yc 6) fun bx _=>Zy (Yc 7) fun bx_2 _=>go 11 ?_
 refine Zc J (fun h52=>?_) (fun h52=>?_)
 ·refine go 7 ?_
  exact Yz hsc () results143 (by rw [Yii O]) trivial Za
 ·have hz0:(Zb zs).length≠0:=O
  obtain⟨o1,o2,o3,o4,-⟩:=Zar hd (fun e=>hz0 (by rw [e];rfl))
  refine go 5 ?_
  refine cl 8 [1] (r4_odd _ _ hd O) fun g hg=>?_
  have hO:Zb g.2=Mr (Zb zs):=hg
  have hl7:=congrArg List.length hO
  rw [Zd]at hl7
  refine go 8 ?_
  refine cl 8 [8,2,3,4,5] (Yb8 _ _ _ _ _ _ x y x2 y2 (by rw [hO];exact o2) (fun e=>o1.one (List.eq_nil_of_length_eq_zero (by rw [←hO,Zd];exact e))) (by rw [hO];exact o3.mono O) O hx hy hx2 hy2) fun _ _=>go 5 ?_
  refine Zg (My 8 (v':= .int .i64 ((chv (Er (Zb zs)) (x,y))-(chv (Er (Zb zs)) (x2,y2)))) J (by rw [hO,Zxl hz0,Zxl hz0]))<|go 3 ?_
  refine cl 8 [8,4,5] (Ck _ _ _ _ x2 y2 hx2 hy2 (by rw [hO];exact o2.sz.mono O)) fun _ _=>go 3 ?_
  refine Zc J (fun h57=>?_) (fun h57=>?_)
  ·have hfz:Fu x2 y2 (Mr (Zb zs))=0:=by rw [←hO];exact h57
   refine go 14 ⟨O,?_⟩
   exact Yz hsc () results143 (by first | rw [crx_t hd hz0 hp2 hfz] | rw [crx_f hd hz0 hp2 hfz]) trivial Za
  ·have hfz:¬Fu x2 y2 (Mr (Zb zs))=0:=by rw [←hO];exact h57
   refine go 10 ?_
   exact Yz hsc () results143 (by first | rw [crx_t hd hz0 hp2 hfz] | rw [crx_f hd hz0 hp2 hfz]) trivial Za
theorem Zqs(v w u w2 u2:Value)(zs:List (Int×SL))(x y x2 y2:Int)(hx:bl x.natAbs≤1000000)(hy:bl y.natAbs≤1000000)(hx2:bl x2.natAbs≤1000000)(hy2:bl y2.natAbs≤1000000)(hp:0<y)(hp2:0<y2)(hd:Cvd (Zb zs))(hc:¬0<cmp (x,y) (x2,y2)):Ok prog 101 #[v,.agg #[.bool (decide (x<0)),w,.bool (decide (y<0)),u],.agg #[.bool (decide (x2<0)),w2,.bool (decide (y2<0)),u2]] [pp v zs,Om w x.natAbs,Om u y.natAbs,Om w2 x2.natAbs,Om u2 y2.natAbs] (.bool (ngb (Qs (Zb zs)) (Er (Zb zs)) (x,y) (x2,y2))):=by
 refine Zh func101 ntmps101 fun w0 sc hw hsc=>?_
 have hli:=Zd zs
 have hd7:=hd.l
 have hdz:Sz 1000000 (Zb zs):=hd.v.sz.mono O
 refine go 2 ?_
 refine Zy (Yc 6) fun bx _=>Zy (Yc 7) fun bx_2 _=>go 8 ?_
 refine cl 7 [2,3,4,5] (Zjc _ _ _ _ x y x2 y2 O O O O) fun _ _=>go 3 ?_
 refine Zc J (fun h65=>?_) (fun h65=>?_)
 ·refine go 4 ?_
  refine cl 7 [1,2,3] (Ck _ _ _ _ x y hx hy hdz) fun _ _=>go 6 ?_
  exact Yz hsc () results101 (by rw [ngb_e (show cmp (x,y) (x2,y2)=0 by assumption)]) trivial Za
 ·refine go 6 ?_
  refine cl 7 [1,2,3] (Ck _ _ _ _ x y hx hy hdz) fun _ _=>go 2 ?_
  refine Ym (d:=19) J (fun s68=>?_) (fun s68=>?_)
  ·refine go 21 ?_
   exact Yz hsc () results101 (by first | rw [Zv9 hd hp hp2 hc ‹_›] | rw [Zv8 hd hp hp2 hc ‹_›] | rw [Zv7 (show ¬cmp (x,y) (x2,y2)=0 by assumption) ‹_›] | rw [Zv6 (show ¬cmp (x,y) (x2,y2)=0 by assumption) ‹_›]) trivial Za
  ·refine go 2 ?_
   refine Ez 7 [1,4,5] (Ck _ _ _ _ x2 y2 hx2 hy2 hdz) fun _ _=>go 3 ?_
   refine Ym (d:=25) J (fun s68_2=>?_) (fun s68_2=>?_)
   ·refine go 15 ?_
    exact Yz hsc () results101 (by first | rw [Zv9 hd hp hp2 hc ‹_›] | rw [Zv8 hd hp hp2 hc ‹_›] | rw [Zv7 (show ¬cmp (x,y) (x2,y2)=0 by assumption) ‹_›] | rw [Zv6 (show ¬cmp (x,y) (x2,y2)=0 by assumption) ‹_›]) trivial Za
   ·refine go 2 ?_
    refine Ez 7 [1,2,3] (Zqt x y hx hy _ _ _ _ _ 185 hd.v hd.s O (Nat.lt_succ_self _)) fun _ _=>go 3 ?_
    refine Ym (d:=31) J (fun s68_3=>?_) (fun s68_3=>?_)
    ·refine go 9 ?_
     exact Yz hsc () results101 (by first | rw [Zv9 hd hp hp2 hc ‹_›] | rw [Zv8 hd hp hp2 hc ‹_›] | rw [Zv7 (show ¬cmp (x,y) (x2,y2)=0 by assumption) ‹_›] | rw [Zv6 (show ¬cmp (x,y) (x2,y2)=0 by assumption) ‹_›]) trivial Za
    ·refine go 3 ?_
     refine Ez 7 [1,2,3,4,5] (Ztd _ _ _ _ _ _ x y x2 y2 hx hy hx2 hy2 hp2 hd) fun _ _=>go 5 ?_
     exact Yz hsc () results101 (by first | rw [Zv9 hd hp hp2 hc ‹_›] | rw [Zv8 hd hp hp2 hc ‹_›] | rw [Zv7 (show ¬cmp (x,y) (x2,y2)=0 by assumption) ‹_›] | rw [Zv6 (show ¬cmp (x,y) (x2,y2)=0 by assumption) ‹_›]) trivial Za
theorem Zyy(fr to ov:Int)(sx sy sz:SL)(x y z:List Int)(m:Int)(hS:Sgo fr to ov x y z)(h0:0≤m)(h1:m≤10000):Cal Tryz.prog 21 #[.agg #[.int .i64 fr,.int .i64 to,.int .i64 ov,Na sx,Na sy,Na sz],.int .i64 m] [Xc 1 Xd (Na sx) x,Xc 1 Xd (Na sy) y,Xc 1 Xd (Na sz) z] true (G:=Value×List (Int×SL)) (fun r=>Zb r.2=Ej 1 m ov (to-fr) x y z) (fun r=>r.1) (fun r=>[pp r.1 r.2]):=by
 refine Zh Tryz.func21 Tryz.ntmps21 fun w0 sc hw hsc=>?_
 refine go 2 ?_
 refine Zy (Yc 4) fun bx _=>?_
 refine go 7 ?_
 refine cl 5 [1,2,3] (Zqu _ _ _ _ _ _ _ _ _ _ 1 hS (.inl rfl) h0 h1) fun g hg=>?_
 refine go 4 ?_
 exact Yz hsc _ Tryz.results21 rfl hg (Ob 5 Za)
theorem Zgf(fr to ov:Int)(sx sy sz:SL)(x y z:List Int)(m:Int)(hS:Sgo fr to ov x y z)(h0:0≤m)(h1:m≤10000):Cal Tryz.prog 22 #[.agg #[.int .i64 fr,.int .i64 to,.int .i64 ov,Na sx,Na sy,Na sz],.int .i64 m] [Xc 1 Xd (Na sx) x,Xc 1 Xd (Na sy) y,Xc 1 Xd (Na sz) z] true (G:=Value×List (Int×SL)) (fun r=>Zb r.2=Ej 2 m ov (to-fr) x y z) (fun r=>r.1) (fun r=>[pp r.1 r.2]):=by
 refine Zh Tryz.func22 Tryz.ntmps22 fun w0 sc hw hsc=>?_
 refine go 2 ?_
 refine Zy (Yc 4) fun bx _=>?_
 refine go 7 ?_
 refine cl 5 [1,2,3] (Zqu _ _ _ _ _ _ _ _ _ _ 2 hS (.inr rfl) h0 h1) fun g hg=>?_
 refine go 4 ?_
 exact Yz hsc _ Tryz.results22 rfl hg (Ob 5 Za)
theorem Zl6(v:Value)(zs:List (Int×SL))(hd:Cvd (Zb zs)):Cal Tryz.prog 56 #[v] [pp v zs] false (G:=Unit) (fun _=>True) (fun _=> .bool (Aj (Zb zs))) (fun _=>[]):=by
 refine Zh Tryz.func56 Tryz.ntmps56 fun w0 sc hw hsc=>?_
 refine go 8 ?_
 refine cl 2 [] (Nk 0 ⟨O3,O3⟩) fun v _=>?_
 refine cl 3 [] (Nk 1 ⟨O3,O3⟩) fun v_2 _=>?_
 refine dt (Xg (ivs:=[(0,_),(1,_)]) rfl ⟨rfl,rfl,rfl,rfl,trivial⟩ (fun a w hs=>Zuo)) ?_
 refine cl 4 [] (Nk 1 ⟨O3,O3⟩) fun v_3 _=>?_
 refine cl 5 [] (Nk 1 ⟨O3,O3⟩) fun v_4 _=>?_
 refine dt (Xg (ivs:=[(0,_),(1,_)]) rfl ⟨rfl,rfl,rfl,rfl,trivial⟩ (fun a w hs=>Zuo)) ?_
 refine cl 5 [1,2,3,4,5] (Zqs _ _ _ _ _ _ 0 1 1 1 O3 O3 O3 O3 O3 O3 hd Yex) fun _ _=>?_
 refine go 4 ?_
 exact Yz hsc () Tryz.results56 rfl trivial Za
def gZ(o:Int)(l:List Int):Nat→Int
 | 0=>o
 | i+1=>(Int.gcd (gZ o l i) (cf l i):Int)
theorem gZ_ok{o:Int}{l:List Int}(ho:0<o)(hb:bl o.natAbs≤200)(hl:∀i,bl (cf l i).natAbs≤200):∀i,0<gZ o l i∧bl (gZ o l i).natAbs≤200
 | 0=>⟨ho,hb⟩
 | i+1=>by
  obtain⟨h1,h2⟩:=gZ_ok ho hb hl i
  have h3:0<Int.gcd (gZ o l i) (cf l i):=Int.gcd_pos_of_ne_zero_left _ O
  have h4:=Zfy (gZ o l i) (cf l i)
  have h5:=hl i
  show 0<((Int.gcd _ _:Nat):Int)∧bl ((Int.gcd _ _:Nat):Int).natAbs≤200
  exact⟨O,O⟩
def plC(a d:Int)(x y z:List Int)(t:Nat):Int:=pl (Yl t x y z) a d
theorem Zwt(ov a d:Int)(x y z:List Int):∀i,i≤3→gZ (ov*d^5) (mk 3 (plC a d x y z)) i=gS ov a d x y z i
 | 0,_=>rfl
 | i+1,hi=>by
  show((Int.gcd (gZ _ _ i) (cf _ i):Nat):Int)=((Int.gcd _ _:Nat):Int)
  rw [Zwt ov a d x y z i O,Mm,if_pos O];rfl
theorem Ycr{fr to ov:Int}{x y z:List Int}(h:Sgo fr to ov x y z){a d:Int}(ha:0≤a∧a≤3600000)(hd:1≤d∧d≤3600000)(i:Nat):bl (cf (mk 3 (plC a d x y z)) i).natAbs≤200:=by
 rw [Mm]
 split
 ·exact Nat.le_trans (Zca (h.hc i) ha hd (h.lc i).2) O3
 ·decide
def Zoc(o:Int)(l:List Int):List Int:=mk 3 fun t=>cf l t/gZ o l 3
theorem Yhh{o:Int}{l:List Int}{t:Nat}(h:t<3):cf (Zoc o l) t=cf l t/gZ o l 3:=by unfold Zoc;rw [Mm,if_pos h]
theorem Ydm{o:Int}{l:List Int}(h:∀j,bl (cf l j).natAbs≤200)(j:Nat):bl (cf (Zoc o l) j).natAbs≤200:=by
 unfold Zoc
 rw [Mm]
 split
 ·exact Zhl (h j)
 ·decide
theorem Zgn{ov a d:Int}{x y z:List Int}{t:Nat}(h:t<3):cf (Zoc (ov*d^5) (mk 3 (plC a d x y z))) t=plC a d x y z t/gS ov a d x y z 3:=by
 rw [Yhh h,Zwt _ _ _ _ _ _ 3 (Nat.le_refl _),Mm,if_pos h]
theorem Yhe{g h:Pi}{l1 l2:List Int}(e1:l1=Zoc (h.1.2.2*1^5) (mk 3 (plC 0 1 h.2.1.2 h.2.2.1.2 h.2.2.2.2)))(e2:l2=Zoc (g.1.2.2*1^5) (mk 3 (plC 1 1 g.2.1.2 g.2.2.1.2 g.2.2.2.2)))(ht:h.1.1=g.1.2.1) :
  decide (cf l1 0=cf l2 0∧cf l1 1=cf l2 1∧cf l1 2=cf l2 2∧h.1.2.2*1^5/gS h.1.2.2 0 1 h.2.1.2 h.2.2.1.2 h.2.2.2.2 3=g.1.2.2*1^5/gS g.1.2.2 1 1 g.2.1.2 g.2.2.1.2 g.2.2.2.2 3)=meG g h:=by
 subst e1
 subst e2
 unfold meG Zmi sameP
 rw [decide_eq_true ht.symm,Bool.true_and,Zgn O3,Zgn O3,Zgn O3,Zgn O3,Zgn O3,Zgn O3]
 refine decide_eq_decide.2 ⟨fun⟨a,b,c,d⟩=>⟨a.symm,b.symm,c.symm,d.symm⟩,fun⟨a,b,c,d⟩=>⟨a.symm,b.symm,c.symm,d.symm⟩⟩
theorem me_no{g h:Pi}(ht:h.1.1≠g.1.2.1):meG g h=false:=by unfold meG Zmi;rw [decide_eq_false (fun e=>ht e.symm)];rfl
theorem Yan(ps:List Pi)(i:Nat):seB (ps.getD i G0)=false∨(seB (ps.getD i G0)=true∧i=0)∨(seB (ps.getD i G0)=true∧0<i∧(ps.getD i G0).1.1≠(ps.getD (i-1) G0).1.2.1)∨(seB (ps.getD i G0)=true∧0<i∧(ps.getD i G0).1.1=(ps.getD (i-1) G0).1.2.1):=by
 rcases Zlx (ps.getD i G0) i with h | h | h
 ·exact .inl h
 ·exact .inr (.inl h)
 ·by_cases e:(ps.getD i G0).1.1=(ps.getD (i-1) G0).1.2.1
  ·exact .inr (.inr (.inr ⟨h.1,h.2,e⟩))
  ·exact .inr (.inr (.inl ⟨h.1,h.2,e⟩))
theorem gS_d{fr to ov:Int}{x y z:List Int}(h:Sgo fr to ov x y z){a d:Int}(ha:0≤a∧a≤3600000)(hd:1≤d∧d≤3600000):bl (ov*d^5/gS ov a d x y z 3).natAbs≤200:=Zhl (Nat.le_trans (Zrp h ha hd 0).2 O3)
theorem Zgh(n j:Int)(k:Nat)(hj:j=(k:Int))(hn:Pr n)(hk:k≤5):Cal Tryz.prog 99 #[.int .i64 n,.int .i64 j] [] true (G:=Value) (fun r=>True) (fun r=> .agg #[.bool (decide (n^k<0)),r]) (fun r=>[Om r (n^k).natAbs]):=by
 refine Zh Tryz.func99 Tryz.ntmps99 fun w0 sc hw hsc=>?_
 have hbn:=Kc hn
 have hpb:=fun k=>Dc hbn k
 refine go 2 ?_
 refine Zy (Zs 1) fun bx _=>?_
 refine go 4 ?_
 refine cl 98 [] (Nk 1 ⟨O3,O3⟩) fun v _=>?_
 refine Zy (Zs 97) fun bx_2 _=>?_
 refine go 10 ?_
 refine lp (G:=Nat×Value) [0,1,4,5] [0,1] (fun q=>[(6,.int .i64 (q.1:Int))]) (fun q=>[(97,box bx_2 77 #[.bool (decide (n^q.1<0)),q.2]),(98,Om q.2 (n^q.1).natAbs)]) (fun q=>q.1≤k) (fun q=>k-q.1) (0,_) O1 ⟨rfl,trivial⟩ ⟨by rw [Int.pow_zero];rfl,by rw [Int.pow_zero];rfl,trivial⟩ ?_
 rintro⟨i,vs⟩ hi
 dsimp only at hi
 dsimp only
 have hp1:=hpb i
 refine go 8 ?_
 refine Zc rfl (fun h108=>?_) (fun h108=>?_)
 ·refine go 4 ?_
  refine Xw (fun _=>False) [(0,0),(1,0),(2,1),(3,1),(4,3)] ?_
  refine go 2 ?_
  refine Yf (Zk 2 [] (Nk n hn)) fun v_2 _=>?_
  refine Yf (Zk 3 [98,2] (Ot _ _ (n^i) n)) fun v_3 _=>?_
  refine go 9 ⟨O,?_⟩
  refine Zw (Xf 3 98 rfl rfl rfl) ?_
  exact Ys (i+1,v_3) O1 O1 ⟨rfl,trivial⟩ ⟨by rw [Int.pow_succ];rfl,by rw [Int.pow_succ];rfl,trivial⟩
 ·obtain rfl:i=k:=O
  refine go 12 ?_
  exact Yz hsc _ Tryz.results99 rfl trivial (Ob 98 Za)
set_option maxHeartbeats 1000000 in
theorem Ztf(v w:Value)(zs:List (Int×SL))(o:Int)(hl3:zs.length=3)(ho:0<o)(hob:bl o.natAbs≤200)(hzb:∀i,bl (cf (Zb zs) i).natAbs≤200):Cal Tryz.prog 100 #[.agg #[v,.bool (decide (o<0)),w]] [pp v zs,Om w (o).natAbs] true (G:=Value×List (Int×SL)×Value) (fun r=>Zb r.2.1=Zoc o (Zb zs)) (fun r=> .agg #[r.1,.bool (decide (o/(gZ o (Zb zs) 3)<0)),r.2.2]) (fun r=>[pp r.1 r.2.1,Om r.2.2 (o/(gZ o (Zb zs) 3)).natAbs]):=by
 refine Zh Tryz.func100 Tryz.ntmps100 fun w0 sc hw hsc=>?_
 have hli:=Zd zs
 have hgz:=gZ_ok ho hob hzb
 have hg3:=hgz 3
 refine go 2 ?_
 refine Zy (Yc 3) fun bx _=>?_
 refine Zy (Zs 4) fun bx_2 _=>?_
 refine go 6 ?_
 refine Zy (Zs 97) fun bx_3 _=>?_
 refine go 10 ?_
 refine Zg (Xf 2 98 rfl rfl rfl) ?_
 refine lp (G:=Nat×Value) [1,2,3] [0,1,2,3,4] (fun q=>[(4,.int .i64 (q.1:Int))]) (fun q=>[(97,box bx_3 77 #[.bool (decide (gZ o (Zb zs) q.1<0)),q.2]),(98,Om q.2 (gZ o (Zb zs) q.1).natAbs)]) (fun q=>q.1≤3) (fun q=>3-q.1) (0,w) O1 ⟨rfl,trivial⟩ ⟨rfl,rfl,trivial⟩ ?_
 rintro⟨i,vs⟩ hi
 dsimp only at hi
 dsimp only
 have hci:=Qt zs i
 have hgi:=hgz i
 have hzi:=hzb i
 refine go 7 ?_
 refine Zc rfl (fun h88=>?_) (fun h88=>?_)
 ·refine go 4 ?_
  refine Xw (fun _=>False) [(0,0),(1,0),(2,0),(3,0),(4,0),(5,0),(6,1),(7,3)] ?_
  refine go 4 ?_
  refine Qn rfl rfl (Qh (Zx (ii:=1) (i:=i) rfl rfl rfl rfl Zi Tryz.underlying45 Tryz.sizeOf77 rfl)) ?_
  refine Qn rfl rfl (Qh (Xv (ii:=1) I0 rfl rfl rfl Zi pI)) ?_
  refine Kd rfl (Yw (n:=5) (Zvp _ _ (gZ o (Zb zs) i) (zs.getD i I0).1 (by rw [hci];omega)) rfl rfl rfl ⟨rfl,rfl,trivial⟩ Tryz.call42 (Zj 98 rfl rfl rfl (Xy 1 rfl rfl (Ze) Zn)) rfl hw.h) (fun v _=>?_)
  refine go 9 ⟨O,?_⟩
  refine Zw (Xf 5 98 rfl rfl rfl) ?_
  exact Ys (i+1,v) O1 O1 ⟨rfl,trivial⟩ ⟨by rw [hci];rfl,by rw [hci];rfl,trivial⟩
 ·obtain rfl:i=3:=O
  refine go 7 ?_
  refine Zy (Zs 6) fun bx_4 _=>?_
  refine go 9 ?_
  refine Zg (Px 70 2 77 Nr) ?_
  refine Zg (Qk qI 71) ?_
  refine lp (G:=Nat×Value×List (Int×SL)) [1,2,3,5] [0,97,98,1,2,3,4] (fun q=>[(6,.int .i64 (q.1:Int))]) (fun q=>[(70,Ns 2 77 Nr q.2.1 q.2.2),(71,Hu qI q.2.2),(6,box bx_4 101 #[q.2.1,.bool false,.slice none 0 0])]) (fun q=>(q.1≤3)∧(Zb q.2.2=mk q.1 (fun t=>cf (Zb zs) t/(gZ o (Zb zs) 3)))∧(q.2.2.length=q.1)) (fun q=>3-q.1) (0,.slice none 0 0,[]) ⟨O1,rfl,rfl⟩ ⟨rfl,trivial⟩ ⟨rfl,rfl,rfl,trivial⟩ ?_
  rintro⟨i,vo,ws⟩ ⟨hi,hz,hzl⟩
  dsimp only at hi hz hzl
  dsimp only
  have hci:=Qt zs i
  have hzi:=hzb i
  refine go 7 ?_
  refine Zc rfl (fun h92=>?_) (fun h92=>?_)
  ·refine go 4 ?_
   refine jn (G:=Value×Nat) [1,2,3,5,6] [0,70,71,6,97,98,1,2,3,4] (fun q=>[(7,.pointer (some ⟨q.2,0,none⟩))]) (fun q=>[(83,Om q.1 ((zs.getD i I0).1/(gZ o (Zb zs) 3)).natAbs),(95,box q.2 77 #[.bool (decide ((zs.getD i I0).1/(gZ o (Zb zs) 3)<0)),q.1])]) (fun q=>True) ?_ ?_
   ·refine Pk [1,3,97] [13] ?_
    refine Zl (n:=8) [(0,0),(1,0),(2,0),(3,0),(4,0),(5,0)] ?_
    refine go 3 ?_
    refine Qn rfl rfl (stf (Zx (ii:=1) (i:=i) rfl rfl rfl rfl Zi Tryz.underlying45 Tryz.sizeOf77 rfl (show i<zs.length by omega)) ⟨rfl,rfl,rfl,trivial⟩) ?_
    refine Qn rfl rfl (stf (Xv (ii:=1) I0 rfl rfl rfl Zi pI (show i<zs.length by omega)) ⟨rfl,rfl,rfl,trivial⟩) ?_
    refine go 2 ?_
    refine Zds (n:=7) 6 10 11 ?_ ?_ ?_
    ·refine Li rfl (Yw (n:=83) (Lg _ _ (zs.getD i I0).1 (gZ o (Zb zs) 3) (by rw [hci];omega) O) rfl rfl rfl ⟨rfl,rfl,trivial⟩ Tryz.call127 (Xy 1 rfl rfl (Ze) (Zj 98 rfl rfl rfl Zn)) rfl hw.h) (fun g _=>?_)
     refine Zl (n:=4) [(7,0),(8,0),(9,0)] ?_
     refine go 4 ?_
     refine Qq (n:=3) 10 11 ?_ ?_
     ·refine Oz (Qm 95) fun bx_5 ho=>?_
      refine Zl (n:=0) [(11,1),(12,1),(13,3)] ?_
      refine Yf (Qm 99) fun bx_6 ho2=>?_
      refine go 3 ?_
      refine Zp ?_
      exact Pw (_,_) trivial ⟨rfl,trivial⟩ ⟨rfl,rfl,trivial⟩
     ·refine Oz (Qm 99) fun bx_7 ho3=>?_
      refine Zl (n:=0) [(10,1),(12,1),(13,3)] ?_
      refine Yf (Qm 95) fun bx_8 ho4=>?_
      refine go 3 ?_
      refine Zp ?_
      exact Pw (_,_) trivial ⟨rfl,trivial⟩ ⟨rfl,rfl,trivial⟩
    ·refine Oz (Qm 95) fun bx_9 ho5=>?_
     refine Qq (n:=6) 6 11 ?_ ?_
     ·refine Li rfl (Yw (n:=83) (Lg _ _ (zs.getD i I0).1 (gZ o (Zb zs) 3) (by rw [hci];omega) O) rfl rfl rfl ⟨rfl,rfl,trivial⟩ Tryz.call127 (Xy 1 rfl rfl (Ze) (Zj 98 rfl rfl rfl Zn)) rfl hw.h) (fun g_2 _=>?_)
      refine Zl (n:=0) [(7,0),(8,0),(9,0),(11,1),(12,1),(13,3)] ?_
      refine go 3 ?_
      refine Yf (Qm 99) fun bx_10 ho6=>?_
      refine go 3 ?_
      refine Zp ?_
      exact Pw (_,_) trivial ⟨rfl,trivial⟩ ⟨rfl,rfl,trivial⟩
     ·refine Oz (Qm 99) fun bx_11 ho7=>?_
      refine Zl (n:=0) [(6,1),(7,0),(8,0),(9,0),(12,1),(13,3)] ?_
      refine Kd rfl (Yw (n:=83) (Lg _ _ (zs.getD i I0).1 (gZ o (Zb zs) 3) (by rw [hci];omega) O) rfl rfl rfl ⟨rfl,rfl,trivial⟩ Tryz.call127 (Xy 1 rfl rfl (Ze) (Zj 98 rfl rfl rfl Zn)) rfl hw.h) (fun g_3 _=>?_)
      refine go 6 ?_
      refine Zp ?_
      exact Pw (_,_) trivial ⟨rfl,trivial⟩ ⟨rfl,rfl,trivial⟩
    ·refine Oz (Qm 99) fun bx_12 ho8=>?_
     refine Qq (n:=6) 6 10 ?_ ?_
     ·refine Li rfl (Yw (n:=83) (Lg _ _ (zs.getD i I0).1 (gZ o (Zb zs) 3) (by rw [hci];omega) O) rfl rfl rfl ⟨rfl,rfl,trivial⟩ Tryz.call127 (Xy 1 rfl rfl (Ze) (Zj 98 rfl rfl rfl Zn)) rfl hw.h) (fun g_4 _=>?_)
      refine Zl (n:=0) [(7,0),(8,0),(9,0),(10,1),(12,1),(13,3)] ?_
      refine go 3 ?_
      refine Yf (Qm 95) fun bx_13 ho9=>?_
      refine go 3 ?_
      refine Zp ?_
      exact Pw (_,_) trivial ⟨rfl,trivial⟩ ⟨rfl,rfl,trivial⟩
     ·refine Oz (Qm 95) fun bx_14 ho10=>?_
      refine Zl (n:=0) [(6,1),(7,0),(8,0),(9,0),(12,1),(13,3)] ?_
      refine Kd rfl (Yw (n:=83) (Lg _ _ (zs.getD i I0).1 (gZ o (Zb zs) 3) (by rw [hci];omega) O) rfl rfl rfl ⟨rfl,rfl,trivial⟩ Tryz.call127 (Xy 1 rfl rfl (Ze) (Zj 98 rfl rfl rfl Zn)) rfl hw.h) (fun g_5 _=>?_)
      refine go 6 ?_
      refine Zp ?_
      exact Pw (_,_) trivial ⟨rfl,trivial⟩ ⟨rfl,rfl,trivial⟩
   ·rintro⟨qv,b6⟩ -
    dsimp only
    refine Zde (Ph 83 rfl Zo) (fun sl hsl=>?_)
    subst hsl
    refine go 4 ?_
    refine tt (Qg (i:=7) (ivs:=[(0,_)]) (enc:=Nr) [((zs.getD i I0).1/(gZ o (Zb zs) 3),sl)] rfl rfl ⟨rfl,rfl,trivial⟩ Tryz.underlying45 Tryz.ti77 rfl rfl rfl rfl rfl pI.cells rfl rfl hw.h) (fun v_2 _=>?_)
    refine tt (Lj (i:=70) (j:=7) (by_:=32) rfl rfl rfl rfl rfl rfl O3 rfl (Yx pI) Tryz.underlying45 Tryz.ti77 rfl pI rfl rfl rfl O8 O3 rfl hw.h) (fun v_3 _=>?_)
    refine go 10 ⟨O,?_⟩
    refine Zw (Yq (q:=qI) (z:=((zs.getD i I0).1/(gZ o (Zb zs) 3),sl)) 71 83 71 rfl rfl rfl rfl rfl) ?_
    exact Ys (i+1,_,ws ++ [((zs.getD i I0).1/(gZ o (Zb zs) 3),sl)]) ⟨O1,by rw [Md,Gn,hz];dsimp only;rw [Qt],by simp [hzl]⟩ O1 ⟨rfl,trivial⟩ ⟨rfl,rfl,rfl,trivial⟩
  ·obtain rfl:i=3:=O
   refine go 6 ?_
   refine Zg (Qb 70 rfl rfl pI) ?_
   refine Zg (Pb 70 71 72 rfl rfl rfl rfl) ?_
   refine go 4 ?_
   refine cl 8 [2,98] (Lg _ _ o (gZ o (Zb zs) 3) O O) fun g_6 _=>?_
   refine go 14 ?_
   exact Yz hsc (_,ws,_) Tryz.results100 rfl hz (Ob 72 (Ob 8 Za))
theorem Zvw(v w:Value)(zs:List (Int×SL))(o:Int)(hl3:zs.length=3)(hob:bl o.natAbs≤200)(hzb:∀i,bl (cf (Zb zs) i).natAbs≤200):Cal Tryz.prog 98 #[.agg #[v,.bool (decide (o<0)),w]] [pp v zs,Om w (o).natAbs] false (G:=Unit) (fun _=>True) (fun _=>plV (cf (Zb zs) 0) (cf (Zb zs) 1) (cf (Zb zs) 2) o) (fun _=>[]):=by
 refine Zh Tryz.func98 Tryz.ntmps98 fun w0 sc hw hsc=>?_
 have c0:=Qt zs 0
 have c1:=Qt zs 1
 have c2:=Qt zs 2
 have z0:=hzb 0
 have z1:=hzb 1
 have z2:=hzb 2
 refine go 2 ?_
 refine Zy (Yc 3) fun bx _=>?_
 refine Zy (Zs 4) fun bx_2 _=>?_
 refine go 3 ?_
 refine Xw (fun _=>False) [(0,0),(1,0),(2,0),(3,0),(5,0),(6,0),(7,0),(8,0),(10,0),(11,0),(12,0),(13,0),(15,0),(16,0),(4,1),(9,1),(14,1),(17,1),(18,0),(19,3)] ?_
 refine go 3 ⟨O,?_⟩
 refine Qn rfl rfl (Qh (Xv (ii:=1) I0 rfl rfl rfl Zi pI)) ?_
 refine go 3 ⟨O,?_⟩
 refine Qn rfl rfl (Qh (Xv (ii:=1) I0 rfl rfl rfl Zi pI)) ?_
 refine go 3 ⟨O,?_⟩
 refine Qn rfl rfl (Qh (Xv (ii:=1) I0 rfl rfl rfl Zi pI)) ?_
 refine go 2 ?_
 refine Kd rfl (Yw (n:=4) (Yb4 _ (zs.getD 0 I0).1 (by rw [c0];omega)) rfl rfl rfl ⟨rfl,trivial⟩ Tryz.call50 (Xy 1 rfl rfl (Ze) Zn) rfl hw.h) (fun _ _=>?_)
 refine Kd rfl (Yw (n:=4) (Yb4 _ (zs.getD 1 I0).1 (by rw [c1];omega)) rfl rfl rfl ⟨rfl,trivial⟩ Tryz.call50 (Xy 1 rfl rfl (Ze) Zn) rfl hw.h) (fun _ _=>?_)
 refine Kd rfl (Yw (n:=4) (Yb4 _ (zs.getD 2 I0).1 (by rw [c2];omega)) rfl rfl rfl ⟨rfl,trivial⟩ Tryz.call50 (Xy 1 rfl rfl (Ze) Zn) rfl hw.h) (fun _ _=>?_)
 refine Yf (Zk 4 [2] (Yb4 _ o O)) fun _ _=>?_
 refine Qn rfl rfl (Qh (Xg (ivs:=[(0,_),(1,_),(2,_),(3,_)]) rfl ⟨rfl,rfl,rfl,rfl,rfl,rfl,rfl,rfl,trivial⟩ (fun a w hs=>Zmz))) ?_
 refine go 4 ?_
 exact Yz hsc () Tryz.results98 (by rw [←c0,←c1,←c2]<;>rfl) trivial Za
theorem Yca(v w v2 w2:Value)(zs zs2:List (Int×SL))(o o2:Int)(hl3:zs.length=3)(hob:bl o.natAbs≤200)(hzb:∀i,bl (cf (Zb zs) i).natAbs≤200)(hl32:zs2.length=3)(hob2:bl o2.natAbs≤200)(hzb2:∀i,bl (cf (Zb zs2) i).natAbs≤200):Cal Tryz.prog 54 #[.agg #[v,.bool (decide (o<0)),w],.agg #[v2,.bool (decide (o2<0)),w2]] [pp v zs,Om w (o).natAbs,pp v2 zs2,Om w2 (o2).natAbs] false (G:=Unit) (fun _=>True) (fun _=> .bool (decide ((cf (Zb zs) 0)=(cf (Zb zs2) 0)∧(cf (Zb zs) 1)=(cf (Zb zs2) 1)∧(cf (Zb zs) 2)=(cf (Zb zs2) 2)∧o=o2))) (fun _=>[]):=by
 refine Zh Tryz.func54 Tryz.ntmps54 fun w0 sc hw hsc=>?_
 refine go 2 ?_
 refine Zy (Yc 5) fun bx _=>?_
 refine Zy (Yc 6) fun bx_2 _=>?_
 refine go 4 ?_
 refine Xw (fun _=>False) [(0,0),(2,0),(1,1),(3,1),(4,0),(5,3)] ?_
 refine go 2 ?_
 refine Yf (Zk 6 [1,2] (Zvw _ _ _ o hl3 hob hzb)) fun _ _=>?_
 refine Yf (Zk 6 [3,4] (Zvw _ _ _ o2 hl32 hob2 hzb2)) fun _ _=>?_
 refine Qn rfl rfl (Qh (Zb5 rfl rfl rfl eg151 (fun w=>eqlP w _ _ _ _ _ _ _ _))) ?_
 refine go 4 ?_
 exact Yz hsc () Tryz.results54 rfl trivial Za
set_option maxHeartbeats 1000000 in
theorem Zl7(fr to ov:Int)(sx sy sz:SL)(x y z:List Int)(a d:Int)(hS:Sgo fr to ov x y z)(ha:0≤a∧a≤3600000)(hd:1≤d∧d≤3600000):Cal Tryz.prog 55 #[.agg #[.int .i64 fr,.int .i64 to,.int .i64 ov,Na sx,Na sy,Na sz],.int .i64 a,.int .i64 d] [Xc 1 Xd (Na sx) x,Xc 1 Xd (Na sy) y,Xc 1 Xd (Na sz) z] true (G:=Value×List (Int×SL)×Value) (fun r=>Zb r.2.1=Zoc (ov*d^5) (mk 3 (plC a d x y z))) (fun r=> .agg #[r.1,.bool (decide ((ov*d^5)/gS ov a d x y z 3<0)),r.2.2]) (fun r=>[pp r.1 r.2.1,Om r.2.2 ((ov*d^5)/gS ov a d x y z 3).natAbs]):=by
 refine Zh Tryz.func55 Tryz.ntmps55 fun w0 sc hw hsc=>?_
 have ho1:=hS.o1
 have ho2:=hS.o2
 have hgs:=Zrp hS ha hd 0
 have hbo:bl ov.natAbs≤64:=(Xo 64 _).2 O
 refine go 2 ?_
 refine Zy (Yc 4) fun bx _=>?_
 refine Zy (Zs 5) fun bx_2 _=>?_
 refine go 4 ?_
 refine Zy (Zs 6) fun bx_3 _=>?_
 refine go 5 ?_
 refine cl 7 [1,2,3] (Cl _ _ _ _ _ _ _ _ _) fun v _=>?_
 refine go 10 ?_
 refine Zg (Px 70 2 77 Nr) ?_
 refine Zg (Qk qI 71) ?_
 refine lp (G:=Nat×Value×List (Int×SL)) [1,2,3,6,7,8] [0,1,2,3,4,5,7] (fun q=>[(9,.int .i64 (q.1:Int))]) (fun q=>[(70,Ns 2 77 Nr q.2.1 q.2.2),(71,Hu qI q.2.2),(6,box bx_3 101 #[q.2.1,.bool false,.slice none 0 0])]) (fun q=>(q.1≤3)∧(Zb q.2.2=mk q.1 (plC a d x y z))∧(q.2.2.length=q.1)) (fun q=>3-q.1) (0,.slice none 0 0,[]) ⟨O1,rfl,rfl⟩ ⟨rfl,trivial⟩ ⟨rfl,rfl,rfl,trivial⟩ ?_
 rintro⟨i,vo,ws⟩ ⟨hi,hz,hzl⟩
 dsimp only at hi hz hzl
 dsimp only
 have hc:=hS.hc i
 have hlc:=hS.lc i
 refine go 7 ?_
 refine Zc rfl (fun h118=>?_) (fun h118=>?_)
 ·refine go 6 ?_
  refine dt (Xg (ivs:=[]) rfl trivial (fun a w hs=>Zpk)) ?_
  refine Zy (Zs 97) fun bx_4 _=>?_
  refine go 10 ?_
  refine Zg (Px 98 1 3 Lz) ?_
  refine Zg (Qb 98 rfl rfl pN) ?_
  refine lp (G:=Nat×Value) [1,2,3,6,7,8,9,10] [0,70,71,6,1,2,3,4,5,7] (fun q=>[(11,.int .i64 (q.1:Int))]) (fun q=>[(97,box bx_4 77 #[.bool (decide ((plS (Yl i x y z) a d q.1)<0)),q.2]),(98,Om q.2 ((plS (Yl i x y z) a d q.1)).natAbs)]) (fun q=>q.1≤(Yl i x y z).length) (fun q=>(Yl i x y z).length-q.1) (0,.slice none 0 0) O1 ⟨rfl,trivial⟩ ⟨rfl,rfl,trivial⟩ ?_
  rintro⟨k,vs⟩ hk
  dsimp only at hk
  dsimp only
  refine go 2 ?_
  refine Zg (Cg 7 40 ([(sx,x),(sy,y),(sz,z)].getD i C0) rfl rfl (Ze (show i<3 by omega)) rfl) ?_
  refine Zg (Kz 40 (q:=Xc 1 Xd (Na ([(sx,x),(sy,y),(sz,z)].getD i C0).1) (Yl i x y z)) (congrArg (Xc 1 Xd _) (Zin O)) rfl rfl) ?_
  refine go 4 ?_
  refine dt (Zx (ii:=7) (i:=i) rfl rfl rfl rfl Zi Tryz.underlying80 Tryz.sizeOf22 rfl (show i<3 by omega)) ?_
  refine dt (Xv (ii:=7) C0 rfl rfl rfl Zi pC (show i<3 by omega)) ?_
  refine go 4 ?_
  refine Zc rfl (fun h120=>?_) (fun h120=>?_)
  ·refine go 4 ?_
   refine Xw (fun _=>False) [(0,0),(1,0),(2,0),(3,0),(4,0),(5,0),(6,0),(7,0),(9,0),(10,0),(12,0),(13,0),(14,0),(8,1),(11,1),(15,1),(16,1),(17,1),(18,1),(19,3)] ?_
   refine go 3 ?_
   refine Qn rfl rfl (Qh (Zx (ii:=7) (i:=i) rfl rfl rfl rfl Zi Tryz.underlying80 Tryz.sizeOf22 rfl (show i<3 by omega))) ?_
   refine Qn rfl rfl (Qh (Xv (ii:=7) C0 rfl rfl rfl Zi pC (show i<3 by omega))) ?_
   refine go 1 ?_
   refine Qn rfl rfl (Qh (Zx (ii:=40) (i:=k) rfl rfl rfl rfl Zo Tryz.underlying22 Tryz.sizeOf3 rfl)) ?_
   refine go 6 ⟨O,O,?_⟩
   refine Yf (Zk 8 [] (Nk ((Yl i x y z).getD k 0) (Qo hc k))) fun v_2 _=>?_
   refine Yf (Zk 9 [] (Zgh a _ k rfl ⟨O,O⟩ O)) fun v_3 _=>?_
   refine Yf (Zk 10 [] (Zgh d _ (5-(k:Int)).toNat O ⟨O,O⟩ O)) fun v_4 _=>?_
   refine Yf (Zk 11 [9,10] (Ot _ _ (a^k) (d^(5-(k:Int)).toNat) (Nat.le_trans (Zgt ha O) O3) (Nat.le_trans (Zgt (a:=d) ⟨O,O⟩ O) O3))) fun v_5 _=>?_
   refine Yf (Zk 12 [8,11] (Ot _ _ ((Yl i x y z).getD k 0) (a^k*d^(5-(k:Int)).toNat) (Nat.le_trans (Kc (Qo hc k)) O3) (Nat.le_trans (Zpe hc ha hd (k:=k) O).1 O3))) fun v_6 _=>?_
   refine Yf (Zk 13 [98,12] (Zdj _ _ (plS (Yl i x y z) a d k) (plT (Yl i x y z) a d k) (Nat.le_trans (Zpe hc ha hd O).2 O3) (Nat.le_trans (Zca hc ha hd O) O3))) fun v_7 _=>?_
   refine go 9 ⟨O,?_⟩
   refine Zw (Xf 13 98 rfl rfl rfl) ?_
   exact Ys (k+1,v_7) O1 O1 ⟨rfl,trivial⟩ ⟨rfl,rfl,trivial⟩
  ·obtain rfl:k=(Yl i x y z).length:=O
   refine go 5 ?_
   refine Zde (Ph 98 rfl Zo) (fun sl hsl=>?_)
   subst hsl
   refine go 4 ?_
   refine tt (Qg (i:=14) (ivs:=[(0,_)]) (enc:=Nr) [((plS (Yl i x y z) a d (Yl i x y z).length),sl)] rfl rfl ⟨rfl,rfl,trivial⟩ Tryz.underlying45 Tryz.ti77 rfl rfl rfl rfl rfl pI.cells rfl rfl hw.h) (fun v_8 _=>?_)
   refine tt (Lj (i:=70) (j:=14) (by_:=32) rfl rfl rfl rfl rfl rfl O3 rfl (Yx pI) Tryz.underlying45 Tryz.ti77 rfl pI rfl rfl rfl O8 O3 rfl hw.h) (fun v_9 _=>?_)
   refine go 10 ⟨O,?_⟩
   refine Zw (Yq (q:=qI) (z:=((plS (Yl i x y z) a d (Yl i x y z).length),sl)) 71 98 71 rfl rfl rfl rfl rfl) ?_
   exact Ys (i+1,_,ws ++ [((plS (Yl i x y z) a d (Yl i x y z).length),sl)]) ⟨O1,by rw [Md,Gn,hz];dsimp only;rfl,by simp [hzl]⟩ O1 ⟨rfl,trivial⟩ ⟨rfl,rfl,rfl,trivial⟩
 ·obtain rfl:i=3:=O
  refine go 6 ?_
  refine Zg (Qb 70 rfl rfl pI) ?_
  refine Zg (Pb 70 71 72 rfl rfl rfl rfl) ?_
  refine go 3 ?_
  refine cl 15 [] (Nk ov) fun v_10 _=>?_
  refine go 1 ?_
  refine cl 16 [] (Zgh d 5 5 rfl ⟨O,O⟩ O3) fun v_11 _=>?_
  refine cl 17 [15,16] (Ot _ _ ov (d^5) (Nat.le_trans hbo O3) (Nat.le_trans (Zgt (a:=d) ⟨O,O⟩ (k:=5) O3) O3)) fun v_12 _=>?_
  refine go 7 ?_
  refine cl 18 [72,17] (Ztf _ _ ws (ov*d^5) hzl hgs.1 (Nat.le_trans hgs.2 O3) (fun j=>by rw [hz];exact Ycr hS ha hd j)) fun g hg=>?_
  refine go 4 ?_
  exact Yz hsc _ Tryz.results55 (by rw [hz,Zwt _ _ _ _ _ _ 3 (Nat.le_refl _)]) (hg.trans (by rw [hz])) (Ob 18 (Ob 19 Za (by rw [hz,Zwt _ _ _ _ _ _ 3 (Nat.le_refl _)])))
set_option maxHeartbeats 1000000 in
theorem Bp(v:Value)(ps:List Pi)(hp:∀g∈ps,Gin g):Cal Tryz.prog 25 #[v] [Np 6 Fa qG v ps] false (G:=Unit) (fun _=>True) (fun _=> .bool (Ic ps)) (fun _=>[]):=by
 refine Zh Tryz.func25 Tryz.ntmps25 fun w0 sc hw hsc=>?_
 refine Of (Ly (i:=1) rfl Zi) (fun hlen=>?_)
 refine go 12 ?_
 refine lp (G:=Nat) [0] [0,1] (fun i=>[(3,.int .i64 (i:Int))]) (fun i=>[]) (fun i=>(i≤ps.length)∧(∀k,k<i→Zdd ps k=true)) (fun i=>ps.length-i) 0 ⟨O1,fun k hk=>absurd hk (Nat.not_lt_zero k)⟩ ⟨rfl,trivial⟩ trivial ?_
 rintro i ⟨hi,hk⟩
 refine go 9 ?_
 refine Zc rfl (fun h134=>?_) (fun h134=>?_)
 ·refine go 5 ?_
  rcases Yan ps i with hc1 | ⟨hc1,hc2⟩ | ⟨hc1,hc2,hc3⟩ | ⟨hc1,hc2,hc3⟩
  ·have hgi:=hp _ (Ze (d:=G0) (show i<ps.length by omega))
   refine Zg (Xi (g:=(ps.getD i G0)) (z:=(ps.getD i G0).2.1) 1 51 rfl rfl (Ze) O5) ?_
   refine Zg (Xi (g:=(ps.getD i G0)) (z:=(ps.getD i G0).2.2.1) 1 52 rfl rfl (Ze) O5) ?_
   refine Zg (Xi (g:=(ps.getD i G0)) (z:=(ps.getD i G0).2.2.2) 1 53 rfl rfl (Ze) O5) ?_
   refine Xw (fun _=>False) [(0,0),(1,0),(2,0),(3,0),(4,1),(5,0),(6,0),(7,2),(8,2),(9,2),(10,2),(11,2),(12,2),(13,2),(14,2),(15,2),(16,2),(17,2),(18,2),(19,2),(20,2),(21,2),(22,2),(23,2),(24,2),(25,2),(26,2),(28,2),(29,2),(30,2),(31,2),(32,2),(27,2),(33,2),(34,2),(35,2),(36,2),(37,2),(38,0)] ?_
   refine go 2 ?_
   refine Qn rfl rfl (Qh (Zx (ii:=1) (i:=i) rfl rfl rfl rfl Zi Tryz.underlying29 Tryz.sizeOf24 rfl)) ?_
   refine Qn rfl rfl (Qh (Xv (ii:=1) G0 rfl rfl rfl Zi pG)) ?_
   refine Yf (Zk 1 [51,52,53] (Zcs _ _ _ _ _ _ _ _ _ hgi.f hgi.t hgi.o hgi.x hgi.y hgi.z)) fun _ _=>?_
   refine Qn rfl rfl (Qh (Zz (r':= .bool true) (Xt rfl rfl) (congrArg (fun b=>Value.bool (!b)) hc1))) ?_
   refine go 4 ?_
   refine Dw rfl rfl rfl rfl rfl ?_
   refine Dw rfl rfl rfl rfl rfl ?_
   refine Dw rfl rfl rfl rfl rfl ?_
   refine Dw rfl rfl rfl rfl rfl ?_
   refine Dw rfl rfl rfl rfl rfl ?_
   refine Dw rfl rfl rfl rfl rfl ?_
   refine Dw rfl rfl rfl rfl rfl ?_
   refine Dw rfl rfl rfl rfl rfl ?_
   refine Dw rfl rfl rfl rfl rfl ?_
   refine Dw rfl rfl rfl rfl rfl ?_
   refine Dw rfl rfl rfl rfl rfl ?_
   refine Dw rfl rfl rfl rfl rfl ?_
   refine Dw rfl rfl rfl rfl rfl ?_
   refine Dw rfl rfl rfl rfl rfl ?_
   refine Dw rfl rfl rfl rfl rfl ?_
   refine Dw rfl rfl rfl rfl rfl ?_
   refine Dw rfl rfl rfl rfl rfl ?_
   refine Dw rfl rfl rfl rfl rfl ?_
   refine Dw rfl rfl rfl rfl rfl ?_
   refine Dw rfl rfl rfl rfl rfl ?_
   refine Dw rfl rfl rfl rfl rfl ?_
   refine Dw rfl rfl rfl rfl rfl ?_
   refine Dw rfl rfl rfl rfl rfl ?_
   refine Dw rfl rfl rfl rfl rfl ?_
   refine Dw rfl rfl rfl rfl rfl ?_
   refine Dw rfl rfl rfl rfl rfl ?_
   refine Dw rfl rfl rfl rfl rfl ?_
   refine go 16 ?_
   exact Yz hsc () Tryz.results25 (by rw [Ze8 (i:=i) O (Yc1 hc1)]) trivial Za
  ·have hgi:=hp _ (Ze (d:=G0) (show i<ps.length by omega))
   refine Zg (Xi (g:=(ps.getD i G0)) (z:=(ps.getD i G0).2.1) 1 51 rfl rfl (Ze) O5) ?_
   refine Zg (Xi (g:=(ps.getD i G0)) (z:=(ps.getD i G0).2.2.1) 1 52 rfl rfl (Ze) O5) ?_
   refine Zg (Xi (g:=(ps.getD i G0)) (z:=(ps.getD i G0).2.2.2) 1 53 rfl rfl (Ze) O5) ?_
   refine Xw (fun _=>False) [(0,0),(1,0),(2,0),(3,0),(4,1),(5,0),(6,0),(7,0),(8,0),(9,0),(10,2),(11,2),(12,2),(13,2),(14,2),(15,2),(16,2),(17,2),(18,2),(19,2),(20,2),(21,2),(22,2),(23,2),(24,2),(25,2),(26,2),(28,2),(29,2),(30,2),(31,2),(32,2),(27,2),(33,2),(34,2),(35,2),(36,2),(37,0),(38,0)] ?_
   refine go 2 ?_
   refine Qn rfl rfl (Qh (Zx (ii:=1) (i:=i) rfl rfl rfl rfl Zi Tryz.underlying29 Tryz.sizeOf24 rfl)) ?_
   refine Qn rfl rfl (Qh (Xv (ii:=1) G0 rfl rfl rfl Zi pG)) ?_
   refine Yf (Zk 1 [51,52,53] (Zcs _ _ _ _ _ _ _ _ _ hgi.f hgi.t hgi.o hgi.x hgi.y hgi.z)) fun _ _=>?_
   refine Qn rfl rfl (Qh (Zz (r':= .bool false) (Xt rfl rfl) (congrArg (fun b=>Value.bool (!b)) hc1))) ?_
   refine go 2 ?_
   refine Eo (Qh (Zz (r':= .bool false) (Za8 rfl rfl rfl) (congrArg Value.bool (decide_eq_false O)))) rfl rfl rfl rfl rfl ?_
   refine go 14 ?_
   refine Dw rfl rfl rfl rfl rfl ?_
   refine Dw rfl rfl rfl rfl rfl ?_
   refine Dw rfl rfl rfl rfl rfl ?_
   refine Dw rfl rfl rfl rfl rfl ?_
   refine Dw rfl rfl rfl rfl rfl ?_
   refine Dw rfl rfl rfl rfl rfl ?_
   refine Dw rfl rfl rfl rfl rfl ?_
   refine Dw rfl rfl rfl rfl rfl ?_
   refine Dw rfl rfl rfl rfl rfl ?_
   refine Dw rfl rfl rfl rfl rfl ?_
   refine Dw rfl rfl rfl rfl rfl ?_
   refine Dw rfl rfl rfl rfl rfl ?_
   refine Dw rfl rfl rfl rfl rfl ?_
   refine go 14 ⟨O,?_⟩
   exact Ys (i+1) ⟨O1,fun k h9=>by rcases Nat.lt_succ_iff_lt_or_eq.1 h9 with h8 | h8;exact hk k h8;subst h8;exact Yc2 hc1 hc2⟩ O1 ⟨rfl,trivial⟩ trivial
  ·have hgi:=hp _ (Ze (d:=G0) (show i<ps.length by omega))
   refine Zg (Xi (g:=(ps.getD i G0)) (z:=(ps.getD i G0).2.1) 1 51 rfl rfl (Ze) O5) ?_
   refine Zg (Xi (g:=(ps.getD i G0)) (z:=(ps.getD i G0).2.2.1) 1 52 rfl rfl (Ze) O5) ?_
   refine Zg (Xi (g:=(ps.getD i G0)) (z:=(ps.getD i G0).2.2.2) 1 53 rfl rfl (Ze) O5) ?_
   refine Xw (fun _=>False) [(0,0),(1,0),(2,0),(3,0),(4,1),(5,0),(6,0),(7,0),(8,0),(9,0),(10,0),(11,0),(12,0),(13,0),(14,0),(15,0),(16,0),(17,0),(18,0),(19,0),(20,0),(21,0),(22,0),(23,2),(24,2),(25,2),(26,2),(28,2),(29,2),(30,2),(31,2),(32,2),(27,2),(33,2),(34,2),(35,2),(36,0),(37,0),(38,0)] ?_
   refine go 2 ?_
   refine Qn rfl rfl (Qh (Zx (ii:=1) (i:=i) rfl rfl rfl rfl Zi Tryz.underlying29 Tryz.sizeOf24 rfl)) ?_
   refine Qn rfl rfl (Qh (Xv (ii:=1) G0 rfl rfl rfl Zi pG)) ?_
   refine Yf (Zk 1 [51,52,53] (Zcs _ _ _ _ _ _ _ _ _ hgi.f hgi.t hgi.o hgi.x hgi.y hgi.z)) fun _ _=>?_
   refine Qn rfl rfl (Qh (Zz (r':= .bool false) (Xt rfl rfl) (congrArg (fun b=>Value.bool (!b)) hc1))) ?_
   refine go 2 ?_
   refine Eo (Qh (Zz (r':= .bool true) (Za8 rfl rfl rfl) (congrArg Value.bool (decide_eq_true O)))) rfl rfl rfl rfl rfl ?_
   refine go 3 ?_
   refine Eo (Qh (Zx (ii:=1) (i:=i) rfl rfl rfl rfl Zi Tryz.underlying29 Tryz.sizeOf24 rfl)) rfl rfl rfl rfl rfl ?_
   refine Eo (Qh (Zkq (ii:=1) rfl rfl rfl Zi Tryz.underlying24 rfl Tryz.sizeOf3 rfl)) rfl rfl rfl rfl rfl ?_
   refine Eo (Qh (Zkp (ii:=1) G0 rfl rfl rfl Zi Tryz.isAgg3 rfl)) rfl rfl rfl rfl rfl ?_
   refine go 3 ⟨O,?_⟩
   refine Eo (Qh (Zx (ii:=1) (i:=(i-1)) rfl rfl rfl rfl Zi Tryz.underlying29 Tryz.sizeOf24)) rfl rfl rfl rfl rfl ?_
   refine Eo (Qh (Zkq (ii:=1) rfl rfl rfl Zi Tryz.underlying24 rfl Tryz.sizeOf3 rfl)) rfl rfl rfl rfl rfl ?_
   refine Eo (Qh (Zkp (ii:=1) G0 rfl rfl rfl Zi Tryz.isAgg3 rfl)) rfl rfl rfl rfl rfl ?_
   refine Eo (Qh (Zz (r':= .bool true) (Yep rfl rfl rfl) (congrArg Value.bool (decide_eq_true hc3)))) rfl rfl rfl rfl rfl ?_
   refine go 31 ?_
   exact Yz hsc () Tryz.results25 (by rw [Ze8 (i:=i) O ((Zjp hc1 hc2).trans (me_no hc3))]) trivial Za
  ·refine Zg (Xi (g:=(ps.getD (i-1) G0)) (z:=(ps.getD (i-1) G0).2.1) 1 54 rfl rfl (Ze) O5) ?_
   refine Zg (Xi (g:=(ps.getD (i-1) G0)) (z:=(ps.getD (i-1) G0).2.2.1) 1 55 rfl rfl (Ze) O5) ?_
   refine Zg (Xi (g:=(ps.getD (i-1) G0)) (z:=(ps.getD (i-1) G0).2.2.2) 1 56 rfl rfl (Ze) O5) ?_
   have hgi:=hp _ (Ze (d:=G0) (show i<ps.length by omega))
   refine Zg (Xi (g:=(ps.getD i G0)) (z:=(ps.getD i G0).2.1) 1 51 rfl rfl (Ze) O5) ?_
   refine Zg (Xi (g:=(ps.getD i G0)) (z:=(ps.getD i G0).2.2.1) 1 52 rfl rfl (Ze) O5) ?_
   refine Zg (Xi (g:=(ps.getD i G0)) (z:=(ps.getD i G0).2.2.2) 1 53 rfl rfl (Ze) O5) ?_
   refine Xw (fun _=>False) [(0,0),(1,0),(2,0),(3,0),(4,1),(5,0),(6,0),(7,0),(8,0),(9,0),(10,0),(11,0),(12,0),(13,0),(14,0),(15,0),(16,0),(17,0),(18,0),(19,0),(20,0),(21,0),(22,0),(23,0),(24,0),(25,0),(26,0),(28,0),(29,0),(30,0),(31,0),(32,0),(27,1),(33,1),(34,1),(35,0),(36,0),(37,0),(38,0)] ?_
   refine go 2 ?_
   refine Qn rfl rfl (Qh (Zx (ii:=1) (i:=i) rfl rfl rfl rfl Zi Tryz.underlying29 Tryz.sizeOf24 rfl)) ?_
   refine Qn rfl rfl (Qh (Xv (ii:=1) G0 rfl rfl rfl Zi pG)) ?_
   refine Yf (Zk 1 [51,52,53] (Zcs _ _ _ _ _ _ _ _ _ hgi.f hgi.t hgi.o hgi.x hgi.y hgi.z)) fun _ _=>?_
   refine Qn rfl rfl (Qh (Zz (r':= .bool false) (Xt rfl rfl) (congrArg (fun b=>Value.bool (!b)) hc1))) ?_
   refine go 2 ?_
   refine Eo (Qh (Zz (r':= .bool true) (Za8 rfl rfl rfl) (congrArg Value.bool (decide_eq_true O)))) rfl rfl rfl rfl rfl ?_
   refine go 3 ?_
   refine Eo (Qh (Zx (ii:=1) (i:=i) rfl rfl rfl rfl Zi Tryz.underlying29 Tryz.sizeOf24 rfl)) rfl rfl rfl rfl rfl ?_
   refine Eo (Qh (Zkq (ii:=1) rfl rfl rfl Zi Tryz.underlying24 rfl Tryz.sizeOf3 rfl)) rfl rfl rfl rfl rfl ?_
   refine Eo (Qh (Zkp (ii:=1) G0 rfl rfl rfl Zi Tryz.isAgg3 rfl)) rfl rfl rfl rfl rfl ?_
   refine go 3 ⟨O,?_⟩
   refine Eo (Qh (Zx (ii:=1) (i:=(i-1)) rfl rfl rfl rfl Zi Tryz.underlying29 Tryz.sizeOf24)) rfl rfl rfl rfl rfl ?_
   refine Eo (Qh (Zkq (ii:=1) rfl rfl rfl Zi Tryz.underlying24 rfl Tryz.sizeOf3 rfl)) rfl rfl rfl rfl rfl ?_
   refine Eo (Qh (Zkp (ii:=1) G0 rfl rfl rfl Zi Tryz.isAgg3 rfl)) rfl rfl rfl rfl rfl ?_
   refine Eo (Qh (Zz (r':= .bool false) (Yep rfl rfl rfl) (congrArg Value.bool (decide_eq_false (fun e=>e hc3))))) rfl rfl rfl rfl rfl ?_
   refine go 3 ?_
   refine Eo (Qh (Zx (ii:=1) (i:=i) rfl rfl rfl rfl Zi Tryz.underlying29 Tryz.sizeOf24 rfl)) rfl rfl rfl rfl rfl ?_
   refine Eo (Qh (Xv (ii:=1) G0 rfl rfl rfl Zi pG)) rfl rfl rfl rfl rfl ?_
   refine go 3 ⟨O,?_⟩
   refine Eo (Qh (Zx (ii:=1) (i:=(i-1)) rfl rfl rfl rfl Zi Tryz.underlying29 Tryz.sizeOf24)) rfl rfl rfl rfl rfl ?_
   refine Eo (Qh (Xv (ii:=1) G0 rfl rfl rfl Zi pG)) rfl rfl rfl rfl rfl ?_
   refine Ze3 rfl rfl rfl rfl rfl (Yw (n:=2) (Zl7 _ _ _ _ _ _ _ _ _ 0 1 (Zai hgi hc1) ⟨O3,O3⟩ ⟨O3,O3⟩) rfl rfl rfl ⟨rfl,rfl,rfl,trivial⟩ Tryz.call55 (Zj 51 rfl rfl rfl (Zj 52 rfl rfl rfl (Zj 53 rfl rfl rfl Zn))) rfl hw.h) (fun g hg=>?_)
   refine Ze3 rfl rfl rfl rfl rfl (Yw (n:=4) (Zl7 _ _ _ _ _ _ _ _ _ 1 1 (Zai (hp _ (Ze)) (Zfa (hk (i-1) O))) ⟨O3,O3⟩ ⟨O3,O3⟩) rfl rfl rfl ⟨rfl,rfl,rfl,trivial⟩ Tryz.call55 (Zj 54 rfl rfl rfl (Zj 55 rfl rfl rfl (Zj 56 rfl rfl rfl Zn))) rfl hw.h) (fun g_2 hg_2=>?_)
   refine Ze3 rfl rfl rfl rfl rfl (Yw (n:=5) (Yca _ _ _ _ _ _ ((ps.getD i G0).1.2.2*1^5/gS (ps.getD i G0).1.2.2 0 1 (ps.getD i G0).2.1.2 (ps.getD i G0).2.2.1.2 (ps.getD i G0).2.2.2.2 3) ((ps.getD (i-1) G0).1.2.2*1^5/gS (ps.getD (i-1) G0).1.2.2 1 1 (ps.getD (i-1) G0).2.1.2 (ps.getD (i-1) G0).2.2.1.2 (ps.getD (i-1) G0).2.2.2.2 3) (by rw [←Zd,hg];exact Yu _ _) (gS_d (Zai hgi hc1) ⟨O3,O3⟩ ⟨O3,O3⟩) (fun j=>by rw [hg];exact Ydm (fun j=>Ycr (Zai hgi hc1) ⟨O3,O3⟩ ⟨O3,O3⟩ j) j) (by rw [←Zd,hg_2];exact Yu _ _) (gS_d (Zai (hp _ (Ze)) (Zfa (hk (i-1) O))) ⟨O3,O3⟩ ⟨O3,O3⟩) (fun j=>by rw [hg_2];exact Ydm (fun j=>Ycr (Zai (hp _ (Ze)) (Zfa (hk (i-1) O))) ⟨O3,O3⟩ ⟨O3,O3⟩ j) j)) rfl rfl rfl ⟨rfl,rfl,trivial⟩ Tryz.call54 (Zj 2 rfl rfl rfl (Zj 3 rfl rfl rfl (Zj 4 rfl rfl rfl (Zj 5 rfl rfl rfl Zn)))) rfl hw.h) (fun _ _=>?_)
   refine Eo (Qh (Zz (r':= .bool (!meG (ps.getD (i-1) G0) (ps.getD i G0))) (Xt rfl rfl) (congrArg (fun b=>Value.bool (!b)) (Yhe hg hg_2 hc3)))) rfl rfl rfl rfl rfl ?_
   refine go 5 ?_
   refine Nq rfl (fun h135=>?_) (fun h135=>?_)
   ·refine go 11 ?_
    exact Yz hsc () Tryz.results25 (by rw [Ze8 (i:=i) O ((Zjp hc1 hc2).trans (Zug ‹_›))]) trivial Za
   ·refine go 8 ⟨O,?_⟩
    exact Ys (i+1) ⟨O1,fun k h9=>by rcases Nat.lt_succ_iff_lt_or_eq.1 h9 with h8 | h8;exact hk k h8;subst h8;exact(Zjp hc1 hc2).trans (Zuh ‹_›)⟩ O1 ⟨rfl,trivial⟩ trivial
 ·obtain rfl:i=ps.length:=O
  refine go 11 ?_
  refine Ym (d:=52) rfl (fun s139=>?_) (fun s139=>?_)
  ·refine go 8 ?_
   exact Yz hsc () Tryz.results25 (by rw [Zia hk];first | exact congrArg Value.bool (decide_eq_decide.2 O) | exact congrArg Value.bool (decide_eq_false O)) trivial Za
  ·refine go 8 ?_
   exact Yz hsc () Tryz.results25 (by rw [Zia hk];first | exact congrArg Value.bool (decide_eq_decide.2 O) | exact congrArg Value.bool (decide_eq_false O)) trivial Za
set_option maxHeartbeats 1000000 in
theorem Zyz(v:Value)(ps:List Pi)(sp ac:Int)(hsg:∀g∈ps,SgG g)(hs0:0≤sp)(hs1:sp≤10000)(ha0:0≤ac)(ha1:ac≤10000):Cal Tryz.prog 26 #[v,.agg #[.int .i64 sp,.int .i64 ac]] [Np 6 Fa qG v ps] false (G:=Unit) (fun _=>True) (fun _=> .tuple #[.agg #[.int .i64 (fiI (fiB ps sp ac)),.int .i64 (fiC (fiB ps sp ac))],.bool (fiB ps sp ac).isSome]) (fun _=>[]):=by
 refine Zh Tryz.func26 Tryz.ntmps26 fun w0 sc hw hsc=>?_
 refine Of (Ly (i:=1) rfl Zi) (fun hlen=>?_)
 refine go 2 ?_
 refine Zy (Yc 2) fun bx _=>?_
 refine Zy (Zs 3) fun bx_2 _=>?_
 refine go 10 ?_
 refine lp (G:=Nat) [0,3,4] [0,1,2,3] (fun i=>[(6,.int .i64 (i:Int))]) (fun i=>[]) (fun i=>(i≤ps.length)∧(∀k,k<i→frB ps sp ac k=0)) (fun i=>ps.length-i) 0 ⟨O1,fun k hk=>absurd hk (Nat.not_lt_zero k)⟩ ⟨rfl,trivial⟩ trivial ?_
 rintro i ⟨hi,hk⟩
 refine go 9 ?_
 refine Zc rfl (fun h92=>?_) (fun h92=>?_)
 ·have hgi:=hsg _ (Ze (d:=G0) (show i<ps.length by omega))
  refine go 4 ?_
  refine jn (G:=Unit) [0,3,4,6] [0,1,2,3] (fun _=>[]) (fun _=>[]) (fun _=>¬(0<i∧joG (ps.getD (i-1) G0) (ps.getD i G0)=false)) ?_ ?_
  ·refine go 1 ?_
   rcases Zrm ps i with hc1 | ⟨hc1,hc2⟩ | ⟨hc1,hc2⟩
   ·refine Zg (Xi (g:=(ps.getD i G0)) (z:=(ps.getD i G0).2.1) 1 51 rfl rfl (Ze) O5) ?_
    refine Zg (Xi (g:=(ps.getD i G0)) (z:=(ps.getD i G0).2.2.1) 1 52 rfl rfl (Ze) O5) ?_
    refine Zg (Xi (g:=(ps.getD i G0)) (z:=(ps.getD i G0).2.2.2) 1 53 rfl rfl (Ze) O5) ?_
    refine Xw (fun _=>False) [(0,0),(1,0),(2,0),(3,2),(4,2),(5,2),(6,2),(7,2),(8,2),(9,2),(10,2),(11,2),(12,2),(13,2),(14,0)] ?_
    refine go 1 ?_
    refine Qn rfl rfl (Qh (Zz (r':= .bool false) (Za8 rfl rfl rfl) (congrArg Value.bool (decide_eq_false O)))) ?_
    refine go 17 ?_
    exact Pw () ((fun h=>absurd h.1 O)) trivial trivial
   ·refine Zg (Xi (g:=(ps.getD (i-1) G0)) (z:=(ps.getD (i-1) G0).2.1) 1 54 rfl rfl (Ze) O5) ?_
    refine Zg (Xi (g:=(ps.getD (i-1) G0)) (z:=(ps.getD (i-1) G0).2.2.1) 1 55 rfl rfl (Ze) O5) ?_
    refine Zg (Xi (g:=(ps.getD (i-1) G0)) (z:=(ps.getD (i-1) G0).2.2.2) 1 56 rfl rfl (Ze) O5) ?_
    refine Zg (Xi (g:=(ps.getD i G0)) (z:=(ps.getD i G0).2.1) 1 51 rfl rfl (Ze) O5) ?_
    refine Zg (Xi (g:=(ps.getD i G0)) (z:=(ps.getD i G0).2.2.1) 1 52 rfl rfl (Ze) O5) ?_
    refine Zg (Xi (g:=(ps.getD i G0)) (z:=(ps.getD i G0).2.2.2) 1 53 rfl rfl (Ze) O5) ?_
    refine Xw (fun _=>False) [(0,0),(1,0),(2,0),(3,0),(4,0),(5,0),(6,0),(7,0),(8,0),(9,0),(10,0),(11,0),(12,1),(13,0),(14,0)] ?_
    refine go 1 ?_
    refine Qn rfl rfl (Qh (Zz (r':= .bool true) (Za8 rfl rfl rfl) (congrArg Value.bool (decide_eq_true O)))) ?_
    refine go 4 ⟨O,?_⟩
    refine Eo (Qh (Zx (ii:=1) (i:=(i-1)) rfl rfl rfl rfl Zi Tryz.underlying29 Tryz.sizeOf24)) rfl rfl rfl rfl rfl ?_
    refine Eo (Qh (Xv (ii:=1) G0 rfl rfl rfl Zi pG)) rfl rfl rfl rfl rfl ?_
    refine go 2 ?_
    refine Eo (Qh (Zx (ii:=1) (i:=i) rfl rfl rfl rfl Zi Tryz.underlying29 Tryz.sizeOf24 rfl)) rfl rfl rfl rfl rfl ?_
    refine Eo (Qh (Xv (ii:=1) G0 rfl rfl rfl Zi pG)) rfl rfl rfl rfl rfl ?_
    refine Ze3 rfl rfl rfl rfl rfl (Yw (n:=3) (Zl5 _ _ _ _ _ _ _ _ _ _ _ _ _ _ _ _ _ _ (hsg _ (Ze)) hgi) rfl rfl rfl ⟨rfl,rfl,trivial⟩ Tryz.call15 (Zj 54 rfl rfl rfl (Zj 55 rfl rfl rfl (Zj 56 rfl rfl rfl (Zj 51 rfl rfl rfl (Zj 52 rfl rfl rfl (Zj 53 rfl rfl rfl Zn)))))) rfl hw.h) (fun _ _=>?_)
    refine Eo (Qh (Zz (r':= .bool false) (Xt rfl rfl) (congrArg (fun b=>Value.bool (!b)) hc2))) rfl rfl rfl rfl rfl ?_
    refine go 5 ?_
    exact Pw () ((fun h=>by rw [hc2]at h;cases h.2)) trivial trivial
   ·refine Zg (Xi (g:=(ps.getD (i-1) G0)) (z:=(ps.getD (i-1) G0).2.1) 1 54 rfl rfl (Ze) O5) ?_
    refine Zg (Xi (g:=(ps.getD (i-1) G0)) (z:=(ps.getD (i-1) G0).2.2.1) 1 55 rfl rfl (Ze) O5) ?_
    refine Zg (Xi (g:=(ps.getD (i-1) G0)) (z:=(ps.getD (i-1) G0).2.2.2) 1 56 rfl rfl (Ze) O5) ?_
    refine Zg (Xi (g:=(ps.getD i G0)) (z:=(ps.getD i G0).2.1) 1 51 rfl rfl (Ze) O5) ?_
    refine Zg (Xi (g:=(ps.getD i G0)) (z:=(ps.getD i G0).2.2.1) 1 52 rfl rfl (Ze) O5) ?_
    refine Zg (Xi (g:=(ps.getD i G0)) (z:=(ps.getD i G0).2.2.2) 1 53 rfl rfl (Ze) O5) ?_
    refine Xw (fun _=>False) [(0,0),(1,0),(2,0),(3,0),(4,0),(5,0),(6,0),(7,0),(8,0),(9,0),(10,0),(11,0),(12,1),(13,0),(14,0)] ?_
    refine go 1 ?_
    refine Qn rfl rfl (Qh (Zz (r':= .bool true) (Za8 rfl rfl rfl) (congrArg Value.bool (decide_eq_true O)))) ?_
    refine go 4 ⟨O,?_⟩
    refine Eo (Qh (Zx (ii:=1) (i:=(i-1)) rfl rfl rfl rfl Zi Tryz.underlying29 Tryz.sizeOf24)) rfl rfl rfl rfl rfl ?_
    refine Eo (Qh (Xv (ii:=1) G0 rfl rfl rfl Zi pG)) rfl rfl rfl rfl rfl ?_
    refine go 2 ?_
    refine Eo (Qh (Zx (ii:=1) (i:=i) rfl rfl rfl rfl Zi Tryz.underlying29 Tryz.sizeOf24 rfl)) rfl rfl rfl rfl rfl ?_
    refine Eo (Qh (Xv (ii:=1) G0 rfl rfl rfl Zi pG)) rfl rfl rfl rfl rfl ?_
    refine Ze3 rfl rfl rfl rfl rfl (Yw (n:=3) (Zl5 _ _ _ _ _ _ _ _ _ _ _ _ _ _ _ _ _ _ (hsg _ (Ze)) hgi) rfl rfl rfl ⟨rfl,rfl,trivial⟩ Tryz.call15 (Zj 54 rfl rfl rfl (Zj 55 rfl rfl rfl (Zj 56 rfl rfl rfl (Zj 51 rfl rfl rfl (Zj 52 rfl rfl rfl (Zj 53 rfl rfl rfl Zn)))))) rfl hw.h) (fun _ _=>?_)
    refine Eo (Qh (Zz (r':= .bool true) (Xt rfl rfl) (congrArg (fun b=>Value.bool (!b)) hc2))) rfl rfl rfl rfl rfl ?_
    refine go 7 ?_
    refine dt (Xg (ivs:=[(0,_),(1,_)]) rfl ⟨rfl,rfl,rfl,rfl,trivial⟩ (fun a w hs=>Zgv ((Zt rfl) a w hs) ((Zt rfl) a w hs))) ?_
    refine go 11 ?_
    exact Mj hsc () Tryz.results26 (by rw [Ao (i:=i) O hk (frB_1 hc1 hc2) O3]<;>rfl) trivial Za
  ·rintro _ hj
   refine go 2 ?_
   refine Zg (Xi (g:=(ps.getD i G0)) (z:=(ps.getD i G0).2.1) 1 51 rfl rfl (Ze) O5) ?_
   refine Zg (Xi (g:=(ps.getD i G0)) (z:=(ps.getD i G0).2.2.1) 1 52 rfl rfl (Ze) O5) ?_
   refine Zg (Xi (g:=(ps.getD i G0)) (z:=(ps.getD i G0).2.2.2) 1 53 rfl rfl (Ze) O5) ?_
   refine Xw (fun _=>False) [(0,0),(1,0),(2,0),(3,0),(4,0),(5,0),(6,1),(7,1)] ?_
   refine go 2 ?_
   refine Qn rfl rfl (Qh (Zx (ii:=1) (i:=i) rfl rfl rfl rfl Zi Tryz.underlying29 Tryz.sizeOf24 rfl)) ?_
   refine Qn rfl rfl (Qh (Xv (ii:=1) G0 rfl rfl rfl Zi pG)) ?_
   refine go 2 ?_
   refine Yf (Zk 4 [51,52,53] (Zyy _ _ _ _ _ _ _ _ _ _ hgi hs0 hs1)) fun g hg=>?_
   refine Yf (Zk 4 [4] (Zl6 _ _ (by rw [hg];exact(Gp hgi hs0 hs1 (.inl rfl)).2.2))) fun _ _=>?_
   refine go 2 ?_
   refine Nq rfl (fun h96=>?_) (fun h96=>?_)
   ·have hc3:Aj (Ek 1 sp (ps.getD i G0))=true:=by rw [hg]at h96;exact h96
    refine go 3 ?_
    refine dt (Xg (ivs:=[(0,_),(1,_)]) rfl ⟨rfl,rfl,rfl,rfl,trivial⟩ (fun a w hs=>Zgv ((Zt rfl) a w hs) ((Zt rfl) a w hs))) ?_
    refine go 11 ?_
    exact Mj hsc () Tryz.results26 (by rw [Ao (i:=i) O hk (frB_2 hj hc3) O3]<;>rfl) trivial Za
   ·have hc3:Aj (Ek 1 sp (ps.getD i G0))=false:=by rw [hg]at h96;exact h96
    refine go 3 ?_
    refine Xw (fun _=>False) [(0,0),(1,0),(2,0),(3,0),(4,0),(5,0),(6,1),(7,1)] ?_
    refine go 2 ?_
    refine Qn rfl rfl (Qh (Zx (ii:=1) (i:=i) rfl rfl rfl rfl Zi Tryz.underlying29 Tryz.sizeOf24 rfl)) ?_
    refine Qn rfl rfl (Qh (Xv (ii:=1) G0 rfl rfl rfl Zi pG)) ?_
    refine go 2 ?_
    refine Yf (Zk 5 [51,52,53] (Zgf _ _ _ _ _ _ _ _ _ _ hgi ha0 ha1)) fun g_2 hg_2=>?_
    refine Yf (Zk 5 [5] (Zl6 _ _ (by rw [hg_2];exact(Gp hgi ha0 ha1 (.inr rfl)).2.2))) fun _ _=>?_
    refine go 2 ?_
    refine Nq rfl (fun h99=>?_) (fun h99=>?_)
    ·have hc4:Aj (Ek 2 ac (ps.getD i G0))=true:=by rw [hg_2]at h99;exact h99
     refine go 3 ?_
     refine dt (Xg (ivs:=[(0,_),(1,_)]) rfl ⟨rfl,rfl,rfl,rfl,trivial⟩ (fun a w hs=>Zgv ((Zt rfl) a w hs) ((Zt rfl) a w hs))) ?_
     refine go 10 ?_
     exact Mj hsc () Tryz.results26 (by rw [Ao (i:=i) O hk (frB_3 hj hc3 hc4) O3]<;>rfl) trivial Za
    ·have hc4:Aj (Ek 2 ac (ps.getD i G0))=false:=by rw [hg_2]at h99;exact h99
     refine go 8 ⟨O,?_⟩
     exact Ys (i+1) ⟨O1,fun k h9=>by rcases Nat.lt_succ_iff_lt_or_eq.1 h9 with h8 | h8;exact hk k h8;subst h8;exact frB_0 hj hc3 hc4⟩ O1 ⟨rfl,trivial⟩ trivial
 ·obtain rfl:i=ps.length:=O
  refine go 7 ?_
  refine dt (Xg (ivs:=[]) rfl trivial (fun a w hs=>Yaa)) ?_
  refine go 5 ?_
  exact Mj hsc () Tryz.results26 (by rw [Zrr (Nat.le_refl _) hk]<;>rfl) trivial Za
set_option maxHeartbeats 1000000 in
theorem Ztu(v:Value)(ps:List Pi)(sp ac:Int)(hp:∀g∈ps,Gin g)(hf:Zkj ps 5=false):Cal Tryz.prog 5 #[v,.agg #[.int .i64 sp,.int .i64 ac]] [Np 6 Fa qG v ps] false (G:=Unit) (fun _=>True) (fun _=> .bool true) (fun _=>[]):=by
 refine Zh Tryz.func5 Tryz.ntmps5 fun w0 sc hw hsc=>?_
 refine go 2 ?_
 refine Zy (Yc 2) fun bx _=>?_
 refine go 7 ?_
 refine cl 2 [1] (Zh8 _ ps 5) fun _ _=>?_
 refine dt (Zz (r':= .bool true) (Xt rfl rfl) (congrArg (fun b=>Value.bool (!b)) hf)) ?_
 refine go 5 ?_
 refine cl 2 [] (Zc1) fun _ _=>?_
 refine go 5 ?_
 exact Yz hsc () Tryz.results5 rfl trivial Za
set_option maxHeartbeats 1000000 in
theorem Zzt(v:Value)(ps:List Pi)(sp ac:Int)(hp:∀g∈ps,Gin g)(hf:Zkj ps 5=true)(hb:Ic ps=false):Cal Tryz.prog 5 #[v,.agg #[.int .i64 sp,.int .i64 ac]] [Np 6 Fa qG v ps] false (G:=Unit) (fun _=>True) (fun _=> .bool true) (fun _=>[]):=by
 refine Zh Tryz.func5 Tryz.ntmps5 fun w0 sc hw hsc=>?_
 refine go 2 ?_
 refine Zy (Yc 2) fun bx _=>?_
 refine go 7 ?_
 refine cl 2 [1] (Zh8 _ ps 5) fun _ _=>?_
 refine dt (Zz (r':= .bool false) (Xt rfl rfl) (congrArg (fun b=>Value.bool (!b)) hf)) ?_
 refine go 9 ?_
 refine cl 2 [1] (Zj1 _ _ _ _ hp hb) fun _ _=>?_
 refine go 11 ?_
 refine cl 2 [1] (Zdo _ _ _ _ hp hb) fun _ _=>?_
 refine go 4 ?_
 refine Zy (Zs 3) fun bx_2 _=>?_
 refine go 9 ?_
 refine cl 3 [1] (Bp _ _ hp) fun _ _=>?_
 refine dt (Zz (r':= .bool true) (Xt rfl rfl) (congrArg (fun b=>Value.bool (!b)) hb)) ?_
 refine go 11 ?_
 refine dt (Zz (r':= .bool true) (Xt rfl rfl) rfl) ?_
 refine go 2 ?_
 refine ktg (decide_eq_true O3) ?_
 refine go 3 ?_
 refine Gx (Xg (ivs:=[]) rfl trivial (fun a w hs=>Yaa)) rfl rfl ?_
 refine Gx (Zz (r':= .bool true) (Zb5 rfl rfl rfl Yh2 (fun w=>Yee w _ _ _ _)) (congrArg Value.bool (decide_eq_true ⟨rfl,rfl⟩))) rfl rfl ?_
 refine go 3 ?_
 refine Gx (Zz (r':= .bool true) (Xt rfl rfl) rfl) rfl rfl ?_
 refine go 3 ?_
 refine ktg (decide_eq_true O3) ?_
 refine go 2 ?_
 refine Ez 3 [] (Zc1) fun _ _=>?_
 refine go 6 ?_
 exact Yz hsc () Tryz.results5 rfl trivial Za
set_option maxHeartbeats 1000000 in
theorem Zzs(v:Value)(ps:List Pi)(sp ac:Int)(hp:∀g∈ps,Gin g)(hf:Zkj ps 5=true)(hb:Ic ps=true)(hl:¬(1≤sp∧sp≤10000∧1≤ac∧ac≤10000)):Cal Tryz.prog 5 #[v,.agg #[.int .i64 sp,.int .i64 ac]] [Np 6 Fa qG v ps] false (G:=Unit) (fun _=>True) (fun _=> .bool true) (fun _=>[]):=by
 refine Zh Tryz.func5 Tryz.ntmps5 fun w0 sc hw hsc=>?_
 refine go 2 ?_
 refine Zy (Yc 2) fun bx _=>?_
 refine go 7 ?_
 refine cl 2 [1] (Zh8 _ ps 5) fun _ _=>?_
 refine dt (Zz (r':= .bool false) (Xt rfl rfl) (congrArg (fun b=>Value.bool (!b)) hf)) ?_
 refine go 9 ?_
 refine cl 2 [1] (Zj0 _ _ _ _ hp hb hl) fun _ _=>?_
 refine go 11 ?_
 refine cl 2 [1] (Zdn _ _ _ _ hp hb hl) fun _ _=>?_
 refine go 4 ?_
 refine Zy (Zs 3) fun bx_2 _=>?_
 refine go 9 ?_
 refine cl 3 [1] (Bp _ _ hp) fun _ _=>?_
 refine dt (Zz (r':= .bool false) (Xt rfl rfl) (congrArg (fun b=>Value.bool (!b)) hb)) ?_
 refine go 2 ?_
 refine Ez 3 [] (Zl3 _ _) fun _ _=>?_
 refine Gx (Zz (r':= .bool true) (Xt rfl rfl) (congrArg (fun b=>Value.bool (!b)) (decide_eq_false hl))) rfl rfl ?_
 refine go 7 ?_
 refine dt (Zz (r':= .bool true) (Xt rfl rfl) rfl) ?_
 refine go 2 ?_
 refine ktg (decide_eq_true O3) ?_
 refine go 3 ?_
 refine Gx (Xg (ivs:=[]) rfl trivial (fun a w hs=>Yaa)) rfl rfl ?_
 refine Gx (Zz (r':= .bool true) (Zb5 rfl rfl rfl Yh2 (fun w=>Yee w _ _ _ _)) (congrArg Value.bool (decide_eq_true ⟨rfl,rfl⟩))) rfl rfl ?_
 refine go 3 ?_
 refine Gx (Zz (r':= .bool true) (Xt rfl rfl) rfl) rfl rfl ?_
 refine go 3 ?_
 refine ktg (decide_eq_true O3) ?_
 refine go 2 ?_
 refine Ez 3 [] (Zc1) fun _ _=>?_
 refine go 6 ?_
 exact Yz hsc () Tryz.results5 rfl trivial Za
set_option maxHeartbeats 1000000 in
theorem Zzr(v:Value)(ps:List Pi)(sp ac:Int)(hp:∀g∈ps,Gin g)(hf:Zkj ps 5=true)(hb:Ic ps=true)(hl:(1≤sp∧sp≤10000∧1≤ac∧ac≤10000)):Cal Tryz.prog 5 #[v,.agg #[.int .i64 sp,.int .i64 ac]] [Np 6 Fa qG v ps] false (G:=Unit) (fun _=>True) (fun _=> .bool true) (fun _=>[]):=by
 refine Zh Tryz.func5 Tryz.ntmps5 fun w0 sc hw hsc=>?_
 have hsg:=Zny hp hb
 refine go 2 ?_
 refine Zy (Yc 2) fun bx _=>?_
 refine go 7 ?_
 refine cl 2 [1] (Zh8 _ ps 5) fun _ _=>?_
 refine dt (Zz (r':= .bool false) (Xt rfl rfl) (congrArg (fun b=>Value.bool (!b)) hf)) ?_
 refine go 9 ?_
 refine cl 2 [1] (Zmm _ _ _ _ hp hb hl) fun _ _=>?_
 refine go 11 ?_
 refine cl 2 [1] (Zj2 _ _ _ _ hp hb hl) fun _ _=>?_
 refine go 4 ?_
 refine Zy (Zs 3) fun bx_2 _=>?_
 refine go 9 ?_
 refine cl 3 [1] (Bp _ _ hp) fun _ _=>?_
 refine dt (Zz (r':= .bool false) (Xt rfl rfl) (congrArg (fun b=>Value.bool (!b)) hb)) ?_
 refine go 2 ?_
 refine Ez 3 [] (Zl3 _ _) fun _ _=>?_
 refine Gx (Zz (r':= .bool false) (Xt rfl rfl) (congrArg (fun b=>Value.bool (!b)) (decide_eq_true hl))) rfl rfl ?_
 refine go 10 ?_
 refine cl 3 [1] (Zyz _ _ _ _ hsg O O O O) fun _ _=>?_
 refine go 3 ?_
 refine Zy (Zs 4) fun bx_3 _=>?_
 refine go 7 ?_
 refine kt (decide_eq_true O3) ?_
 refine go 2 ?_
 refine ktg (decide_eq_true O3) ?_
 refine go 5 ?_
 refine ktg (beq_self_eq_true _) ?_
 refine go 4 ?_
 refine ktg (beq_self_eq_true _) ?_
 refine go 4 ?_
 refine Gx (Zz (r':= .bool true) (Zb5 rfl rfl rfl Yh2 (fun w=>Yee w _ _ _ _)) (congrArg Value.bool (decide_eq_true ⟨rfl,rfl⟩))) rfl rfl ?_
 refine go 2 ?_
 refine Ez 4 [] (Zc1) fun _ _=>?_
 refine go 5 ?_
 exact Yz hsc () Tryz.results5 rfl trivial Za
theorem law_l1(v:Value)(ps:List Pi)(sp ac:Int)(hp:∀g∈ps,Gin g) :
  Cal prog 5 #[v,.agg #[.int .i64 sp,.int .i64 ac]] [Np 6 Fa qG v ps] false (G:=Unit) (fun _=>True) (fun _=> .bool true) (fun _=>[]):=by
 cases hf:Zkj ps 5 with
 | false=>exact Ztu v ps sp ac hp hf
 | true=>
  cases hb:Ic ps with
  | false=>exact Zzt v ps sp ac hp hf hb
  | true=>
   by_cases h1:1≤sp∧sp≤10000∧1≤ac∧ac≤10000
   ·exact Zzr v ps sp ac hp hf hb h1
   ·exact Zzs v ps sp ac hp hf hb h1
end Go.Sky
namespace Go.Proofs.YtljmhpopdmadkaaGreat
open Go.ChangeShapes Go.WideShapes Go.ChangeAt Go.RowKit Go.Joins Go.Deep Go.Sky
theorem own:ownKnob Tryz.prog.godebug=none:=O6
theorem Zwo:laidOutB Tryz.prog=true:=O6
set_option maxRecDepth 100000 in
theorem lifted(os:Os)(started:os.Started)(H:Type)(enc:TypeId×Value→H) :
  ReturnsInHanded {} Tryz.checked os 5 .any (Rows.limitsFirstSpec.pre6 enc Tryz.prog Tryz.f5 Rows.limitsFirstRow.domain false) (Rows.limitsFirstSpec.post enc Tryz.prog Tryz.f5 false true false false):=by
 refine returnsInHanded_of_change (C:=Tryz.checked) own started O6 Tryz.func5
  (ChangeSpec.witness6 (enc:=enc) (C:=Tryz.checked) false ⟨#[],#[.slice none 0 0,.agg #[.int .i64 0,.int .i64 0]],[]⟩ 8 O6 O6 O6 O6) ?_
 intro W base args ds gs before hval0 hW hcnd _
 have hval:∀(j:Nat) t v,Tryz.f5.params[j]? = some t→args[j]? = some v→Value.okWide Tryz.prog W .any base t v:=hval0
 have hW':=hW
 obtain⟨p,q,hA0,hV,rfl,hfz,hnd⟩:=hW
 have hA:DataW.TrodAll enc Tryz.prog W 0 (fun _=>true) true Tryz.f5.params.toList args.toList ds p:=hA0
 rw [Tryz.params5]at hA hval
 obtain⟨v0,vs0,d0,ds0,p0,q0,hargs,rfl,rfl,h0,r0⟩:=trodAll_cons hA
 obtain⟨v1,vs1,d1,ds1,p1,q1,rfl,rfl,rfl,h1,r1⟩:=trodAll_cons r0
 obtain⟨rfl,rfl,rfl⟩:=trodAll_nil r1
 obtain rfl:args=#[v0,v1]:=by cases args;simp_all
 obtain⟨rfl,rfl⟩:=trodVars_none hV
 have lt0:∀x∈p0,x.block<W.heap.size:=by obtain⟨m,hm⟩:=h0;exact DataW.trod_lt m _ _ _ hm
 obtain⟨l0,hl0,hn0⟩:=Zza Tryz.underlying29 Tryz.underlying24 rfl rfl rfl rfl rfl rfl rfl rfl rfl rfl rfl rfl Tryz.underlying3 Tryz.underlying22 Tryz.underlying3 O6 O6 O6 O6 (hval 0 29 v0 rfl rfl) h0
 have lt1:∀x∈p1,x.block<W.heap.size:=by obtain⟨m,hm⟩:=h1;exact DataW.trod_lt m _ _ _ hm
 obtain⟨sp1,ac1,rfl,-,-⟩:=Ycy Tryz.underlying26 O6 rfl rfl Tryz.underlying3 Tryz.underlying3 O6 O6 (hval 1 26 v1 rfl rfl) h1
 clear hA0 hval0
 refine(law_l1 v0 l0 sp1 ac1 hn0 W (fun p hp=>by cases hp with | head=>exact hl0 | tail _ hp=>cases hp)).mono fun e W' ⟨_,he,_,bel,_⟩=>?_
 subst he
 exact⟨_,rfl,_,_,_,[],_,[],hW',trodAll_mk1 (shut_bool Tryz.underlying4 _),(trodAll_cons_mk (Below.trod Zwo O6 (of_decide_eq_true O6) h0 bel lt0) (trodAll_cons_mk (Below.trod Zwo O6 (of_decide_eq_true O6) h1 bel lt1) trodAll_mk0)),rfl,bel.frame _,fun h=>by cases h⟩
theorem x_holds : Rows.LimitsFirstSaid :=
 OpenClaim.holds_of_wide 5 Tryz.f5 rfl rfl rfl rfl rfl rfl rfl ⟨rfl,rfl,rfl,rfl,rfl⟩ rfl rfl rfl rfl rfl O6 Tryz.func5 O6
  (of_decide_eq_true O6) (by unfold Func.isWrapper;first | (rw [if_pos O9];kernel_rfl) | (rw [if_neg O9];exact⟨rfl,rfl⟩))
  (fun os started H enc _=>lifted os started H enc)
#print axioms x_holds
end Go.Proofs.YtljmhpopdmadkaaGreat

