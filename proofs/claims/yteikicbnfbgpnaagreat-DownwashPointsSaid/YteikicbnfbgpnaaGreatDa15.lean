/- Rules, arithmetic and contracts: part 16. No conditions but those that each theorem names. -/
import Derived.Test.YteikicbnfbgpnaaGreatDa14
set_option linter.all false
set_option maxHeartbeats 4000000
namespace Go.Sky
open Go.Proofs
set_option synthInstance.maxHeartbeats 0
set_option synthInstance.maxSize 100000
set_option maxRecDepth 20000
set_option maxHeartbeats 4000000
set_option linter.unusedSimpArgs false
theorem Zvj(va vb:Value)(pa pb:List Zn)(hpa:∀g∈pa,Gin g)(hpb:∀g∈pb,Gin g)(hba:Ox pa=true)(hbb:Ox pb=true)(hla:pa.length≤5)(hlb:pb.length≤5):Cal Tryz.prog 83 #[va,vb] [Ps 6 Mp qG va pa,Ps 6 Mp qG vb pb] true (G:=(Value×List Zn)×(Value×List Zn)) (fun g=>g.1.2.map unS=Ks pa pb pa∧g.2.2.map unS=Ks pa pb pb) (fun g=> .tuple #[g.1.1,g.2.1,.int .i64 (Cq pa pb)]) (fun g=>[Ps 6 Mp qG g.1.1 g.1.2,Ps 6 Mp qG g.2.1 g.2.2]):=by
 refine Zd Tryz.func83 Tryz.ntmps83 fun w0 sc hw hsc=>?_
 refine Zwm (Md 1 rfl Yl) (fun sa hsa=>?_)
 subst hsa
 refine Zwm (Md 2 rfl Yl) (fun sb hsb=>?_)
 subst hsb
 obtain⟨-,hla1,hla2⟩:=Ea hba
 obtain⟨-,hlb1,hlb2⟩:=Ea hbb
 have hsga:=Zs3 hpa hba
 have hsgb:=Zs3 hpb hbb
 have hbl:=Ztl pa pb
 have hl2:([sa,sb]:List SL).length=2:=rfl
 refine go 11 ?_
 refine cl 2 [1] (Zcw _ _ hpa) fun _ _=>?_
 refine dt (Zp (r':= .bool false) (Xt rfl rfl) (congrArg (fun b=>Value.bool (!b)) hba)) ?_
 refine go 2 ?_
 refine Hs 2 [2] (Zcw _ _ hpb) fun _ _=>?_
 refine Da (Zp (r':= .bool false) (Xt rfl rfl) (congrArg (fun b=>Value.bool (!b)) hbb)) rfl rfl ?_
 refine go 7 ?_
 refine Qe (fun _=>False) [(0,0),(1,0),(2,0),(3,0),(4,0),(5,0),(6,0),(7,0),(8,0),(9,0),(10,0),(11,0),(12,0),(13,0),(14,0),(15,0),(16,0),(17,0),(18,0),(19,0),(20,0),(21,0),(22,0),(23,0),(24,0),(25,3)] ?_
 refine go 2 ⟨O,?_⟩
 refine Qb rfl rfl (Ph (Zj2 (ii:=1) rfl rfl rfl Yl Tryz.underlying35 rfl Tryz.sizeOf3 rfl)) ?_
 refine Qb rfl rfl (Ph (Zj1 (ii:=1) G0 rfl rfl rfl Yl Tryz.isAgg3 rfl)) ?_
 refine go 2 ⟨O,?_⟩
 refine Qb rfl rfl (Ph (Zj2 (ii:=2) rfl rfl rfl Yl Tryz.underlying35 rfl Tryz.sizeOf3 rfl)) ?_
 refine Qb rfl rfl (Ph (Zj1 (ii:=2) G0 rfl rfl rfl Yl Tryz.isAgg3 rfl)) ?_
 refine Qb rfl rfl (Ph (Zp (r':= .int .i64 (cmF pa pb)) (Zfb rfl rfl rfl) rfl)) ?_
 refine go 4 ⟨O,?_⟩
 refine Qb rfl rfl (Ph (Ym (ii:=1) (i:=(pa.length-1)) rfl rfl rfl rfl Yl Tryz.underlying38 Tryz.sizeOf35)) ?_
 refine Qb rfl rfl (Ph (Zj2 (ii:=1) rfl rfl rfl Yl Tryz.underlying35 rfl Tryz.sizeOf3 rfl)) ?_
 refine Qb rfl rfl (Ph (Zj1 (ii:=1) G0 rfl rfl rfl Yl Tryz.isAgg3 rfl)) ?_
 refine go 4 ⟨O,?_⟩
 refine Qb rfl rfl (Ph (Ym (ii:=2) (i:=(pb.length-1)) rfl rfl rfl rfl Yl Tryz.underlying38 Tryz.sizeOf35)) ?_
 refine Qb rfl rfl (Ph (Zj2 (ii:=2) rfl rfl rfl Yl Tryz.underlying35 rfl Tryz.sizeOf3 rfl)) ?_
 refine Qb rfl rfl (Ph (Zj1 (ii:=2) G0 rfl rfl rfl Yl Tryz.isAgg3 rfl)) ?_
 refine Qb rfl rfl (Ph (Zp (r':= .int .i64 (cmL pa pb)) (d_min rfl rfl rfl) rfl)) ?_
 refine go 12 ?_
 refine Zc rfl (fun h320=>?_) (fun h320=>?_)
 ·have hge:cmF pa pb≥cmL pa pb:=h320
  refine go 9 ?_
  refine Yw (Zc0 72 6 Mp qG) ?_
  exact xe3 hsc ((.slice none 0 0,[]),(.slice none 0 0,[])) Tryz.results83 (by rw [(Ybv hge pa).1]) ⟨(Ybv hge pa).2.symm,(Ybv hge pb).2.symm⟩ (Nz 72 (Nz 72 Za))
 ·have hge:¬cmF pa pb≥cmL pa pb:=h320
  have hB:=bks (a:=pa) (b:=pb) O
  have hB2:=hB.two
  refine go 6 ?_
  refine tt (Qz (i:=60) (ivs:=[(0,_),(1,_)]) (enc:=Yu) ([cmF pa pb,cmL pa pb]:List Int) rfl rfl ⟨rfl,rfl,rfl,rfl,trivial⟩ Tryz.underlying33 Tryz.ti3 rfl rfl rfl rfl rfl pZ.cells rfl rfl hw.h) (fun v _=>?_)
  refine go 8 ?_
  refine tt (Qz (i:=61) (ivs:=[(0,_),(1,_)]) (enc:=Qq) ([sa,sb]:List SL) rfl rfl ⟨rfl,rfl,rfl,rfl,trivial⟩ Tryz.underlying61 Tryz.ti38 rfl rfl rfl rfl rfl pPa.cells rfl rfl hw.h) (fun v_2 _=>?_)
  refine go 5 ?_
  refine lp (G:=Nat×Value) [0,1,4,5,7,8,59,60] [0,1,2,61] (fun q=>[(61,.int .i64 (q.1:Int)),(9,q.2)]) (fun q=>[(60,Pu 1 3 Yu q.2 (Zct pa pb q.1))]) (fun q=>q.1≤2) (fun q=>2-q.1) (0,_) O1 ⟨rfl,rfl,trivial⟩ ⟨rfl,trivial⟩ ?_
  rintro⟨i,vt⟩ hi
  dsimp only at hi
  dsimp only
  refine go 6 ?_
  refine Zc rfl (fun h324=>?_) (fun h324=>?_)
  ·refine go 5 ?_
   refine Zi (Ydz (sd:=(none,0,0)) i 1 2 50 rfl rfl rfl rfl O) ?_
   refine go 1 ?_
   refine dt (Ym (ii:=61) (i:=i) rfl rfl rfl rfl (Yj pPa) Tryz.underlying61 Tryz.sizeOf38 rfl O8) ?_
   refine dt (Lz (ii:=61) (none,0,0) rfl rfl rfl (Yj pPa) pPa O8) ?_
   refine go 11 ?_
   refine lp (G:=Nat×Value) [0,1,4,5,7,8,59,60,61,65,66] [0,1,2,61,50] (fun q=>[(67,.int .i64 (q.1:Int)),(9,q.2)]) (fun q=>[(60,Pu 1 3 Yu q.2 (tik pa pb i q.1))]) (fun q=>q.1≤(Gb i pa pb).length) (fun q=>(Gb i pa pb).length-q.1) (0,_) O1 ⟨rfl,rfl,trivial⟩ ⟨by rw [tik_0];rfl,trivial⟩ ?_
   rintro⟨k,vu⟩ hk
   dsimp only at hk
   dsimp only
   have hln:=Yew pa pb i k
   have hsl:=Zoi pa pb i
   refine go 6 ?_
   refine Zc rfl (fun h325=>?_) (fun h325=>?_)
   ·refine go 5 ?_
    refine Zi (Nv (g:=((Gb i pa pb).getD k G0)) (z:=((Gb i pa pb).getD k G0).2.1) 50 51 rfl rfl (Zu) O6) ?_
    refine Zi (Nv (g:=((Gb i pa pb).getD k G0)) (z:=((Gb i pa pb).getD k G0).2.2.1) 50 52 rfl rfl (Zu) O6) ?_
    refine Zi (Nv (g:=((Gb i pa pb).getD k G0)) (z:=((Gb i pa pb).getD k G0).2.2.2) 50 53 rfl rfl (Zu) O6) ?_
    refine go 2 ⟨O2,?_⟩
    refine dt (Lz (ii:=50) G0 rfl rfl rfl Yl pG O2) ?_
    refine Yc (Zr 3) fun bx _=>?_
    refine go 10 ?_
    refine Yv (d:=75) rfl (fun s326=>?_) (fun s326=>?_)
    ·refine go 7 ?_
     refine Zc rfl (fun h326=>?_) (fun h326=>?_)
     ·refine go 4 ?_
      refine tt (Qz (i:=4) (ivs:=[(0,_)]) (enc:=Yu) ([((Gb i pa pb).getD k G0).1.1]:List Int) rfl rfl ⟨rfl,rfl,trivial⟩ Tryz.underlying33 Tryz.ti3 rfl rfl rfl rfl rfl pZ.cells rfl rfl hw.h) (fun v_3 _=>?_)
      refine tt (Kg (i:=60) (j:=4) (by_:=8) rfl rfl rfl rfl rfl rfl O3 rfl (Yj pZ) Tryz.underlying33 Tryz.ti3 rfl pZ rfl rfl rfl O8 O3 rfl hw.h) (fun v_4 _=>?_)
      refine go 8 ⟨O,?_⟩
      exact Xg (k+1,_) O1 O1 ⟨rfl,rfl,trivial⟩ ⟨by rw [tik_t O O O];rfl,trivial⟩
     ·refine go 7 ⟨O,?_⟩
      exact Xg (k+1,_) O1 O1 ⟨rfl,rfl,trivial⟩ ⟨by rw [tik_f O O];rfl,trivial⟩
    ·refine go 15 ⟨O,?_⟩
     exact Xg (k+1,_) O1 O1 ⟨rfl,rfl,trivial⟩ ⟨by rw [tik_f O O];rfl,trivial⟩
   ·obtain rfl:k=(Gb i pa pb).length:=O
    refine go 10 ⟨O,?_⟩
    exact Xg (i+1,_) O1 O1 ⟨rfl,rfl,trivial⟩ ⟨by rw [←tik_e O];rfl,trivial⟩
  ·obtain rfl:i=2:=O
   refine go 6 ?_
   refine e_obox 60 rfl rfl (tms_ne pa pb 2) rfl hw.h (fun bq cq rq hv hr1 hr2=>?_)
   subst hv
   have h2t:=tms_2 pa pb 2
   have hlt:=Zld pa pb 2
   refine go 2 ?_
   refine tt (Xp (n:=4) (i:=60) (Yds _ _ _ _ O O) rfl rfl rfl ⟨rfl,trivial⟩ Tryz.call150 rfl O3 Yf rfl hw.h trivial) (fun gs hgs=>?_)
   have hsl:=hgs.1.1
   rw [←hsl]
   refine go 5 ?_
   refine tt (Xp (n:=4) (i:=60) (sl_cmp _ _ _ _ O O O hgs.2) rfl rfl rfl ⟨rfl,trivial⟩ Tryz.call151 rfl O3 Yf rfl hw.h trivial) (fun gc hgc=>?_)
   refine go 5 ?_
   obtain⟨gz,gr⟩:=gc
   have hzl:gz.length+gr.length=gs.length+rq.length:=hgc.2
   obtain rfl:gz=Mg pa pb:=Yby hgs.1 hgc.1
   refine Zi (Ydy (xs:=Mg pa pb) (r:=gr) (c:=cq) 60 rfl rfl O hr2 rfl hw.h) ?_
   refine go 5 ?_
   refine Zi (Nw 74 6 35 Mp) ?_
   refine Zi (Nw 75 6 35 Mp) ?_
   refine Zi (Pb qG 76) ?_
   refine Zi (Pb qG 77) ?_
   refine lp (G:=Nat×Value×List Zn×Value×List Zn) [0,1,9] [0,60,1,2] (fun q=>[(14,.int .i64 ((q.1+1:Nat):Int)),(4,q.2.1),(5,q.2.2.2.1)]) (fun q=>[(74,Pu 6 35 Mp q.2.1 q.2.2.1),(75,Pu 6 35 Mp q.2.2.2.1 q.2.2.2.2),(76,Gc qG q.2.2.1),(77,Gc qG q.2.2.2.2)]) (fun q=>(q.1+1≤(Mg pa pb).length)∧(Fm (Mg pa pb) pa pb q.1=true)∧(q.2.2.1.map unS=Zfk (Mg pa pb) pa q.1)∧(q.2.2.2.2.map unS=Zfk (Mg pa pb) pb q.1)∧(q.2.2.1.length=q.1)∧(q.2.2.2.2.length=q.1)) (fun q=>(Mg pa pb).length-q.1) (0,.slice none 0 0,[],.slice none 0 0,[]) ⟨O,rfl,rfl,rfl,rfl,rfl⟩ ⟨rfl,rfl,rfl,trivial⟩ ⟨rfl,rfl,rfl,rfl,trivial⟩ ?_
   rintro⟨n,v4,z4,v5,z5⟩ ⟨hn,hkk,hz4,hz5,hl4,hl5⟩
   dsimp only at hn hkk hz4 hz5 hl4 hl5
   dsimp only
   refine go 9 ?_
   refine Zc rfl (fun h333=>?_) (fun h333=>?_)
   ·refine go 5 ?_
    refine Qe (fun _=>False) [(0,0),(1,0),(2,0),(3,0),(4,0),(5,0),(6,0),(7,0),(8,0),(9,0),(10,1),(11,0),(12,0),(13,0),(14,0),(15,3)] ?_
    refine go 4 ⟨O,?_⟩
    refine Qb rfl rfl (Ph (Ym (ii:=60) (i:=n) rfl rfl rfl rfl (Yj pZ) Tryz.underlying33 Tryz.sizeOf3)) ?_
    refine go 3 ⟨O,?_⟩
    refine Qb rfl rfl (Ph (Ym (ii:=60) (i:=(n+1)) rfl rfl rfl rfl (Yj pZ) Tryz.underlying33 Tryz.sizeOf3 rfl)) ?_
    refine go 1 ⟨O,?_⟩
    refine Yz (Zf 84 [1] (Zx4 _ _ _ _ hsga (lh_M hpa hba) hla2)) fun g hg=>?_
    refine go 8 ?_
    refine Qe (fun _=>False) [(0,0),(1,0),(2,0),(3,0),(4,0),(5,0),(6,0),(7,0),(8,0),(9,0),(10,1),(11,0),(12,0),(13,0),(14,0),(15,3)] ?_
    refine go 4 ⟨O,?_⟩
    refine Qb rfl rfl (Ph (Ym (ii:=60) (i:=n) rfl rfl rfl rfl (Yj pZ) Tryz.underlying33 Tryz.sizeOf3)) ?_
    refine go 3 ⟨O,?_⟩
    refine Qb rfl rfl (Ph (Ym (ii:=60) (i:=(n+1)) rfl rfl rfl rfl (Yj pZ) Tryz.underlying33 Tryz.sizeOf3 rfl)) ?_
    refine go 1 ⟨O,?_⟩
    refine Yz (Zf 86 [2] (Zx4 _ _ _ _ hsgb (lh_M hpb hbb) hlb2)) fun g_2 hg_2=>?_
    refine go 9 ?_
    rcases Zva (Pf ((Mg pa pb).getD n 0) ((Mg pa pb).getD (n+1) 0) pa) (Pf ((Mg pa pb).getD n 0) ((Mg pa pb).getD (n+1) 0) pb)with hc1 | ⟨hc1,hc2⟩ | ⟨hc1,hc2⟩
    ·refine go 2 ?_
     refine kt (decide_eq_true (by rw [Ybt hc1];decide)) ?_
     refine go 21 ?_
     refine Yw (Zc0 72 6 Mp qG) ?_
     exact xe3 hsc ((.slice none 0 0,[]),(.slice none 0 0,[])) Tryz.results83 (by rw [(Zj3 hge O (Zr1 hc1) pa).1]) ⟨(Zj3 hge O (Zr1 hc1) pa).2.symm,(Zj3 hge O (Zr1 hc1) pb).2.symm⟩ (Nz 72 (Nz 72 Za))
    ·refine go 2 ?_
     refine kf (decide_eq_false (by rw [Zrg hc1];decide)) ?_
     refine go 2 ?_
     refine ktg (decide_eq_true (by rw [Ybt hc2];decide)) ?_
     refine go 18 ?_
     refine Yw (Zc0 72 6 Mp qG) ?_
     exact xe3 hsc ((.slice none 0 0,[]),(.slice none 0 0,[])) Tryz.results83 (by rw [(Zj3 hge O (Zr0 hc2) pa).1]) ⟨(Zj3 hge O (Zr0 hc2) pa).2.symm,(Zj3 hge O (Zr0 hc2) pb).2.symm⟩ (Nz 72 (Nz 72 Za))
    ·refine go 2 ?_
     refine kf (decide_eq_false (by rw [Zrg hc1];decide)) ?_
     refine go 2 ?_
     refine kfg (decide_eq_false (by rw [Zrg hc2];decide)) ?_
     refine go 6 ?_
     have hu1:=com_ua hpa hba hB O hc1 hg
     have hu2:=com_ub hpb hbb hB O hc2 hg_2
     refine go 3 ?_
     refine tt (Kg (i:=74) (j:=84) (by_:=96) rfl rfl rfl rfl rfl rfl O3 rfl Yl Tryz.underlying38 Tryz.ti35 rfl pG rfl rfl rfl (by rw [hu1];omega) O3 rfl hw.h) (fun v_5 _=>?_)
     refine go 2 ?_
     refine tt (Kg (i:=75) (j:=86) (by_:=96) rfl rfl rfl rfl rfl rfl O3 rfl Yl Tryz.underlying38 Tryz.ti35 rfl pG rfl rfl rfl (by rw [hu2];omega) O3 rfl hw.h) (fun v_6 _=>?_)
     refine Xu (Zgy 84 85 rfl rfl) ?_
     refine Xu (Zgx 76 85 76 rfl rfl rfl rfl) ?_
     refine Xu (Zgy 86 87 rfl rfl) ?_
     refine Xu (Zgx 77 87 77 rfl rfl rfl rfl) ?_
     refine go 10 ⟨O,?_⟩
     exact Xg (n+1,_,z4 ++ g.2,_,z5 ++ g_2.2) ⟨O1,com_k hkk hc1 hc2,com_z hz4 hg,com_z hz5 hg_2,by rw [List.length_append,hl4,hu1],by rw [List.length_append,hl5,hu2]⟩ O1 ⟨rfl,rfl,rfl,trivial⟩ ⟨rfl,rfl,rfl,rfl,trivial⟩
   ·have hne:n+1=(Mg pa pb).length:=O
    refine go 10 ?_
    refine kf (decide_eq_false O) ?_
    refine go 15 ?_
    refine Yw (Pg 74 rfl rfl pG) ?_
    refine Yw (Kz 74 76 78 rfl rfl rfl rfl) ?_
    refine Yw (Pg 75 rfl rfl pG) ?_
    refine Yw (Kz 75 77 79 rfl rfl rfl rfl) ?_
    exact xe3 hsc ((v4,z4),(v5,z5)) Tryz.results83 (by rw [(Ybw hge hne hkk).1]) ⟨hz4.trans ((Ybw hge hne hkk).2 pa).symm,hz5.trans ((Ybw hge hne hkk).2 pb).symm⟩ (Nz 78 (Nz 79 Za))
open Go.Proofs.Tryz
theorem Ydn(v:Value)(xs:List Int)(hv:Vp xs):Pn prog 314 #[v] [Yk 2 wv v xs] (.bool (decide (Cb xs))):=by
 refine Zd func314 ntmps314 fun w0 sc hw hsc=>?_
 have hlen:=hv.len
 have hmz:=Qu hv.sz
 have q1:(xs.length+2)*(xs.length+2)≤27*27:=Nat.mul_le_mul O O
 have q2:(xs.length+2)*(xs.length+2)*(Xz xs+16)≤27*27*65552:=Nat.mul_le_mul q1 O
 have q3:((xs.length:Int)-1+3)*((xs.length:Int)-1+3)=(((xs.length+2)*(xs.length+2):Nat):Int):=by rw [show(xs.length:Int)-1+3=((xs.length+2:Nat):Int) by omega];push_cast;rfl
 have q4:((xs.length:Int)-1+3)*((xs.length:Int)-1+3)*((Xz xs:Int)+16)=(((xs.length+2)*(xs.length+2)*(Xz xs+16):Nat):Int):=by rw [q3];push_cast;rfl
 refine go 9 ?_
 refine cl 1 [1] (Ys _ _ ‹_›) fun _ _=>go 9 ?_
 refine cl 1 [1] (Ze6 _ _ hv) fun _ _=>go 10 ?_
 refine cl 1 [1] (Zjo _ _ hv) fun _ _=>go 13 ?_
 refine Yv (d:=23) J (fun s24=>?_) (fun s24=>?_)
 ·refine go 14 ?_
  exact Xo hsc () results314 (by first | exact sf_t O | exact sf_i O q4) trivial Za
 ·refine go 14 ⟨O,O,by rw [q3];exact⟨O,O⟩,O,by rw [q4];exact⟨O,O⟩,?_⟩
  exact Xo hsc () results314 (by first | exact sf_t O | exact sf_i O q4) trivial Za
theorem Zvg(v:Value)(xs:List Int)(hv:Vp xs):Pn prog 306 #[v,.slice none 0 0] [Yk 2 wv v xs] (.int .i64 (Zrn xs)):=by
 refine Zd func306 ntmps306 fun w0 sc hw hsc=>?_
 refine Zi (Nw 999 2 80 wv)<|Zi (Pg 999 J J pV)<|go 8 ?_
 refine cl 1 [1] (Ydn _ _ hv) fun _ _=>go 13 ?_
 refine lp (G:=Unit) [0,1,13,14] [0,1,999] (fun _=>[(15,.int .i64 0),(5,.bool (decide (¬Cb xs)))]) (fun _=>[]) (fun _=>True) (fun _=>0) () trivial K2 trivial ?_
 rintro _ -
 refine go 2 ?_
 refine kf O3<|go 13 ?_
 refine cl 1 [1] (Ys _ _ ‹_›) fun _ _=>go 14 ?_
 refine Zc J (fun h39=>?_) (fun h39=>?_)
 ·refine go 7 ?_
  exact Xo hsc () results306 (by unfold Zrn;rw [if_pos O]) trivial Za
 ·refine go 7 ?_
  refine kf O3<|go 11 ?_
  refine My J (fun h47=>?_) (fun h47=>?_)
  ·refine go 7 ?_
   exact Xo hsc () results306 (by unfold Zrn;rw [if_neg O,if_neg (by simpa using h47)]) trivial Za
  ·refine go 8 ?_
   exact Xo hsc () results306 (by unfold Zrn;rw [if_neg O,if_pos (by simpa using h47)]) trivial Za
theorem Zm6(v:Value)(xs:List Int)(hv:Vp xs)(h0:xs≠[]):Cal prog 307 #[v] [Yk 2 wv v xs] true (G:=Value) (fun r=>True) (fun r=> .tuple #[r,.int .i64 0]) (fun r=>[Yk 2 wv r (Yt xs)]):=by
 refine Zd func307 ntmps307 fun w0 sc hw hsc=>?_
 have hvp:=Lo hv
 have hl0:=List.length_pos_iff.2 h0
 have hlp:=Zo xs
 have hlen:=hv.len
 refine go 9 ?_
 refine cl 2 [1] (Oj _ _ hv) fun _ _=>go 11 ?_
 refine kt O3<|go 5 ⟨O,?_⟩
 refine Da (Ym (ii:=2) (i:=((Zx xs).length-1)) J J J J Zk Oh Ln) J J<|go 1 ⟨O2,?_⟩
 refine Hs 2 [] (Lt _ (hvp.sz _)) fun _ _=>go 4 ?_
 refine Zc J (fun h56=>?_) (fun h56=>?_)
 ·refine go 3 ?_
  refine cl 2 [] (Zh _ ⟨O3,O3⟩) fun _ _=>cl 3 [2] (Nr _ _ _ hvp O7 (fun i=>Br hvp.sz i)) fun _ _=>go 8 ?_
  exact Nu hsc _ results307 J trivial (Nz 3 Za (by rw [Zs8 O ((Od _).1 ‹_›)]<;>rfl))
 ·refine go 11 ?_
  exact Nu hsc _ results307 J trivial (Nz 2 Za (by rw [Zs7 (fun h=>by have h2:=(Od _).2 h;exact absurd h2 ‹_›)]<;>rfl))
theorem st_sqf(v:Value)(xs:List Int)(hv:Vp xs)(h0:xs≠[])(hf:Cb xs)(F:Nat)(hS:Ydp F xs):Cal prog 288 #[v] [Yk 2 wv v xs] true (G:=Value) (fun r=>True) (fun r=> .tuple #[r,.int .i64 0]) (fun r=>[Yk 2 wv r (sqf F xs)]):=by
 refine Zd func288 ntmps288 fun w0 sc hw hsc=>?_
 obtain⟨hS1,hS2,hS3,hS4,hS5⟩:=hS
 have hvn:=Zxe hv
 have hln:=Qo hv.tr
 have hvd:Vp (Yh (Yt xs)):=Zcn hvn (fun i hi=>hS1 i O)
 have hvg:=Yc8 hvn hvd hS3
 have hc0:=Ygb h0 hf
 refine Zi (Nw 999 2 80 wv)<|Zi (Pg 999 J J pV)<|go 10 ?_
 refine cl 1 [1] (Zvg _ _ hv) fun _ _=>go 9 ?_
 refine Zc J (fun h64=>?_) (fun h64=>?_)
 ·exfalso;omega
 ·refine go 5 ?_
  refine cl 2 [1] (Zm6 _ _ hv h0) fun _ _=>go 11 ?_
  refine kf O3<|go 8 ?_
  refine cl 3 [2] (Di _ _ hvn (fun i=>by by_cases hi:i<xs.length;exact hS1 i hi;rw [Ya O];simp [Mz])) fun _ _=>go 11 ?_
  refine kf O3<|go 9 ?_
  refine cl 4 [2,3] (Zny _ _ _ _ hvn hvd F hS2 hS3) fun _ _=>go 11 ?_
  refine kf O3<|go 9 ?_
  refine cl 5 [2,4] (Ap _ _ _ _ hvn hvg hS4) fun _ _=>go 7 ?_
  exact Nu hsc _ results288 (by rw [if_pos hS5]<;>rfl) trivial (Nz 5 Za (by rw [if_pos hS5]<;>rfl))
theorem Ydm(v u:Value)(xs ys:List Int)(hv:Vp xs)(hu:Vp ys)(h0:ys≠[])(hd:Fx xs ys=0)(hl:ys.length≤xs.length):Cal prog 289 #[v,u] [Yk 2 wv v xs,Yk 2 wv u ys] true (G:=Value) (fun r=>True) (fun r=> .tuple #[r,.int .i64 0]) (fun r=>[Yk 2 wv r (Pq xs ys)]):=by
 refine Zd func289 ntmps289 fun w0 sc hw hsc=>?_
 have hvr:=Af hv hd
 have hvp:=Lo hvr
 have hlen:=hv.len
 have hlen2:=hu.len
 have hl0:=List.length_pos_iff.2 h0
 refine Zi (Nw 999 2 80 wv)<|Zi (Pg 999 J J pV)<|go 10 ?_
 refine cl 3 [1,2] (Zjn _ _ _ _ hv hu hd) fun _ _=>go 11 ?_
 refine kf O3<|go 7 ?_
 refine Zc J (fun h85=>?_) (fun h85=>?_)
 ·refine go 9 ?_
  exact Nu hsc (.slice none 0 0) results289 J trivial (Nn (Zvh O) Za)
 ·refine go 5 ?_
  refine cl 4 [3] (Oj _ _ hvr) fun _ _=>go 11 ?_
  refine kf O3<|go 23 ⟨O,O,O,?_⟩
  refine dt (Ym (ii:=2) (i:=(ys.length-1)) J J J J Zk Oh Ln)<|go 1 ⟨O2,?_⟩
  refine cl 4 [] (Lt _ (hu.sz _)) fun _ _=>go 2 ?_
  refine Yv (d:=45) J (fun s94=>?_) (fun s94=>?_)
  ·refine go 1 ?_
   refine Da (Zh6 J J J) J J<|go 4 ?_
   refine Zc J (fun h94=>?_) (fun h94=>?_)
   ·refine go 9 ?_
    exact Nu hsc _ results289 J trivial (Nz 4 Za (by rw [Ydq hl ‹_› ‹_›]<;>rfl))
   ·refine go 5 ?_
    refine cl 4 [] (Zh _ ⟨O3,O3⟩) fun _ _=>cl 5 [4] (Nr _ _ _ hvp O7 (fun i=>Br hvp.sz i)) fun _ _=>go 7 ?_
    exact Nu hsc _ results289 J trivial (Nz 5 Za (by first | (rw [Zse ‹_›]<;>rfl) | (rw [Zsd hl ‹_›]<;>rfl)))
  ·refine go 12 ?_
   refine cl 5 [] (Zh _ ⟨O3,O3⟩) fun _ _=>cl 6 [4] (Nr _ _ _ hvp O7 (fun i=>Br hvp.sz i)) fun _ _=>go 7 ?_
   exact Nu hsc _ results289 J trivial (Nz 6 Za (by first | (rw [Zse ‹_›]<;>rfl) | (rw [Zsd hl ‹_›]<;>rfl)))
theorem Zxt(v:Value)(xs:List Int)(hv:Vp xs)(h0:xs≠[])(hf:Cb xs)(F:Nat)(hC:Db F xs):Cal prog 262 #[v] [Yk 2 wv v xs] true (G:=Value×List (SL×List Int)) (fun r=>r.2.map Prod.snd=Ac F xs) (fun r=> .tuple #[r.1,.int .i64 0]) (fun r=>[Ps 1 Kr qZ r.1 r.2]):=by
 refine Zd func262 ntmps262 fun w0 sc hw hsc=>?_
 obtain⟨hC1,hC2,hC3⟩:=hC
 have hvq:=Zpy hv h0 hC1
 have hlq:=Zhn hv hC1
 have hvqd:Vp (Yh (sqf F xs)):=Zcn hvq (fun i hi=>hC2 i O)
 refine Zi (Nw 999 2 80 wv)<|Zi (Pg 999 J J pV)<|go 9 ?_
 refine cl 2 [1] (st_sqf _ _ hv h0 hf F hC1) fun _ _=>go 11 ?_
 refine kf O3<|go 8 ?_
 refine cl 3 [2] (Di _ _ hvq (fun i=>by by_cases hi:i<xs.length;exact hC2 i hi;rw [Ya O];simp [Mz])) fun _ _=>go 11 ?_
 refine kt O3<|go 5 ?_
 refine cl 80 [3] (Oj _ _ hvqd) fun _ _=>go 11 ?_
 refine kf O3<|go 6 ?_
 refine Zwm (Md 2 J Zk) (fun ss hss=>?_)
 subst hss
 refine Zi (Pb qZ 71)<|Zi (Xl (q:=qZ) (z:=(ss,sqf F xs)) 71 2 71 J J J J J)<|Zwm (Md 80 J Zk) (fun sd0 hsd=>?_)
 subst hsd
 refine go 2 ?_
 refine tt (Qz (i:=70) (ivs:=[(0,_)]) (enc:=Kr) [(ss,sqf F xs)] J J K2 Zi7 ti40 J J J J J pS.cells J J hw.h) fun v _=>go 5 ?_
 refine lp (G:=List (SL×List Int)×SL×List Int×SL×List Int×Nat×Value) [] [0,1,999,2,3] (fun q=>[(7,q.2.2.2.2.2.2),(6,Qq q.2.2.2.1)]) (fun q=>[(70,Pu 1 40 Kr q.2.2.2.2.2.2 (q.1 ++ [(q.2.1,q.2.2.1)])),(71,Gc qZ (q.1 ++ [(q.2.1,q.2.2.1)])),(80,Yk 2 wv (Qq q.2.2.2.1) q.2.2.2.2.1)]) (fun q=>(Vp q.2.2.1)∧(Vp q.2.2.2.2.1)∧(cok q.2.2.2.2.2.1 q.2.2.1 q.2.2.2.2.1)∧(q.1.map Prod.snd ++ Na q.2.2.2.2.2.1 q.2.2.1 q.2.2.2.2.1=Ac F xs)∧(q.1.length+q.2.2.2.2.1.length≤25)) (fun q=>q.2.2.2.2.1.length) ([],ss,sqf F xs,sd0,Zx (Yh (sqf F xs)),F,_) ⟨hvq,Lo hvqd,hC3,J,by rw [Zo];simp;have:=hvqd.len;omega⟩ K2 K3 ?_
 rintro⟨ws,sx,x,sd,y,f,vo⟩ ⟨hvx,hvy,hck,hch,hwl⟩
 dsimp only at hvx hvy hck hch hwl
 dsimp only
 refine go 8 ?_
 refine Zc J (fun h114=>?_) (fun h114=>?_)
 ·have hy0:y≠[]:=fun e=>by rw [e]at h114;simp at h114
  obtain⟨f0,rfl,hd,hle,hck2,hsc2⟩:=Zia hck hy0
  refine go 7 ?_
  refine tt (Qz (i:=4) (ivs:=[(0,_)]) (enc:=Kr) [(sd,y)] J J K2 Zi7 ti40 J J J J J pS.cells J J hw.h) (fun v_2 _=>?_)
  refine tt (Kg (i:=70) (j:=4) (by_:=24) J J J J J J O3 J (Yj pS) Zi7 ti40 J pS J J J O8 O3 J hw.h) fun v_3 _=>go 4 ?_
  have hll:(ws ++ [(sx,x)] ++ [(sd,y)]).length=ws.length+2:=O6
  refine Zi (Xl (q:=qZ) (z:=(sd,y)) 71 80 71 J J J J J)<|Zi (Zb1 (q:=qZ) 71 92 (sx,x) J J O6 J)<|go 5 ⟨O,?_⟩
  refine dt (Ym (ii:=70) (i:=ws.length) J J J J (Yj pS) Zi7 sizeOf40)<|dt (Zp (r':=Qq sx) (Lz (ii:=70) Z0 J J J (Yj pS) pS) (by simp [List.getD_eq_getElem?_getD])) ?_
  refine go 1 ?_
  refine cl 80 [92,80] (Ydm _ _ _ _ hvx hvy hy0 hd hle) fun _ _=>?_
  refine Ye3 (Md 80 J Zk) (fun sn hsn=>?_)
  subst hsn
  refine go 10 ?_
  refine kf O3<|go 5 ?_
  exact Xg (ws ++ [(sx,x)],sd,y,sn,Pq x y,f0,_) ⟨hvy,Zmv hvx hd,hck2,by rw [←hch,hsc2];simp,by have h7:=Qp x hy0;have h8:=Bm (y:=y) hvx.tr;simp;omega⟩ (by have h7:=Qp x hy0;have h8:=Bm (y:=y) hvx.tr;dsimp only;omega) K2 K3
 ·refine go 6 ?_
  obtain rfl:y=[]:=List.eq_nil_of_length_eq_zero O
  refine Zi (Pg 70 J J pS)<|Zi (Kz 70 71 72 J J J J)<|go 7 ?_
  exact Nu hsc (_,ws ++ [(sx,x)]) results262 J (by rw [←hch,Ej];simp) (Nz 72 Za)
theorem Ydv(v:Value)(m:Nat)(xs:List Int)(hv:Vp xs)(hm:m≤1000):Pn prog 283 #[v,.int .i64 (m:Int)] [Yk 2 wv v xs] (.bool (decide (Al xs m))):=by
 refine Zd func283 ntmps283 fun w0 sc hw hsc=>?_
 have hlen:=hv.len
 have hmz:=Qu hv.sz
 have q1:(xs.length+2)*(xs.length+2)≤27*27:=Nat.mul_le_mul O O
 have q2:(xs.length+2)*(xs.length+2)*(Xz xs+m+2*(xs.length-1)+32)≤27*27*70000:=Nat.mul_le_mul q1 O
 have q3:((xs.length:Int)-1+3)*((xs.length:Int)-1+3)=(((xs.length+2)*(xs.length+2):Nat):Int):=by rw [show(xs.length:Int)-1+3=((xs.length+2:Nat):Int) by omega];push_cast;rfl
 have q4:xs.length≠0→((xs.length:Int)-1+3)*((xs.length:Int)-1+3)*((Xz xs:Int)+(m:Int)+2*((xs.length:Int)-1)+32)=(((xs.length+2)*(xs.length+2)*(Xz xs+m+2*(xs.length-1)+32):Nat):Int):=fun h=>by rw [q3,show(Xz xs:Int)+(m:Int)+2*((xs.length:Int)-1)+32=((Xz xs+m+2*(xs.length-1)+32:Nat):Int) by omega];push_cast;rfl
 refine go 8 ?_
 refine cl 1 [1] (Ze6 _ _ hv) fun _ _=>go 10 ?_
 refine cl 1 [1] (Zjo _ _ hv) fun _ _=>go 13 ?_
 refine Yv (d:=22) J (fun s24=>?_) (fun s24=>?_)
 ·refine go 19 ?_
  exact Xo hsc () results283 (by first | exact sgf_t O | exact sgf_i O (q4 O)) trivial Za
 ·refine go 19 ⟨O,O,by rw [q3];exact⟨O,O⟩,O,O,O,O,by rw [q4 O];exact⟨O,O⟩,?_⟩
  exact Xo hsc () results283 (by first | exact sgf_t O | exact sgf_i O (q4 O)) trivial Za
theorem Zyf(v:Value)(xs:List Int)(hv:Vp xs):Pn prog 257 #[v] [Yk 2 wv v xs] (.bool (decide (Al xs 0))):=by
 refine Zd func257 ntmps257 fun w0 sc hw hsc=>go 8 ?_
 refine cl 1 [1] (Ys _ _ ‹_›) fun _ _=>go 2 ?_
 refine Hs 1 [1] (Ydv _ 0 xs hv O) fun _ _=>go 5 ?_
 exact Xo hsc () results257 J trivial Za
theorem Zgs(x y:Int)(hx:bl x.natAbs≤65536)(hy:bl y.natAbs≤65536):Pn prog 258 #[rX x y] [] (.bool (efit (x,y))):=by
 refine Zd func258 ntmps258 fun w0 sc hw hsc=>go 2 ?_
 refine Yc (Yb 1) fun bx _=>go 4 ?_
 refine Qe (fun _=>False) [(0,0),(1,0),(3,0),(4,0),(2,1),(5,1),(6,0),(7,0),(8,3)]<|go 4 ?_
 refine Yz (Zf 1 [] (Zgb _ hx)) fun _ _=>Yz (Zf 1 [] (Zgb _ hy)) fun _ _=>?_
 refine Qb J J (Ph (Zfb J J J))<|go 5 ?_
 exact Xo hsc () results258 (by unfold efit;exact vB (decide_eq_decide.2 O11)) trivial Za
theorem Zgt(x y x2 y2:Int)(hx:bl x.natAbs≤65536)(hy:bl y.natAbs≤65536)(hx2:bl x2.natAbs≤65536)(hy2:bl y2.natAbs≤65536)(hp:0<y)(hp2:0<y2):Pn prog 259 #[rX x y,rX x2 y2] [] (.int .i64 (cmp (x,y) (x2,y2))):=by
 refine Zd func259 ntmps259 fun w0 sc hw hsc=>go 2 ?_
 refine Yc (Yb 1) fun bx _=>Yc (Yb 2) fun bx_2 _=>go 7 ?_
 refine cl 2 [] (Zcl _ _ _ _ hx hy hx2 hy2 hp hp2) fun _ _=>go 14 ?_
 exact Xo hsc () results259 J trivial Za
theorem Zsk(bs:Nat)(v:Value)(xs:List Int)(x y:Int)(hx:bl x.natAbs≤65536)(hy:bl y.natAbs≤65536)(hp:0<y)(hv:Vp xs)(hE:¬Mo xs x y):Pn prog 265 #[.pointer (some ⟨bs,0,none⟩),v,rX x y] [Ir bs 274 #[.int .i64 0],Yk 2 wv v xs] (.int .i64 (fat x y xs)):=by
 refine Zd func265 ntmps265 fun w0 sc hw hsc=>go 2 ?_
 refine Yc (Yb 3) fun bx _=>go 7 ?_
 refine cl 3 [2] (Znw _ _ _ _ hv hx hy hp) fun _ _=>go 2 ?_
 refine dt (Zp (r':= .int .i64 0) (Zrd J J J) (congrArg (Value.int .i64) (if_neg hE)))<|go 11 ?_
 refine kt O3<|go 8 ?_
 refine tt (Zi8 (i:=1) J J J J J J sizeOf26 J J O10 J) fun _ _=>go 9 ?_
 exact Xo hsc () results265 (by unfold fat;rw [show evv xs x y=pev xs x y from if_neg hE]<;>rfl) trivial Za
theorem Zgq(v1 v2:Value)(bs:Nat)(ls cs:List (SL×List Int))(x y:Int)(hx:bl x.natAbs≤65536)(hy:bl y.natAbs≤65536)(hp:0<y)(hlsv:∀z∈ls,Vp z.2)(hlsE:∀z∈ls,¬Mo z.2 x y):Pn prog 213 #[.agg #[v1,v2],.pointer (some ⟨bs,0,none⟩),rX x y] [Ps 1 Kr qZ v1 ls,Ps 1 Kr qZ v2 cs,Ir bs 274 #[.int .i64 0]] (.int .i64 (vlu (ls.map Prod.snd) (x,y))):=by
 refine Zd func213 ntmps213 fun w0 sc hw hsc=>?_
 refine Mr (Er (i:=1) J Yl) fun hlen=>go 2 ?_
 refine Yc (Yb 4) fun bx _=>Yc (Yb 5) fun bx_2 _=>go 12 ?_
 refine Zc J (fun h160=>?_) (fun h160=>?_)
 ·refine go 7 ?_
  exact Xo hsc () results213 (by unfold vlu;rw [List.length_map,if_pos O]<;>rfl) trivial Za
 ·refine go 3 ?_
  refine Qe (fun _=>False) [(0,0),(1,0),(2,0),(3,0),(4,0),(5,0),(6,1),(7,3)]<|go 4 ⟨O,?_⟩
  refine Qb J J (Ph (Lz (ii:=1) Z0 J J J Yl pS))<|go 1 ?_
  refine Bk J (Gh (n:=5) (Zsk _ (Qq (ls.getD 0 Z0).1) (ls.getD 0 Z0).2 _ _ hx hy hp (hlsv (ls.getD 0 Z0) (Zu)) (hlsE (ls.getD 0 Z0) (Zu))) J J J K3 call265 (Yi 3 J J J (Zy1 1 J J (Zu (i:=0) (zs:=ls) (d:=Z0)) Yf)) J hw.h) fun _ _=>go 4 ?_
  exact Xo hsc () results213 (by unfold vlu;rw [List.length_map,if_neg O,Zeb _ O]<;>rfl) trivial Za
theorem Zyg(v1 v2:Value)(bs:Nat)(ls cs:List (SL×List Int))(x y:Int)(hx:bl x.natAbs≤65536)(hy:bl y.natAbs≤65536)(hp:0<y)(hlsv:∀z∈ls,Vp z.2)(hlsE:∀z∈ls,¬Mo z.2 x y):Pn prog 263 #[.agg #[v1,v2],.pointer (some ⟨bs,0,none⟩),rX x y] [Ps 1 Kr qZ v1 ls,Ps 1 Kr qZ v2 cs,Ir bs 274 #[.int .i64 0]] (.int .i64 (aft (ls.map Prod.snd) (x,y))):=by
 refine Zd func263 ntmps263 fun w0 sc hw hsc=>?_
 refine Mr (Er (i:=1) J Yl) (fun hlen=>?_)
 have hLl:=Zho ls (fat x y)
 have hLg:=fun i (h:i<ls.length)=>Znd ls (fat x y) h
 refine go 2 ?_
 refine Yc (Yb 4) fun bx _=>Yc (Yb 5) fun bx_2 _=>go 13 ?_
 refine lp (G:=Nat) [1,5,11,12] [0,1,2,3,4,5] (fun i=>[(13,.int .i64 (i:Int))]) (fun i=>[]) (fun i=>(i≤ls.length)∧(∀k,k<i→(sgx ls (fat x y)).getD k 0=0)) (fun i=>ls.length-i) 0 ⟨O1,fun k hk=>absurd hk (Nat.not_lt_zero k)⟩ K1 trivial ?_
 rintro i ⟨hi,hz⟩
 refine go 6 ?_
 refine Zc J (fun h168=>?_) (fun h168=>?_)
 ·refine go 7 ⟨O2,?_⟩
  refine dt (Lz (ii:=1) Z0 J J J Yl pS O2)<|go 4 ?_
  refine Zi (Zqb 1 91 (ls.getD i Z0) J J (Zu) J)<|go 4 ?_
  refine cl 5 [3,91] (Zsk _ (Qq (ls.getD i Z0).1) (ls.getD i Z0).2 _ _ hx hy hp (hlsv (ls.getD i Z0) (Zu)) (hlsE (ls.getD i Z0) (Zu))) fun _ _=>go 9 ?_
  refine Zc J (fun h169=>?_) (fun h169=>?_)
  ·refine go 12 ?_
   exact Xo hsc () results263 (by rw [Zu4,Zos ‹_› O hz (hLg i O)]<;>rfl) trivial Za
  ·refine go 7 ⟨O,?_⟩
   exact Xg (i+1) ⟨O1,fun k hk2=>by rcases Nat.lt_succ_iff_lt_or_eq.1 hk2 with h9 | h9;exact hz k h9;subst h9;rw [hLg _ O];exact Decidable.byContradiction ‹_›⟩ O1 K1 trivial
 ·refine go 11 ?_
  exact Xo hsc () results263 (by rw [Zu4,Zjy (fun k hk=>hz k O)]<;>rfl) trivial Za
theorem Zgu(v1 v2:Value)(bs:Nat)(ls cs:List (SL×List Int))(x y:Int)(hx:bl x.natAbs≤65536)(hy:bl y.natAbs≤65536)(hp:0<y)(hcsv:∀z∈cs,Vp z.2)(hcsE:∀z∈cs,¬Mo z.2 x y):Pn prog 290 #[.agg #[v1,v2],.pointer (some ⟨bs,0,none⟩),rX x y] [Ps 1 Kr qZ v1 ls,Ps 1 Kr qZ v2 cs,Ir bs 274 #[.int .i64 0]] (.int .i64 (chv (cs.map Prod.snd) (x,y))):=by
 refine Zd func290 ntmps290 fun w0 sc hw hsc=>?_
 refine Mr (Er (i:=2) J Yl) (fun hlen=>?_)
 have hLl:=Zho cs (fat x y)
 have hLg:=fun i (h:i<cs.length)=>Znd cs (fat x y) h
 refine go 2 ?_
 refine Yc (Yb 4) fun bx _=>Yc (Yb 5) fun bx_2 _=>go 19 ?_
 refine lp (G:=Nat×Int×Int) [1,5,13,14] [0,1,2,3,4,5] (fun q=>[(15,.int .i64 (q.1:Int)),(7,.int .i64 q.2.1),(8,.int .i64 q.2.2)]) (fun q=>[]) (fun q=>(q.1≤cs.length)∧((q.2.1,q.2.2)=((sgx cs (fat x y)).take q.1).foldl Oq (0,0))∧(0≤q.2.1)∧(q.2.1≤(q.1:Int))∧(-1≤q.2.2∧q.2.2≤1)) (fun q=>cs.length-q.1) (0,0,0) ⟨O1,O6,O1,O1,O1⟩ K3 trivial ?_
 rintro⟨i,n,l⟩ ⟨hi,hc,hn0,hn1,hl⟩
 dsimp only at hi hc hn0 hn1 hl
 dsimp only
 have hfr:=fat_r x y (cs.getD i Z0).2
 refine go 6 ?_
 refine Zc J (fun h179=>?_) (fun h179=>?_)
 ·refine go 7 ⟨O2,?_⟩
  refine dt (Lz (ii:=2) Z0 J J J Yl pS O2)<|go 4 ?_
  refine Zi (Zqb 2 91 (cs.getD i Z0) J J (Zu) J)<|go 4 ?_
  refine cl 5 [3,91] (Zsk _ (Qq (cs.getD i Z0).1) (cs.getD i Z0).2 _ _ hx hy hp (hcsv (cs.getD i Z0) (Zu)) (hcsE (cs.getD i Z0) (Zu))) fun _ _=>go 12 ⟨sgm_i hfr hl,?_⟩
  refine Zc J (fun h181=>?_) (fun h181=>?_)
  ·refine go 12 ⟨O,?_⟩
   refine Zc J (fun h184=>?_) (fun h184=>?_)
   ·refine go 10 ⟨O,?_⟩
    exact Xg (i+1,_,_) ⟨O1,by first | exact Zup O hc (hLg i O) (Decidable.byContradiction ‹_›) | exact Zuo O hc (hLg i O) ‹_› (Zsi hfr O ‹_›) | exact Zun O hc (hLg i O) ‹_› (Zsh hfr O ‹_› ‹_›) | exact absurd ‹_› (Zsj (Decidable.byContradiction ‹_›)),by first | exact hn0 | (dsimp only;omega),O11,by first | exact hl | exact hfr⟩ O1 K3 trivial
   ·refine go 7 ⟨O,?_⟩
    exact Xg (i+1,_,_) ⟨O1,by first | exact Zup O hc (hLg i O) (Decidable.byContradiction ‹_›) | exact Zuo O hc (hLg i O) ‹_› (Zsi hfr O ‹_›) | exact Zun O hc (hLg i O) ‹_› (Zsh hfr O ‹_› ‹_›) | exact absurd ‹_› (Zsj (Decidable.byContradiction ‹_›)),by first | exact hn0 | (dsimp only;omega),O11,by first | exact hl | exact hfr⟩ O1 K3 trivial
  ·refine go 8 ?_
   refine Zc J (fun h184_2=>?_) (fun h184_2=>?_)
   ·refine go 10 ⟨O,?_⟩
    exact Xg (i+1,_,_) ⟨O1,by first | exact Zup O hc (hLg i O) (Decidable.byContradiction ‹_›) | exact Zuo O hc (hLg i O) ‹_› (Zsi hfr O ‹_›) | exact Zun O hc (hLg i O) ‹_› (Zsh hfr O ‹_› ‹_›) | exact absurd ‹_› (Zsj (Decidable.byContradiction ‹_›)),by first | exact hn0 | (dsimp only;omega),O11,by first | exact hl | exact hfr⟩ O1 K3 trivial
   ·refine go 7 ⟨O,?_⟩
    exact Xg (i+1,_,_) ⟨O1,by first | exact Zup O hc (hLg i O) (Decidable.byContradiction ‹_›) | exact Zuo O hc (hLg i O) ‹_› (Zsi hfr O ‹_›) | exact Zun O hc (hLg i O) ‹_› (Zsh hfr O ‹_› ‹_›) | exact absurd ‹_› (Zsj (Decidable.byContradiction ‹_›)),by first | exact hn0 | (dsimp only;omega),O11,by first | exact hl | exact hfr⟩ O1 K3 trivial
 ·refine go 12 ?_
  exact Xo hsc () results290 (by rw [Yf9,Ygd O hc]<;>rfl) trivial Za
theorem Zp7(v1 v2:Value)(bs:Nat)(ls cs:List (SL×List Int))(x y x2 y2:Int)(hx:bl x.natAbs≤65536)(hy:bl y.natAbs≤65536)(hx2:bl x2.natAbs≤65536)(hy2:bl y2.natAbs≤65536)(hp:0<y)(hp2:0<y2)(hcsv:∀z∈cs,Vp z.2)(hcsE:∀z∈cs,¬Mo z.2 x y)(hcsF:∀z∈cs,¬Mo z.2 x2 y2)(hlc:cs.length≤1000):Pn prog 264 #[.agg #[v1,v2],.pointer (some ⟨bs,0,none⟩),rX x y,rX x2 y2] [Ps 1 Kr qZ v1 ls,Ps 1 Kr qZ v2 cs,Ir bs 274 #[.int .i64 0]] (.bool (crb (cs.map Prod.snd) (x,y) (x2,y2))):=by
 refine Zd func264 ntmps264 fun w0 sc hw hsc=>?_
 refine Mr (Er (i:=2) J Yl) (fun hlen=>?_)
 have hr1:=chv_r (cs.map Prod.snd) (x,y)
 have hr2:=chv_r (cs.map Prod.snd) (x2,y2)
 rw [List.length_map]at hr1 hr2
 refine go 2 ?_
 refine Yc (Yb 4) fun bx _=>Yc (Yb 5) fun bx_2 _=>Yc (Yb 6) fun bx_3 _=>go 12 ?_
 refine Zc J (fun h193=>?_) (fun h193=>?_)
 ·refine go 7 ?_
  exact Xo hsc () results264 (by unfold crb;rw [List.length_map,if_pos O]<;>rfl) trivial Za
 ·refine go 3 ?_
  refine Qe (fun _=>False) [(0,0),(1,0),(2,0),(4,0),(5,0),(6,0),(3,1),(7,1),(8,0),(9,3)]<|go 6 ?_
  refine Yz (Zf 6 [1,2,3] (Zgu _ _ _ _ _ _ _ hx hy hp hcsv hcsE)) fun _ _=>Yz (Zf 6 [1,2,3] (Zgu _ _ _ _ _ _ _ hx2 hy2 hp2 hcsv hcsF)) fun _ _=>go 6 ⟨O,?_⟩
  refine Qe (fun _=>False) [(0,0),(1,0),(2,0),(3,0),(4,0),(5,0),(6,1),(7,0)]<|go 4 ⟨O,?_⟩
  refine Qb J J (Ph (Lz (ii:=2) Z0 J J J Yl pS))<|go 1 ?_
  refine Bk J (Gh (n:=6) (Zsk _ (Qq (cs.getD 0 Z0).1) (cs.getD 0 Z0).2 _ _ hx2 hy2 hp2 (hcsv (cs.getD 0 Z0) (Zu)) (hcsF (cs.getD 0 Z0) (Zu))) J J J K3 call265 (Yi 3 J J J (Zy1 2 J J (Zu (i:=0) (zs:=cs) (d:=Z0)) Yf)) J hw.h) fun _ _=>go 3 ?_
  refine Zc J (fun h197=>?_) (fun h197=>?_)
  ·refine go 14 ⟨O,?_⟩
   exact Xo hsc () results264 (by first | exact crb_t O ‹_› | exact crb_f O ‹_›) trivial Za
  ·refine go 10 ?_
   exact Xo hsc () results264 (by first | exact crb_t O ‹_› | exact crb_f O ‹_›) trivial Za
theorem Am(v1 v2:Value)(bs:Nat)(ls cs:List (SL×List Int))(x y x2 y2:Int)(hp:0<y)(hp2:0<y2)(hlsv:∀z∈ls,Vp z.2)(hlsE:∀z∈ls,¬Mo z.2 x y)(hcsv:∀z∈cs,Vp z.2)(hcsE:∀z∈cs,¬Mo z.2 x y)(hcsF:∀z∈cs,¬Mo z.2 x2 y2)(hlc:cs.length≤1000)(hx:bl x.natAbs≤65536:=by omega)(hy:bl y.natAbs≤65536:=by omega)(hx2:bl x2.natAbs≤65536:=by omega)(hy2:bl y2.natAbs≤65536:=by omega):Pn prog 212 #[.agg #[v1,v2],.pointer (some ⟨bs,0,none⟩),rX x y,rX x2 y2] [Ps 1 Kr qZ v1 ls,Ps 1 Kr qZ v2 cs,Ir bs 274 #[.int .i64 0]] (.bool (ngb (ls.map Prod.snd) (cs.map Prod.snd) (x,y) (x2,y2))):=by
 refine Zd func212 ntmps212 fun w0 sc hw hsc=>go 2 ?_
 refine Yc (Yb 4) fun bx _=>Yc (Yb 5) fun bx_2 _=>Yc (Yb 6) fun bx_3 _=>go 8 ?_
 refine cl 6 [] (Zgt _ _ _ _ hx hy hx2 hy2 hp hp2) fun _ _=>go 3 ?_
 refine Zc J (fun h205=>?_) (fun h205=>?_)
 ·refine go 5 ?_
  refine cl 6 [1,2,3] (Zgq _ _ _ _ _ _ _ hx hy hp hlsv hlsE) fun _ _=>go 6 ?_
  exact Xo hsc () results212 (by unfold ngb;rw [if_pos ‹_›]) trivial Za
 ·refine go 7 ?_
  refine cl 6 [1,2,3] (Zyg _ _ _ _ _ _ _ hx hy hp hlsv hlsE) fun _ _=>go 2 ?_
  refine Yv (d:=23) J (fun s208=>?_) (fun s208=>?_)
  ·refine go 10 ?_
   exact Xo hsc () results212 (by first | exact ngb_t ‹_› ‹_› | exact ngb_f ‹_› ‹_›) trivial Za
  ·refine go 4 ?_
   refine Hs 6 [1,2,3] (Zp7 _ _ _ _ _ _ _ _ _ hx hy hx2 hy2 hp hp2 hcsv hcsE hcsF hlc) fun _ _=>go 5 ?_
   exact Xo hsc () results212 (by first | exact ngb_t ‹_› ‹_› | exact ngb_f ‹_› ‹_›) trivial Za
theorem Zvm(bs:Nat)(x y x2 y2:Int)(hx:bl x.natAbs≤65536)(hy:bl y.natAbs≤65536)(hx2:bl x2.natAbs≤65536)(hy2:bl y2.natAbs≤65536)(hp:0<y)(hp2:0<y2)(hm:Zbr (x,y) (x2,y2)):Pn prog 266 #[.pointer (some ⟨bs,0,none⟩),rX x y,rX x2 y2] [Ir bs 274 #[.int .i64 0]] (.agg #[.bool (decide ((Qk (x,y) (x2,y2)).1<0)),.string (Xn (Qk (x,y) (x2,y2)).1.natAbs),.bool (decide ((Qk (x,y) (x2,y2)).2<0)),.string (Xn (Qk (x,y) (x2,y2)).2.natAbs)]):=by
 refine Zd func266 ntmps266 fun w0 sc hw hsc=>?_
 have hq:¬Lb (x*y2+x2*y) (y*y2):=hm.1
 obtain⟨hn1,hn2,hn3⟩:=Zb9 hq
 obtain⟨hb1,hb2⟩:=nr_bl hq
 have hdp:=Zqo hq (Int.mul_pos hp hp2)
 have hm2:=Zv7 hm
 refine go 2 ?_
 refine Yc (Yb 2) fun bx _=>Yc (Yb 3) fun bx_2 _=>Yc (Zr 4) fun bx_3 _=>go 6 ?_
 refine cl 4 [] (Zio _ _ _ _ hx hy hx2 hy2 hp hp2) fun _ _=>go 2 ?_
 refine dt (Zp (r':= .int .i64 0) (Zrd J J J) (congrArg (Value.int .i64) hn3))<|Yc (Zr 5) fun bx_4 _=>go 11 ?_
 refine kt O3<|go 8 ?_
 refine tt (Zi8 (i:=1) J J J J J J sizeOf26 J J O10 J) fun _ _=>go 3 ?_
 refine Il [5] [10]<|Zl (n:=10) [(0,0)]<|go 2 ?_
 refine Qw (n:=9) 1 8 ?_ ?_
 ·refine Np (Zf 5 [] (Zh _ ⟨O3,O3⟩)) fun _ _=>?_
  refine Qw (n:=8) 2 8 ?_ ?_
  ·refine Np (Zf 5 [] (Zh _ ⟨O3,O3⟩)) fun _ _=>?_
   refine Zl (n:=7) [(3,0)]<|Qb J J (Ai (Qg (ivs:=[(0,_),(1,_)]) J K4 (fun a w hs=>Zik)) K1)<|go 1 ?_
   refine Qw (n:=6) 4 8 ?_ ?_
   ·refine Np (Zf 5 [] (Gv _ _ 1 2 hb1 hb2 O7 O7 hdp)) fun _ _=>?_
    refine Zl (n:=0) [(5,0),(6,0),(7,0),(8,1),(9,1),(10,3)]<|go 2 ?_
    refine Qb J J (Ai (Zp (r':= .int .i64 0) (Zrd J J J) (congrArg (Value.int .i64) hm2)) K1)<|Yz (Nm 6) fun bx_5 ho=>go 3 ?_
    refine Zw<|go 8 ?_
    refine kt O3<|go 8 ?_
    refine tt (Zi8 (i:=1) J J J J J J sizeOf26 J J O10 J) fun _ _=>go 9 ?_
    exact Xo hsc () results266 J trivial Za
   ·refine Np (Nm 7) fun bx_6 ho2=>?_
    refine Zl (n:=0) [(4,1),(5,0),(6,0),(7,0),(9,1),(10,3)]<|Yz (Zf 7 [] (Gv _ _ 1 2 hb1 hb2 O7 O7 hdp)) fun _ _=>go 2 ?_
    refine Qb J J (Ai (Zp (r':= .int .i64 0) (Zrd J J J) (congrArg (Value.int .i64) hm2)) K1)<|go 3 ?_
    refine Zw<|go 8 ?_
    refine kt O3<|go 8 ?_
    refine tt (Zi8 (i:=1) J J J J J J sizeOf26 J J O10 J) fun _ _=>go 9 ?_
    exact Xo hsc () results266 J trivial Za
  ·refine Np (Nm 8) fun bx_7 ho3=>?_
   refine Zl (n:=0) [(2,1),(3,0),(4,1),(5,0),(6,0),(7,0),(9,1),(10,3)]<|Yz (Zf 8 [] (Zh _ ⟨O3,O3⟩)) fun _ _=>?_
   refine Qb J J (Ai (Qg (ivs:=[(0,_),(1,_)]) J K4 (fun a w hs=>Zik)) K1)<|Yz (Zf 8 [] (Gv _ _ 1 2 hb1 hb2 O7 O7 hdp)) fun _ _=>go 2 ?_
   refine Qb J J (Ai (Zp (r':= .int .i64 0) (Zrd J J J) (congrArg (Value.int .i64) hm2)) K1)<|go 3 ?_
   refine Zw<|go 8 ?_
   refine kt O3<|go 8 ?_
   refine tt (Zi8 (i:=1) J J J J J J sizeOf26 J J O10 J) fun _ _=>go 9 ?_
   exact Xo hsc () results266 J trivial Za
 ·refine Np (Nm 9) fun bx_8 ho4=>?_
  refine Zl (n:=0) [(1,1),(2,1),(3,0),(4,1),(5,0),(6,0),(7,0),(9,1),(10,3)]<|Yz (Zf 9 [] (Zh _ ⟨O3,O3⟩)) fun _ _=>Yz (Zf 9 [] (Zh _ ⟨O3,O3⟩)) fun _ _=>?_
  refine Qb J J (Ai (Qg (ivs:=[(0,_),(1,_)]) J K4 (fun a w hs=>Zik)) K1)<|Yz (Zf 9 [] (Gv _ _ 1 2 hb1 hb2 O7 O7 hdp)) fun _ _=>go 2 ?_
  refine Qb J J (Ai (Zp (r':= .int .i64 0) (Zrd J J J) (congrArg (Value.int .i64) hm2)) K1)<|go 3 ?_
  refine Zw<|go 8 ?_
  refine kt O3<|go 8 ?_
  refine tt (Zi8 (i:=1) J J J J J J sizeOf26 J J O10 J) fun _ _=>go 9 ?_
  exact Xo hsc () results266 J trivial Za
abbrev RZ:=(Bool×ByteArray)×(Bool×ByteArray)
abbrev Q0:RZ:=((false,⟨#[]⟩),(false,⟨#[]⟩))
def qOK(z:RZ):Bool:=okR z.1.1 z.1.2 z.2.1 z.2.2
noncomputable def qx (z:RZ):Int:=if h:okR z.1.1 z.1.2 z.2.1 z.2.2=true then(Zzi h).choose else 0
noncomputable def qy (z:RZ):Int:=if h:okR z.1.1 z.1.2 z.2.1 z.2.2=true then(Zzi h).choose_spec.choose else 0
theorem Zje(x y x2 y2:Int)(hp:0<y)(hp2:0<y2)(hx:bl x.natAbs≤65536:=by omega)(hy:bl y.natAbs≤65536:=by omega)(hx2:bl x2.natAbs≤65536:=by omega)(hy2:bl y2.natAbs≤65536:=by omega):Pn prog 211 #[rX x y,rX x2 y2] [] (.agg #[.bool (decide ((slow (x,y)).1<0)),.string (Xn (slow (x,y)).1.natAbs),.bool (decide ((slow (x,y)).2<0)),.string (Xn (slow (x,y)).2.natAbs),.bool (decide ((slow (x2,y2)).1<0)),.string (Xn (slow (x2,y2)).1.natAbs),.bool (decide ((slow (x2,y2)).2<0)),.string (Xn (slow (x2,y2)).2.natAbs)]):=by
 refine Zd func211 ntmps211 fun w0 sc hw hsc=>go 2 ?_
 refine Yc (Yb 1) fun bx _=>Yc (Yb 2) fun bx_2 _=>Yc (Zr 3) fun bx_3 _=>go 8 ?_
 refine cl 3 [] (Zbv _ _ hx hy) fun _ _=>go 3 ?_
 refine Yc (Zr 4) fun bx_4 _=>go 10 ?_
 refine cl 4 [] (Zbv _ _ hx2 hy2) fun _ _=>go 3 ?_
 refine Yc (Zr 5) fun bx_5 _=>go 8 ?_
 refine dt (Qg (ivs:=[(0,_),(1,_)]) J K4 (fun a w hs=>Ygp))<|go 4 ?_
 exact Xo hsc () results211 J trivial Za
theorem Zne(v:Value)(xs:List Int)(hv:Vp xs)(h0:xs≠[]):Cal prog 285 #[v] [Yk 2 wv v xs] true (G:=Value) (fun r=>True) (fun r=> .tuple #[r,.int .i64 0]) (fun r=>[Yk 2 wv r (Yt xs)]):=by
 refine Zd func285 ntmps285 fun w0 sc hw hsc=>?_
 have hvp:=Lo hv
 have hl0:=List.length_pos_iff.2 h0
 have hlp:=Zo xs
 have hlen:=hv.len
 refine go 9 ?_
 refine cl 2 [1] (Oj _ _ hv) fun _ _=>go 11 ?_
 refine kt O3<|go 3 ?_
 refine ktg (decide_eq_true O)<|go 6 ⟨O,?_⟩
 refine Da (Ym (ii:=2) (i:=((Zx xs).length-1)) J J J J Zk Oh Ln) J J<|go 1 ⟨O2,?_⟩
 refine Hs 2 [] (Lt _ (hvp.sz _)) fun _ _=>go 4 ?_
 refine Zc J (fun h63=>?_) (fun h63=>?_)
 ·refine go 3 ?_
  refine cl 2 [] (Zh _ ⟨O3,O3⟩) fun _ _=>cl 3 [2] (Nr _ _ _ hvp O7 (fun i=>Br hvp.sz i)) fun _ _=>go 8 ?_
  exact Nu hsc _ results285 J trivial (Nz 3 Za (by rw [Zs8 O ((Od _).1 ‹_›)]<;>rfl))
 ·refine go 11 ?_
  exact Nu hsc _ results285 J trivial (Nz 2 Za (by rw [Zs7 (fun h=>by have h2:=(Od _).2 h;exact absurd h2 ‹_›)]<;>rfl))
theorem sg_odd(v:Value)(xs:List Int)(hd:Cvd xs)(h0:xs≠[]):Cal prog 261 #[v] [Yk 2 wv v xs] true (G:=Value) (fun r=>True) (fun r=> .tuple #[r,.int .i64 0]) (fun r=>[Yk 2 wv r (Kw xs)]):=by
 refine Zd func261 ntmps261 fun w0 sc hw hsc=>?_
 refine Zi (Nw 999 2 80 wv)<|Zi (Pg 999 J J pV)<|go 9 ?_
 refine cl 2 [1] (Zne _ _ hd.v h0) fun _ _=>go 11 ?_
 refine kf O3<|go 7 ?_
 refine tt (Qz (i:=3) (ivs:=[(0,_)]) (enc:=Yu) ([1]:List Int) J J K2 Bb ti3 J J J J J pZ.cells J J hw.h) (fun v _=>?_)
 refine Xu (Pg 3 J J pZ)<|cl 4 [3] (Zc8 _ _ (fun x h=>by rw [List.mem_singleton.1 h];exact⟨O3,O3⟩)) fun _ _=>go 18 ?_
 refine Zi (Mw 2 80 J J J)<|Zi (Mw 4 81 J J J)<|Zi (Mw 999 82 J J J)<|lp (G:=Value×Value×Value×List Int×List Int×List Int×Nat) [] [0,1,999,2,3,4] (fun q=>[(4,q.1),(6,q.2.1),(8,q.2.2.1),(9,.int .i64 (q.2.2.2.2.2.2:Int))]) (fun q=>[(80,Yk 2 wv q.1 q.2.2.2.1),(81,Yk 2 wv q.2.1 q.2.2.2.2.1),(82,Yk 2 wv q.2.2.1 q.2.2.2.2.2.1)]) (fun q=>(OddI xs q.2.2.2.2.2.2 q.2.2.2.1 q.2.2.2.2.1 q.2.2.2.2.2.1)∧(1≤q.2.2.2.2.2.2)∧(q.2.2.2.2.2.2+q.2.2.2.1.length≤12)) (fun q=>q.2.2.2.1.length) (_,_,_,Yt xs,[1],[],1) ⟨OddI.start hd h0,O1,by have:=Qo hd.v.tr;have:=hd.l;dsimp only;omega⟩ K4 K3 ?_
 rintro⟨vr,vo,vb,rest,out,bef,t⟩ ⟨hI,ht1,ht2⟩
 dsimp only at hI ht1 ht2
 dsimp only
 obtain⟨a1,a2,a3,a4,a5,a6,a7,a8,a9,a10,a11,a12,a13,a14,a15,a16,a17,a18⟩:=Zfz hd h0 (hI.dp hd h0)
 obtain⟨o1,o2,o3⟩:=hI.out hd h0
 refine go 5 ?_
 refine cl 5 [80] (Di _ _ a1 a3) fun _ _=>go 11 ?_
 refine kf O3<|go 9 ?_
 refine cl 6 [80,5] (Zny _ _ _ _ a1 a4 13 a5 a6) fun _ _=>?_
 refine Xu (Mv 6 (q:=Yk 2 wv _ (Nd 13 rest)) (congrArg (Yk 2 wv _) a7) J J)<|go 11 ?_
 refine kf O3<|go 9 ?_
 refine cl 7 [80,6] (Ap _ _ _ _ a1 a8 a9) fun _ _=>?_
 refine Xu (Mv 7 (q:=Yk 2 wv _ (sqf 13 rest)) (congrArg (Yk 2 wv _) ((if_pos a10).trans a11)) J J)<|go 11 ?_
 refine kf (decide_eq_false (fun h=>h (if_pos a10)))<|go 9 ?_
 refine dt (Zh6 J J J)<|go 3 ?_
 refine Zc J (fun h91=>?_) (fun h91=>?_)
 ·have ht:t%2=0:=O
  obtain⟨e1,e2,e3,e4,e5,e6,e7,e8⟩:=hI.even hd h0 ht
  refine go 4 ?_
  refine cl 8 [82,7] (Ap _ _ _ _ e1 a12 e2) fun _ _=>?_
  refine Xu (Mv 8 (q:=Yk 2 wv _ (Ly bef (sqf 13 rest))) (congrArg (Yk 2 wv _) (if_pos e3)) J J)<|go 11 ?_
  refine kf (decide_eq_false (fun h=>h (if_pos e3)))<|go 9 ?_
  refine cl 9 [81,8] (Znx _ _ _ _ o1 e4 e5) fun _ _=>go 10 ?_
  refine kf O3<|go 13 ?_
  refine Zc J (fun h101=>?_) (fun h101=>?_)
  ·refine go 13 ?_
   exact Nu hsc _ results261 J trivial (Nz 9 Za (by first | (rw [hI.odd_end hd h0 O O]<;>rfl) | (rw [e6 O]<;>rfl)))
  ·refine go 15 ⟨O,?_⟩
   exact Yw (Mw 6 80 J J J)<|Yw (Mw 9 81 J J J)<|Yw (Mw 7 82 J J J)<|Xg (_,_,_,Nd 13 rest,_,sqf 13 rest,t+1) ⟨by first | exact hI.odd_next O O | exact e7 O,O1,by have:=a17 O;dsimp only;omega⟩ (a17 O) K4 K3
 ·have ht:t%2=1:=O
  refine go 10 ?_
  refine Zc J (fun h101_2=>?_) (fun h101_2=>?_)
  ·refine go 13 ?_
   exact Nu hsc _ results261 J trivial (Nz 81 Za (by first | (rw [hI.odd_end hd h0 O O]<;>rfl) | (rw [e6 O]<;>rfl)))
  ·refine go 15 ⟨O,?_⟩
   exact Yw (Mw 6 80 J J J)<|Yw (Mw 7 82 J J J)<|Xg (_,_,_,Nd 13 rest,_,sqf 13 rest,t+1) ⟨by first | exact hI.odd_next O O | exact e7 O,O1,by have:=a17 O;dsimp only;omega⟩ (a17 O) K4 K3
theorem sg_of(v:Value)(xs:List Int)(hd:Cvd xs):Cal prog 210 #[v] [Yk 2 wv v xs] true (G:=Value×List (SL×List Int)×Value×List (SL×List Int)) (fun r=>r.2.1.map Prod.snd=Pd xs∧r.2.2.2.map Prod.snd=chx xs) (fun r=> .tuple #[.agg #[r.1,r.2.2.1],.int .i64 0]) (fun r=>[Ps 1 Kr qZ r.1 r.2.1,Ps 1 Kr qZ r.2.2.1 r.2.2.2]):=by
 refine Zd func210 ntmps210 fun w0 sc hw hsc=>?_
 refine Zwm (Md 1 J Zk) (fun sv hsv=>?_)
 subst hsv
 have hv:=hd.v
 refine Zi (Nw 999 2 80 wv)<|Zi (Pg 999 J J pV)<|go 2 ?_
 refine Yc (Zr 2) fun bx _=>go 5 ?_
 refine Yc (Zr 3) fun bx_2 _=>go 10 ?_
 refine Zc J (fun h129=>?_) (fun h129=>?_)
 ·refine go 9 ?_
  exact Yw (Nw 70 1 40 (Kr (α:=List Int)))<|Yw (Pb qZ 71)<|Yw (Pg 70 J J pS)<|Yw (Kz 70 71 72 J J J J)<|Nu hsc (.slice none 0 0,[],.slice none 0 0,[]) results210 J ⟨(Zjz O).symm,(Yf7 O).symm⟩ (Nz 72 (Nz 72 Za))
 ·have h0:xs≠[]:=fun e=>by rw [e]at h129;simp at h129
  obtain⟨q1,q2,q3,q4,q5⟩:=Zde hd h0
  refine go 11 ?_
  refine Zi (Nw 70 1 40 (Kr (α:=List Int)))<|Zi (Pb qZ 71)<|Zi (Mw 1 80 J J J)<|lp (G:=List (SL×List Int)×SL×List Int×Value×Nat) [0,2,4] [0,1,999,2] (fun q=>[(5,Qq q.2.1)]) (fun q=>[(70,Pu 1 40 Kr q.2.2.2.1 q.1),(71,Gc qZ q.1),(80,Yk 2 wv (Qq q.2.1) q.2.2.1),(3,box bx_2 270 #[q.2.2.2.1,.slice none 0 0])]) (fun q=>(Vp q.2.2.1)∧(Sz q.2.2.2.2 q.2.2.1)∧(q.2.2.2.2+5*q.2.2.1.length≤260)∧(q.1.length+q.2.2.1.length≤11)∧(q.1.map Prod.snd ++ Pd q.2.2.1=Pd xs)) (fun q=>q.2.2.1.length) ([],sv,xs,_,205) ⟨hv,hd.s,by have:=hd.l;dsimp only;omega,by have:=hd.l;simp;omega,rfl⟩ K1 K4 ?_
  rintro⟨ws,sd,y,vo,k⟩ ⟨hy,hys,hk,hyl,hws⟩
  dsimp only at hy hys hk hyl hws
  dsimp only
  refine go 8 ?_
  refine Zc J (fun h132=>?_) (fun h132=>?_)
  ·refine go 4 ?_
   have hpl:=Oa y
   have hdz:∀i,bl (cf y (i+1)*((i:Int)+1)).natAbs≤65536:=fun i=>by have h:=Dz hys O i;rw [Zdv]at h;omega
   refine go 4 ?_
   refine tt (Qz (i:=4) (ivs:=[(0,_)]) (enc:=Kr) [(sd,y)] J J K2 Zi7 ti40 J J J J J pS.cells J J hw.h) (fun v _=>?_)
   refine tt (Kg (i:=70) (j:=4) (by_:=24) J J J J J J O3 J (Yj pS) Zi7 ti40 J pS J J J O8 O3 J hw.h) fun v_2 _=>go 7 ?_
   refine cl 84 [80] (Di _ _ hy hdz) fun _ _=>?_
   refine Ye3 (Md 84 J Zk) (fun sn hsn=>?_)
   subst hsn
   refine go 10 ?_
   refine kf O3<|go 5 ?_
   exact Yw (Xl (q:=qZ) (z:=(sd,y)) 71 80 71 J J J J J)<|Yw (Mw 84 80 J J J)<|Xg (ws ++ [(sd,y)],sn,Yh y,_,k+5) ⟨Zcn hy (fun i _=>hdz i),Dz hys O,O11,by dsimp only;simp;omega,by dsimp only;rw [List.map_append,List.append_assoc,←hws,Zwr (p:=y) O];rfl⟩ O11 K1 K4
  ·refine go 6 ?_
   have hy0:y.length=0:=O
   have hw2:ws.map Prod.snd=Pd xs:=by rw [←hws,Zjz hy0,List.append_nil]
   refine Zi (Pg 70 J J pS)<|Zi (Kz 70 71 72 J J J J)<|go 2 ?_
   refine cl 5 [1] (sg_odd _ _ hd h0) fun _ _=>go 11 ?_
   refine kf O3<|go 8 ?_
   refine cl 6 [5] (Zxt _ _ q2 q1.one q5 13 q1.ok) fun g hg=>go 17 ?_
   exact Nu hsc (_,ws,_,g.2) results210 J ⟨hw2,(hg).trans (chx_ne O).symm⟩ (Nz 72 (Nz 6 Za))
theorem Znf(v:Value)(xs:List Int)(x y x2 y2:Int)(hp:0<y)(hp2:0<y2)(hv:Vp xs)(hf:Al xs 0)(he1:efit (x,y)=true)(he2:efit (x2,y2)=true)(hx:bl x.natAbs≤65536:=by omega)(hy:bl y.natAbs≤65536:=by omega)(hx2:bl x2.natAbs≤65536:=by omega)(hy2:bl y2.natAbs≤65536:=by omega):Pn prog 209 #[v,rX x y,rX x2 y2,.slice none 0 0] [Yk 2 wv v xs] (.int .i64 (if 0<cmp (x,y) (x2,y2)then 3 else 0)):=by
 refine Zd func209 ntmps209 fun w0 sc hw hsc=>?_
 refine Zi (Nw 999 2 80 wv)<|Zi (Pg 999 J J pV)<|go 2 ?_
 refine Yc (Yb 2) fun bx _=>Yc (Yb 3) fun bx_2 _=>go 7 ?_
 refine cl 3 [1] (Ys _ _ ‹_›) fun _ _=>?_
 refine dt (dF (Xt J J) (vB O3))<|go 2 ?_
 refine Hs 3 [] (Nq _ _ hx hy hp) fun _ _=>?_
 refine Da (dF (Xt J J) (vB O3)) J J<|go 3 ?_
 refine Hs 3 [] (Nq _ _ hx2 hy2 hp2) fun _ _=>?_
 refine Da (dF (Xt J J) (vB O3)) J J<|go 4 ?_
 refine kfg O3<|go 9 ?_
 refine cl 3 [1] (Zyf _ _ hv) fun _ _=>?_
 refine dt (dF (Ybi J J) (vB (decide_eq_false (fun h=>h hf))))<|go 2 ?_
 refine Hs 3 [] (Zgs _ _ hx hy) fun _ _=>?_
 refine Da (dF (Xt J J) (vB (by rw [he1];rfl))) J J<|go 3 ?_
 refine Hs 3 [] (Zgs _ _ hx2 hy2) fun _ _=>?_
 refine Da (dF (Xt J J) (vB (by rw [he2];rfl))) J J<|go 13 ?_
 refine lp (G:=Unit) [5,6,43,44] [0,1,999,2,3] (fun _=>[(45,.int .i64 0),(9,.bool false)]) (fun _=>[]) (fun _=>True) (fun _=>0) () trivial K2 trivial ?_
 rintro _ -
 refine go 2 ?_
 refine kf O3<|go 14 ?_
 refine cl 3 [] (Zgt _ _ _ _ hx hy hx2 hy2 hp hp2) fun _ _=>go 3 ?_
 refine Zc J (fun h45=>?_) (fun h45=>?_)
 ·refine go 7 ?_
  exact Xo hsc () results209 (by rw [if_pos ‹_›]) trivial Za
 ·refine go 17 ?_
  exact Xo hsc () results209 (by rw [if_neg ‹_›]) trivial Za
theorem Ydt(bf bc bs:Nat)(v1 v2 c0 c1 c2 c3:Value)(ls cs:List (SL×List Int))(a b m:R2)(hx:bl m.1.natAbs≤65536)(hy:bl m.2.natAbs≤65536)(hp:0<m.2)(hlsv:∀z∈ls,Vp z.2)(hlsE:∀z∈ls,¬Mo z.2 m.1 m.2):Ygs prog 215 #[.agg #[.bool (decide (a.1<0)),.string (Xn a.1.natAbs),.bool (decide (a.2<0)),.string (Xn a.2.natAbs),.bool (decide (b.1<0)),.string (Xn b.1.natAbs),.bool (decide (b.2<0)),.string (Xn b.2.natAbs)],rX m.1 m.2,.pointer (some ⟨bf,0,none⟩),.pointer (some ⟨bc,0,none⟩),.pointer (some ⟨bs,0,none⟩)] [Ir bs 274 #[.int .i64 0],Ir bc 270 #[v1,v2],Ps 1 Kr qZ v1 ls,Ps 1 Kr qZ v2 cs] (box bf 82 #[c0,c1,c2,c3]) (G:=Unit) (fun _=>True) (fun _=> .bool (decide (vlu (ls.map Prod.snd) (m.1,m.2)<0))) (fun _=>box bf 82 #[.bool (decide (m.1<0)),.string (Xn m.1.natAbs),.bool (decide (m.2<0)),.string (Xn m.2.natAbs)]):=by
 refine Zut func215 J ntmps215 J K4 ?_
 intro w0 sc hw hsc;have hw:=Hw.mk hw
 simp only [Ql,Xj]
 refine go 2 ?_
 refine Yc (Yb 6) fun bx _=>Yc (Yb 7) fun bx_2 _=>go 13 ?_
 refine cl 7 [4,5,2] (Zgq _ _ _ _ _ _ _ hx hy hp hlsv hlsE) fun _ _=>go 5 ?_
 exact Zw6 (.inl J) hsc () _ (fun a w hs=>Zbi hs results215 J) J trivial 1 J J J J (Yi 2 J J J (Yi 3 J J J (Yi 4 J J J (Yi 5 J J J Yf))))
theorem Zit(bf bc bs:Nat)(v1 v2:Value)(ls cs:List (SL×List Int))(xs:List Int)(a0 b0:R2)(s t:Rat)(c0 c1 c2 c3:Value)(hd:Cvd xs)(h0:xs≠[])(hgl:ls.map Prod.snd=Pd xs)(hgc:cs.map Prod.snd=chx xs)(hI0:NIn xs s t 0 a0 b0):Ygs prog 214 #[.agg #[v1,v2],.pointer (some ⟨bs,0,none⟩),.agg #[.bool (decide (a0.1<0)),.string (Xn a0.1.natAbs),.bool (decide (a0.2<0)),.string (Xn a0.2.natAbs),.bool (decide (b0.1<0)),.string (Xn b0.1.natAbs),.bool (decide (b0.2<0)),.string (Xn b0.2.natAbs)],.func (.func 215) #[] #[.pointer (some ⟨bf,0,none⟩),.pointer (some ⟨bc,0,none⟩),.pointer (some ⟨bs,0,none⟩)]] [Ir bs 274 #[.int .i64 0],Ir bc 270 #[v1,v2],Ps 1 Kr qZ v1 ls,Ps 1 Kr qZ v2 cs] (box bf 82 #[c0,c1,c2,c3]) (G:=R2×R2×R2) (fun r=>Fnd xs s t r.1) (fun r=> .agg #[.bool (decide (r.2.1.1<0)),.string (Xn r.2.1.1.natAbs),.bool (decide (r.2.1.2<0)),.string (Xn r.2.1.2.natAbs),.bool (decide (r.2.2.1<0)),.string (Xn r.2.2.1.natAbs),.bool (decide (r.2.2.2<0)),.string (Xn r.2.2.2.natAbs)]) (fun r=>box bf 82 #[.bool (decide (r.1.1<0)),.string (Xn r.1.1.natAbs),.bool (decide (r.1.2<0)),.string (Xn r.1.2.natAbs)]):=by
 refine Zut func214 J ntmps214 J K4 ?_
 intro w0 sc hw hsc;have hw:=Hw.mk hw
 simp only [Ql,Xj]
 refine go 2 ?_
 refine Yc (Yb 6) fun bx _=>Yc (Yb 7) fun bx_2 _=>Yc (Zr 8) fun bx_3 _=>go 4 ?_
 refine lp (G:=R2×R2×Nat×Value×Value×Value×Value) [1,3,4,6,8] [0,2,3,4,5,6,8] (fun q=>[]) (fun q=>[(7,box bx_2 276 #[.bool (decide (q.1.1<0)),.string (Xn q.1.1.natAbs),.bool (decide (q.1.2<0)),.string (Xn q.1.2.natAbs),.bool (decide (q.2.1.1<0)),.string (Xn q.2.1.1.natAbs),.bool (decide (q.2.1.2<0)),.string (Xn q.2.1.2.natAbs)]),(1,box bf 82 #[q.2.2.2.1,q.2.2.2.2.1,q.2.2.2.2.2.1,q.2.2.2.2.2.2])]) (fun q=>NIn xs s t q.2.2.1 q.1 q.2.1) (fun q=>5436-q.2.2.1) (a0,b0,0,c0,c1,c2,c3) (hI0) trivial K2 ?_
 rintro⟨a,b,j,c0,c1,c2,c3⟩ hI
 dsimp only at hI
 dsimp only
 obtain⟨r1,r2,r3,r4,r5,r6,r7⟩:=hI.round hd h0
 rw [←hgl]at r5 r6 r7
 rw [←hgc]at r6 r7
 refine go 7 ?_
 refine kt O3<|go 13 ?_
 refine cl 8 [2] (Zvm _ a.1 a.2 b.1 b.2 O O O O r3.2.2 r4.2.2 r1) fun _ _=>Yc (Zr 9) fun bx_4 _=>go 9 ?_
 refine tt (Zsa (i:=1) (fs:=[]) (vs:=[_,_]) (us:=[_,_,_]) (Ydt _ _ _ _ _ _ _ _ _ _ _ a b (Qk a b) O O r2.2.2 (Nh hgl (fun q hq=>(Gs hd q hq).1)) (Nh hgl (Zak hd (m:=(Qk a b)) O O).1)) J J J J K2 call215 J J O3 (Yi 2 J J J (Yi 3 J J J (Yi 4 J J J (Yi 5 J J J Yf)))) J hw.h (fun _ _=>trivial)) fun _ _=>go 2 ?_
 refine Zc J (fun h228=>?_) (fun h228=>?_)
 ·refine go 13 ?_
  exact Zw6 (.inl J) hsc (Qk a b,a,b) _ (fun a w hs=>Zbi hs results214 (Hg (i:=8) J J isAgg276 sizeOf276 J)) J (r5 ‹_›) 1 J J J J (Yi 2 J J J (Yi 3 J J J (Yi 4 J J J (Yi 5 J J J Yf))))
 ·refine go 9 ?_
  refine cl 9 [4,5,2] (Am _ _ _ _ _ a.1 a.2 (Qk a b).1 (Qk a b).2 r3.2.2 r2.2.2 (Nh hgl (fun q hq=>(Gs hd q hq).1)) (Nh hgl (Zak hd (m:=a) O O).1) (Nh hgc (fun q hq=>(Zdu hd q hq).1)) (Nh hgc (Zak hd (m:=a) O O).2) (Nh hgc (Zak hd (m:=(Qk a b)) O O).2) (by have h7:=congrArg List.length hgc;rw [List.length_map]at h7;have:=Zl9 xs;omega)) fun _ _=>go 2 ?_
  refine My J (fun h231=>?_) (fun h231=>?_)
  ·refine go 6 ?_
   exact Xg (a,Qk a b,j+1,_,_,_,_) (r6 ‹_› ‹_›) (by have:=hI.j hd h0;dsimp only;omega) trivial K2
  ·refine go 6 ?_
   exact Xg (Qk a b,b,j+1,_,_,_,_) (r7 ‹_› ‹_›) (by have:=hI.j hd h0;dsimp only;omega) trivial K2
theorem Zfe(v:Value)(xs:List Int)(a b:R2)(hd:Cvd xs)(ha:E32 a)(hb:E32 b)(hc:¬0<cmp a b)(hn:ngb (Pd xs) (chx xs) a b=true):Cal prog 163 #[v,rX a.1 a.2,rX b.1 b.2] [Yk 2 wv v xs] false (G:=R2) (fun r=>Fnd xs (qv a) (qv b) r) (fun r=> .tuple #[rX r.1 r.2,.bool true,.int .i64 0]) (fun r=>[]):=by
 refine Zd func163 ntmps163 fun w0 sc hw hsc=>?_
 have ha1:=ha.b1
 have ha2:=ha.b2
 have hap:=ha.p
 have hb1:=hb.b1
 have hb2:=hb.b2
 have hbp:=hb.p
 have hle:=Yf2 ha hb hc
 have h0:=ngb_ne hn
 have hE2:=Yfl ha hb
 have hLl:([slow a,slow b]:List R2).length=2:=rfl
 refine Zi (Nw 999 2 80 wv)<|Zi (Pg 999 J J pV)<|go 2 ?_
 refine Yc (Yb 2) fun bx _=>Yc (Yb 3) fun bx_2 _=>Yc (Zr 4) fun bx_3 _=>go 10 ?_
 refine cl 4 [1] (Znf _ _ a.1 a.2 b.1 b.2 hap hbp hd.v (Zpb hd O) ha.efit hb.efit) fun _ _=>go 6 ?_
 refine kf (decide_eq_false (fun h=>h (if_neg hc)))<|go 8 ?_
 refine cl 5 [1] (sg_of _ _ hd) fun g hg=>?_
 obtain⟨hgl,hgc⟩:=hg
 refine go 3 ?_
 refine Yc (Zr 7) fun bx_4 _=>go 8 ?_
 refine kf O3<|go 7 ?_
 refine Yc (Zr 8) fun bx_5 _=>go 6 ?_
 refine cl 8 [] (Zje a.1 a.2 b.1 b.2 hap hbp) fun _ _=>Yc (Zr 9) fun bx_6 _=>go 8 ?_
 refine cl 9 [5,6,8] (Am _ _ _ _ _ a.1 a.2 b.1 b.2 hap hbp (Nh hgl (fun q hq=>(Gs hd q hq).1)) (Nh hgl (Zak hd (m:=a) O O).1) (Nh hgc (fun q hq=>(Zdu hd q hq).1)) (Nh hgc (Zak hd (m:=a) O O).2) (Nh hgc (Zak hd (m:=b) O O).2) (by have h7:=congrArg List.length hgc;rw [List.length_map]at h7;have:=Zl9 xs;omega)) fun _ _=>go 8 ?_
 refine kf O3<|go 2 ?_
 refine Da (dF (Xt J J) (vB (by rw [hgl,hgc];show(!ngb (Pd xs) (chx xs) a b)=false;rw [hn];rfl))) J J<|go 13 ?_
 refine tt (Qz (i:=10) (ivs:=[(0,_),(1,_)]) (enc:=rq) ([slow a,slow b]:List R2) J J K4 underlying280 ti82 J J (fill24 _ _ _ _ _ _ _ _ _ _ _ _) J J pQ.cells J J hw.h) fun v _=>go 5 ?_
 refine lp (G:=Nat) [6,10,12,13,56,57] [0,1,999,2,3,4,5,6,7,8,9,10] (fun i=>[(58,.int .i64 (i:Int))]) (fun i=>[]) (fun i=>(i≤2)∧(∀k,k<i→¬vlu (g.2.1.map Prod.snd) ([slow a,slow b].getD k (0,0))<0)) (fun i=>2-i) 0 ⟨O1,fun k hk=>absurd hk (Nat.not_lt_zero k)⟩ K1 trivial ?_
 rintro i ⟨hi,hz⟩
 refine go 6 ?_
 refine Zc J (fun h262=>?_) (fun h262=>?_)
 ·refine go 7 ⟨O2,?_⟩
  refine dt (Lz (ii:=10) (0,0) J J J (Yj pQ) pQ O2)<|Yc (Zr 11) fun bx_7 _=>go 4 ?_
  have hEi:=hE2 i O
  have hEb1:=hEi.b1
  have hEb2:=hEi.b2
  refine go 3 ?_
  refine cl 11 [5,6,8] (Zgq _ _ _ _ _ ([slow a,slow b].getD i (0,0)).1 ([slow a,slow b].getD i (0,0)).2 O O hEi.p (Nh hgl (fun q hq=>(Gs hd q hq).1)) (Nh hgl (Zak hd (m:=([slow a,slow b].getD i (0,0))) O O).1)) fun _ _=>go 3 ?_
  refine Zc J (fun h263=>?_) (fun h263=>?_)
  ·refine go 1 ?_
   refine Il [8,11] [5]<|Zl (n:=0) [(0,0),(1,0),(2,0),(3,1),(4,0),(5,3)]<|go 7 ?_
   refine Zw<|go 7 ?_
   exact xe3 hsc ([slow a,slow b].getD i (0,0)) results163 J (Yeo ha hb hle O (by rw [←hgl];assumption)) Za
  ·refine go 7 ⟨O,?_⟩
   exact Xg (i+1) ⟨O1,fun k hk2=>by rcases Nat.lt_succ_iff_lt_or_eq.1 hk2 with h9 | h9;exact hz k h9;subst h9;assumption⟩ O1 K1 trivial
 ·refine go 6 ?_
  have hI0:=Zv2 hd ha hb hle (by have h9:=hz 0 O;rw [hgl]at h9;exact h9) (by have h9:=hz 1 O;rw [hgl]at h9;exact h9) hn
  refine go 1 ?_
  refine Yc (Zr 12) fun bx_8 _=>go 6 ?_
  refine dt (d_mkc (vs:=[]) (us:=[_,_,_]) J trivial K3)<|tt (Zsa (i:=12) (fs:=[]) (vs:=[_,_,_,_]) (us:=[]) (Zit _ _ _ _ _ _ _ xs (slow a) (slow b) (qv a) (qv b) _ _ _ _ hd h0 hgl hgc hI0) J J J J K4 call214 J J O3 (Zeg 8 J J (Zeg 7 J J (Yi 5 J J J (Yi 6 J J J Yf)))) J hw.h (fun _ _=>trivial)) fun g_2 hg_2=>go 7 ?_
  refine kf O3<|go 14 ?_
  exact xe3 hsc (g_2.1) results163 J hg_2 Za
theorem Zgr(v:Value)(xs:List Int)(a b:R2)(hd:Cvd xs)(ha:E32 a)(hb:E32 b)(hc:¬0<cmp a b)(hn:ngb (Pd xs) (chx xs) a b=false):Pn prog 163 #[v,rX a.1 a.2,rX b.1 b.2] [Yk 2 wv v xs] (.tuple #[.agg #[.bool false,.string ⟨#[]⟩,.bool false,.string ⟨#[]⟩],.bool false,.int .i64 0]):=by
 refine Zd func163 ntmps163 fun w0 sc hw hsc=>?_
 have ha1:=ha.b1
 have ha2:=ha.b2
 have hap:=ha.p
 have hb1:=hb.b1
 have hb2:=hb.b2
 have hbp:=hb.p
 refine Zi (Nw 999 2 80 wv)<|Zi (Pg 999 J J pV)<|go 2 ?_
 refine Yc (Yb 2) fun bx _=>Yc (Yb 3) fun bx_2 _=>Yc (Zr 4) fun bx_3 _=>go 10 ?_
 refine cl 4 [1] (Znf _ _ a.1 a.2 b.1 b.2 hap hbp hd.v (Zpb hd O) ha.efit hb.efit) fun _ _=>go 6 ?_
 refine kf (decide_eq_false (fun h=>h (if_neg hc)))<|go 8 ?_
 refine cl 5 [1] (sg_of _ _ hd) fun g hg=>?_
 obtain⟨hgl,hgc⟩:=hg
 refine go 3 ?_
 refine Yc (Zr 7) fun bx_4 _=>go 8 ?_
 refine kf O3<|go 7 ?_
 refine Yc (Zr 8) fun bx_5 _=>go 6 ?_
 refine cl 8 [] (Zje a.1 a.2 b.1 b.2 hap hbp) fun _ _=>Yc (Zr 9) fun bx_6 _=>go 8 ?_
 refine cl 9 [5,6,8] (Am _ _ _ _ _ a.1 a.2 b.1 b.2 hap hbp (Nh hgl (fun q hq=>(Gs hd q hq).1)) (Nh hgl (Zak hd (m:=a) O O).1) (Nh hgc (fun q hq=>(Zdu hd q hq).1)) (Nh hgc (Zak hd (m:=a) O O).2) (Nh hgc (Zak hd (m:=b) O O).2) (by have h7:=congrArg List.length hgc;rw [List.length_map]at h7;have:=Zl9 xs;omega)) fun _ _=>go 8 ?_
 refine kf O3<|go 2 ?_
 refine Da (dT (Xt J J) (vB (by rw [hgl,hgc];show(!ngb (Pd xs) (chx xs) a b)=true;rw [hn];rfl))) J J<|go 5 ?_
 refine Il [8] [5]<|Zl (n:=0) [(0,0),(1,0),(2,0),(3,1),(4,0),(5,3)]<|Qb J J (Ai (Qg (ivs:=[]) J trivial (fun a w hs=>Yck)) K1)<|go 6 ?_
 refine Zw<|go 3 ?_
 exact xe3 hsc () results163 J trivial Za
set_option maxHeartbeats 1000000
theorem ve_ins(v:Value)(l:List Int)(m:Int)(hm:0≤m∧m≤16777216):Cal Tryz.prog 124 #[.int .i64 m,v] [Yk 1 Yu v l] false (G:=Unit) (fun _=>True) (fun _=> .bool (Zqw m l)) (fun _=>[]):=by
 refine Zd Tryz.func124 Tryz.ntmps124 fun w0 sc hw hsc=>?_
 refine Mr (Er (i:=1) rfl Zk) (fun hlen=>?_)
 refine go 14 ?_
 refine lp (G:=Nat) [0,7,8] [0,1] (fun k=>[(9,.int .i64 (k:Int))]) (fun k=>[]) (fun k=>(k≤l.length)∧(∀i,i<k→-m≤l.getD i 0∧l.getD i 0≤m)) (fun k=>l.length-k) 0 ⟨O1,fun i hi=>absurd hi (Nat.not_lt_zero i)⟩ ⟨rfl,trivial⟩ trivial ?_
 rintro k ⟨hk,hz⟩
 refine go 6 ?_
 refine Zc rfl (fun h18=>?_) (fun h18=>?_)
 ·refine go 15 ⟨O2,O2,?_⟩
  refine dt (d_negi rfl rfl ⟨O,O⟩) ?_
  refine go 2 ?_
  refine Yv (d:=17) rfl (fun s19=>?_) (fun s19=>?_)
  ·refine go 18 ?_
   exact Xo hsc () Tryz.results124 (by rw [Yab (i:=k) O O]) trivial Za
  ·refine go 6 ?_
   refine Zc rfl (fun h19=>?_) (fun h19=>?_)
   ·refine go 11 ?_
    exact Xo hsc () Tryz.results124 (by rw [Yab (i:=k) O O]) trivial Za
   ·refine go 7 ⟨O,?_⟩
    exact Xg (k+1) ⟨O1,fun i hi=>by rcases Nat.lt_succ_iff_lt_or_eq.1 hi with h9 | h9;exact hz i h9;subst h9;exact⟨O,O⟩⟩ O1 ⟨rfl,trivial⟩ trivial
 ·refine go 11 ?_
  exact Xo hsc () Tryz.results124 (by rw [insB_t fun i hi=>hz i O]) trivial Za
theorem Zge(x y z:Int):Cal Tryz.prog 61 #[.agg #[.int .i64 x,.int .i64 y,.int .i64 z]] [] false (G:=Unit) (fun _=>True) (fun _=> .bool (ptB x y z)) (fun _=>[]):=by
 refine Zd Tryz.func61 Tryz.ntmps61 fun w0 sc hw hsc=>?_
 refine go 2 ?_
 refine Yc (Yb 1) fun bx _=>?_
 refine go 11 ?_
 refine tt (Qz (i:=2) (ivs:=[(0,_),(1,_),(2,_)]) (enc:=Yu) ([x,y,z]:List Int) rfl rfl ⟨rfl,rfl,rfl,rfl,rfl,rfl,trivial⟩ Tryz.underlying33 Tryz.ti3 rfl rfl rfl rfl rfl pZ.cells rfl rfl hw.h) (fun v _=>?_)
 refine cl 2 [2] (ve_ins _ [x,y,z] 1048576 ⟨O3,O3⟩) fun _ _=>?_
 refine go 4 ?_
 exact Xo hsc () Tryz.results61 rfl trivial Za
theorem Es(zd zn ze:Int):Cal Tryz.prog 15 #[.agg #[.int .i64 zd,.int .i64 zn,.int .i64 ze]] [] false (G:=Unit) (fun _=>True) (fun _=> .bool (znB zd zn ze)) (fun _=>[]):=by
 refine Zd Tryz.func15 Tryz.ntmps15 fun w0 sc hw hsc=>?_
 refine go 2 ?_
 refine Yc (Yb 1) fun bx _=>?_
 refine go 9 ?_
 refine Yv (d:=6) rfl (fun s19=>?_) (fun s19=>?_)
 ·refine go 5 ?_
  refine Yv (d:=11) rfl (fun s19_2=>?_) (fun s19_2=>?_)
  ·refine go 5 ?_
   refine Yv (d:=16) rfl (fun s19_3=>?_) (fun s19_3=>?_)
   ·refine go 7 ?_
    refine Yv (d:=23) rfl (fun s19_4=>?_) (fun s19_4=>?_)
    ·refine go 8 ?_
     exact Xo hsc () Tryz.results15 (by unfold znB;first | (simp_all;done) | (simp_all;omega)) trivial Za
    ·refine go 8 ?_
     exact Xo hsc () Tryz.results15 (by unfold znB;first | (simp_all;done) | (simp_all;omega)) trivial Za
   ·refine go 15 ?_
    exact Xo hsc () Tryz.results15 (by unfold znB;first | (simp_all;done) | (simp_all;omega)) trivial Za
  ·refine go 20 ?_
   exact Xo hsc () Tryz.results15 (by unfold znB;first | (simp_all;done) | (simp_all;omega)) trivial Za
 ·refine go 25 ?_
  exact Xo hsc () Tryz.results15 (by unfold znB;first | (simp_all;done) | (simp_all;omega)) trivial Za
set_option maxHeartbeats 1000000 in
theorem Zq9(ax ay az cx cy cz zd zn ze:Int)(hb:¬(ptB ax ay az=true∧ptB cx cy cz=true∧znB zd zn ze=true)):Cal Tryz.prog 14 #[.agg #[.int .i64 ax,.int .i64 ay,.int .i64 az],.agg #[.int .i64 cx,.int .i64 cy,.int .i64 cz],.agg #[.int .i64 zd,.int .i64 zn,.int .i64 ze]] [] false (G:=Unit) (fun _=>True) (fun _=> .tuple #[.bool false,.int .i64 2]) (fun _=>[]):=by
 refine Zd Tryz.func14 Tryz.ntmps14 fun w0 sc hw hsc=>?_
 refine go 2 ?_
 refine Yc (Yb 1) fun bx _=>?_
 refine Yc (Yb 2) fun bx_2 _=>?_
 refine Yc (Yb 3) fun bx_3 _=>?_
 refine go 6 ?_
 rcases Zns hb with hc1 | ⟨hc1,hc2⟩ | ⟨hc1,hc2,hc3⟩
 ·refine go 2 ?_
  refine cl 3 [] (Zge _ _ _) fun _ _=>?_
  refine dt (Zp (r':= .bool true) (Xt rfl rfl) (congrArg (fun b=>Value.bool (!b)) hc1)) ?_
  refine go 21 ?_
  exact Nu hsc () Tryz.results14 rfl trivial Za
 ·refine go 2 ?_
  refine cl 3 [] (Zge _ _ _) fun _ _=>?_
  refine dt (Zp (r':= .bool false) (Xt rfl rfl) (congrArg (fun b=>Value.bool (!b)) hc1)) ?_
  refine go 2 ?_
  refine Hs 3 [] (Zge _ _ _) fun _ _=>?_
  refine Da (Zp (r':= .bool true) (Xt rfl rfl) (congrArg (fun b=>Value.bool (!b)) hc2)) rfl rfl ?_
  refine go 17 ?_
  exact Nu hsc () Tryz.results14 rfl trivial Za
 ·refine go 2 ?_
  refine cl 3 [] (Zge _ _ _) fun _ _=>?_
  refine dt (Zp (r':= .bool false) (Xt rfl rfl) (congrArg (fun b=>Value.bool (!b)) hc1)) ?_
  refine go 2 ?_
  refine Hs 3 [] (Zge _ _ _) fun _ _=>?_
  refine Da (Zp (r':= .bool false) (Xt rfl rfl) (congrArg (fun b=>Value.bool (!b)) hc2)) rfl rfl ?_
  refine go 3 ?_
  refine Hs 3 [] (Es _ _ _) fun _ _=>?_
  refine Da (Zp (r':= .bool true) (Xt rfl rfl) (congrArg (fun b=>Value.bool (!b)) hc3)) rfl rfl ?_
  refine go 12 ?_
  exact Nu hsc () Tryz.results14 rfl trivial Za
set_option maxHeartbeats 1000000 in
theorem Ya4(ax ay az cx cy cz zd zn ze:Int)(hpa:ptB ax ay az=true)(hpb:ptB cx cy cz=true)(hz:znB zd zn ze=true):Cal Tryz.prog 14 #[.agg #[.int .i64 ax,.int .i64 ay,.int .i64 az],.agg #[.int .i64 cx,.int .i64 cy,.int .i64 cz],.agg #[.int .i64 zd,.int .i64 zn,.int .i64 ze]] [] false (G:=Unit) (fun _=>True) (fun _=> .tuple #[.bool (Zyy ax ay az cx cy cz zd zn ze),.int .i64 0]) (fun _=>[]):=by
 refine Zd Tryz.func14 Tryz.ntmps14 fun w0 sc hw hsc=>?_
 obtain⟨p1,p2,p3⟩:=Yed hpa
 obtain⟨q1,q2,q3⟩:=Yed hpb
 obtain⟨z1,z2,z3,z4,z5⟩:=zn_b hz
 have m1:=Aw (x:=(ax-cx)) (y:=ze) (A:=2097152) (B:=100) O O
 have m2:=Aw (x:=(ay-cy)) (y:=ze) (A:=2097152) (B:=100) O O
 have m3:=Aw (x:=(az-cz)) (y:=zn) (A:=2097152) (B:=100) O O
 have m4:=Aw (x:=((ax-cx)*ze)) (y:=((ax-cx)*ze)) (A:=209715200) (B:=209715200) O O
 have m5:=Aw (x:=((ay-cy)*ze)) (y:=((ay-cy)*ze)) (A:=209715200) (B:=209715200) O O
 have m6:=Aw (x:=((az-cz)*zn)) (y:=((az-cz)*zn)) (A:=209715200) (B:=209715200) O O
 have m7:=Aw (x:=zd) (y:=ze) (A:=4194304) (B:=100) O O
 have m8:=Aw (x:=(zd*ze)) (y:=(zd*ze)) (A:=419430400) (B:=419430400) O O
 refine go 2 ?_
 refine Yc (Yb 1) fun bx _=>?_
 refine Yc (Yb 2) fun bx_2 _=>?_
 refine Yc (Yb 3) fun bx_3 _=>?_
 refine go 8 ?_
 refine cl 3 [] (Zge _ _ _) fun _ _=>?_
 refine dt (Zp (r':= .bool false) (Xt rfl rfl) (congrArg (fun b=>Value.bool (!b)) hpa)) ?_
 refine go 2 ?_
 refine Hs 3 [] (Zge _ _ _) fun _ _=>?_
 refine Da (Zp (r':= .bool false) (Xt rfl rfl) (congrArg (fun b=>Value.bool (!b)) hpb)) rfl rfl ?_
 refine go 3 ?_
 refine Hs 3 [] (Es _ _ _) fun _ _=>?_
 refine Da (Zp (r':= .bool false) (Xt rfl rfl) (congrArg (fun b=>Value.bool (!b)) hz)) rfl rfl ?_
 refine go 7 ?_
 refine Qe (fun _=>False) [(0,0),(1,0),(2,0),(3,0),(4,0),(5,0),(6,0),(7,0),(8,0),(9,0),(10,0),(11,0),(12,0),(13,0),(14,0),(15,0),(16,0),(17,0),(18,0),(19,0),(20,0),(21,0),(22,0),(23,0),(24,0),(25,0),(26,3)] ?_
 refine go 61 ⟨O,O,O,O,O,O,O,O,O,O,O,O,O,?_⟩
 exact Nu hsc () Tryz.results14 rfl trivial Za
set_option maxHeartbeats 1000000 in
theorem Zty(fr to ov fr2 to2 ov2:Int)(vx vy vz vx2 vy2 vz2:Value)(x y z x2 y2 z2:List Int)(zd zn ze:Int)(hS:Sgo fr to ov x y z)(hS2:Sgo fr2 to2 ov2 x2 y2 z2)(hA:∀i,Ab KA (tzl (Zt i x y z)))(hA2:∀i,Ab KA (tzl (Zt i x2 y2 z2)))(hzn:znB zd zn ze=true):Cal Tryz.prog 74 #[.agg #[.int .i64 fr,.int .i64 to,.int .i64 ov,vx,vy,vz],.agg #[.int .i64 fr2,.int .i64 to2,.int .i64 ov2,vx2,vy2,vz2],.agg #[.int .i64 zd,.int .i64 zn,.int .i64 ze]] [Yk 1 Yu vx x,Yk 1 Yu vy y,Yk 1 Yu vz z,Yk 1 Yu vx2 x2,Yk 1 Yu vy2 y2,Yk 1 Yu vz2 z2] true (G:=SL×List Int) (fun g=>g.2=fmZ zd zn ze ov ov2 x y z x2 y2 z2) (fun g=>Qq g.1) (fun g=>[Yk 2 wv (Qq g.1) g.2]):=by
 refine Zd Tryz.func74 Tryz.ntmps74 fun w0 sc hw hsc=>?_
 have hF:=fzX hS hS2 hA hA2 hzn
 refine go 2 ?_
 refine Yc (Yb 7) fun bx _=>?_
 refine Yc (Yb 8) fun bx_2 _=>?_
 refine Yc (Yb 9) fun bx_3 _=>?_
 refine go 5 ?_
 refine tt (Qz (i:=10) (ivs:=[(0,_)]) (enc:=Yu) ([-1]:List Int) rfl rfl ⟨rfl,rfl,trivial⟩ Tryz.underlying33 Tryz.ti3 rfl rfl rfl rfl rfl pZ.cells rfl rfl hw.h) (fun v _=>?_)
 refine Xu (Pg 10 rfl rfl pZ) ?_
 refine cl 11 [10] (Zc8 _ _ (fun a ha=>by rw [List.mem_singleton.1 ha];exact⟨O3,O3⟩)) fun _ _=>?_
 refine Xu (Mv 11 (q:=Yk 2 wv _ [-1]) (congrArg (Yk 2 wv _) tzlm1) rfl rfl) ?_
 refine go 18 ?_
 refine dt (Qg (ivs:=[(0,_),(1,_),(2,_),(3,_)]) rfl ⟨rfl,rfl,rfl,rfl,rfl,rfl,rfl,rfl,trivial⟩ (fun a w hs=>Zwz ((Zz rfl) a w hs) ((Zz rfl) a w hs) ((Zz rfl) a w hs) ((Zz rfl) a w hs))) ?_
 refine go 4 ?_
 refine Zi (Mw 11 80 rfl rfl rfl) ?_
 refine lp (G:=Nat×Value) [3,4,5,30] [0,1,2,3,4,5,6,7,8,9,10,11] (fun q=>[(31,.int .i64 (q.1:Int)),(7,q.2)]) (fun q=>[(80,Yk 2 wv q.2 (ngC [zd,ze,ov,ov2] q.1))]) (fun q=>q.1≤4) (fun q=>4-q.1) (0,_) O1 ⟨rfl,rfl,trivial⟩ ⟨rfl,trivial⟩ ?_
 rintro⟨i,vs⟩ hi
 dsimp only at hi
 dsimp only
 have hNi:=hF.N i hi
 refine go 6 ?_
 refine Zc rfl (fun h41=>?_) (fun h41=>?_)
 ·refine go 6 ?_
  refine dt (d_ix4 (i:=i) rfl rfl rfl Tryz.underlying186 Tryz.sizeOf3 Tryz.isAgg3 rfl O) ?_
  refine go 7 ?_
  refine cl 11 [] (Zh ([zd,ze,ov,ov2].getD i 0) hNi.inn) fun _ _=>?_
  refine cl 12 [80] (Nr _ (ngC [zd,ze,ov,ov2] i) ([zd,ze,ov,ov2].getD i 0) hNi.v hNi.b hNi.s) fun _ _=>?_
  refine go 9 ?_
  refine cl 12 [] (Zh ([zd,ze,ov,ov2].getD i 0) hNi.inn) fun _ _=>?_
  refine cl 13 [12] (Nr _ (Yp (ngC [zd,ze,ov,ov2] i) ([zd,ze,ov,ov2].getD i 0)) ([zd,ze,ov,ov2].getD i 0) hNi.v2 hNi.b hNi.s2) fun _ _=>?_
  refine go 11 ⟨O,?_⟩
  refine Yw (Mw 13 80 rfl rfl rfl) ?_
  exact Xg (i+1,_) O1 O1 ⟨rfl,rfl,trivial⟩ ⟨rfl,trivial⟩
 ·obtain rfl:i=4:=O
  refine go 14 ?_
  refine dt (Qg (ivs:=[(0,_),(1,_),(2,_)]) rfl ⟨rfl,rfl,rfl,rfl,rfl,rfl,trivial⟩ (fun a w hs=>Zil ((Qt (i:=1) rfl Zk) a w hs) ((Qt (i:=4) rfl Zk) a w hs) ((Zz rfl) a w hs))) ?_
  refine go 6 ?_
  refine dt (Qg (ivs:=[(0,_),(1,_),(2,_)]) rfl ⟨rfl,rfl,rfl,rfl,rfl,rfl,trivial⟩ (fun a w hs=>Zil ((Qt (i:=2) rfl Zk) a w hs) ((Qt (i:=5) rfl Zk) a w hs) ((Zz rfl) a w hs))) ?_
  refine go 6 ?_
  refine dt (Qg (ivs:=[(0,_),(1,_),(2,_)]) rfl ⟨rfl,rfl,rfl,rfl,rfl,rfl,trivial⟩ (fun a w hs=>Zil ((Qt (i:=3) rfl Zk) a w hs) ((Qt (i:=6) rfl Zk) a w hs) ((Zz rfl) a w hs))) ?_
  refine dt (Qg (ivs:=[(0,_),(1,_),(2,_)]) rfl ⟨rfl,rfl,rfl,rfl,rfl,rfl,trivial⟩ (fun a w hs=>Ycm)) ?_
  refine go 4 ?_
  refine lp (G:=Nat×Value) [3,4,70] [0,1,2,3,4,5,6,7,8,9,10,11] (fun q=>[(71,.int .i64 (q.1:Int)),(7,q.2)]) (fun q=>[(80,Yk 2 wv q.2 (smZ zd zn ze ov ov2 x y z x2 y2 z2 q.1))]) (fun q=>q.1≤3) (fun q=>3-q.1) (0,_) O1 ⟨rfl,rfl,trivial⟩ ⟨rfl,trivial⟩ ?_
  rintro⟨i,vs⟩ hi
  dsimp only at hi
  dsimp only
  have hXi:=hF.X i
  refine go 6 ?_
  refine Zc rfl (fun h45=>?_) (fun h45=>?_)
  ·refine go 5 ?_
   refine Zi (Zb0 i 1 2 3 50 rfl rfl rfl rfl rfl rfl) ?_
   refine Zi (Zb0 i 4 5 6 51 rfl rfl rfl rfl rfl rfl) ?_
   refine go 1 ?_
   refine dt (d_ix9 (i:=i) rfl rfl rfl Tryz.underlying190 Tryz.sizeOf189 Tryz.isAgg189 rfl O) ?_
   refine Yc (Zr 14) fun bx_4 _=>?_
   refine go 7 ?_
   refine cl 15 [50] (Zc8 _ _ (hS.hc i) (Nat.le_trans (hS.lc i).2 O3)) fun _ _=>?_
   refine Xu (Mv 15 (q:=Yk 2 wv _ (tzl (Zt i x y z))) (congrArg (Yk 2 wv _) (if_neg (Zkb (hS.lc i).2))) rfl rfl) ?_
   refine go 11 ?_
   refine cl 16 [51] (Zc8 _ _ (hS2.hc i) (Nat.le_trans (hS2.lc i).2 O3)) fun _ _=>?_
   refine Xu (Mv 16 (q:=Yk 2 wv _ (tzl (Zt i x2 y2 z2))) (congrArg (Yk 2 wv _) (if_neg (Zkb (hS2.lc i).2))) rfl rfl) ?_
   refine go 12 ?_
   refine cl 16 [] (Zh ov2 (inI_o hS2)) fun _ _=>?_
   refine cl 17 [15] (Nr _ _ ov2 hXi.v1 hXi.b1 hXi.s1) fun _ _=>?_
   refine go 11 ?_
   refine cl 17 [] (Zh ov (inI_o hS)) fun _ _=>?_
   refine cl 18 [16] (Nr _ _ ov hXi.v2 hXi.a1 hXi.s2) fun _ _=>?_
   refine go 10 ?_
   refine cl 19 [17,18] (Zy5 _ _ (Yp (tzl (Zt i x y z)) ov2) (Yp (tzl (Zt i x2 y2 z2)) ov) hXi.v3 hXi.v4 hXi.s3) fun _ _=>?_
   refine Xu (Mv 19 (q:=Yk 2 wv _ (dfP (Zt i x y z) (Zt i x2 y2 z2) ov ov2)) (congrArg (Yk 2 wv _) rfl) rfl rfl) ?_
   refine go 11 ?_
   refine cl 19 [] (Zh (Zt i ze ze zn) (hF.K i)) fun _ _=>?_
   refine cl 20 [19] (Nr _ _ (Zt i ze ze zn) hXi.v5 hXi.k1 hXi.s4) fun _ _=>?_
   refine Xu (Mv 20 (q:=Yk 2 wv _ (dfK (Zt i x y z) (Zt i x2 y2 z2) ov ov2 (Zt i ze ze zn))) (congrArg (Yk 2 wv _) rfl) rfl rfl) ?_
   refine go 10 ?_
   refine cl 21 [20,20] (Znx _ _ (dfK (Zt i x y z) (Zt i x2 y2 z2) ov ov2 (Zt i ze ze zn)) (dfK (Zt i x y z) (Zt i x2 y2 z2) ov ov2 (Zt i ze ze zn)) hXi.v6 hXi.v6 hXi.m6) fun _ _=>?_
   refine Xu (Mv 21 (q:=Yk 2 wv _ (sqK (Zt i x y z) (Zt i x2 y2 z2) ov ov2 (Zt i ze ze zn))) (congrArg (Yk 2 wv _) rfl) rfl rfl) ?_
   refine go 9 ?_
   refine cl 22 [80,21] (Zy6 _ _ (smZ zd zn ze ov ov2 x y z x2 y2 z2 i) (sqK (Zt i x y z) (Zt i x2 y2 z2) ov ov2 (Zt i ze ze zn)) (hF.Q.v i O) hXi.v7 (hF.Q.s i O)) fun _ _=>?_
   refine Xu (Mv 22 (q:=Yk 2 wv _ (smZ zd zn ze ov ov2 x y z x2 y2 z2 (i+1))) (congrArg (Yk 2 wv _) rfl) rfl rfl) ?_
   refine go 11 ⟨O,?_⟩
   refine Yw (Mw 22 80 rfl rfl rfl) ?_
   exact Xg (i+1,_) O1 O1 ⟨rfl,rfl,trivial⟩ ⟨rfl,trivial⟩
  ·obtain rfl:i=3:=O
   refine go 8 ?_
   refine cl 23 [80] (Oj _ _ (hF.Q.v 3 (Nat.le_refl _))) fun _ _=>?_
   refine Xu (Mv 23 (q:=Yk 2 wv _ (fmZ zd zn ze ov ov2 x y z x2 y2 z2)) (congrArg (Yk 2 wv _) rfl) rfl rfl) ?_
   refine go 13 ?_
   refine Zpx (Md 23 rfl Zk) (fun sq hsq=>?_)
   subst hsq
   generalize fmZ zd zn ze ov ov2 x y z x2 y2 z2=X9
   exact Xo hsc (sq,X9) Tryz.results74 rfl rfl (Nz 23 Za)
set_option maxHeartbeats 1000000 in
theorem Ztz(fr to ov fr2 to2 ov2:Int)(vx vy vz vx2 vy2 vz2:Value)(x y z x2 y2 z2:List Int)(zd zn ze:Int)(hfr:Nc fr)(hto:Nc to)(hov:Nc ov)(hx:∀a∈x,Nc a)(hy:∀a∈y,Nc a)(hz:∀a∈z,Nc a)(hfr2:Nc fr2)(hto2:Nc to2)(hov2:Nc ov2)(hx2:∀a∈x2,Nc a)(hy2:∀a∈y2,Nc a)(hz2:∀a∈z2,Nc a)(hb1:Fi fr to ov x y z=true)(hb2:Fi fr2 to2 ov2 x2 y2 z2=true)(hft:fr=fr2)(htt:to=to2)(hzn:znB zd zn ze=true):Cal Tryz.prog 21 #[.agg #[.int .i64 fr,.int .i64 to,.int .i64 ov,vx,vy,vz],.agg #[.int .i64 fr2,.int .i64 to2,.int .i64 ov2,vx2,vy2,vz2],.agg #[.int .i64 zd,.int .i64 zn,.int .i64 ze]] [Yk 1 Yu vx x,Yk 1 Yu vy y,Yk 1 Yu vz z,Yk 1 Yu vx2 x2,Yk 1 Yu vy2 y2,Yk 1 Yu vz2 z2] true (G:=SL×List Int) (fun g=>g.2=fmZ zd zn ze ov ov2 x y z x2 y2 z2) (fun g=> .tuple #[Qq g.1,.int .i64 0]) (fun g=>[Yk 2 wv (Qq g.1) g.2]):=by
 refine Zd Tryz.func21 Tryz.ntmps21 fun w0 sc hw hsc=>?_
 refine go 2 ?_
 refine Yc (Yb 7) fun bx _=>?_
 refine Yc (Yb 8) fun bx_2 _=>?_
 refine Yc (Yb 9) fun bx_3 _=>?_
 refine go 8 ?_
 refine cl 9 [1,2,3] (Aj _ _ _ _ _ _ _ _ _ hfr hto hov hx hy hz) fun _ _=>?_
 refine dt (Zp (r':= .bool false) (Xt rfl rfl) (congrArg (fun b=>Value.bool (!b)) hb1)) ?_
 refine go 2 ?_
 refine Hs 9 [4,5,6] (Aj _ _ _ _ _ _ _ _ _ hfr2 hto2 hov2 hx2 hy2 hz2) fun _ _=>?_
 refine Da (Zp (r':= .bool false) (Xt rfl rfl) (congrArg (fun b=>Value.bool (!b)) hb2)) rfl rfl ?_
 refine go 6 ?_
 refine kfg (decide_eq_false (fun h=>h hft)) ?_
 refine go 6 ?_
 refine kfg (decide_eq_false (fun h=>h htt)) ?_
 refine go 3 ?_
 refine Hs 9 [] (Es _ _ _) fun _ _=>?_
 refine Da (Zp (r':= .bool false) (Xt rfl rfl) (congrArg (fun b=>Value.bool (!b)) hzn)) rfl rfl ?_
 refine go 11 ?_
 refine cl 10 [1,2,3,4,5,6] (Zty _ _ _ _ _ _ _ _ _ _ _ _ _ _ _ _ _ _ _ _ _ (Sgo.of hx hy hz hb1) (Sgo.of hx2 hy2 hz2 hb2) (Zed hb1) (Zed hb2) hzn) fun fq hfq=>?_
 refine go 5 ?_
 exact Nu hsc _ Tryz.results21 rfl hfq (Nz 10 Za)
theorem Zra(v:Value)(xs:List Int)(hd:Cvd xs)(hn:ngb (Pd xs) (chx xs) (0,1) (1,1)=true):Cal Tryz.prog 152 #[v] [Yk 2 wv v xs] false (G:=Unit) (fun _=>True) (fun _=> .bool true) (fun _=>[]):=by
 refine Zd Tryz.func152 Tryz.ntmps152 fun w0 sc hw hsc=>?_
 refine go 7 ?_
 refine cl 1 [] (Fn 0 1 ⟨O3,O3⟩ ⟨O3,O3⟩ O3) fun _ _=>?_
 refine go 3 ?_
 refine Yc (Zr 2) fun bx _=>?_
 refine go 6 ?_
 refine cl 2 [] (Fn 1 1 ⟨O3,O3⟩ ⟨O3,O3⟩ O3) fun _ _=>?_
 refine go 3 ?_
 refine Yc (Zr 3) fun bx_2 _=>?_
 refine go 9 ?_
 refine cl 3 [1] (Zfe _ _ (0,1) (1,1) hd e32_0 e32_1 cmp01 hn) fun g hg=>?_
 refine go 4 ?_
 refine Yc (Zr 4) fun bx_3 _=>?_
 refine go 12 ?_
 exact Xo hsc () Tryz.results152 rfl trivial Za
theorem Zwn(v:Value)(xs:List Int)(hd:Cvd xs)(hn:ngb (Pd xs) (chx xs) (0,1) (1,1)=false):Cal Tryz.prog 152 #[v] [Yk 2 wv v xs] false (G:=Unit) (fun _=>True) (fun _=> .bool false) (fun _=>[]):=by
 refine Zd Tryz.func152 Tryz.ntmps152 fun w0 sc hw hsc=>?_
 refine go 7 ?_
 refine cl 1 [] (Fn 0 1 ⟨O3,O3⟩ ⟨O3,O3⟩ O3) fun _ _=>?_
 refine go 3 ?_
 refine Yc (Zr 2) fun bx _=>?_
 refine go 6 ?_
 refine cl 2 [] (Fn 1 1 ⟨O3,O3⟩ ⟨O3,O3⟩ O3) fun _ _=>?_
 refine go 3 ?_
 refine Yc (Zr 3) fun bx_2 _=>?_
 refine go 9 ?_
 refine cl 3 [1] (Zgr _ _ (0,1) (1,1) hd e32_0 e32_1 cmp01 hn) fun _ _=>?_
 refine go 4 ?_
 refine Yc (Zr 4) fun bx_3 _=>?_
 refine go 12 ?_
 exact Xo hsc () Tryz.results152 rfl trivial Za
theorem dw_neg(v:Value)(xs:List Int)(hd:Cvd xs):Cal Tryz.prog 152 #[v] [Yk 2 wv v xs] false (G:=Unit) (fun _=>True) (fun _=> .bool (Zca xs)) (fun _=>[]):=by
 unfold Zca
 cases hn:ngb (Pd xs) (chx xs) (0,1) (1,1)with
 | true=>exact Zra v xs hd hn
 | false=>exact Zwn v xs hd hn
set_option maxHeartbeats 1000000 in
theorem Yfm(va vb:Value)(pa pb:List Zn)(zd zn ze:Int)(hpa:∀g∈pa,Gin g)(hpb:∀g∈pb,Gin g)(hba:Ox pa=true)(hbb:Ox pb=true)(hla:pa.length≤5)(hlb:pb.length≤5)(hzn:znB zd zn ze=true):Cal Tryz.prog 26 #[va,vb,.agg #[.int .i64 zd,.int .i64 zn,.int .i64 ze]] [Ps 6 Mp qG va pa,Ps 6 Mp qG vb pb] true (G:=Value×List GpT) (fun g=>g.2.map unP=Dx zd zn ze pa pb) (fun g=> .tuple #[g.1,.int .i64 (Ziy pa pb)]) (fun g=>[Ps 3 Zh2 qGp g.1 g.2]):=by
 refine Zd Tryz.func26 Tryz.ntmps26 fun w0 sc hw hsc=>?_
 refine go 2 ?_
 refine Yc (Yb 3) fun bx _=>?_
 refine go 8 ?_
 refine cl 3 [] (Es _ _ _) fun _ _=>?_
 refine dt (Zp (r':= .bool false) (Xt rfl rfl) (congrArg (fun b=>Value.bool (!b)) hzn)) ?_
 refine go 9 ?_
 refine cl 4 [1,2] (Zvj _ _ _ _ hpa hpb hba hbb hla hlb) fun gm hgm=>?_
 refine go 16 ?_
 refine Zc rfl (fun h73=>?_) (fun h73=>?_)
 ·have h9:=h73
  refine go 8 ?_
  refine Yw (Zc0 72 3 Zh2 qGp) ?_
  exact Nu hsc (.slice none 0 0,[]) Tryz.results26 (by rw [gapE_9 h9]) (gapZ_0 O).symm (Nz 72 Za)
 ·have h9:=h73
  refine go 16 ?_
  refine Zi (Nw 74 3 130 Zh2) ?_
  refine Zi (Pb qGp 76) ?_
  have hcl:=Zuh hpa hpb hba hbb
  have hxl:gm.1.2.length=(Ks pa pb pa).length:=by rw [←hgm.1,List.length_map]
  have hyl:gm.2.2.length=(Ks pa pb pb).length:=by rw [←hgm.2,List.length_map]
  refine lp (G:=Nat×Value×List GpT) [5,8,9,10,26] [0,1,2,3,4,5] (fun q=>[(27,.int .i64 (q.1:Int)),(11,q.2.1)]) (fun q=>[(74,Pu 3 130 Zh2 q.2.1 q.2.2),(76,Gc qGp q.2.2)]) (fun q=>(q.1≤gm.1.2.length)∧(q.2.2.map unP=(Dx zd zn ze pa pb).take q.1)∧(q.2.2.length=q.1)) (fun q=>gm.1.2.length-q.1) (0,.slice none 0 0,[]) ⟨O1,(by rw [List.take_zero];rfl),rfl⟩ ⟨rfl,rfl,trivial⟩ ⟨rfl,rfl,trivial⟩ ?_
  rintro⟨k,vq,zs⟩ ⟨hk,hzs,hzl⟩
  dsimp only at hk hzs hzl
  dsimp only
  refine go 6 ?_
  refine Zc rfl (fun h77=>?_) (fun h77=>?_)
  ·refine go 10 ?_
   obtain⟨gi1,gi2⟩:=Zl4 hpa hba hgm.1 _ (Zu (d:=G0) (show k<gm.1.2.length by omega))
   obtain⟨gj1,gj2⟩:=Zl4 hpb hbb hgm.2 _ (Zu (d:=G0) (show k<gm.2.2.length by omega))
   refine Zi (Nv (g:=(gm.1.2.getD k G0)) (z:=(gm.1.2.getD k G0).2.1) 4 51 rfl rfl (Zu) O6) ?_
   refine Zi (Nv (g:=(gm.1.2.getD k G0)) (z:=(gm.1.2.getD k G0).2.2.1) 4 52 rfl rfl (Zu) O6) ?_
   refine Zi (Nv (g:=(gm.1.2.getD k G0)) (z:=(gm.1.2.getD k G0).2.2.2) 4 53 rfl rfl (Zu) O6) ?_
   refine Zi (Nv (g:=(gm.2.2.getD k G0)) (z:=(gm.2.2.getD k G0).2.1) 5 54 rfl rfl (Zu) O6) ?_
   refine Zi (Nv (g:=(gm.2.2.getD k G0)) (z:=(gm.2.2.getD k G0).2.2.1) 5 55 rfl rfl (Zu) O6) ?_
   refine Zi (Nv (g:=(gm.2.2.getD k G0)) (z:=(gm.2.2.getD k G0).2.2.2) 5 56 rfl rfl (Zu) O6) ?_
   refine Il [3,4,5] [24] ?_
   refine Zl (n:=0) [(0,0),(1,0),(2,0),(3,0),(4,0),(5,0),(6,0),(7,0),(8,0),(9,0),(10,0),(11,0),(12,0),(13,0),(14,0),(15,0),(16,0),(17,0),(18,0),(19,0),(20,1),(21,0),(22,1),(23,1),(24,3)] ?_
   refine go 3 ?_
   refine Qb rfl rfl (Ai (Ym (ii:=4) (i:=k) rfl rfl rfl rfl Yl Tryz.underlying38 Tryz.sizeOf35 rfl) ⟨rfl,rfl,rfl,trivial⟩) ?_
   refine Qb rfl rfl (Ai (Zj2 (ii:=4) rfl rfl rfl Yl Tryz.underlying35 rfl Tryz.sizeOf3 rfl) ⟨rfl,rfl,rfl,trivial⟩) ?_
   refine Qb rfl rfl (Ai (Zj1 (ii:=4) G0 rfl rfl rfl Yl Tryz.isAgg3 rfl) ⟨rfl,rfl,rfl,trivial⟩) ?_
   refine go 2 ?_
   refine Qb rfl rfl (Ai (Ym (ii:=4) (i:=k) rfl rfl rfl rfl Yl Tryz.underlying38 Tryz.sizeOf35 rfl) ⟨rfl,rfl,rfl,trivial⟩) ?_
   refine Qb rfl rfl (Ai (Zj2 (ii:=4) rfl rfl rfl Yl Tryz.underlying35 rfl Tryz.sizeOf3 rfl) ⟨rfl,rfl,rfl,trivial⟩) ?_
   refine Qb rfl rfl (Ai (Zj1 (ii:=4) G0 rfl rfl rfl Yl Tryz.isAgg3 rfl) ⟨rfl,rfl,rfl,trivial⟩) ?_
   refine go 2 ?_
   refine Qb rfl rfl (Ai (Ym (ii:=4) (i:=k) rfl rfl rfl rfl Yl Tryz.underlying38 Tryz.sizeOf35 rfl) ⟨rfl,rfl,rfl,trivial⟩) ?_
   refine Qb rfl rfl (Ai (Lz (ii:=4) G0 rfl rfl rfl Yl pG) ⟨rfl,rfl,rfl,trivial⟩) ?_
   refine go 2 ?_
   refine Qb rfl rfl (Ai (Ym (ii:=5) (i:=k) rfl rfl rfl rfl Yl Tryz.underlying38 Tryz.sizeOf35 rfl) ⟨rfl,rfl,rfl,trivial⟩) ?_
   refine Qb rfl rfl (Ai (Lz (ii:=5) G0 rfl rfl rfl Yl pG) ⟨rfl,rfl,rfl,trivial⟩) ?_
   refine go 1 ?_
   refine Yz (Zf 84 [51,52,53,54,55,56] (Zty _ _ _ _ _ _ _ _ _ _ _ _ _ _ _ _ _ _ _ _ _ (Du gi1 gi2) (Du gj1 gj2) (Zed gi2) (Zed gj2) hzn)) fun fq hfq=>?_
   refine Qb rfl rfl (Ai (Qg (ivs:=[(0,_),(1,_),(2,_)]) rfl ⟨rfl,rfl,rfl,rfl,rfl,rfl,trivial⟩ (fun a w hs=>Yco ((Zz rfl) a w hs) ((Zz rfl) a w hs) ((Zz rfl) a w hs))) ⟨rfl,rfl,rfl,trivial⟩) ?_
   refine Bk rfl (Qz (i:=6) (ivs:=[(0,_)]) (enc:=Zh2) [(gpY (gm.1.2.getD k G0) fq)] rfl rfl ⟨rfl,rfl,trivial⟩ Tryz.underlying50 Tryz.ti130 rfl rfl (fillG _ _ _ _ _ _) rfl rfl pGp.cells rfl rfl hw.h) (fun v _=>?_)
   refine Bk rfl (t_offr 74 rfl rfl rfl ⟨rfl,rfl,rfl,trivial⟩ (fun hoffr=>(Ydk (i:=74) (j:=6) (by_:=40) rfl rfl rfl rfl rfl rfl O3 rfl (Yj pGp) Tryz.underlying50 Tryz.ti130 rfl pGp rfl rfl rfl O8 O3 rfl hw.h hoffr))) (fun v_2 _=>?_)
   refine go 2 ?_
   refine Zw ?_
   refine go 6 ⟨O,?_⟩
   refine Yw (Xl (q:=qGp) (z:=(gpY (gm.1.2.getD k G0) fq)) 76 84 76 rfl rfl rfl rfl rfl) ?_
   exact Xg (k+1,_,zs ++ [(gpY (gm.1.2.getD k G0) fq)]) ⟨O1,Ye8 hgm.1 hgm.2 hzs O O hfq,by rw [List.length_append,hzl];rfl⟩ O1 ⟨rfl,rfl,trivial⟩ ⟨rfl,rfl,trivial⟩
  ·obtain rfl:k=gm.1.2.length:=O
   refine go 14 ?_
   refine Yw (Pg 74 rfl rfl pGp) ?_
   refine Yw (Kz 74 76 78 rfl rfl rfl rfl) ?_
   exact Nu hsc (vq,zs) Tryz.results26 (by rw [gapE_n h9]) (gp_all hgm.1 hcl.1 hzs) (Nz 78 Za)
set_option maxHeartbeats 1000000 in
theorem Ya5(va vb:Value)(pa pb:List Zn)(zd zn ze:Int)(hpa:∀g∈pa,Gin g)(hpb:∀g∈pb,Gin g)(hba:Ox pa=true)(hbb:Ox pb=true)(hla:pa.length≤5)(hlb:pb.length≤5)(hzn:znB zd zn ze=true):Cal Tryz.prog 84 #[va,vb,.agg #[.int .i64 zd,.int .i64 zn,.int .i64 ze]] [Ps 6 Mp qG va pa,Ps 6 Mp qG vb pb] false (G:=SL) (fun s9=>True) (fun s9=> .tuple #[.agg #[.int .i64 (Ziz (Dx zd zn ze pa pb)).1,.int .i64 (Ziz (Dx zd zn ze pa pb)).2.1,Qq s9],.bool (Ziz (Dx zd zn ze pa pb)).2.2,.int .i64 (Ziy pa pb)]) (fun s9=>[]):=by
 refine Zd Tryz.func84 Tryz.ntmps84 fun w0 sc hw hsc=>?_
 refine go 2 ?_
 refine Yc (Yb 3) fun bx _=>?_
 refine Yc (Zr 4) fun bx_2 _=>?_
 refine go 9 ?_
 refine cl 5 [1,2] (Yfm _ _ _ _ _ _ _ hpa hpb hba hbb hla hlb hzn) fun gg hgg=>?_
 refine go 16 ?_
 have hgl:=Yfb hpa hpb hba hbb hgg
 refine lp (G:=Nat) [6,19,20] [0,1,2,3,4,5] (fun k=>[(21,.int .i64 (k:Int)),(8,.int .i64 (Ziy pa pb))]) (fun k=>[]) (fun k=>(k≤gg.2.length)∧(∀i,i<k→Zca (gg.2.getD i Gp0).2.2=false)) (fun k=>gg.2.length-k) 0 ⟨O1,fun i hi=>absurd hi (Nat.not_lt_zero i)⟩ ⟨rfl,rfl,trivial⟩ trivial ?_
 rintro k ⟨hk,hz⟩
 refine go 6 ?_
 refine Zc rfl (fun h94=>?_) (fun h94=>?_)
 ·refine go 5 ?_
  refine Zi (Zqb 5 55 (gg.2.getD k Gp0) rfl rfl (Zu) rfl) ?_
  have hcv:=cvd_at hpa hpb hba hbb hzn hgg (k:=k) O
  refine go 2 ⟨O2,?_⟩
  refine dt (Lz (ii:=5) Gp0 rfl rfl rfl Yl pGp O2) ?_
  refine Yc (Zr 6) fun bx_3 _=>?_
  refine go 7 ?_
  refine cl 6 [55] (dw_neg _ _ hcv) fun _ _=>?_
  refine go 2 ?_
  refine My rfl (fun h95=>?_) (fun h95=>?_)
  ·have hng:=h95
   refine go 15 ?_
   exact xe3 hsc (gg.2.getD k Gp0).2.1 Tryz.results84 (by rw [fst_at hgg O hz hng]) trivial Za
  ·have hng:=h95
   refine go 7 ⟨O,?_⟩
   exact Xg (k+1) ⟨O1,fun i hi=>by rcases Nat.lt_succ_iff_lt_or_eq.1 hi with h9 | h9;exact hz i h9;subst h9;exact hng⟩ O1 ⟨rfl,rfl,trivial⟩ trivial
 ·obtain rfl:k=gg.2.length:=O
  refine go 15 ?_
  exact xe3 hsc (none,0,0) Tryz.results84 (by rw [fst_no hgg hz]) trivial Za
theorem Zox(va vb:Value)(pa pb:List Zn)(zd zn ze:Int)(hpa:∀g∈pa,Gin g)(hpb:∀g∈pb,Gin g)(hba:Ox pa=true)(hbb:Ox pb=true)(hla:pa.length≤5)(hlb:pb.length≤5)(hzn:znB zd zn ze=true):Cal Tryz.prog 27 #[va,vb,.agg #[.int .i64 zd,.int .i64 zn,.int .i64 ze]] [Ps 6 Mp qG va pa,Ps 6 Mp qG vb pb] false (G:=Unit) (fun _=>True) (fun _=> .tuple #[.bool (apZ zd zn ze pa pb),.int .i64 (Ziy pa pb)]) (fun _=>[]):=by
 refine Zd Tryz.func27 Tryz.ntmps27 fun w0 sc hw hsc=>?_
 refine go 2 ?_
 refine Yc (Yb 3) fun bx _=>?_
 refine go 9 ?_
 refine cl 3 [1,2] (Ya5 _ _ _ _ _ _ _ hpa hpb hba hbb hla hlb hzn) fun fs _=>?_
 refine go 4 ?_
 refine Yc (Zr 4) fun bx_2 _=>?_
 refine go 10 ?_
 refine Yv (d:=21) rfl (fun s105=>?_) (fun s105=>?_)
 ·refine go 9 ?_
  exact Nu hsc () Tryz.results27 (by first | rw [ap_t ‹_›] | rw [ap_f ‹_›]) trivial Za
 ·refine go 9 ?_
  exact Nu hsc () Tryz.results27 (by first | rw [ap_t ‹_›] | rw [ap_f ‹_›]) trivial Za
def Gg(a b k:Int):List Int:=if b-a=0∨k=2 then [a]else if k=1 then [a,b-a]else [a,0,0,10*(b-a),-15*(b-a),6*(b-a)]
theorem tmL_0{a b k:Int}(h:b-a=0∨k=2):Gg a b k=[a]:=if_pos h
theorem tmL_1{a b k:Int}(h:¬(b-a=0∨k=2))(h1:k=1):Gg a b k=[a,b-a]:=(if_neg h).trans (if_pos h1)
theorem tmL_2{a b k:Int}(h:¬(b-a=0∨k=2))(h1:k≠1):Gg a b k=[a,0,0,10*(b-a),-15*(b-a),6*(b-a)]:=(if_neg h).trans (if_neg h1)
def lineG(k:Int)(s:SL×SL×SL):Zn:=((0,1000,1),(s.1,Gg 0 300 k),(s.2.1,Gg 0 400 k),(s.2.2,Gg 0 0 k))
def stayG(s:SL×SL×SL):Zn:=((1000,2000,1),(s.1,Gg 0 0 2),(s.2.1,Gg 0 0 2),(s.2.2,Gg 0 0 2))
theorem Qy{l:List Int}(h:l.all (fun a=>decide (-9223372036854775808≤a∧a≤9223372036854775807))=true):∀a∈l,Nc a:=fun a ha=>by
 have:=List.all_eq_true.1 h a ha
 simp only [decide_eq_true_eq]at this;exact this
def Nx(ax ay az bx b_y bz k:Int)(s:SL×SL×SL):Zn:=((0,1000,1),(s.1,Gg ax bx k),(s.2.1,Gg ay b_y k),(s.2.2,Gg az bz k))
theorem kn_f1:fmZ 100 1 2 1 1 (Gg 0 0 2) (Gg 0 0 2) (Gg 0 0 2) (Gg 0 0 2) (Gg 0 0 2) (Gg 200 200 2)=[]:=O7
theorem kn_f2:fmZ 100 1 2 1 1 (Gg 0 0 2) (Gg 0 0 2) (Gg 0 0 2) (Gg 0 0 2) (Gg 0 0 2) (Gg 100 100 2)=tzl [-1]:=O7
theorem kn_e1(s t:SL×SL×SL):Ziy [Nx 0 0 0 400 0 0 1 s] [Nx 200 0 200 200 0 200 2 t]=0:=O5
theorem kn_a1(s t:SL×SL×SL):apZ 100 1 2 [Nx 0 0 0 400 0 0 1 s] [Nx 200 0 200 200 0 200 2 t]=true:=O5
theorem kn_a2(s t:SL×SL×SL):apZ 101 1 2 [Nx 0 0 0 400 0 0 1 s] [Nx 200 0 200 200 0 200 2 t]=false:=O5
theorem kn_p1(s:SL×SL×SL):Ox [Nx 0 0 0 400 0 0 1 s]=true:=O5
theorem kn_p2(s:SL×SL×SL):Ox [Nx 200 0 200 200 0 200 2 s]=true:=O5
theorem kn_s0:Fi 0 1000 1 (Gg 0 0 2) (Gg 0 0 2) (Gg 0 0 2)=true:=O7
theorem kn_s1:Fi 0 1000 1 (Gg 0 0 2) (Gg 0 0 2) (Gg 200 200 2)=true:=O7
theorem kn_s2:Fi 0 1000 1 (Gg 0 0 2) (Gg 0 0 2) (Gg 100 100 2)=true:=O7
theorem kn_g1(s:SL×SL×SL):∀g∈[Nx 0 0 0 400 0 0 1 s],Gin g:=fun g hg=>by
 rw [List.mem_singleton.1 hg]
 exact⟨show Nc (0:Int)from⟨O3,O3⟩,show Nc (1000:Int)from⟨O3,O3⟩,show Nc (1:Int)from⟨O3,O3⟩,show ∀a∈Gg 0 400 1,Nc a from Qy O3,show ∀a∈Gg 0 0 1,Nc a from Qy O3,show ∀a∈Gg 0 0 1,Nc a from Qy O3⟩
theorem kn_g2(s:SL×SL×SL):∀g∈[Nx 200 0 200 200 0 200 2 s],Gin g:=fun g hg=>by
 rw [List.mem_singleton.1 hg]
 exact⟨show Nc (0:Int)from⟨O3,O3⟩,show Nc (1000:Int)from⟨O3,O3⟩,show Nc (1:Int)from⟨O3,O3⟩,show ∀a∈Gg 200 200 2,Nc a from Qy O3,show ∀a∈Gg 0 0 2,Nc a from Qy O3,show ∀a∈Gg 200 200 2,Nc a from Qy O3⟩
theorem Ov{x:Int}{M:Nat}(h:x.natAbs≤1000000000000000000000000)(hM:80≤M):bl x.natAbs≤M:=Nat.le_trans ((Xs 80 _).2 (Nat.lt_of_le_of_lt h O3)) hM
theorem sgn_nn(z:Int):0≤z.sign↔0≤z:=Int.sign_nonneg_iff
theorem Yec(ax ay az cx cy cz zd zn ze:Int):decide ((((ax-cx)*(ax-cx)+(ay-cy)*(ay-cy))*(ze*ze)+(az-cz)*(az-cz)*(zn*zn)-zd*zd*(ze*ze)).sign≥0)=Zyy ax ay az cx cy cz zd zn ze:=by
 unfold Zyy
 refine decide_eq_decide.2 ?_
 have e:((ax-cx)*(ax-cx)+(ay-cy)*(ay-cy))*(ze*ze)+(az-cz)*(az-cz)*(zn*zn)-zd*zd*(ze*ze)=((ax-cx)*ze*((ax-cx)*ze)+(ay-cy)*ze*((ay-cy)*ze)+(az-cz)*zn*((az-cz)*zn))-zd*ze*(zd*ze):=O4
 have:=sgn_nn (((ax-cx)*(ax-cx)+(ay-cy)*(ay-cy))*(ze*ze)+(az-cz)*(az-cz)*(zn*zn)-zd*zd*(ze*ze))
 rw [e]at this
 rw [ge_iff_le,e,this]
 omega
theorem pt_1:ptB 0 0 0=true:=O3
theorem Zqi(x y z:Int):ptB x y z=(decide (-1048576≤x∧x≤1048576) && decide (-1048576≤y∧y≤1048576) && decide (-1048576≤z∧z≤1048576)):=by
 unfold ptB Zqw
 simp only [List.all_cons,List.all_nil,Bool.and_true,Bool.decide_and,Bool.and_assoc]
theorem to_m1{gs:List (Int×SL)}(hg:Fe gs=tzl [-1]):Sz 1000000 (Fe gs)∧gs.length≤1000:=by
 have h7:=congrArg List.length hg
 rw [Ay]at h7
 have h8:(tzl [(-1:Int)]).length=1:=O3
 refine⟨?_,O⟩
 rw [hg]
 exact(Sz.tzl (Zkh (fun x hx=>by rw [List.mem_singleton.1 hx];exact⟨O3,O3⟩))).mono O
theorem Zef(a b k:Int)(ha:-4194304≤a∧a≤4194304)(hb:-4194304≤b∧b≤4194304):Cal Tryz.prog 125 #[.int .i64 a,.int .i64 b,.int .i64 k] [] true (G:=SL) (fun r=>True) (fun r=>Qq r) (fun r=>[Yk 1 Yu (Qq r) (Gg a b k)]):=by
 refine Zd Tryz.func125 Tryz.ntmps125 fun w0 sc hw hsc=>?_
 refine go 19 ⟨O,?_⟩
 refine Yv (d:=13) rfl (fun s36=>?_) (fun s36=>?_)
 ·refine go 9 ?_
  refine tt (Qz (i:=1) (ivs:=[(0,_)]) (enc:=Yu) ([a]:List Int) rfl rfl ⟨rfl,rfl,trivial⟩ Tryz.underlying33 Tryz.ti3 rfl rfl rfl rfl rfl pZ.cells rfl rfl hw.h) (fun v _=>?_)
  refine go 5 ?_
  refine Yw (Pg 1 rfl rfl pZ) ?_
  refine Zpx (Md 1 rfl Zk) (fun sl hsl=>?_)
  subst hsl
  exact Xo hsc sl Tryz.results125 rfl trivial (Nz 1 Za (congrArg (Yk 1 Yu (Qq sl)) (tmL_0 (a:=a) (b:=b) (k:=k) O).symm))
 ·refine go 5 ?_
  refine Zc rfl (fun h36=>?_) (fun h36=>?_)
  ·refine go 3 ?_
   refine tt (Qz (i:=2) (ivs:=[(0,_)]) (enc:=Yu) ([a]:List Int) rfl rfl ⟨rfl,rfl,trivial⟩ Tryz.underlying33 Tryz.ti3 rfl rfl rfl rfl rfl pZ.cells rfl rfl hw.h) (fun v_2 _=>?_)
   refine go 5 ?_
   refine Yw (Pg 2 rfl rfl pZ) ?_
   refine Zpx (Md 2 rfl Zk) (fun sl hsl=>?_)
   subst hsl
   exact Xo hsc sl Tryz.results125 rfl trivial (Nz 2 Za (congrArg (Yk 1 Yu (Qq sl)) (tmL_0 (a:=a) (b:=b) (k:=k) O).symm))
  ·refine go 9 ?_
   refine Zc rfl (fun h39=>?_) (fun h39=>?_)
   ·refine go 4 ?_
    refine tt (Qz (i:=3) (ivs:=[(0,_),(1,_)]) (enc:=Yu) ([a,b-a]:List Int) rfl rfl ⟨rfl,rfl,rfl,rfl,trivial⟩ Tryz.underlying33 Tryz.ti3 rfl rfl rfl rfl rfl pZ.cells rfl rfl hw.h) (fun v_3 _=>?_)
    refine go 5 ?_
    refine Yw (Pg 3 rfl rfl pZ) ?_
    refine Zpx (Md 3 rfl Zk) (fun sl hsl=>?_)
    subst hsl
    exact Xo hsc sl Tryz.results125 rfl trivial (Nz 3 Za (congrArg (Yk 1 Yu (Qq sl)) (tmL_1 (a:=a) (b:=b) (k:=k) O O).symm))
   ·refine go 11 ⟨O,O,O,?_⟩
    refine tt (Qz (i:=4) (ivs:=[(0,_),(1,_),(2,_),(3,_),(4,_),(5,_)]) (enc:=Yu) ([a,0,0,10*(b-a),-15*(b-a),6*(b-a)]:List Int) rfl rfl ⟨rfl,rfl,rfl,rfl,rfl,rfl,rfl,rfl,rfl,rfl,rfl,rfl,trivial⟩ Tryz.underlying33 Tryz.ti3 rfl rfl rfl rfl rfl pZ.cells rfl rfl hw.h) (fun v_4 _=>?_)
    refine go 4 ?_
    refine Yw (Pg 4 rfl rfl pZ) ?_
    refine Zpx (Md 4 rfl Zk) (fun sl hsl=>?_)
    subst hsl
    exact Xo hsc sl Tryz.results125 rfl trivial (Nz 4 Za (congrArg (Yk 1 Yu (Qq sl)) (tmL_2 (a:=a) (b:=b) (k:=k) O O).symm))
theorem Zsu(ax ay az bx by_ bz fr to k:Int)(hax:-4194304≤ax∧ax≤4194304)(hay:-4194304≤ay∧ay≤4194304)(haz:-4194304≤az∧az≤4194304)(hbx:-4194304≤bx∧bx≤4194304)(hby_:-4194304≤by_∧by_≤4194304)(hbz:-4194304≤bz∧bz≤4194304):Cal Tryz.prog 68 #[.agg #[.int .i64 ax,.int .i64 ay,.int .i64 az],.agg #[.int .i64 bx,.int .i64 by_,.int .i64 bz],.int .i64 fr,.int .i64 to,.int .i64 k] [] true (G:=SL×SL×SL) (fun r=>True) (fun r=> .agg #[.int .i64 fr,.int .i64 to,.int .i64 1,Qq r.1,Qq r.2.1,Qq r.2.2]) (fun r=>[Yk 1 Yu (Qq r.1) (Gg ax bx k),Yk 1 Yu (Qq r.2.1) (Gg ay by_ k),Yk 1 Yu (Qq r.2.2) (Gg az bz k)]):=by
 refine Zd Tryz.func68 Tryz.ntmps68 fun w0 sc hw hsc=>?_
 refine go 2 ?_
 refine Yc (Yb 1) fun bq _=>?_
 refine Yc (Yb 2) fun bq_2 _=>?_
 refine Yc (Zr 3) fun bq_3 _=>?_
 refine go 3 ?_
 refine Qe (fun _=>False) [(0,0),(1,0),(2,0),(3,0),(4,0),(5,0),(6,0),(8,0),(9,0),(10,0),(11,0),(12,0),(14,0),(15,0),(16,0),(17,0),(18,0),(7,1),(13,1),(19,1),(20,0),(21,3)] ?_
 refine go 17 ?_
 refine Yz (Zf 4 [] (Zef ax bx k hax hbx)) fun sl _=>?_
 refine Yz (Zf 5 [] (Zef ay by_ k hay hby_)) fun sl_2 _=>?_
 refine Yz (Zf 6 [] (Zef az bz k haz hbz)) fun sl_3 _=>?_
 refine Qb rfl rfl (Ph (Qg (ivs:=[(0,_),(1,_),(2,_),(3,_),(4,_),(5,_)]) rfl ⟨rfl,rfl,rfl,rfl,rfl,rfl,rfl,rfl,rfl,rfl,rfl,rfl,trivial⟩ (fun a w hs=>Zry ((Zz rfl) a w hs) ((Zz rfl) a w hs) ((Zz rfl) a w hs) ((Qt (i:=4) rfl Zk) a w hs) ((Qt (i:=5) rfl Zk) a w hs) ((Qt (i:=6) rfl Zk) a w hs)))) ?_
 refine go 4 ?_
 exact Xo hsc (sl,sl_2,sl_3) Tryz.results68 rfl trivial (Nz 4 (Nz 5 (Nz 6 Za)))
end Go.Sky

