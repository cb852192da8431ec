/- The law: part 17. No conditions but those that each theorem names. -/
import Derived.Test.YteikicbnfbgpnaaGreatDa15
set_option linter.all false
namespace Go.Sky
open Go.Proofs
set_option synthInstance.maxHeartbeats 0
set_option synthInstance.maxSize 100000
set_option maxRecDepth 20000
set_option maxHeartbeats 1000000
set_option linter.unusedSimpArgs false
theorem Ij(x y z:Int):Cal Tryz.prog 64 #[.int .i64 x,.int .i64 y,.int .i64 z] [] false (G:=Unit) (fun _=>True) (fun _=> .agg #[.int .i64 x,.int .i64 y,.int .i64 z]) (fun _=>[]):=by
 refine Zd Tryz.func64 Tryz.ntmps64 fun w0 sc hw hsc=>?_
 refine go 2 ?_
 refine Yc (Zr 1) fun bx _=>?_
 refine go 7 ?_
 refine dt (Qg (ivs:=[(0,_),(1,_),(2,_)]) rfl ⟨rfl,rfl,rfl,rfl,rfl,rfl,trivial⟩ (fun a w hs=>Ygq ((Zz rfl) a w hs) ((Zz rfl) a w hs) ((Zz rfl) a w hs))) ?_
 refine go 4 ?_
 exact Xo hsc () Tryz.results64 rfl trivial Za
theorem Zab(d:Int):Cal Tryz.prog 66 #[.int .i64 d] [] false (G:=Unit) (fun _=>True) (fun _=> .agg #[.int .i64 d,.int .i64 1,.int .i64 2]) (fun _=>[]):=by
 refine Zd Tryz.func66 Tryz.ntmps66 fun w0 sc hw hsc=>?_
 refine go 2 ?_
 refine Yc (Zr 1) fun bx _=>?_
 refine go 5 ?_
 refine dt (Qg (ivs:=[(0,_),(1,_),(2,_)]) rfl ⟨rfl,rfl,rfl,rfl,rfl,rfl,trivial⟩ (fun a w hs=>Zu2 ((Zz rfl) a w hs) ((Zz rfl) a w hs) ((Zz rfl) a w hs))) ?_
 refine go 4 ?_
 exact Xo hsc () Tryz.results66 rfl trivial Za
theorem Zcc(x y z:Int)(want:Bool)(hp:ptB x y z=true)(hwt:Zyy 0 0 0 x y z 100 1 2=want):Cal Tryz.prog 63 #[.agg #[.int .i64 x,.int .i64 y,.int .i64 z],.bool want] [] false (G:=Unit) (fun _=>True) (fun _=> .bool true) (fun _=>[]):=by
 refine Zd Tryz.func63 Tryz.ntmps63 fun w0 sc hw hsc=>?_
 refine go 2 ?_
 refine Yc (Yb 1) fun bx _=>?_
 refine go 4 ?_
 refine Qe (fun _=>False) [(1,0),(0,1),(2,1),(3,1),(4,0),(5,0),(6,0),(7,0),(8,3)] ?_
 refine go 1 ?_
 refine Yz (Zf 1 [] (Ij _ _ _)) fun _ _=>?_
 refine Yz (Zf 1 [] (Zab _)) fun _ _=>?_
 refine Yz (Zf 1 [] (Ya4 _ _ _ _ _ _ _ _ _ pt_1 hp O3)) fun _ _=>?_
 refine go 10 ?_
 refine kt (decide_eq_true O3) ?_
 refine go 3 ?_
 refine ktg (by rw [hwt];exact beq_self_eq_true _) ?_
 refine go 5 ?_
 exact Xo hsc () Tryz.results63 rfl trivial Za
theorem Ck(x y z:Int)(hx:-4194304≤x∧x≤4194304)(hy:-4194304≤y∧y≤4194304)(hz:-4194304≤z∧z≤4194304):Cal Tryz.prog 65 #[.agg #[.int .i64 x,.int .i64 y,.int .i64 z]] [] true (G:=Value×(SL×SL×SL)) (fun r=>True) (fun r=>r.1) (fun r=>[Ps 6 Mp qG r.1 [Nx x y z x y z 2 r.2]]):=by
 refine Zd Tryz.func65 Tryz.ntmps65 fun w0 sc hw hsc=>?_
 refine go 2 ?_
 refine Yc (Yb 1) fun bx _=>?_
 refine go 7 ?_
 refine cl 2 [] (Zsu x y z x y z 0 1000 2 hx hy hz hx hy hz) fun⟨sl,sl_2,sl_3⟩ _=>?_
 refine tt (Qz (i:=5) (ivs:=[(0,_)]) (enc:=Mp) [Nx x y z x y z 2 (sl,sl_2,sl_3)] rfl rfl ⟨rfl,rfl,trivial⟩ Tryz.underlying38 Tryz.ti35 rfl rfl (Zq0 _ _ _ _ _ _ _ _ _ _ _ _) rfl rfl pG.cells rfl rfl hw.h) (fun v _=>?_)
 refine go 4 ?_
 refine Yw (Pg 5 rfl rfl pG) ?_
 refine Yw (Pb qC 71) ?_
 refine Yw (Xl (q:=qC) (z:=(Nx x y z x y z 2 (sl,sl_2,sl_3)).2.1) 71 2 71 rfl rfl rfl rfl rfl) ?_
 refine Yw (Xl (q:=qC) (z:=(Nx x y z x y z 2 (sl,sl_2,sl_3)).2.2.1) 71 3 71 rfl rfl rfl rfl rfl) ?_
 refine Yw (Xl (q:=qC) (z:=(Nx x y z x y z 2 (sl,sl_2,sl_3)).2.2.2) 71 4 71 rfl rfl rfl rfl rfl) ?_
 refine Yw (Pb qG 73) ?_
 refine Yw (Xl (q:=qG) (z:=(Nx x y z x y z 2 (sl,sl_2,sl_3))) 73 71 73 rfl rfl rfl rfl rfl) ?_
 refine Yw (Kz 5 73 72 rfl rfl rfl rfl) ?_
 exact Xo hsc (_,sl,sl_2,sl_3) Tryz.results65 rfl trivial (Nz 72 Za)
theorem Zg3(x:Int):Cal Tryz.prog 62 #[.int .i64 x] [] false (G:=Unit) (fun _=>True) (fun _=> .bool (decide (-1048576≤x∧x≤1048576))) (fun _=>[]):=by
 refine Zd Tryz.func62 Tryz.ntmps62 fun w0 sc hw hsc=>?_
 refine go 10 ?_
 refine Yv (d:=5) rfl (fun s21=>?_) (fun s21=>?_)
 ·refine go 7 ?_
  exact Xo hsc () Tryz.results62 (by first | (simp_all;done) | (simp_all;omega)) trivial Za
 ·refine go 7 ?_
  exact Xo hsc () Tryz.results62 (by first | (simp_all;done) | (simp_all;omega)) trivial Za
theorem Gk(x y z:Int):Cal Tryz.prog 17 #[.agg #[.int .i64 x,.int .i64 y,.int .i64 z]] [] false (G:=Unit) (fun _=>True) (fun _=> .bool (ptB x y z)) (fun _=>[]):=by
 refine Zd Tryz.func17 Tryz.ntmps17 fun w0 sc hw hsc=>?_
 refine go 2 ?_
 refine Yc (Yb 1) fun bx _=>?_
 refine go 7 ?_
 refine cl 1 [] (Zg3 _) fun _ _=>?_
 refine go 1 ?_
 refine Cj (d:=6) rfl (fun s18=>?_) (fun s18=>?_)
 ·refine go 2 ?_
  refine Hs 1 [] (Zg3 _) fun _ _=>?_
  refine go 2 ?_
  refine Cj (d:=11) rfl (fun s18_2=>?_) (fun s18_2=>?_)
  ·refine go 2 ?_
   refine Hs 1 [] (Zg3 _) fun _ _=>?_
   refine go 5 ?_
   exact Xo hsc () Tryz.results17 (by rw [Zqi];first | (simp_all;done) | (simp_all;intros;omega)) trivial Za
  ·refine go 8 ?_
   exact Xo hsc () Tryz.results17 (by rw [Zqi];first | (simp_all;done) | (simp_all;intros;omega)) trivial Za
 ·refine go 13 ?_
  exact Xo hsc () Tryz.results17 (by rw [Zqi];first | (simp_all;done) | (simp_all;intros;omega)) trivial Za
theorem Zaz(zd zn ze:Int):Cal Tryz.prog 16 #[.agg #[.int .i64 zd,.int .i64 zn,.int .i64 ze]] [] false (G:=Unit) (fun _=>True) (fun _=> .bool (znB zd zn ze)) (fun _=>[]):=by
 refine Zd Tryz.func16 Tryz.ntmps16 fun w0 sc hw hsc=>?_
 refine go 2 ?_
 refine Yc (Yb 1) fun bx _=>?_
 refine go 9 ?_
 refine Yv (d:=6) rfl (fun s22=>?_) (fun s22=>?_)
 ·refine go 5 ?_
  refine Yv (d:=11) rfl (fun s22_2=>?_) (fun s22_2=>?_)
  ·refine go 5 ?_
   refine Yv (d:=16) rfl (fun s22_3=>?_) (fun s22_3=>?_)
   ·refine go 7 ?_
    refine Yv (d:=23) rfl (fun s22_4=>?_) (fun s22_4=>?_)
    ·refine go 8 ?_
     exact Xo hsc () Tryz.results16 (by unfold znB;first | (simp_all;done) | (simp_all;omega)) trivial Za
    ·refine go 8 ?_
     exact Xo hsc () Tryz.results16 (by unfold znB;first | (simp_all;done) | (simp_all;omega)) trivial Za
   ·refine go 15 ?_
    exact Xo hsc () Tryz.results16 (by unfold znB;first | (simp_all;done) | (simp_all;omega)) trivial Za
  ·refine go 20 ?_
   exact Xo hsc () Tryz.results16 (by unfold znB;first | (simp_all;done) | (simp_all;omega)) trivial Za
 ·refine go 25 ?_
  exact Xo hsc () Tryz.results16 (by unfold znB;first | (simp_all;done) | (simp_all;omega)) trivial Za
theorem Qn(n:Int)(hn:Nc n):Cal Tryz.prog 71 #[.int .i64 n] [] true (G:=Value) (fun r=>True) (fun r=> .agg #[.bool (decide ((n*n)<0)),r]) (fun r=>[d9p r ((n*n)).natAbs]):=by
 refine Zd Tryz.func71 Tryz.ntmps71 fun w0 sc hw hsc=>?_
 have hbn:=Fg hn
 refine go 2 ?_
 refine Yc (Zr 1) fun bx _=>?_
 refine go 5 ?_
 refine cl 2 [] (Zyw n hn) fun v _=>?_
 refine go 1 ?_
 refine cl 3 [] (Zyw n hn) fun v_2 _=>?_
 refine cl 4 [2,3] (Bt _ _ n n (Nat.le_trans hbn O3) (Nat.le_trans hbn O3)) fun v_3 _=>?_
 refine go 4 ?_
 exact Xo hsc _ Tryz.results71 rfl trivial (Nz 4 Za)
set_option maxHeartbeats 1000000 in
theorem Za8:Cal Tryz.prog 18 #[] [] false (G:=Unit) (fun _=>True) (fun _=> .bool true) (fun _=>[]):=by
 refine Zd Tryz.func18 Tryz.ntmps18 fun w0 sc hw hsc=>?_
 refine go 8 ?_
 refine cl 0 [] (Ij _ _ _) fun _ _=>?_
 refine cl 0 [] (Zcc _ _ _ _ O3 O3) fun _ _=>?_
 refine go 2 ?_
 refine Hs 0 [] (Ij _ _ _) fun _ _=>?_
 refine Hs 0 [] (Zcc _ _ _ _ O3 O3) fun _ _=>?_
 refine go 3 ?_
 refine Hs 0 [] (Ij _ _ _) fun _ _=>?_
 refine Hs 0 [] (Zcc _ _ _ _ O3 O3) fun _ _=>?_
 refine go 8 ?_
 refine Im (fun _=>False) [14] ?_
 refine Zl (n:=13) [(0,1),(1,1)] ?_
 refine Yz (Zf 0 [] (Ij _ _ _)) fun _ _=>?_
 refine Yz (Zf 60 [] (Ck 0 0 0 ⟨O3,O3⟩ ⟨O3,O3⟩ ⟨O3,O3⟩)) fun⟨v,q⟩ _=>?_
 refine go 1 ?_
 refine Bx (Nv (g:=(Nx 0 0 0 0 0 0 2 q)) (z:=(Nx 0 0 0 0 0 0 2 q).2.1) 60 51 rfl rfl (List.mem_singleton.2 rfl) O6) ?_
 refine Bx (Nv (g:=(Nx 0 0 0 0 0 0 2 q)) (z:=(Nx 0 0 0 0 0 0 2 q).2.2.1) 60 52 rfl rfl (List.mem_singleton.2 rfl) O6) ?_
 refine Bx (Nv (g:=(Nx 0 0 0 0 0 0 2 q)) (z:=(Nx 0 0 0 0 0 0 2 q).2.2.2) 60 53 rfl rfl (List.mem_singleton.2 rfl) O6) ?_
 refine Zl (n:=9) [(2,0),(3,0),(4,1),(5,1)] ?_
 refine go 1 ⟨O6,?_⟩
 refine Qb rfl rfl (Ph (Lz (ii:=60) G0 rfl rfl rfl Yl pG O6)) ?_
 refine Yz (Zf 0 [] (Ij _ _ _)) fun _ _=>?_
 refine Yz (Zf 62 [] (Ck 0 0 200 ⟨O3,O3⟩ ⟨O3,O3⟩ ⟨O3,O3⟩)) fun⟨v_2,q_2⟩ _=>?_
 refine go 1 ?_
 refine Bx (Nv (g:=(Nx 0 0 200 0 0 200 2 q_2)) (z:=(Nx 0 0 200 0 0 200 2 q_2).2.1) 62 54 rfl rfl (List.mem_singleton.2 rfl) O6) ?_
 refine Bx (Nv (g:=(Nx 0 0 200 0 0 200 2 q_2)) (z:=(Nx 0 0 200 0 0 200 2 q_2).2.2.1) 62 55 rfl rfl (List.mem_singleton.2 rfl) O6) ?_
 refine Bx (Nv (g:=(Nx 0 0 200 0 0 200 2 q_2)) (z:=(Nx 0 0 200 0 0 200 2 q_2).2.2.2) 62 56 rfl rfl (List.mem_singleton.2 rfl) O6) ?_
 refine Zl (n:=0) [(6,0),(7,0),(8,1),(9,1),(10,0),(11,0),(12,0),(13,0),(14,3)] ?_
 refine go 1 ⟨O6,?_⟩
 refine Qb rfl rfl (Ph (Lz (ii:=62) G0 rfl rfl rfl Yl pG O6)) ?_
 refine Yz (Zf 0 [] (Zab _)) fun _ _=>?_
 refine Yz (Zf 1 [51,52,53,54,55,56] (Ztz 0 1000 1 0 1000 1 _ _ _ _ _ _ (Gg 0 0 2) (Gg 0 0 2) (Gg 0 0 2) (Gg 0 0 2) (Gg 0 0 2) (Gg 200 200 2) 100 1 2 ⟨O3,O3⟩ ⟨O3,O3⟩ ⟨O3,O3⟩ (Qy O3) (Qy O3) (Qy O3) ⟨O3,O3⟩ ⟨O3,O3⟩ ⟨O3,O3⟩ (Qy O3) (Qy O3) (Qy O3) kn_s0 kn_s1 rfl rfl O3)) fun fq hfq=>?_
 refine go 6 ?_
 refine Zw ?_
 refine go 2 ?_
 refine Im (fun _=>False) [14] ?_
 refine Zl (n:=13) [(0,1),(1,1)] ?_
 refine Yz (Zf 1 [] (Ij _ _ _)) fun _ _=>?_
 refine Yz (Zf 64 [] (Ck 0 0 0 ⟨O3,O3⟩ ⟨O3,O3⟩ ⟨O3,O3⟩)) fun⟨v_3,q_3⟩ _=>?_
 refine go 1 ?_
 refine Bx (Nv (g:=(Nx 0 0 0 0 0 0 2 q_3)) (z:=(Nx 0 0 0 0 0 0 2 q_3).2.1) 64 51 rfl rfl (List.mem_singleton.2 rfl) O6) ?_
 refine Bx (Nv (g:=(Nx 0 0 0 0 0 0 2 q_3)) (z:=(Nx 0 0 0 0 0 0 2 q_3).2.2.1) 64 52 rfl rfl (List.mem_singleton.2 rfl) O6) ?_
 refine Bx (Nv (g:=(Nx 0 0 0 0 0 0 2 q_3)) (z:=(Nx 0 0 0 0 0 0 2 q_3).2.2.2) 64 53 rfl rfl (List.mem_singleton.2 rfl) O6) ?_
 refine Zl (n:=9) [(2,0),(3,0),(4,1),(5,1)] ?_
 refine go 1 ⟨O6,?_⟩
 refine Qb rfl rfl (Ph (Lz (ii:=64) G0 rfl rfl rfl Yl pG O6)) ?_
 refine Yz (Zf 1 [] (Ij _ _ _)) fun _ _=>?_
 refine Yz (Zf 66 [] (Ck 0 0 100 ⟨O3,O3⟩ ⟨O3,O3⟩ ⟨O3,O3⟩)) fun⟨v_4,q_4⟩ _=>?_
 refine go 1 ?_
 refine Bx (Nv (g:=(Nx 0 0 100 0 0 100 2 q_4)) (z:=(Nx 0 0 100 0 0 100 2 q_4).2.1) 66 54 rfl rfl (List.mem_singleton.2 rfl) O6) ?_
 refine Bx (Nv (g:=(Nx 0 0 100 0 0 100 2 q_4)) (z:=(Nx 0 0 100 0 0 100 2 q_4).2.2.1) 66 55 rfl rfl (List.mem_singleton.2 rfl) O6) ?_
 refine Bx (Nv (g:=(Nx 0 0 100 0 0 100 2 q_4)) (z:=(Nx 0 0 100 0 0 100 2 q_4).2.2.2) 66 56 rfl rfl (List.mem_singleton.2 rfl) O6) ?_
 refine Zl (n:=0) [(6,0),(7,0),(8,1),(9,1),(10,0),(11,0),(12,0),(13,0),(14,3)] ?_
 refine go 1 ⟨O6,?_⟩
 refine Qb rfl rfl (Ph (Lz (ii:=66) G0 rfl rfl rfl Yl pG O6)) ?_
 refine Yz (Zf 1 [] (Zab _)) fun _ _=>?_
 refine Yz (Zf 2 [51,52,53,54,55,56] (Ztz 0 1000 1 0 1000 1 _ _ _ _ _ _ (Gg 0 0 2) (Gg 0 0 2) (Gg 0 0 2) (Gg 0 0 2) (Gg 0 0 2) (Gg 100 100 2) 100 1 2 ⟨O3,O3⟩ ⟨O3,O3⟩ ⟨O3,O3⟩ (Qy O3) (Qy O3) (Qy O3) ⟨O3,O3⟩ ⟨O3,O3⟩ ⟨O3,O3⟩ (Qy O3) (Qy O3) (Qy O3) kn_s0 kn_s2 rfl rfl O3)) fun fq_2 hfq_2=>?_
 refine go 6 ?_
 refine Zw ?_
 refine go 6 ?_
 refine kf (decide_eq_false (fun h=>h (by rw [hfq,kn_f1];rfl))) ?_
 refine go 2 ?_
 refine kfg (decide_eq_false (fun h=>h rfl)) ?_
 refine go 3 ?_
 refine gtt (Qz (i:=3) (ivs:=[(0,_)]) (enc:=Yu) ([-1]:List Int) rfl rfl ⟨rfl,rfl,trivial⟩ Tryz.underlying33 Tryz.ti3 rfl rfl rfl rfl rfl pZ.cells rfl rfl hw.h) rfl rfl rfl rfl (fun v_5 _=>?_)
 refine Xu (Pg 3 rfl rfl pZ) ?_
 refine Hs 4 [3] (Yd1 _ [-1] (fun x hx=>by rw [List.mem_singleton.1 hx];exact⟨O3,O3⟩) O6) fun g hg=>?_
 refine Hs 5 [4] (rp_to _ _ (to_m1 hg).1 (to_m1 hg).2) fun v_6 _=>?_
 refine Hs 5 [2,5] (Zvt _ _ _ _) fun _ _=>?_
 refine Da (Zp (r':= .bool false) (Ybi rfl rfl) (congrArg Value.bool (decide_eq_false (fun h=>h (by rw [hfq_2,kn_f2,hg]))))) rfl rfl ?_
 refine go 3 ?_
 refine kfg (decide_eq_false (fun h=>h rfl)) ?_
 refine go 8 ?_
 refine cl 5 [] (Ij _ _ _) fun _ _=>?_
 refine cl 5 [] (Ij _ _ _) fun _ _=>?_
 refine cl 6 [] (Zsu 0 0 0 400 0 0 0 1000 1 ⟨O3,O3⟩ ⟨O3,O3⟩ ⟨O3,O3⟩ ⟨O3,O3⟩ ⟨O3,O3⟩ ⟨O3,O3⟩) fun⟨sl,sl_2,sl_3⟩ _=>?_
 refine tt (Qz (i:=9) (ivs:=[(0,_)]) (enc:=Mp) [Nx 0 0 0 400 0 0 1 (sl,sl_2,sl_3)] rfl rfl ⟨rfl,rfl,trivial⟩ Tryz.underlying38 Tryz.ti35 rfl rfl (Zq0 _ _ _ _ _ _ _ _ _ _ _ _) rfl rfl pG.cells rfl rfl hw.h) (fun v_7 _=>?_)
 refine Xu (Pg 9 rfl rfl pG) ?_
 refine Xu (Pb qC 71) ?_
 refine Xu (Xl (q:=qC) (z:=(Nx 0 0 0 400 0 0 1 (sl,sl_2,sl_3)).2.1) 71 6 71 rfl rfl rfl rfl rfl) ?_
 refine Xu (Xl (q:=qC) (z:=(Nx 0 0 0 400 0 0 1 (sl,sl_2,sl_3)).2.2.1) 71 7 71 rfl rfl rfl rfl rfl) ?_
 refine Xu (Xl (q:=qC) (z:=(Nx 0 0 0 400 0 0 1 (sl,sl_2,sl_3)).2.2.2) 71 8 71 rfl rfl rfl rfl rfl) ?_
 refine Xu (Pb qG 73) ?_
 refine Xu (Xl (q:=qG) (z:=(Nx 0 0 0 400 0 0 1 (sl,sl_2,sl_3))) 73 71 73 rfl rfl rfl rfl rfl) ?_
 refine Xu (Kz 9 73 72 rfl rfl rfl rfl) ?_
 refine go 6 ?_
 refine cl 9 [] (Ij _ _ _) fun _ _=>?_
 refine cl 90 [] (Ck 200 0 200 ⟨O3,O3⟩ ⟨O3,O3⟩ ⟨O3,O3⟩) fun⟨v_8,q_5⟩ _=>?_
 refine cl 9 [] (Zab _) fun _ _=>?_
 refine cl 9 [72,90] (Zox _ _ _ _ 100 1 2 (kn_g1 _) (kn_g2 _) (kn_p1 _) (kn_p2 _) (show(1:Nat)≤5 by decide) (show(1:Nat)≤5 by decide) O3) fun _ _=>?_
 refine go 1 ?_
 refine kt (kn_a1 _ _) ?_
 refine go 8 ?_
 refine cl 9 [] (Ij _ _ _) fun _ _=>?_
 refine cl 92 [] (Ck 200 0 200 ⟨O3,O3⟩ ⟨O3,O3⟩ ⟨O3,O3⟩) fun⟨v_9,q_6⟩ _=>?_
 refine cl 9 [] (Zab _) fun _ _=>?_
 refine cl 9 [72,92] (Zox _ _ _ _ 101 1 2 (kn_g1 _) (kn_g2 _) (kn_p1 _) (kn_p2 _) (show(1:Nat)≤5 by decide) (show(1:Nat)≤5 by decide) O3) fun _ _=>?_
 refine go 1 ?_
 refine kf (kn_a2 _ _) ?_
 refine go 14 ?_
 refine ktg (decide_eq_true (kn_e1 _ _)) ?_
 refine go 3 ?_
 refine ktg (decide_eq_true (kn_e1 _ _)) ?_
 refine go 2 ?_
 refine Da (Qg (ivs:=[(0,_),(1,_),(2,_)]) rfl ⟨rfl,rfl,rfl,rfl,rfl,rfl,trivial⟩ (fun a w hs=>Zu2 ((Zz rfl) a w hs) ((Zz rfl) a w hs) ((Zz rfl) a w hs))) rfl rfl ?_
 refine Hs 9 [] (Es _ _ _) fun _ _=>?_
 refine Da (Zp (r':= .bool true) (Xt rfl rfl) (congrArg (fun b=>Value.bool (!b)) (show znB 100 2 1=false by decide))) rfl rfl ?_
 refine go 5 ?_
 exact Xo hsc () Tryz.results18 rfl trivial Za
set_option maxHeartbeats 1000000 in
theorem Zqh(ax ay az cx cy cz zd zn ze:Int)(hpa:ptB ax ay az=true)(hpb:ptB cx cy cz=true)(hz:znB zd zn ze=true):Cal Tryz.prog 19 #[.agg #[.int .i64 ax,.int .i64 ay,.int .i64 az],.agg #[.int .i64 cx,.int .i64 cy,.int .i64 cz],.agg #[.int .i64 zd,.int .i64 zn,.int .i64 ze]] [] false (G:=Unit) (fun _=>True) (fun _=> .bool (Zyy ax ay az cx cy cz zd zn ze)) (fun _=>[]):=by
 refine Zd Tryz.func19 Tryz.ntmps19 fun w0 sc hw hsc=>?_
 obtain⟨p1,p2,p3⟩:=Yed hpa
 obtain⟨q1,q2,q3⟩:=Yed hpb
 obtain⟨z1,z2,z3,z4,z5⟩:=zn_b hz
 have m1:=Aw (x:=(ax-cx)) (y:=(ax-cx)) (A:=2097152) (B:=2097152) O O
 have m2:=Aw (x:=(ay-cy)) (y:=(ay-cy)) (A:=2097152) (B:=2097152) O O
 have m3:=Aw (x:=(az-cz)) (y:=(az-cz)) (A:=2097152) (B:=2097152) O O
 have m4:=Aw (x:=ze) (y:=ze) (A:=100) (B:=100) O O
 have m5:=Aw (x:=zn) (y:=zn) (A:=100) (B:=100) O O
 have m6:=Aw (x:=zd) (y:=zd) (A:=4194304) (B:=4194304) O O
 have m7:=Aw (x:=((ax-cx)*(ax-cx)+(ay-cy)*(ay-cy))) (y:=(ze*ze)) (A:=8796093022208) (B:=10000) O O
 have m8:=Aw (x:=((az-cz)*(az-cz))) (y:=(zn*zn)) (A:=4398046511104) (B:=10000) O O
 have m9:=Aw (x:=(zd*zd)) (y:=(ze*ze)) (A:=17592186044416) (B:=10000) O O
 refine go 2 ?_
 refine Yc (Yb 1) fun bq _=>?_
 refine Yc (Yb 2) fun bq_2 _=>?_
 refine Yc (Yb 3) fun bq_3 _=>?_
 refine go 3 ?_
 refine jn (G:=Value×Nat) [3,4,5] [0,1,2,3] (fun q=>[(7,.pointer (some ⟨q.2,0,none⟩))]) (fun q=>[(83,d9p q.1 (((ax-cx)*(ax-cx)+(ay-cy)*(ay-cy))*(ze*ze)).natAbs),(95,box q.2 89 #[.bool (decide (((ax-cx)*(ax-cx)+(ay-cy)*(ay-cy))*(ze*ze)<0)),q.1])]) (fun q=>True) ?_ ?_
 ·refine Im (fun _=>False) [18] ?_
  refine Zl (n:=7) [(0,0),(1,0),(2,0),(3,0),(4,0),(6,0),(7,0),(8,0),(9,0),(10,0),(13,0),(14,0)] ?_
  refine go 13 ⟨O,O,?_⟩
  refine Qw (n:=6) 5 17 ?_ ?_
  ·refine Np (Zf 4 [] (Qn (ax-cx) ⟨O,O⟩)) fun v _=>?_
   refine Qw (n:=5) 11 17 ?_ ?_
   ·refine Np (Zf 5 [] (Qn (ay-cy) ⟨O,O⟩)) fun v_2 _=>?_
    refine Qw (n:=4) 12 17 ?_ ?_
    ·refine Np (Zf 6 [4,5] (Zjk _ _ ((ax-cx)*(ax-cx)) ((ay-cy)*(ay-cy)) (Ov (x:=(ax-cx)*(ax-cx)) O O3) (Ov (x:=(ay-cy)*(ay-cy)) O O3))) fun v_3 _=>?_
     refine Qw (n:=3) 15 17 ?_ ?_
     ·refine Np (Zf 7 [] (Qn ze ⟨O,O⟩)) fun v_4 _=>?_
      refine Qw (n:=2) 16 17 ?_ ?_
      ·refine Np (Zf 83 [6,7] (Bt _ _ ((ax-cx)*(ax-cx)+(ay-cy)*(ay-cy)) (ze*ze) (Ov (x:=(ax-cx)*(ax-cx)+(ay-cy)*(ay-cy)) O O3) (Ov (x:=ze*ze) O O3))) fun v_5 _=>?_
       refine Zl (n:=0) [(17,1),(18,3)] ?_
       refine Yz (Zr 95) fun bq_4 _=>?_
       refine go 2 ?_
       refine Zw ?_
       exact On (_,_) trivial ⟨rfl,trivial⟩ ⟨rfl,rfl,trivial⟩
      ·refine Np (Zr 95) fun bq_5 _=>?_
       refine Zl (n:=0) [(16,1),(18,3)] ?_
       refine Yz (Zf 83 [6,7] (Bt _ _ ((ax-cx)*(ax-cx)+(ay-cy)*(ay-cy)) (ze*ze) (Ov (x:=(ax-cx)*(ax-cx)+(ay-cy)*(ay-cy)) O O3) (Ov (x:=ze*ze) O O3))) fun v_6 _=>?_
       refine go 2 ?_
       refine Zw ?_
       exact On (_,_) trivial ⟨rfl,trivial⟩ ⟨rfl,rfl,trivial⟩
     ·refine Np (Zr 95) fun bq_6 _=>?_
      refine Zl (n:=0) [(15,1),(16,1),(18,3)] ?_
      refine Yz (Zf 8 [] (Qn ze ⟨O,O⟩)) fun v_7 _=>?_
      refine Yz (Zf 83 [6,8] (Bt _ _ ((ax-cx)*(ax-cx)+(ay-cy)*(ay-cy)) (ze*ze) (Ov (x:=(ax-cx)*(ax-cx)+(ay-cy)*(ay-cy)) O O3) (Ov (x:=ze*ze) O O3))) fun v_8 _=>?_
      refine go 2 ?_
      refine Zw ?_
      exact On (_,_) trivial ⟨rfl,trivial⟩ ⟨rfl,rfl,trivial⟩
    ·refine Np (Zr 95) fun bq_7 _=>?_
     refine Zl (n:=0) [(12,1),(15,1),(16,1),(18,3)] ?_
     refine Yz (Zf 9 [4,5] (Zjk _ _ ((ax-cx)*(ax-cx)) ((ay-cy)*(ay-cy)) (Ov (x:=(ax-cx)*(ax-cx)) O O3) (Ov (x:=(ay-cy)*(ay-cy)) O O3))) fun v_9 _=>?_
     refine Yz (Zf 10 [] (Qn ze ⟨O,O⟩)) fun v_10 _=>?_
     refine Yz (Zf 83 [9,10] (Bt _ _ ((ax-cx)*(ax-cx)+(ay-cy)*(ay-cy)) (ze*ze) (Ov (x:=(ax-cx)*(ax-cx)+(ay-cy)*(ay-cy)) O O3) (Ov (x:=ze*ze) O O3))) fun v_11 _=>?_
     refine go 2 ?_
     refine Zw ?_
     exact On (_,_) trivial ⟨rfl,trivial⟩ ⟨rfl,rfl,trivial⟩
   ·refine Np (Zr 95) fun bq_8 _=>?_
    refine Zl (n:=0) [(11,1),(12,1),(15,1),(16,1),(18,3)] ?_
    refine Yz (Zf 11 [] (Qn (ay-cy) ⟨O,O⟩)) fun v_12 _=>?_
    refine Yz (Zf 12 [4,11] (Zjk _ _ ((ax-cx)*(ax-cx)) ((ay-cy)*(ay-cy)) (Ov (x:=(ax-cx)*(ax-cx)) O O3) (Ov (x:=(ay-cy)*(ay-cy)) O O3))) fun v_13 _=>?_
    refine Yz (Zf 13 [] (Qn ze ⟨O,O⟩)) fun v_14 _=>?_
    refine Yz (Zf 83 [12,13] (Bt _ _ ((ax-cx)*(ax-cx)+(ay-cy)*(ay-cy)) (ze*ze) (Ov (x:=(ax-cx)*(ax-cx)+(ay-cy)*(ay-cy)) O O3) (Ov (x:=ze*ze) O O3))) fun v_15 _=>?_
    refine go 2 ?_
    refine Zw ?_
    exact On (_,_) trivial ⟨rfl,trivial⟩ ⟨rfl,rfl,trivial⟩
  ·refine Np (Zr 95) fun bq_9 _=>?_
   refine Zl (n:=0) [(5,1),(11,1),(12,1),(15,1),(16,1),(18,3)] ?_
   refine Yz (Zf 14 [] (Qn (ax-cx) ⟨O,O⟩)) fun v_16 _=>?_
   refine Yz (Zf 15 [] (Qn (ay-cy) ⟨O,O⟩)) fun v_17 _=>?_
   refine Yz (Zf 16 [14,15] (Zjk _ _ ((ax-cx)*(ax-cx)) ((ay-cy)*(ay-cy)) (Ov (x:=(ax-cx)*(ax-cx)) O O3) (Ov (x:=(ay-cy)*(ay-cy)) O O3))) fun v_18 _=>?_
   refine Yz (Zf 17 [] (Qn ze ⟨O,O⟩)) fun v_19 _=>?_
   refine Yz (Zf 83 [16,17] (Bt _ _ ((ax-cx)*(ax-cx)+(ay-cy)*(ay-cy)) (ze*ze) (Ov (x:=(ax-cx)*(ax-cx)+(ay-cy)*(ay-cy)) O O3) (Ov (x:=ze*ze) O O3))) fun v_20 _=>?_
   refine go 2 ?_
   refine Zw ?_
   exact On (_,_) trivial ⟨rfl,trivial⟩ ⟨rfl,rfl,trivial⟩
 ·rintro⟨qv,b7⟩ -
  dsimp only
  refine jn (G:=Value×Nat) [5,7] [0,83,95,1,2,3] (fun q=>[(8,.pointer (some ⟨q.2,0,none⟩))]) (fun q=>[(84,d9p q.1 ((az-cz)*(az-cz)*(zn*zn)).natAbs),(96,box q.2 89 #[.bool (decide ((az-cz)*(az-cz)*(zn*zn)<0)),q.1])]) (fun q=>True) ?_ ?_
  ·refine Im (fun _=>False) [11] ?_
   refine Zl (n:=5) [(0,0),(1,0),(2,0),(3,0),(4,0),(6,0),(7,0)] ?_
   refine go 8 ⟨O,?_⟩
   refine Qw (n:=4) 5 10 ?_ ?_
   ·refine Np (Zf 18 [] (Qn (az-cz) ⟨O,O⟩)) fun v_21 _=>?_
    refine Qw (n:=3) 8 10 ?_ ?_
    ·refine Np (Zf 19 [] (Qn zn ⟨O,O⟩)) fun v_22 _=>?_
     refine Qw (n:=2) 9 10 ?_ ?_
     ·refine Np (Zf 84 [18,19] (Bt _ _ ((az-cz)*(az-cz)) (zn*zn) (Ov (x:=(az-cz)*(az-cz)) O O3) (Ov (x:=zn*zn) O O3))) fun v_23 _=>?_
      refine Zl (n:=0) [(10,1),(11,3)] ?_
      refine Yz (Zr 96) fun bq_10 _=>?_
      refine go 2 ?_
      refine Zw ?_
      exact On (_,_) trivial ⟨rfl,trivial⟩ ⟨rfl,rfl,trivial⟩
     ·refine Np (Zr 96) fun bq_11 _=>?_
      refine Zl (n:=0) [(9,1),(11,3)] ?_
      refine Yz (Zf 84 [18,19] (Bt _ _ ((az-cz)*(az-cz)) (zn*zn) (Ov (x:=(az-cz)*(az-cz)) O O3) (Ov (x:=zn*zn) O O3))) fun v_24 _=>?_
      refine go 2 ?_
      refine Zw ?_
      exact On (_,_) trivial ⟨rfl,trivial⟩ ⟨rfl,rfl,trivial⟩
    ·refine Np (Zr 96) fun bq_12 _=>?_
     refine Zl (n:=0) [(8,1),(9,1),(11,3)] ?_
     refine Yz (Zf 20 [] (Qn zn ⟨O,O⟩)) fun v_25 _=>?_
     refine Yz (Zf 84 [18,20] (Bt _ _ ((az-cz)*(az-cz)) (zn*zn) (Ov (x:=(az-cz)*(az-cz)) O O3) (Ov (x:=zn*zn) O O3))) fun v_26 _=>?_
     refine go 2 ?_
     refine Zw ?_
     exact On (_,_) trivial ⟨rfl,trivial⟩ ⟨rfl,rfl,trivial⟩
   ·refine Np (Zr 96) fun bq_13 _=>?_
    refine Zl (n:=0) [(5,1),(8,1),(9,1),(11,3)] ?_
    refine Yz (Zf 21 [] (Qn (az-cz) ⟨O,O⟩)) fun v_27 _=>?_
    refine Yz (Zf 22 [] (Qn zn ⟨O,O⟩)) fun v_28 _=>?_
    refine Yz (Zf 84 [21,22] (Bt _ _ ((az-cz)*(az-cz)) (zn*zn) (Ov (x:=(az-cz)*(az-cz)) O O3) (Ov (x:=zn*zn) O O3))) fun v_29 _=>?_
    refine go 2 ?_
    refine Zw ?_
    exact On (_,_) trivial ⟨rfl,trivial⟩ ⟨rfl,rfl,trivial⟩
  ·rintro⟨qw,b8⟩ -
   dsimp only
   refine go 1 ?_
   refine Qe (fun _=>False) [(0,0),(1,0),(3,0),(4,0),(6,0),(7,0),(2,1),(5,1),(8,1),(9,1),(10,1),(11,0),(12,3)] ?_
   refine go 6 ?_
   refine Yz (Zf 23 [83,84] (Zjk _ _ (((ax-cx)*(ax-cx)+(ay-cy)*(ay-cy))*(ze*ze)) ((az-cz)*(az-cz)*(zn*zn)) (Ov (x:=((ax-cx)*(ax-cx)+(ay-cy)*(ay-cy))*(ze*ze)) O O3) (Ov (x:=(az-cz)*(az-cz)*(zn*zn)) O O3))) fun v_30 _=>?_
   refine Yz (Zf 24 [] (Qn zd ⟨O,O⟩)) fun v_31 _=>?_
   refine Yz (Zf 25 [] (Qn ze ⟨O,O⟩)) fun v_32 _=>?_
   refine Yz (Zf 26 [24,25] (Bt _ _ (zd*zd) (ze*ze) (Ov (x:=zd*zd) O O3) (Ov (x:=ze*ze) O O3))) fun v_33 _=>?_
   refine Yz (Zf 26 [23,26] (Zvu _ _ (((ax-cx)*(ax-cx)+(ay-cy)*(ay-cy))*(ze*ze)+(az-cz)*(az-cz)*(zn*zn)) (zd*zd*(ze*ze)) (Ov (x:=((ax-cx)*(ax-cx)+(ay-cy)*(ay-cy))*(ze*ze)+(az-cz)*(az-cz)*(zn*zn)) O O3) (Ov (x:=zd*zd*(ze*ze)) O O3))) fun _ _=>?_
   refine go 5 ?_
   exact Xo hsc () Tryz.results19 (by rw [Yec]) trivial Za
set_option maxHeartbeats 1000000 in
theorem Zqv(ax ay az cx cy cz zd zn ze:Int)(hb:¬(ptB ax ay az=true∧ptB cx cy cz=true∧znB zd zn ze=true)):Cal Tryz.prog 3 #[.agg #[.int .i64 ax,.int .i64 ay,.int .i64 az],.agg #[.int .i64 cx,.int .i64 cy,.int .i64 cz],.agg #[.int .i64 zd,.int .i64 zn,.int .i64 ze]] [] false (G:=Unit) (fun _=>True) (fun _=> .bool true) (fun _=>[]):=by
 refine Zd Tryz.func3 Tryz.ntmps3 fun w0 sc hw hsc=>?_
 refine go 2 ?_
 refine Yc (Yb 1) fun bx _=>?_
 refine Yc (Yb 2) fun bx_2 _=>?_
 refine Yc (Yb 3) fun bx_3 _=>?_
 refine go 8 ?_
 refine cl 3 [] (Zq9 _ _ _ _ _ _ _ _ _ hb) fun _ _=>?_
 refine go 9 ?_
 refine Qe (fun _=>False) [(0,0),(2,0),(1,1),(3,1),(4,0)] ?_
 refine go 2 ?_
 refine Yz (Zf 3 [] (Es _ _ _)) fun _ _=>?_
 refine Yz (Zf 3 [] (Zaz _ _ _)) fun _ _=>?_
 refine Qb rfl rfl (Ph (Zp (r':= .bool false) (Ybj rfl rfl rfl Tryz.underlying4) (congrArg Value.bool O6))) ?_
 refine go 7 ?_
 rcases Zns hb with hc1 | ⟨hc1,hc2⟩ | ⟨hc1,hc2,hc3⟩
 ·refine go 2 ?_
  refine cl 3 [] (Gk _ _ _) fun _ _=>?_
  refine dt (Zp (r':= .bool true) (Xt rfl rfl) (congrArg (fun b=>Value.bool (!b)) hc1)) ?_
  refine go 19 ?_
  refine ktg (decide_eq_true O3) ?_
  refine go 2 ?_
  refine Hs 3 [] (Za8) fun _ _=>?_
  refine go 6 ?_
  exact Xo hsc () Tryz.results3 rfl trivial Za
 ·refine go 2 ?_
  refine cl 3 [] (Gk _ _ _) fun _ _=>?_
  refine dt (Zp (r':= .bool false) (Xt rfl rfl) (congrArg (fun b=>Value.bool (!b)) hc1)) ?_
  refine go 2 ?_
  refine Hs 3 [] (Gk _ _ _) fun _ _=>?_
  refine Da (Zp (r':= .bool true) (Xt rfl rfl) (congrArg (fun b=>Value.bool (!b)) hc2)) rfl rfl ?_
  refine go 15 ?_
  refine ktg (decide_eq_true O3) ?_
  refine go 2 ?_
  refine Hs 3 [] (Za8) fun _ _=>?_
  refine go 6 ?_
  exact Xo hsc () Tryz.results3 rfl trivial Za
 ·refine go 2 ?_
  refine cl 3 [] (Gk _ _ _) fun _ _=>?_
  refine dt (Zp (r':= .bool false) (Xt rfl rfl) (congrArg (fun b=>Value.bool (!b)) hc1)) ?_
  refine go 2 ?_
  refine Hs 3 [] (Gk _ _ _) fun _ _=>?_
  refine Da (Zp (r':= .bool false) (Xt rfl rfl) (congrArg (fun b=>Value.bool (!b)) hc2)) rfl rfl ?_
  refine go 3 ?_
  refine Hs 3 [] (Zaz _ _ _) fun _ _=>?_
  refine Da (Zp (r':= .bool true) (Xt rfl rfl) (congrArg (fun b=>Value.bool (!b)) hc3)) rfl rfl ?_
  refine go 10 ?_
  refine ktg (decide_eq_true O3) ?_
  refine go 2 ?_
  refine Hs 3 [] (Za8) fun _ _=>?_
  refine go 6 ?_
  exact Xo hsc () Tryz.results3 rfl trivial Za
set_option maxHeartbeats 1000000 in
theorem Zwd(ax ay az cx cy cz zd zn ze:Int)(hpa:ptB ax ay az=true)(hpb:ptB cx cy cz=true)(hz:znB zd zn ze=true):Cal Tryz.prog 3 #[.agg #[.int .i64 ax,.int .i64 ay,.int .i64 az],.agg #[.int .i64 cx,.int .i64 cy,.int .i64 cz],.agg #[.int .i64 zd,.int .i64 zn,.int .i64 ze]] [] false (G:=Unit) (fun _=>True) (fun _=> .bool true) (fun _=>[]):=by
 refine Zd Tryz.func3 Tryz.ntmps3 fun w0 sc hw hsc=>?_
 refine go 2 ?_
 refine Yc (Yb 1) fun bx _=>?_
 refine Yc (Yb 2) fun bx_2 _=>?_
 refine Yc (Yb 3) fun bx_3 _=>?_
 refine go 8 ?_
 refine cl 3 [] (Ya4 _ _ _ _ _ _ _ _ _ hpa hpb hz) fun _ _=>?_
 refine go 9 ?_
 refine Qe (fun _=>False) [(0,0),(2,0),(1,1),(3,1),(4,0)] ?_
 refine go 2 ?_
 refine Yz (Zf 3 [] (Es _ _ _)) fun _ _=>?_
 refine Yz (Zf 3 [] (Zaz _ _ _)) fun _ _=>?_
 refine Qb rfl rfl (Ph (Zp (r':= .bool false) (Ybj rfl rfl rfl Tryz.underlying4) (congrArg Value.bool O6))) ?_
 refine go 9 ?_
 refine cl 3 [] (Gk _ _ _) fun _ _=>?_
 refine dt (Zp (r':= .bool false) (Xt rfl rfl) (congrArg (fun b=>Value.bool (!b)) hpa)) ?_
 refine go 2 ?_
 refine Hs 3 [] (Gk _ _ _) fun _ _=>?_
 refine Da (Zp (r':= .bool false) (Xt rfl rfl) (congrArg (fun b=>Value.bool (!b)) hpb)) rfl rfl ?_
 refine go 3 ?_
 refine Hs 3 [] (Zaz _ _ _) fun _ _=>?_
 refine Da (Zp (r':= .bool false) (Xt rfl rfl) (congrArg (fun b=>Value.bool (!b)) hz)) rfl rfl ?_
 refine go 9 ?_
 refine kt (decide_eq_true O3) ?_
 refine go 5 ?_
 refine Hs 3 [] (Zqh _ _ _ _ _ _ _ _ _ hpa hpb hz) fun _ _=>?_
 refine ktg (beq_self_eq_true _) ?_
 refine go 2 ?_
 refine Hs 3 [] (Za8) fun _ _=>?_
 refine go 5 ?_
 exact Xo hsc () Tryz.results3 rfl trivial Za
open Go.Proofs.Tryz
theorem law_dp(ax ay az cx cy cz zd zn ze:Int):Pn prog 3 #[.agg #[.int .i64 ax,.int .i64 ay,.int .i64 az],.agg #[.int .i64 cx,.int .i64 cy,.int .i64 cz],.agg #[.int .i64 zd,.int .i64 zn,.int .i64 ze]] [] (.bool true):=by
 by_cases hb:ptB ax ay az=true∧ptB cx cy cz=true∧znB zd zn ze=true
 ·exact Zwd ax ay az cx cy cz zd zn ze hb.1 hb.2.1 hb.2.2
 ·exact Zqv ax ay az cx cy cz zd zn ze hb
end Go.Sky
namespace Go.Proofs.YteikicbnfbgpnaaGreat
open Go.ChangeShapes Go.WideShapes Go.ChangeAt Go.RowKit Go.Joins Go.Deep Go.Sky
theorem own:ownKnob Tryz.prog.godebug=none:=O5
theorem Zlg:laidOutB Tryz.prog=true:=O5
set_option maxRecDepth 100000 in
theorem lifted(os:Os)(started:os.Started)(H:Type)(enc:TypeId×Value→H) :
  ReturnsInHanded {} Tryz.checked os 3 .any (Rows.downwashPointsSpec.pre6 enc Tryz.prog Tryz.f3 Rows.downwashPointsRow.domain false) (Rows.downwashPointsSpec.post enc Tryz.prog Tryz.f3 false true false false):=by
 refine returnsInHanded_of_change (C:=Tryz.checked) own started O5 Tryz.func3
  (ChangeSpec.witness6 (enc:=enc) (C:=Tryz.checked) false ⟨#[],#[.agg #[.int .i64 0,.int .i64 0,.int .i64 0],.agg #[.int .i64 0,.int .i64 0,.int .i64 0],.agg #[.int .i64 0,.int .i64 0,.int .i64 0]],[]⟩ 8 O5 O5 O5 O5) ?_
 intro W base args ds gs before hval0 hW hcnd _
 have hval:∀(j:Nat) t v,Tryz.f3.params[j]? = some t→args[j]? = some v→Value.okWide Tryz.prog W .any base t v:=hval0
 have hW':=hW
 obtain⟨p,q,hA0,hV,rfl,hfz,hnd⟩:=hW
 have hA:DataW.TrodAll enc Tryz.prog W 0 (fun _=>true) true Tryz.f3.params.toList args.toList ds p:=hA0
 rw [Tryz.params3]at hA hval
 obtain⟨v0,vs0,d0,ds0,p0,q0,hargs,rfl,rfl,h0,r0⟩:=trodAll_cons hA
 obtain⟨v1,vs1,d1,ds1,p1,q1,rfl,rfl,rfl,h1,r1⟩:=trodAll_cons r0
 obtain⟨v2,vs2,d2,ds2,p2,q2,rfl,rfl,rfl,h2,r2⟩:=trodAll_cons r1
 obtain⟨rfl,rfl,rfl⟩:=trodAll_nil r2
 obtain rfl:args=#[v0,v1,v2]:=by cases args;simp_all
 obtain⟨rfl,rfl⟩:=trodVars_none hV
 have lt0:∀x∈p0,x.block<W.heap.size:=by obtain⟨m,hm⟩:=h0;exact DataW.trod_lt m _ _ _ hm
 obtain⟨va0,vb0,vc0,rfl,-,-,-⟩:=Zb7 Tryz.underlying23 O5 rfl rfl rfl rfl rfl rfl Tryz.underlying3 O5 (hval 0 (23) v0 rfl rfl) h0
 have lt1:∀x∈p1,x.block<W.heap.size:=by obtain⟨m,hm⟩:=h1;exact DataW.trod_lt m _ _ _ hm
 obtain⟨va1,vb1,vc1,rfl,-,-,-⟩:=Zb7 Tryz.underlying23 O5 rfl rfl rfl rfl rfl rfl Tryz.underlying3 O5 (hval 1 (23) v1 rfl rfl) h1
 have lt2:∀x∈p2,x.block<W.heap.size:=by obtain⟨m,hm⟩:=h2;exact DataW.trod_lt m _ _ _ hm
 obtain⟨va2,vb2,vc2,rfl,-,-,-⟩:=Zb7 Tryz.underlying25 O5 rfl rfl rfl rfl rfl rfl Tryz.underlying3 O5 (hval 2 (25) v2 rfl rfl) h2
 clear hA0 hval0
 refine(law_dp va0 vb0 vc0 va1 vb1 vc1 va2 vb2 vc2 W (fun p hp=>by cases hp)).mono fun e W' ⟨_,he,_,bel,_⟩=>?_
 subst he
 exact⟨_,rfl,_,_,_,[],_,[],hW',trodAll_mk1 (shut_bool Tryz.underlying4 _),(trodAll_cons_mk (Below.trod Zlg O5 (of_decide_eq_true O5) h0 bel lt0) (trodAll_cons_mk (Below.trod Zlg O5 (of_decide_eq_true O5) h1 bel lt1) (trodAll_cons_mk (Below.trod Zlg O5 (of_decide_eq_true O5) h2 bel lt2) trodAll_mk0))),rfl,bel.frame _,fun h=>by cases h⟩
theorem x_holds : Rows.DownwashPointsSaid :=
 OpenClaim.holds_of_wide 3 Tryz.f3 rfl rfl rfl rfl rfl rfl rfl ⟨rfl,rfl,rfl,rfl,rfl⟩ rfl rfl rfl rfl rfl O5 Tryz.func3 closed
  (of_decide_eq_true O5) (by unfold Func.isWrapper;first | (rw [if_pos O7];kernel_rfl) | (rw [if_neg O7];exact⟨rfl,rfl⟩))
  (fun os started H enc _=>lifted os started H enc)
#print axioms x_holds
end Go.Proofs.YteikicbnfbgpnaaGreat

