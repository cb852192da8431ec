/- rules, arithmetic and contracts: part 12
   Proved without conditions of its own: each theorem bears its own. -/
import Derived.Test.YtcmiiammekgooaaGreatSo03
import Derived.Test.YtcmiiammekgooaaGreatSo02
import Derived.Test.YtcmiiammekgooaaGreatSo01
import Derived.Test.YtcmiiammekgooaaGreatSo10
import Derived.Test.YtcmiiammekgooaaGreatSo09
set_option linter.all false
namespace Go.Sky
open Go.Proofs
set_option maxRecDepth 20000
set_option maxHeartbeats 4000000
set_option linter.unusedSimpArgs false
theorem Zda(x y x2 y2:Int)(hx:bl x.natAbs≤65536)(hy:bl y.natAbs≤65536)(hx2:bl x2.natAbs≤65536)(hy2:bl y2.natAbs≤65536)(hp:0<y)(hp2:0<y2):Cal Tryz.prog 177 #[.agg #[.bool (decide (x<0)),.string (Xd x.natAbs),.bool (decide (y<0)),.string (Xd y.natAbs)],.agg #[.bool (decide (x2<0)),.string (Xd x2.natAbs),.bool (decide (y2<0)),.string (Xd y2.natAbs)]] [] false (G:=Unit) (fun _=>True) (fun _=> .bool true) (fun _=>[]):=by
 refine Yd Tryz.func177 J Tryz.ntmps177 J trivial ?_
 intro w0 sc hw hsc
 simp only [Zp,Zn]
 exact Zb<|Zg<|tt (Xl (i:=1) J J J J J J hw) J fun b _=>tt (Xl (i:=2) J J J J J J hw) J fun b_2 _=>as_ J J<|Zf<|Za<|Zb<|Zg<|dt (Xi (i:=1) J J J Pp Xx J J J J) J<|tt (Zh (n:=2) (Qq _ _ (by assumption) (by assumption) (by assumption)) J J J K1 Zeo Ze J hw) J fun _ _=>mv J J<|gdt (Xi (i:=2) J J J Pp Xx J J J J) J J J J<|gtt (Zh (n:=2) (Qq _ _ (by assumption) (by assumption) (by assumption)) J J J K1 Zeo Ze J hw) J J J J fun _ _=>dt (Xh J J J) J<|as_ J J<|Zf<|Za<|Zu<|Zv (.inl J) hsc () _ (fun a w hs=>Qj hs Tryz.results177 J) J trivial J Zj
theorem Zbw(x y x2 y2:Int)(hx:bl x.natAbs≤65536)(hy:bl y.natAbs≤65536)(hx2:bl x2.natAbs≤65536)(hy2:bl y2.natAbs≤65536):Cal Tryz.prog 178 #[.agg #[.bool (decide (x<0)),.string (Xd x.natAbs),.bool (decide (y<0)),.string (Xd y.natAbs)],.agg #[.bool (decide (x2<0)),.string (Xd x2.natAbs),.bool (decide (y2<0)),.string (Xd y2.natAbs)]] [] true (G:=Bool×Value×Bool×Value×Bool×Value) (fun r=>sg r.1 (x*y2)∧sg r.2.2.1 (x2*y)∧sg r.2.2.2.2.1 (y*y2)) (fun r=> .tuple #[.agg #[.bool r.1,r.2.1],.agg #[.bool r.2.2.1,r.2.2.2.1],.agg #[.bool r.2.2.2.2.1,r.2.2.2.2.2]]) (fun r=>[dgp r.2.1 (x*y2).natAbs,dgp r.2.2.2.1 (x2*y).natAbs,dgp r.2.2.2.2.2 (y*y2).natAbs]):=by
 refine Yd Tryz.func178 J Tryz.ntmps178 J trivial ?_
 intro w0 sc hw hsc
 simp only [Zp,Zn]
 have b1:=Qh x y2
 have b2:=Qh x2 y
 have b3:=Qh y y2
 have b4:=Qh x x2
 refine Zb<|Zg<|tt (Xl (i:=1) J J J J J J hw) J fun b _=>tt (Xl (i:=2) J J J J J J hw) J fun b_2 _=>tt (Zo (i:=3) J J J Tryz.zeroValue154 J J hw) J fun b_3 _=>tt (Zo (i:=4) J J J Tryz.zeroValue154 J J hw) J fun b_4 _=>tt (Zo (i:=5) J J J Tryz.zeroValue154 J J hw) J fun b_5 _=>Zf<|Za<|Zb<|Nr [1,2] [23] (by kernel_rfl)<|Zx (n:=0) [(0,0),(1,0),(3,0),(4,0),(7,0),(8,0),(10,0),(11,0),(14,0),(15,0),(17,0),(18,0),(2,1),(5,1),(6,1),(9,1),(12,1),(13,1),(16,1),(19,1),(20,1),(21,1),(22,1),(23,3)] (by kernel_rfl)<|r0' J J J J (stf (Xy J J Ab J Yk J J) K2)<|r0' J J J J (stf (Yc (i:=1) J J J Qo Yk J J) K2)<|r0' J J J J (stf (Xy J J Ab J Yk J J) K2)<|r0' J J J J (stf (Yc (i:=2) J J J Qo Yk J J) K2)<|r0' J J J J (stf (Xy J J Ab J Yk J J) K2)<|r0' J J J J (stf (Yc (i:=2) J J J Qo Yk J J) K2)<|r0' J J J J (stf (Xy J J Ab J Yk J J) K2)<|r0' J J J J (stf (Yc (i:=1) J J J Qo Yk J J) K2)<|r0' J J J J (stf (Xy J J Ab J Yk J J) K2)<|r0' J J J J (stf (Yc (i:=1) J J J Qo Yk J J) K2)<|r0' J J J J (stf (Xy J J Ab J Yk J J) K2) ?_
 refine r0' J J J J (stf (Yc (i:=2) J J J Qo Yk J J) K2)<|r1' J J (Zh (n:=6) (Qy _ _ (Xj _) (by omega)) J J J K1 Lf Ze J hw) fun g hg=>r1' J J (Zh (n:=7) (Qy _ _ (Xj _) (by omega)) J J J K1 Lf Ze J hw) fun g_2 hg_2=>r1' J J (Zh (n:=8) (Zbh _ _ _ _ _ _ (by assumption) (by assumption) (by omega) (by omega)) J J J K2 Zpe (Zd 6 J J J (Zd 7 J J J Ze)) J hw) fun g_3 hg_3=>r1' J J (Zh (n:=9) (Qy _ _ (Xj _) (by omega)) J J J K1 Lf Ze J hw) fun g_4 hg_4=>r1' J J (Zh (n:=10) (Qy _ _ (Xj _) (by omega)) J J J K1 Lf Ze J hw) fun g_5 hg_5=>r1' J J (Zh (n:=11) (Zbh _ _ _ _ _ _ (by assumption) (by assumption) (by omega) (by omega)) J J J K2 Zpe (Zd 9 J J J (Zd 10 J J J Ze)) J hw) fun g_6 hg_6=>r1' J J (Zh (n:=12) (Qy _ _ (Xj _) (by omega)) J J J K1 Lf Ze J hw) fun g_7 hg_7=>r1' J J (Zh (n:=13) (Qy _ _ (Xj _) (by omega)) J J J K1 Lf Ze J hw) fun g_8 hg_8=>r1' J J (Zh (n:=14) (Zbh _ _ _ _ _ _ (by assumption) (by assumption) (by omega) (by omega)) J J J K2 Zpe (Zd 12 J J J (Zd 13 J J J Ze)) J hw) (fun g_9 hg_9=>?_)
 exact r1' J J (Zgl 3 J J K2 (fun ob=>(Zm (i:=3) J J J J J (by decide) J Yy J J ⟨Zc J,Zr (i:=8) J Zi,trivial⟩ J hw ob))) fun _ _=>r1' J J (Zgl 4 J J K2 (fun ob=>(Zm (i:=4) J J J J J (by decide) J Yy J J ⟨Zc J,Zr (i:=11) J Zi,trivial⟩ J hw ob))) fun _ _=>r3' J J (Zm (i:=5) J J J J J (by decide) J Yy J J ⟨Zc J,Zr (i:=14) J Zi,trivial⟩ J hw trivial) fun _ _=>Yr<|Yl (by kernel_rfl)<|Za<|Zu<|Zv (.inl J) hsc (_,_,_,_,_,_) _ (fun a w hs=>res3 hs Tryz.results178 (Yp (i:=3) J J Ln Yy J) (Yp (i:=4) J J Ln Yy J) (Yp (i:=5) J J Ln Yy J)) J ⟨by assumption,by assumption,by assumption⟩ J (Xb 8 J J J (Xb 11 J J J (Xb 14 J J J Zj)))
theorem Za1(x y x2 y2:Int)(hx:bl x.natAbs≤65536)(hy:bl y.natAbs≤65536)(hx2:bl x2.natAbs≤65536)(hy2:bl y2.natAbs≤65536)(hp:0<y)(hp2:0<y2):Cal Tryz.prog 146 #[.agg #[.bool (decide (x<0)),.string (Xd x.natAbs),.bool (decide (y<0)),.string (Xd y.natAbs)],.agg #[.bool (decide (x2<0)),.string (Xd x2.natAbs),.bool (decide (y2<0)),.string (Xd y2.natAbs)]] [] false (G:=Unit) (fun _=>True) (fun _=> .tuple #[.int .i64 (x*y2-x2*y).sign,.int .i64 0]) (fun _=>[]):=by
 refine Yd Tryz.func146 J Tryz.ntmps146 J trivial ?_
 intro w0 sc hw hsc
 simp only [Zp,Zn]
 have b1:=Qh x y2
 have b2:=Qh x2 y
 have b3:=Qh y y2
 have b4:=Qh x x2
 have b5:=Zj2 (x2*y)
 have b6:=Km (x*y2) (-(x2*y))
 refine Zb<|Zg<|tt (Xl (i:=1) J J J J J J hw) J fun b _=>tt (Xl (i:=2) J J J J J J hw) J fun b_2 _=>as_ J J<|as_ J J<|Zf<|Za<|Zb<|Zb<|Zg<|dt (Xi (i:=1) J J J Pp Xx J J J J) J<|dt (Xi (i:=2) J J J Pp Xx J J J J) J<|tt (Zh (n:=2) (Zda _ _ _ _ (by assumption) (by assumption) (by assumption) (by assumption) (by assumption) (by assumption)) J J J K2 cF177 Ze J hw) J fun _ _=>dt (Xo J J) J<|Zf<|Za<|Yf J<|Zk<|Za<|Zb<|Zg<|dt (Xi (i:=1) J J J Pp Xx J J J J) J<|dt (Xi (i:=2) J J J Pp Xx J J J J) J<|tt (Zh (n:=3) (Zbw _ _ _ _ (by assumption) (by assumption) (by assumption) (by assumption)) J J J K2 cF178 Ze J hw) J (fun g hg=>?_)
 obtain⟨hc1,hc2,hc3⟩:=hg
 refine mv J J<|dt (Yg J J J) J<|dt (Yg J J J) J<|dt (Yg J J J) J<|tt (Zo (i:=6) J J J Tryz.zeroValue154 J J hw) J fun b_3 _=>tt (Zo (i:=7) J J J Tryz.zeroValue154 J J hw) J fun b_4 _=>tt (Zo (i:=8) J J J Tryz.zeroValue154 J J hw) J fun b_5 _=>tt (Zm (i:=6) J J J J J (by decide) J Yy J J ⟨Zc J,Zr (i:=3) J Zi,trivial⟩ J hw trivial) J fun _ _=>tt (Zm (i:=7) J J J J J (by decide) J Yy J J ⟨Zc J,Zr (i:=4) J Zi,trivial⟩ J hw trivial) J fun _ _=>tt (Zm (i:=8) J J J J J (by decide) J Yy J J ⟨Zc J,Zr (i:=5) J Zi,trivial⟩ J hw trivial) J fun _ _=>Zf<|Za<|Zb<|Qs (fun _=>False) [(0,0),(1,0),(2,1),(3,1),(4,1),(5,3),(6,3)] (by kernel_rfl) ?_ ?_
 ·kernel_rfl
 exact r0' J J J J (st0 (Yc (i:=6) J J J Ln Yy J J))<|r0' J J J J (st0 (Yc (i:=7) J J J Ln Yy J J))<|r1' J J (Zh (n:=9) (Zk5 _ _ _ (by assumption)) J J J K1 cF134 (Zd 4 J J J Ze) J hw) fun g_2 hg_2=>r1' J J (Zh (n:=10) (Zd7 _ _ _ _ _ _ (by assumption) (by assumption) (by omega) (by omega)) J J J K2 Zt1 (Zd 3 J J J (Zd 9 J J J Ze)) J hw) fun g_3 hg_3=>r1' J J (Zh (n:=10) (Zhk _ _ _ (by assumption) (by omega)) J J J K1 cF135 (Zd 10 J J J Ze) J hw) fun _ _=>r3' J J (Od (Kk J J) J J) fun _ _=>r3' J J (Od (Kk J J) J J) fun _ _=>Og<|Za<|Zu<|Zv (.inl J) hsc () _ (fun a w hs=>Ni hs Tryz.results146 J J) (by rw [Int.sub_eq_add_neg]<;>rfl) trivial J Zj
theorem Zga(x y x2 y2:Int)(hx:bl x.natAbs≤65536)(hy:bl y.natAbs≤65536)(hx2:bl x2.natAbs≤65536)(hy2:bl y2.natAbs≤65536)(hp:0<y)(hp2:0<y2):Cal Tryz.prog 143 #[.agg #[.bool (decide (x<0)),.string (Xd x.natAbs),.bool (decide (y<0)),.string (Xd y.natAbs)],.agg #[.bool (decide (x2<0)),.string (Xd x2.natAbs),.bool (decide (y2<0)),.string (Xd y2.natAbs)]] [] false (G:=Unit) (fun _=>True) (fun _=>Zb1 (x*y2+x2*y) (y*y2)) (fun _=>[]):=by
 refine Yd Tryz.func143 J Tryz.ntmps143 J trivial ?_
 intro w0 sc hw hsc
 simp only [Zp,Zn]
 have b1:=Qh x y2
 have b2:=Qh x2 y
 have b3:=Qh y y2
 have b4:=Qh x x2
 have b6:=Km (x*y2) (x2*y)
 refine Zb<|Zg<|tt (Xl (i:=1) J J J J J J hw) J fun b _=>tt (Xl (i:=2) J J J J J J hw) J fun b_2 _=>tt (Zo (i:=3) J J J Tryz.zeroValue41 J J hw) J fun b_3 _=>as_ J J<|Zf<|Za<|Zb<|Zb<|Zg<|dt (Xi (i:=1) J J J Pp Xx J J J J) J<|dt (Xi (i:=2) J J J Pp Xx J J J J) J<|tt (Zh (n:=3) (Zda _ _ _ _ (by assumption) (by assumption) (by assumption) (by assumption) (by assumption) (by assumption)) J J J K2 cF177 Ze J hw) J fun _ _=>dt (Xo J J) J<|Zf<|Za<|Yf J<|Zk<|Za<|Zb<|Zg<|dt (Xi (i:=1) J J J Pp Xx J J J J) J<|dt (Xi (i:=2) J J J Pp Xx J J J J) J<|tt (Zh (n:=4) (Zbw _ _ _ _ (by assumption) (by assumption) (by assumption) (by assumption)) J J J K2 cF178 Ze J hw) J (fun g hg=>?_)
 obtain⟨hc1,hc2,hc3⟩:=hg
 refine mv J J<|dt (Yg J J J) J<|dt (Yg J J J) J<|dt (Yg J J J) J<|tt (Zo (i:=7) J J J Tryz.zeroValue154 J J hw) J fun b_4 _=>tt (Zo (i:=8) J J J Tryz.zeroValue154 J J hw) J fun b_5 _=>tt (Zo (i:=9) J J J Tryz.zeroValue154 J J hw) J fun b_6 _=>tt (Zm (i:=7) J J J J J (by decide) J Yy J J ⟨Zc J,Zr (i:=4) J Zi,trivial⟩ J hw trivial) J fun _ _=>tt (Zm (i:=8) J J J J J (by decide) J Yy J J ⟨Zc J,Zr (i:=5) J Zi,trivial⟩ J hw trivial) J fun _ _=>tt (Zm (i:=9) J J J J J (by decide) J Yy J J ⟨Zc J,Zr (i:=6) J Zi,trivial⟩ J hw trivial) J fun _ _=>Zf<|Za<|Zb<|Qs (fun _=>False) [(0,0),(1,0),(3,0),(2,1),(4,1),(5,0),(6,0),(7,3),(8,3)] (by kernel_rfl) ?_ ?_
 ·kernel_rfl
 exact r0' J J J J (st0 (Yc (i:=7) J J J Ln Yy J J))<|r0' J J J J (st0 (Yc (i:=8) J J J Ln Yy J J))<|r0' J J J J (st0 (Yc (i:=9) J J J Ln Yy J J))<|r1' J J (Zh (n:=10) (Zd7 _ _ _ _ _ _ (by assumption) (by assumption) (by omega) (by omega)) J J J K2 Zt1 (Zd 4 J J J (Zd 5 J J J Ze)) J hw) fun g_2 hg_2=>r1' J J (Zh (n:=10) (Bg _ _ _ _ _ _ (by assumption) (by assumption) (by omega) (by omega) (Int.mul_ne_zero (by omega) (by omega))) J J J K2 cF163 (Zd 10 J J J (Zd 6 J J J Ze)) J hw) fun _ _=>r0' J J J J (st0 (Yg J J J))<|r0' J J J J (st0 (Yg J J J))<|r3' J J (Zm (i:=3) J J J J J (by decide) J Xx J J ⟨Zc J,Zc J,Zc J,Zc J,trivial⟩ J hw trivial) fun _ _=>r3' J J (Od (Kk J J) J J) fun _ _=>Og<|Za<|Zu<|Zv (.inl J) hsc () _ (fun a w hs=>Ni hs Tryz.results143 (Yp (i:=3) J J Pp Xx J) J) J trivial J Zj
theorem Hl(x y x2 y2:Int)(hx:bl x.natAbs≤65536)(hy:bl y.natAbs≤65536)(hx2:bl x2.natAbs≤65536)(hy2:bl y2.natAbs≤65536)(hp:0<y)(hp2:0<y2):Cal Tryz.prog 144 #[.agg #[.bool (decide (x<0)),.string (Xd x.natAbs),.bool (decide (y<0)),.string (Xd y.natAbs)],.agg #[.bool (decide (x2<0)),.string (Xd x2.natAbs),.bool (decide (y2<0)),.string (Xd y2.natAbs)]] [] false (G:=Unit) (fun _=>True) (fun _=>Zb1 (x*x2) (y*y2)) (fun _=>[]):=by
 refine Yd Tryz.func144 J Tryz.ntmps144 J trivial ?_
 intro w0 sc hw hsc
 simp only [Zp,Zn]
 have b1:=Qh x y2
 have b2:=Qh x2 y
 have b3:=Qh y y2
 have b4:=Qh x x2
 refine Zb<|Zg<|tt (Xl (i:=1) J J J J J J hw) J fun b _=>tt (Xl (i:=2) J J J J J J hw) J fun b_2 _=>tt (Zo (i:=3) J J J Tryz.zeroValue41 J J hw) J fun b_3 _=>as_ J J<|Zf<|Za<|Zb<|Zb<|Zg<|dt (Xi (i:=1) J J J Pp Xx J J J J) J<|dt (Xi (i:=2) J J J Pp Xx J J J J) J<|tt (Zh (n:=3) (Zda _ _ _ _ (by assumption) (by assumption) (by assumption) (by assumption) (by assumption) (by assumption)) J J J K2 cF177 Ze J hw) J fun _ _=>dt (Xo J J) J<|Zf<|Za<|Yf J<|Zk<|Za<|Zb<|Qs (fun _=>False) [(0,0),(1,0),(3,0),(4,0),(7,0),(8,0),(10,0),(11,0),(2,1),(5,1),(6,1),(9,1),(12,1),(13,1),(14,1),(15,0),(16,0),(17,3),(18,3)] (by kernel_rfl) ?_ ?_
 ·kernel_rfl
 refine r0' J J J J (st0 (Xy J J Ab J Yk J J))<|r0' J J J J (st0 (Yc (i:=1) J J J Qo Yk J J))<|r0' J J J J (st0 (Xy J J Ab J Yk J J))<|r0' J J J J (st0 (Yc (i:=2) J J J Qo Yk J J))<|r0' J J J J (st0 (Xy J J Ab J Yk J J))<|r0' J J J J (st0 (Yc (i:=1) J J J Qo Yk J J))<|r0' J J J J (st0 (Xy J J Ab J Yk J J))<|r0' J J J J (st0 (Yc (i:=2) J J J Qo Yk J J))<|r1' J J (Zh (n:=4) (Qy _ _ (Xj _) (by omega)) J J J K1 Lf Ze J hw) fun g hg=>r1' J J (Zh (n:=5) (Qy _ _ (Xj _) (by omega)) J J J K1 Lf Ze J hw) fun g_2 hg_2=>r1' J J (Zh (n:=6) (Zbh _ _ _ _ _ _ (by assumption) (by assumption) (by omega) (by omega)) J J J K2 Zpe (Zd 4 J J J (Zd 5 J J J Ze)) J hw) fun g_3 hg_3=>r1' J J (Zh (n:=7) (Qy _ _ (Xj _) (by omega)) J J J K1 Lf Ze J hw) fun g_4 hg_4=>r1' J J (Zh (n:=8) (Qy _ _ (Xj _) (by omega)) J J J K1 Lf Ze J hw) fun g_5 hg_5=>r1' J J (Zh (n:=9) (Zbh _ _ _ _ _ _ (by assumption) (by assumption) (by omega) (by omega)) J J J K2 Zpe (Zd 7 J J J (Zd 8 J J J Ze)) J hw) (fun g_6 hg_6=>?_)
 exact r1' J J (Zh (n:=9) (Bg _ _ _ _ _ _ (by assumption) (by assumption) (by omega) (by omega) (Int.mul_ne_zero (by omega) (by omega))) J J J K2 cF163 (Zd 6 J J J (Zd 9 J J J Ze)) J hw) fun _ _=>r0' J J J J (st0 (Yg J J J))<|r0' J J J J (st0 (Yg J J J))<|r3' J J (Zm (i:=3) J J J J J (by decide) J Xx J J ⟨Zc J,Zc J,Zc J,Zc J,trivial⟩ J hw trivial) fun _ _=>r3' J J (Od (Kk J J) J J) fun _ _=>Og<|Za<|Zu<|Zv (.inl J) hsc () _ (fun a w hs=>Ni hs Tryz.results144 (Yp (i:=3) J J Pp Xx J) J) J trivial J Zj
theorem Zbx(x y:Int)(hx:bl x.natAbs≤65536)(hy:bl y.natAbs≤65536):Cal Tryz.prog 84 #[wv x,wv y] [] false (G:=Unit) (fun _=>True) (fun _=> .int .i64 (x-y).sign) (fun _=>[]):=by
 refine Yd Tryz.func84 J Tryz.ntmps84 J trivial ?_
 intro w0 sc hw hsc
 simp only [Zp,Zn]
 have b5:=Zj2 y
 have b6:=Km x (-y)
 refine Zb<|Zg<|tt (Xl (i:=1) J J J J J J hw) J fun b _=>tt (Xl (i:=2) J J J J J J hw) J fun b_2 _=>as_ J J<|Zf<|Za<|Zb<|Zb<|Zg<|dt (Yc (i:=1) J J J Qo Yk J J) J<|dt (Yc (i:=2) J J J Qo Yk J J) J<|tt (Zh (n:=2) (Lo _ _ (by assumption) (by assumption)) J J J K2 Zjz Ze J hw) J fun _ _=>dt (Xo J J) J<|Zf<|Za<|Yf J<|Zk<|Za<|Zb<|Qs (fun _=>False) [(0,0),(2,0),(1,1),(3,1),(4,1),(5,1),(6,1),(7,3)] (by kernel_rfl) ?_ ?_
 ·kernel_rfl
 exact r0' J J J J (st0 (Yc (i:=1) J J J Qo Yk J J))<|r0' J J J J (st0 (Yc (i:=2) J J J Qo Yk J J))<|r1' J J (Zh (n:=3) (Qy _ _ (Xj _) (by omega)) J J J K1 Lf Ze J hw) fun g hg=>r1' J J (Zh (n:=4) (Qy _ _ (Xj _) (by omega)) J J J K1 Lf Ze J hw) fun g_2 hg_2=>r1' J J (Zh (n:=5) (Zk5 _ _ _ (by assumption)) J J J K1 cF134 (Zd 4 J J J Ze) J hw) fun g_3 hg_3=>r1' J J (Zh (n:=6) (Zd7 _ _ _ _ _ _ (by assumption) (by assumption) (by omega) (by omega)) J J J K2 Zt1 (Zd 3 J J J (Zd 5 J J J Ze)) J hw) fun g_4 hg_4=>r1' J J (Zh (n:=6) (Zhk _ _ _ (by assumption) (by omega)) J J J K1 cF135 (Zd 6 J J J Ze) J hw) fun _ _=>r3' J J (Od (Kk J J) J J) fun _ _=>Og<|Za<|Zu<|Zv (.inl J) hsc () _ (fun a w hs=>Qj hs Tryz.results84 J) (by rw [Int.sub_eq_add_neg]<;>rfl) trivial J Zj
end Go.Sky
namespace Go.Sky
abbrev RW:=List (Bool×ByteArray)
abbrev qR (z:SL×RW):Pc:=slp 2 Zf0 (svv z.1) z.2
abbrev qZ (z:SL×List Int):Pc:=slp 2 wv (svv z.1) z.2
abbrev R0:SL×RW:=((none,0,0),[])
def short1(r:RW):Bool:=(decide (r.length≤14) || decide (r.length=26)) && r.all fun c=>decide (c.2.size≤16)
def shortb(ls:List RW):Bool:=ls.all short1
theorem r1g' {P:Program} {N:Nat} {sc:Nat→Prop} {M:Nat→Prop} {env:Env} {H:Hp} {ops:Array Oper} {F:Env→Hp→Prop} {rest:List (Nat×Nat)} {i:Nat} {o:Oper} {G:Type} {φ:G→Prop} {genv:G→Env} {gH:G→Hp} {j e:Nat} {b:Bool} (ho:ops[i]? = some o) (hg:o.guard=some (j,b)) (hj:(ops[j]?).bind (·.dst)=some e) (he:lk env e=some (.bool b)) (heN:Nat.blt e N=true) (ht:T P N sc M o env H φ genv gH)
  (h:∀g,φ g→LD P N sc M ops F rest (genv g) (gH g)) :
  LD P N sc M ops F ((i,1) :: rest) env H:=r1g ht ho hg hj he heN h
theorem inI_bl{x:Int}(h:inI x):bl x.natAbs≤65536:=Zdh (l:=[x]) (fun y hy=>by rw [List.mem_singleton.1 hy];exact h) 0
end Go.Sky
namespace Go.Sky
theorem Fi{f:Nat→Int}{k:Nat} : ∀{n:Nat},k<n→(∀i,i<n→i≠k→f i=0)→Qp f n=f k
 | 0,hk,_=>absurd hk (Nat.not_lt_zero _)
 | n+1,hk,h=>by
  rw [Xv]
  by_cases e:k=n
  ·subst e
   rw [Gt fun i hi=>h i (by omega) (by omega),Int.zero_add]
  ·rw [h n (by omega) (fun x=>e x.symm),Fi (by omega) (fun i hi=>h i (by omega)),Int.add_zero]
theorem Ew{p q:List Int}{a b:Nat}(ha:∀i,a<i→cf p i=0)(hb:∀i,b<i→cf q i=0):(ps p*ps q).c (a+b)=cf p a*cf q b:=by
 rw [PS.mul_c,Fi (k:=a) (by omega) fun i hi hne=>?_]
 ·rw [Ib,Ib,show a+b-a=b by omega]
 ·rw [Ib,Ib]
  rcases Nat.lt_or_ge a i with h | h
  ·rw [ha i h,Int.zero_mul]
  ·rw [hb (a+b-i) (by omega),Int.mul_zero]
theorem Zcu(s s':List Int)(c c':Int)(f:PS)(t:Nat):(ps (Zfm (Xk s c) (Xk s' c'))*f).c t=c*(ps s*f).c t-c'*(ps s'*f).c t:=by
 rw [PS.mul_c,PS.mul_c,PS.mul_c,←Oy,Int.sub_eq_add_neg,←Int.neg_mul,←Oy,←Fj]
 refine Xf fun k _=>?_
 rw [Ib,Ib,Ib,Kz,Xp,Xp]
 grind
theorem Zla(f:PS)(q q':List Int)(u v:Int)(h:∀i,u*cf q i=v*cf q' i)(t:Nat):u*(f*ps q).c t=v*(f*ps q').c t:=by
 rw [PS.mul_c,PS.mul_c,←Oy,←Oy]
 refine Xf fun k _=>?_
 rw [Ib,Ib]
 have:=h (t-k)
 grind
theorem Zrz{q s r:List Int}(hq:Tr q)(hq0:q≠[])(h:∀t,(ps s*ps q).c t=cf r t)(hr:∀t,q.length-1≤t→cf r t=0):∀t,cf s t=0:=by
 have hlead:=hq.mem hq0
 have hlen:0<q.length:=List.length_pos_iff.2 hq0
 have hs:tzl s=[]:=by
  rcases Zgp (tzl s)with h1 | ⟨ys,y,h1⟩
  ·exact h1
  ·exfalso
   have ht:=Ol s
   have hne:tzl s≠[]:=by rw [h1];simp
   have h2:=ht.mem hne
   have h3:=Ew (p:=tzl s) (q:=q) (a:=(tzl s).length-1) (b:=q.length-1) (fun i hi=>Qe (by omega)) (fun i hi=>Qe (by omega))
   have h4:ps (tzl s)=ps s:=PS.ext' fun i=>Lm s i
   rw [h4,h,hr _ (by omega)]at h3
   rcases Int.mul_eq_zero.1 h3.symm with h5 | h5
   ·exact h2 h5
   ·exact hlead h5
 exact(Mx s).1 hs
theorem Mp{s:List Int}(h:∀t,cf s t=0)(f:PS)(t:Nat):(ps s*f).c t=0:=by
 rw [PS.mul_c]
 exact Gt fun k _=>by rw [Ib,h,Int.zero_mul]
theorem Px{p q:List Int}(hp:Tr p)(hq:Tr q)(h1:p≠[])(h2:q≠[]):(Nv p q).length=p.length+q.length-1:=by
 have l1:=List.length_pos_iff.2 h1
 have l2:=List.length_pos_iff.2 h2
 unfold Nv
 rw [Ad,Xn]
 right
 rw [Xn,Ic,if_pos (by omega),show p.length+q.length-1-1=(p.length-1)+(q.length-1) by omega,Ew (fun i hi=>Qe (by omega)) (fun i hi=>Qe (by omega))]
 exact Int.mul_ne_zero (hp.mem h1) (hq.mem h2)
def mono(s:Nat)(c:Int):List Int:=List.replicate s 0 ++ [c]
theorem Zh4(s:Nat)(c:Int)(i:Nat):cf (mono s c) i=if i=s then c else 0:=by
 unfold mono
 rw [Zaq,List.length_replicate]
 split
 ·rw [if_neg (by omega)]
  unfold cf
  simp [List.getD_eq_getElem?_getD,List.getElem?_replicate]
  split<;>rfl
 ·rename_i h
  split
  ·rename_i h2;subst h2;simp [cf]
  ·exact Qe (by simp;omega)
theorem Zhp(s:Nat)(c:Int)(f:PS)(t:Nat):(ps (mono s c)*f).c t=if s≤t then c*f.c (t-s)else 0:=by
 rw [PS.mul_c]
 split
 ·rw [Fi (k:=s) (by omega) fun i _ hne=>by rw [Ib,Zh4,if_neg hne,Int.zero_mul],Ib,Zh4,if_pos rfl]
 ·exact Gt fun k hk=>by rw [Ib,Zh4,if_neg (by omega),Int.zero_mul]
theorem Zdv{p q:List Int}(hq:0<q.length)(hl:q.length≤p.length):∀j,j≤p.length-q.length+1→∃s:List Int,∀t,cf q (q.length-1)^j*cf p t=(ps s*ps q).c t+cf (Pa p q j) t
 | 0,_=>⟨[],fun t=>by rw [Mp (fun t=>Qe (Nat.zero_le _)),Int.pow_zero];unfold Pa;omega⟩
 | j+1,hj=>by
  obtain⟨s,ih⟩:=Zdv hq hl j (by omega)
  refine⟨Zfm (Xk s (cf q (q.length-1))) (Xk (mono (p.length-1-j-(q.length-1)) (cf (Pa p q j) (p.length-1-j))) (-1)),fun t=>?_⟩
  rw [Zcu,Zhp]
  have h0:=ih t
  show _=_+cf (Zey q (Pa p q j) (p.length-1-j)) t
  rw [Int.pow_succ]
  rcases Nat.lt_or_ge t p.length with h | h
  ·rw [Zc2 (by rw [Qw];exact h)]
   generalize p.length-1-j-(q.length-1)=sh
   generalize cf (Pa p q j) (p.length-1-j)=R
   generalize cf (Pa p q j) t=R' at h0 ⊢
   generalize (ps s*ps q).c t=X at h0 ⊢
   generalize cf q (q.length-1)^j=L at h0 ⊢
   generalize cf q (q.length-1)=l at h0 ⊢
   have e:L*l*cf p t=l*X+R'*l:=by rw [Int.mul_assoc,Int.mul_comm l,←Int.mul_assoc,h0];grind
   rw [e]
   by_cases h1:sh≤t
   ·rw [if_pos h1,Ib]
    by_cases h2:t<sh+q.length
    ·rw [if_pos ⟨h1,h2⟩];omega
    ·rw [if_neg (by omega),Qe (p:=q) (i:=t-_) (by omega)];omega
   ·rw [if_neg h1,if_neg (by omega)];omega
  ·have z1:cf p t=0:=Qe h
   have z2:cf (Pa p q j) t=0:=Qe (by rw [Qw];exact h)
   have z3:cf (Zey q (Pa p q j) (p.length-1-j)) t=0:=Qe (by rw [Zb3,Qw];exact h)
   have z4:cf q (t-(p.length-1-j-(q.length-1)))=0:=Qe (by omega)
   rw [z1,z2,Int.mul_zero,Int.add_zero]at h0
   rw [z1,z3,if_pos (by omega),Ib,z4,←h0];simp
theorem Gn(p:List Int){q:List Int}(hq:q≠[]):∃(k:Nat) (s:List Int),∀t,cf q (q.length-1)^k*cf p t=(ps s*ps q).c t+cf (Ph p q) t:=by
 have hq':0<q.length:=List.length_pos_iff.2 hq
 rcases Nat.lt_or_ge p.length q.length with h | h
 ·refine⟨0,[],fun t=>?_⟩
  rw [Mp (fun t=>Qe (Nat.zero_le _)),Int.pow_zero]
  unfold Ph;rw [if_pos h];omega
 ·obtain⟨s,hs⟩:=Zdv hq' h _ (Nat.le_refl _)
  refine⟨p.length-q.length+1,s,fun t=>?_⟩
  rw [hs t]
  unfold Ph
  rw [if_neg (by omega),Lm]
theorem Pb(p:List Int){q:List Int}(hq:q≠[]):(Ph p q).length<q.length:=by
 have hq':0<q.length:=List.length_pos_iff.2 hq
 unfold Ph
 split
 ·assumption
 ·have:=Ch (p:=Pa p q (p.length-q.length+1)) (n:=q.length-1) fun i hi=>Za9 hq' (by omega) _ (Nat.le_refl _) i (by omega)
  omega
theorem Ll{p q:List Int}(hp:Tr p):Tr (Ph p q):=by
 unfold Ph;split
 ·exact hp
 ·exact Ol _
def Sim(a b:List Int):Prop:=∃m n:Int,m≠0∧n≠0∧∀i,m*cf a i=n*cf b i
theorem Sim.refl(a:List Int):Sim a a:=⟨1,1,by decide,by decide,fun _=>rfl⟩
theorem Sim.symm{a b:List Int} : Sim a b→Sim b a:=fun⟨m,n,hm,hn,h⟩=>⟨n,m,hn,hm,fun i=>(h i).symm⟩
theorem Sim.trans{a b c:List Int} : Sim a b→Sim b c→Sim a c:=fun⟨m,n,hm,hn,h⟩ ⟨u,v,hu,hv,k⟩=>
 ⟨m*u,n*v,Int.mul_ne_zero hm hu,Int.mul_ne_zero hn hv,fun i=>by have h1:=h i;have h2:=k i;grind⟩
theorem Sim.zero{a b:List Int}(h:Sim a b){i:Nat}(hi:cf a i=0):cf b i=0:=by
 obtain⟨m,n,hm,hn,h⟩:=h
 have:=h i
 rw [hi,Int.mul_zero]at this
 rcases Int.mul_eq_zero.1 this.symm with h | h
 ·exact absurd h hn
 ·exact h
theorem Sim.len_le{a b:List Int}(h:Sim a b)(hb:Tr b):b.length≤a.length:=by
 rcases Nat.lt_or_ge a.length b.length with hl | hl
 ·exfalso
  have hne:b≠[]:=List.length_pos_iff.1 (by omega)
  exact hb.mem hne (h.zero (Qe (by omega)))
 ·exact hl
theorem Sim.len{a b:List Int}(h:Sim a b)(ha:Tr a)(hb:Tr b):a.length=b.length:=Nat.le_antisymm (h.symm.len_le ha) (h.len_le hb)
theorem Sim.nil{a b:List Int}(h:Sim a b)(hb:Tr b)(ha:a=[]):b=[]:=by
 have:=h.len_le hb
 rw [ha]at this
 exact List.eq_nil_of_length_eq_zero (by simpa using this)
theorem Zq9{a b a' b':List Int}(ha:Tr a)(ha':Tr a')(hb:Tr b)(hb':Tr b')(h0:b≠[])(h1:Sim a a')(h2:Sim b b'):Sim (Ph a b) (Ph a' b'):=by
 have h0':b'≠[]:=fun e=>h0 (h2.symm.nil hb e)
 have hlen:=h2.len hb hb'
 obtain⟨k,s,hs⟩:=Gn a h0
 obtain⟨k',s',hs'⟩:=Gn a' h0'
 have hL:cf b (b.length-1)^k≠0:=Nc (hb.mem h0) k
 have hL':cf b' (b'.length-1)^k'≠0:=Nc (hb'.mem h0') k'
 generalize cf b (b.length-1)^k=L at hs hL
 generalize cf b' (b'.length-1)^k'=L' at hs' hL'
 obtain⟨m,n,hm,hn,e1⟩:=h1
 obtain⟨u,v,hu,hv,e2⟩:=h2
 have l1:=Pb a h0
 have l2:=Pb a' h0'
 have key:∀t,(ps (Zfm (Xk s (L'*m*v)) (Xk s' (L*n*u)))*ps b').c t=cf (Zfm (Xk (Ph a' b') (L*n*u)) (Xk (Ph a b) (L'*m*u))) t:=fun t=>by
  rw [Zcu,Kz,Xp,Xp]
  have a1:=hs t
  have a2:=hs' t
  have a3:=e1 t
  have a4:=Zla (ps s) b b' u v e2 t
  generalize (ps s*ps b).c t=X at a1 a4
  generalize (ps s*ps b').c t=Y at a4
  generalize (ps s'*ps b').c t=Z at a2
  generalize cf a t=A at a1 a3
  generalize cf a' t=A' at a2 a3
  generalize cf (Ph a b) t=R at a1
  generalize cf (Ph a' b') t=R' at a2
  have:L'*m*v*Y=L'*m*u*X:=by grind
  grind
 have z:=Zrz hb' h0' key fun t ht=>by
  rw [Kz,Xp,Xp,Qe (p:=Ph a' b') (by omega),Qe (p:=Ph a b) (by omega)];omega
 refine⟨L'*m*u,L*n*u,by simp [*],by simp [*],fun t=>?_⟩
 have:=key t
 rw [Mp z,Kz,Xp,Xp]at this
 grind
theorem Dx(c:Int):∀(p:List Int) (g:Int),0≤g→(p.map (· * c)).foldl (fun g c=>(Int.gcd g c:Int)) (g*c.natAbs)=p.foldl (fun g c=>(Int.gcd g c:Int)) g*c.natAbs
 | [],g,_=>rfl
 | x :: p,g,hg=>by
  rw [List.map_cons,List.foldl_cons,List.foldl_cons,←Dx c p _ (by omega)]
  congr 1
  have:Int.gcd (g*(c.natAbs:Int)) (x*c)=Int.gcd g x*c.natAbs:=by
   unfold Int.gcd
   rw [Int.natAbs_mul,Int.natAbs_mul,Int.natAbs_natCast,Nat.gcd_mul_right]
  rw [this];push_cast;rfl
theorem Zd3(p:List Int)(c:Int):Qa (p.map (· * c))=Qa p*c.natAbs:=by
 have:=Dx c p 0 (Int.le_refl _)
 rw [Int.zero_mul]at this
 exact this
theorem Hb(p:List Int)(i:Nat):cf (Yx p) i*Qa p=cf p i:=by
 rw [Ct];exact Int.ediv_mul_cancel (Mo p i)
theorem Zra:Yx []=[]:=rfl
theorem Co{p:List Int}(h:Tr p)(h0:p≠[]):Qa p≠0:=fun e=>h.mem h0 ((Be p).1 e _)
theorem Mz{p:List Int}(h:Tr p)(h0:p≠[]):Qa (Yx p)=1:=by
 have h1:=Co h h0
 have h2:=Zd3 (Yx p) (Qa p)
 rw [show(Yx p).map (· * Qa p)=p from Lx (by rw [List.length_map,Yi]) fun i _=>by rw [Zf3 _ _ (by simp)];exact Hb p i]at h2
 have h3:=No p
 have h4:Qa p*(Qa (Yx p)-1)=0:=by
  rw [Int.mul_sub,Int.mul_one,Int.mul_comm]
  have:((Qa p).natAbs:Int)=Qa p:=by omega
  rw [this]at h2;omega
 rcases Int.mul_eq_zero.1 h4 with h5 | h5<;>omega
theorem Zb2{p:List Int}(h:Qa p=1):Yx p=p:=Lx (Yi p) fun i _=>by rw [Ct,h,Int.ediv_one]
theorem Fp{p:List Int}(h:Tr p):Yx (Yx p)=Yx p:=by
 by_cases h0:p=[]
 ·subst h0;rfl
 ·exact Zb2 (Mz h h0)
theorem Qm{p:List Int}(h:Tr p):Sim (Yx p) p:=by
 by_cases h0:p=[]
 ·subst h0;exact Sim.refl _
 ·exact⟨Qa p,1,Co h h0,by decide,fun i=>by rw [Int.one_mul,Int.mul_comm];exact Hb p i⟩
def nrm(p:List Int):List Int:=Kd (Yx p)
theorem Zgr{x y:List Int}(hx:Tr x)(hy:Tr y)(h0:x≠[])(h1:Qa x=1)(h2:Qa y=1)(h:Sim x y):x=y∨∀i,cf x i=- cf y i:=by
 have hl:=h.len hx hy
 obtain⟨m,n,hm,hn,e⟩:=h
 have h3:=Zd3 x m
 have h4:=Zd3 y n
 rw [show x.map (· * m)=y.map (· * n)from Lx (by simp [hl]) fun i _=>by
  rw [Zf3 _ _ (by simp),Zf3 _ _ (by simp),Int.mul_comm,Int.mul_comm (cf y i)];exact e i,h4,h1,h2]at h3
 have h5:m=n∨m=-n:=by omega
 rcases h5 with rfl | rfl
 ·exact .inl (Lx hl fun i _=>Int.eq_of_mul_eq_mul_left hm (e i))
 ·exact .inr fun i=>Int.eq_of_mul_eq_mul_left hn (by have:=e i;grind)
theorem Ho(g:List Int)(i:Nat):cf (Kd g) i=if g.length≠0∧cf g (g.length-1)<0 then-cf g i else cf g i:=by
 unfold Kd;split
 ·rw [Xp];omega
 ·rfl
theorem Nb{g:List Int}(h:Tr g):Tr (Kd g):=by
 unfold Kd;split
 ·exact Qu _ _
 ·exact h
theorem Kc(g:List Int):Sim (Kd g) g:=by
 by_cases h:g.length≠0∧cf g (g.length-1)<0
 ·exact⟨-1,1,by decide,by decide,fun i=>by rw [Ho,if_pos h];omega⟩
 ·exact⟨1,1,by decide,by decide,fun i=>by rw [Ho,if_neg h]⟩
theorem Zk6{a b:List Int}(ha:Tr a)(hb:Tr b)(h:Sim a b):nrm a=nrm b:=by
 by_cases h0:a=[]
 ·rw [h.nil hb h0,h0]
 ·have h0':b≠[]:=fun e=>h0 (h.symm.nil ha e)
  have hs:Sim (Yx a) (Yx b):=(Qm ha).trans (h.trans (Qm hb).symm)
  have hx:=Xg ha
  have hy:=Xg hb
  have hl:=hs.len hx hy
  have hx0:Yx a≠[]:=fun e=>h0 (List.eq_nil_of_length_eq_zero (by rw [←Yi,e];rfl))
  rcases Zgr hx hy hx0 (Mz ha h0) (Mz hb h0') hs with e | e
  ·unfold nrm;rw [e]
  ·unfold nrm
   refine(Nb hx).ext (Nb hy) fun i=>?_
   rw [Ho,Ho,←hl,e i,e ((Yx a).length-1)]
   have hne:cf (Yx b) ((Yx a).length-1)≠0:=by rw [hl];exact hy.mem (fun e2=>hx0 (List.eq_nil_of_length_eq_zero (by rw [hl,e2];rfl)))
   have hl0:(Yx a).length≠0:=fun e2=>hx0 (List.eq_nil_of_length_eq_zero e2)
   by_cases h3:cf (Yx b) ((Yx a).length-1)<0
   ·rw [if_neg (by omega),if_pos ⟨hl0,h3⟩]
   ·rw [if_pos (by omega),if_neg (by omega)];omega
theorem Zst:∀(f:Nat) {a b a' b':List Int},Tr a→Tr a'→Tr b→Tr b'→Sim a a'→Sim b b'→Sim (eu f a b) (eu f a' b')
 | 0,_,_,_,_,_,_,_,_,h,_=>h
 | f+1,a,b,a',b',ha,ha',hb,hb',h1,h2=>by
  unfold eu
  by_cases h0:b=[]
  ·rw [if_pos h0,if_pos (h2.nil hb' h0)];exact h1
  ·rw [if_neg h0,if_neg (fun e=>h0 (h2.symm.nil hb e))]
   have t1:=Ll (q:=b) ha
   have t2:=Ll (q:=b') ha'
   exact Zst f hb hb' (Xg t1) (Xg t2) h2 ((Qm t1).trans ((Zq9 ha ha' hb hb' h0 h1 h2).trans (Qm t2).symm))
theorem Zlo:∀(f:Nat) {a b:List Int},Tr a→Tr b→Tr (eu f a b)
 | 0,_,_,h,_=>h
 | f+1,a,b,ha,hb=>by
  unfold eu
  split
  ·exact ha
  ·exact Zlo f hb (Xg (Ll ha))
theorem Zed:∀(f k:Nat) {a b:List Int},eok f a b→eu (f+k) a b=eu f a b
 | 0,k,a,b,h=>by rw [show b=[]from h,Fx,Fx]
 | f+1,k,a,b,h=>by
  rcases h with h | h
  ·rw [h,Fx,Fx]
  ·by_cases h0:b=[]
   ·rw [h0,Fx,Fx]
   ·rw [show f+1+k=f+k+1 by omega]
    unfold eu
    rw [if_neg h0,if_neg h0]
    exact Zed f k h.2
theorem Zsu:∀(f:Nat) {a b:List Int},Tr a→Tr b→Yx a=a→Yx b=b→Yx (eu f a b)=eu f a b
 | 0,_,_,_,_,h,_=>h
 | f+1,a,b,ha,hb,h1,h2=>by
  unfold eu
  split
  ·exact h1
  ·exact Zsu f hb (Xg (Ll ha)) h2 (Fp (Ll ha))
theorem Zio{p q:List Int}(hp:Tr p)(hq:Tr q):Tr (gA p q):=by unfold gA;split<;>exact Xg (by assumption)
theorem Zin{p q:List Int}(hp:Tr p)(hq:Tr q):Tr (gB p q):=by unfold gB;split<;>exact Xg (by assumption)
theorem Zna{F:Nat}{p q:List Int}(hp:Tr p)(hq:Tr q):Ko F p q=nrm (eu F (gA p q) (gB p q)):=by
 unfold Ko nrm
 rw [Zsu F (Zio hp hq) (Zin hp hq)]
 ·unfold gA;split
  ·exact Fp hq
  ·exact Fp hp
 ·unfold gB;split
  ·exact Fp hp
  ·exact Fp hq
theorem gcd_two{F G:Nat}{p q:List Int}(hp:Tr p)(hq:Tr q)(h1:eok F p q)(h2:eok G (gA p q) (gB p q)):Kd (Yx (eu F p q))=Ko G p q:=by
 rw [Zna hp hq]
 show nrm (eu F p q)=_
 rw [←Zed F (G+1) h1,←Zed G F h2]
 refine Zk6 (Zlo _ hp hq) (Zlo _ (Zio hp hq) (Zin hp hq)) ?_
 rcases Nat.lt_or_ge p.length q.length with h | h
 ·rw [show gA p q=Yx q from if_pos h,show gB p q=Yx p from if_pos h]
  rw [show F+(G+1)=F+G+1 by omega,show G+F=F+G by omega]
  have h0:q≠[]:=List.length_pos_iff.1 (by omega)
  have:eu (F+G+1) p q=eu (F+G) q (Yx p):=by
   conv=>lhs;unfold eu
   rw [if_neg h0,show Ph p q=p from if_pos h]
  rw [this]
  exact Zst _ hq (Xg hq) (Xg hp) (Xg hp) (Qm hq).symm (Sim.refl _)
 ·rw [show gA p q=Yx p from if_neg (by omega),show gB p q=Yx q from if_neg (by omega)]
  have h3:eu (F+(G+1)) p q=eu (F+G) p q:=by rw [Zed F (G+1) h1,Zed F G h1]
  rw [h3,show G+F=F+G by omega]
  exact Zst _ hp (Xg hp) hq (Xg hq) (Qm hp).symm (Qm hq).symm
def chk:Nat→Nat→Nat→Nat→Nat→Bool
 | 0,_,lb,_,_=>Nat.beq lb 0
 | f+1,la,lb,A,B=>Nat.beq lb 0 || (bif Nat.blt la lb then chk f lb la B A else
   Nat.ble (A+(la-lb+1)*B) 65537 && (List.range lb).all fun l=>chk f lb l B (bif Nat.ble l 1 then 2 else A+(la-lb+1)*B))
end Go.Sky
namespace Go.Sky
theorem Zo8(p:List Int)(x y z:Int):(Zd5 p x y z).length≤p.length:=by
 unfold Zd5
 split
 ·exact Nat.zero_le _
 ·refine Nat.le_trans (Hu _) ?_
  rw [Bp];omega
theorem Znl(x y:Int):Hy x y∣x:=by
 unfold Hy;split
 ·exact Int.neg_dvd.2 (Int.gcd_dvd_left ..)
 ·exact Int.gcd_dvd_left ..
theorem Zhs(x y:Int):Hy x y∣y:=by
 unfold Hy;split
 ·exact Int.neg_dvd.2 (Int.gcd_dvd_right ..)
 ·exact Int.gcd_dvd_right ..
def s8(l:List Int):Prop:=∀x∈l,(Xd x.natAbs).size≤8
abbrev Z0:SL×List Int:=((none,0,0),[])
theorem vp_eu:∀(f:Nat) {a b:List Int},Vp a→Vp b→eok f a b→Vp (eu f a b)
 | 0,_,_,h,_,_=>h
 | f+1,a,b,ha,hb,h=>by
  unfold eu
  split
  ·exact ha
  ·rcases h with h | h
   ·contradiction
   ·exact vp_eu f hb (Lt (Cg ha h.1)) h.2
theorem Zup{g:List Int}(h:Vp g):Vp (Kd g):=by
 unfold Kd
 split
 ·refine⟨fun i=>by rw [Xp];exact Bu h.sz i,Qu _ _,Nat.le_trans (Fo _ _) h.len⟩
 ·exact h
theorem Zpv{F:Nat}{p q:List Int}(hp:Vp p)(hq:Vp q)(h:eok F (gA p q) (gB p q)):Vp (Ko F p q):=Zup (vp_eu F (vp_gA hp hq) (vp_gB hp hq) h)
end Go.Sky
namespace Go.Sky
def pevn(p:List Int)(x y:Int)(n:Nat):Int:=Qp (fun i=>cf p i*(x^i*y^(n-1-i))) n
def dn(p:List Int)(y:Int):Int:=y^(p.length-1)
theorem Zvz{p q:List Int}(hp:Tr p)(hq:Tr q)(h1:p≠[])(h2:q≠[])(x y:Int):pev (Nv p q) x y=pev p x y*pev q x y:=by
 have l1:=List.length_pos_iff.2 h1
 have l2:=List.length_pos_iff.2 h2
 unfold pev
 rw [Px hp hq h1 h2]
 obtain⟨Fk,hF⟩:∃Fk:Nat→Nat→Int,∀k j,Fk k j=cf p k*cf q j*(x^(k+j)*y^(p.length+q.length-1-1-(k+j))):=⟨_,fun _ _=>rfl⟩
 have e1:Qp (fun i=>cf (Nv p q) i*(x^i*y^(p.length+q.length-1-1-i))) (p.length+q.length-1)=Qp (fun i=>Qp (fun k=>Fk k (i-k)) (i+1)) (p.length+q.length-1):=by
  refine Xf fun i _=>?_
  rw [Iu,PS.mul_c,←Ci]
  exact Xf fun k hk=>by
   rw [hF,show k+(i-k)=i by omega];rfl
 rw [e1,Zdi,Af (m:=p.length) (by omega) fun k h1 h2=>Gt fun j _=>by rw [hF,Qe h1,Int.zero_mul,Int.zero_mul],←Ci]
 refine Xf fun k hk=>?_
 rw [Af (m:=q.length) (by omega) fun j h1 h2=>by rw [hF,Qe h1,Int.mul_zero,Int.zero_mul],←Oy]
 refine Xf fun j hj=>?_
 rw [hF,Int.pow_add,show p.length+q.length-1-1-(k+j)=(p.length-1-k)+(q.length-1-j) by omega,Int.pow_add]
 generalize x^k=a;generalize x^j=b;generalize y^(p.length-1-k)=c;generalize y^(q.length-1-j)=d
 grind
theorem Ik(q:List Int):Nv [] q=[]:=Cm (.inl rfl)
theorem Zbe(p:List Int):Nv p []=[]:=Cm (.inr rfl)
theorem Zwi(N D:Int):N/Hy N D*D=N*(D/Hy N D):=by
 have h1:=Int.ediv_mul_cancel (Znl N D)
 have h2:=Int.ediv_mul_cancel (Zhs N D)
 generalize N/Hy N D=n at *
 generalize D/Hy N D=d at *
 generalize Hy N D=g at *
 subst h1 h2
 grind
theorem Zsa{N D:Int}(h:0<D):0<D/Hy N D:=by
 have h1:Hy N D=(Int.gcd N D:Int):=if_neg (by omega)
 have h2:=Int.ediv_mul_cancel (Zhs N D)
 rw [h1]at h2 ⊢
 generalize D/(Int.gcd N D:Int)=d at *
 rcases Int.lt_or_le 0 d with h3 | h3
 ·exact h3
 ·exfalso
  have:d*(Int.gcd N D:Int)≤0:=Int.mul_nonpos_of_nonpos_of_nonneg h3 (by omega)
  omega
section
variable {p q:List Int}
theorem Zbo(hp:Tr p)(hq:Tr q)(h1:p≠[])(h2:q≠[]):∀j,j≤p.length→∀t,cf (Qi (Nv p q) q j) t=(ps (p.take (p.length-j))*ps q).c t
 | 0,_,t=>by
  rw [Nat.sub_zero,List.take_length];exact Iu p q t
 | j+1,hj,t=>by
  have ih:=Zbo hp hq h1 h2 j (by omega)
  have l1:=List.length_pos_iff.2 h1
  have l2:=List.length_pos_iff.2 h2
  have hl:=Px hp hq h1 h2
  have e0:Qi (Nv p q) q (j+1)=Ze1 q (Qi (Nv p q) q j) (p.length-1-j):=by
   show Ze1 q _ _=_;rw [hl];congr 1;omega
  have hq0:=hq.mem h2
  have htop:cf (Qi (Nv p q) q j) (p.length-1-j+q.length-1)=cf p (p.length-1-j)*cf q (q.length-1):=by
   rw [ih,show p.length-1-j+q.length-1=(p.length-1-j)+(q.length-1) by omega,Ew (fun i hi=>by rw [Gc,if_neg (by omega)]) (fun i hi=>Qe (by omega)),Gc,if_pos (by omega)]
  have hdq:dq q (Qi (Nv p q) q j) (p.length-1-j)=cf p (p.length-1-j):=by
   unfold dq;rw [htop];exact Int.mul_ediv_cancel _ hq0
  have e1:(ps (p.take (p.length-j))*ps q).c t=(ps (p.take (p.length-(j+1)))*ps q).c t+(ps (mono (p.length-1-j) (cf p (p.length-1-j)))*ps q).c t:=by
   rw [PS.mul_c,PS.mul_c,PS.mul_c,←Fj]
   refine Xf fun k _=>?_
   rw [Ib,Ib,Ib,Ib,Gc,Gc,Zh4]
   by_cases a1:k=p.length-1-j
   ·rw [if_pos (by omega),if_neg (by omega),if_pos a1,←a1];omega
   ·rw [if_neg a1]
    by_cases a2:k<p.length-j
    ·rw [if_pos a2,if_pos (by omega)];omega
    ·rw [if_neg a2,if_neg (by omega)];omega
  rw [e0]
  unfold Ze1
  rw [Ic,Kw,hl,hdq,ih,e1,Zhp,Ib]
  by_cases b1:t<p.length+q.length-1
  ·rw [if_pos b1]
   by_cases b2:p.length-1-j≤t
   ·rw [if_pos b2]
    by_cases b3:t<p.length-1-j+q.length
    ·rw [if_pos ⟨b2,b3⟩];omega
    ·rw [if_neg (by omega),Qe (p:=q) (by omega)];omega
   ·rw [if_neg b2,if_neg (by omega)];omega
  ·rw [if_neg b1,PS.mul_c]
   refine(Gt fun k _=>?_).symm
   rw [Ib,Ib,Gc]
   split
   ·rw [Qe (p:=q) (by omega),Int.mul_zero]
   ·rw [Int.zero_mul]
theorem Zk0(hp:Tr p)(hq:Tr q)(h2:q≠[]):pdv (Nv p q) q∧Ki (Nv p q) q=p:=by
 by_cases h1:p=[]
 ·subst h1;rw [Ik];exact⟨.inl rfl,rfl⟩
 have l1:=List.length_pos_iff.2 h1
 have l2:=List.length_pos_iff.2 h2
 have hl:=Px hp hq h1 h2
 have hq0:=hq.mem h2
 have hd:∀k,k≤p.length-1→cf (Qi (Nv p q) q (p.length-1-k)) (k+q.length-1)=cf p k*cf q (q.length-1):=fun k hk=>by
  rw [Zbo hp hq h1 h2 _ (by omega),show k+q.length-1=k+(q.length-1) by omega,Ew (fun i hi=>by rw [Gc,if_neg (by omega)]) (fun i hi=>Qe (by omega)),Gc,if_pos (by omega)]
 have hn:(Nv p q).length-q.length=p.length-1:=by omega
 have hne:Nv p q≠[]:=List.length_pos_iff.1 (by omega)
 refine⟨.inr ⟨by omega,fun k hk=>?_,?_⟩,?_⟩
 ·unfold Mr;rw [hn]at hk ⊢;rw [hd k hk];exact Int.mul_emod_left _ _
 ·rw [hn,show p.length-1+1=p.length by omega]
  refine(Mx _).2 fun i=>?_
  rw [Zbo hp hq h1 h2 _ (Nat.le_refl _),Nat.sub_self,List.take_zero]
  exact Mp (fun t=>Qe (Nat.zero_le _)) _ _
 ·rw [Zhe hne]
  unfold pquo
  rw [hn,show p.length-1+1=p.length by omega,Kv (g:=cf p) fun k hk=>?_,Zhq,Ad hp]
  unfold Ztd dq
  rw [hn,hd k (by omega)]
  exact Int.mul_ediv_cancel _ hq0
end
def Dv(g a:List Int):Prop:=∃(k:Int) (s:List Int),k≠0∧∀t,k*cf a t=(ps s*ps g).c t
theorem Znb(f:PS)(t:Nat):(ps [1]*f).c t=f.c t:=by
 rw [PS.mul_c,Fi (k:=0) (by omega) fun i _ hne=>by rw [Ib,Qe (p:=[1]) (by simp;omega),Int.zero_mul],Ib,show cf [1] 0=1 from rfl,Int.one_mul,Nat.sub_zero]
theorem Dv.refl(a:List Int):Dv a a:=⟨1,[1],by decide,fun t=>by rw [Znb,Int.one_mul,Ib]⟩
theorem Dv.nil(g:List Int):Dv g []:=⟨1,[],by decide,fun t=>by rw [Mp (fun t=>Qe (Nat.zero_le _)),Qe (Nat.zero_le _)];rfl⟩
theorem Dv.sim{g a b:List Int} : Dv g a→Sim a b→Dv g b:=fun⟨k,s,hk,h⟩ ⟨m,n,hm,hn,e⟩=>
 ⟨k*n,Xk s m,Int.mul_ne_zero hk hn,fun t=>by
  rw [PS.mul_c,show(fun i=>(ps (Xk s m)).c i*(ps g).c (t-i))=fun i=>m*((ps s).c i*(ps g).c (t-i))from funext fun i=>by rw [Ib,Ib,Ib,Xp];grind,Oy,←PS.mul_c,←h,Int.mul_assoc,←e];grind⟩
theorem Dv.lin{g a b c:List Int}(ha:Dv g a)(hb:Dv g b)(s:List Int)(L:Int)(hL:L≠0)(h:∀t,L*cf c t=(ps s*ps a).c t+cf b t):Dv g c:=by
 obtain⟨k,u,hk,h1⟩:=ha
 obtain⟨m,v,hm,h2⟩:=hb
 refine⟨L*(k*m),Zv2 (Xk (Nv s u) m) (Xk v k),Int.mul_ne_zero hL (Int.mul_ne_zero hk hm),fun t=>?_⟩
 have e1:ps g=ps g:=rfl
 have e2:k*(ps s*ps a).c t=(ps (Nv s u)*ps g).c t:=by
  rw [ps_pmul,PS.mul_assoc',PS.mul_c,PS.mul_c,←Oy]
  refine Xf fun i _=>?_
  rw [←h1,Ib,Ib];grind
 have e3:(ps (Zv2 (Xk (Nv s u) m) (Xk v k))*ps g).c t=m*(ps (Nv s u)*ps g).c t+k*(ps v*ps g).c t:=by
  rw [PS.mul_c,PS.mul_c,PS.mul_c,←Oy,←Oy,←Fj]
  refine Xf fun i _=>?_
  rw [Ib,Ib,Ib,Ib,Ztv,Xp,Xp];grind
 have h0:=h t
 have h3:=h2 t
 rw [e3,←e2,←h3]
 generalize (ps s*ps a).c t=X at *
 generalize cf c t=C at *
 generalize cf b t=B at *
 have:L*(k*m)*C=k*m*(L*C):=by grind
 rw [this,h0];grind
theorem eu_dv:∀(f:Nat) {a b:List Int},Tr a→Tr b→eok f a b→Dv (eu f a b) a∧Dv (eu f a b) b
 | 0,a,b,ha,hb,h=>by rw [show b=[]from h];exact⟨Dv.refl _,Dv.nil _⟩
 | f+1,a,b,ha,hb,h=>by
  by_cases h0:b=[]
  ·subst h0;rw [Fx];exact⟨Dv.refl _,Dv.nil _⟩
  ·rcases h with h | h
   ·exact absurd h h0
   ·have e:eu (f+1) a b=eu f b (Yx (Ph a b)):=by
     conv=>lhs;unfold eu
     rw [if_neg h0]
    rw [e]
    have t1:=Ll (q:=b) ha
    obtain⟨d1,d2⟩:=eu_dv f hb (Xg t1) h.2
    obtain⟨k,s,hs⟩:=Gn a h0
    exact⟨d1.lin (d2.sim (Qm t1)) s _ (Nc (hb.mem h0) k) hs,d1⟩
theorem Dv.of_sim{g g' a:List Int} : Dv g a→Sim g g'→Dv g' a:=fun⟨k,s,hk,h⟩ ⟨m,n,hm,hn,e⟩=>
 ⟨m*k,Xk s n,Int.mul_ne_zero hm hk,fun t=>by
  rw [Int.mul_assoc,h,PS.mul_c,PS.mul_c,←Oy]
  refine Xf fun i _=>?_
  rw [Ib,Ib,Ib,Ib,Xp]
  have:=e (t-i)
  grind⟩
theorem Dv.zero{a:List Int}(ha:Tr a)(h:Dv [] a):a=[]:=by
 obtain⟨k,s,hk,h⟩:=h
 rw [←Ad ha,Mx]
 intro i
 have h1:=h i
 rw [PS.mul_comm',Mp (fun t=>Qe (Nat.zero_le _))]at h1
 rcases Int.mul_eq_zero.1 h1 with h2 | h2
 ·exact absurd h2 hk
 ·exact h2
theorem Zbf{F:Nat}{p q:List Int}(hp:Tr p)(hq:Tr q)(h:eok F (gA p q) (gB p q)):Dv (Ko F p q) p∧Dv (Ko F p q) q:=by
 have hA:=Zio hp hq
 have hB:=Zin hp hq
 obtain⟨h1,h2⟩:=eu_dv F hA hB h
 have hs:Sim (eu F (gA p q) (gB p q)) (Ko F p q):=(Kc _).symm
 have h1:=h1.of_sim hs
 have h2:=h2.of_sim hs
 by_cases hl:p.length<q.length
 ·rw [show gA p q=Yx q from if_pos hl]at h1
  rw [show gB p q=Yx p from if_pos hl]at h2
  exact⟨h2.sim (Qm hp),h1.sim (Qm hq)⟩
 ·rw [show gA p q=Yx p from if_neg hl]at h1
  rw [show gB p q=Yx q from if_neg hl]at h2
  exact⟨h1.sim (Qm hp),h2.sim (Qm hq)⟩
theorem Za2{F:Nat}{p q:List Int}(hp:Tr p)(hq:Tr q):Tr (Ko F p q):=Nb (Zlo F (Zio hp hq) (Zin hp hq))
theorem Za6(p:List Int){c:Int}(h:c≠0):Sim p (Xk p c):=⟨c,1,h,by decide,fun i=>by rw [Xp];grind⟩
def fin8(la A:Nat):Bool:=Nat.ble la 2 || Nat.ble (64+(9-la)*A) 65536
def chk2:Nat→Nat→Nat→Nat→Nat→Bool
 | 0,la,_,A,_=>fin8 la A
 | f+1,la,lb,A,B=>bif Nat.beq lb 0 then fin8 la A else bif Nat.blt la lb then chk2 f lb la B A else
   (List.range lb).all fun l=>chk2 f lb l B (bif Nat.ble l 1 then 2 else A+(la-lb+1)*B)
theorem Dr{g:List Int}(h:Tr g):(Kd g).length=g.length:=(Kc g).len (Nb h) h
theorem Zd4(g:List Int):Qa (Kd g)=Qa g:=by
 have d1:Qa (Kd g)∣Qa g:=He fun i=>by
  have h:=Mo (Kd g) i
  rw [Ho]at h
  split at h
  ·exact Int.dvd_neg.1 h
  ·exact h
 have d2:Qa g∣Qa (Kd g):=He fun i=>by
  rw [Ho];split
  ·exact Int.dvd_neg.2 (Mo g i)
  ·exact Mo g i
 exact Int.dvd_antisymm (No _) (No _) d1 d2
theorem Zfq{F:Nat}{p q:List Int}(hp:Tr p)(hq:Tr q)(h0:Ko F p q≠[]):Qa (Ko F p q)=1:=by
 rw [Zna hp hq]at h0 ⊢
 unfold nrm at h0 ⊢
 rw [Zd4]
 refine Mz (Zlo F (Zio hp hq) (Zin hp hq)) fun e=>h0 ?_
 rw [e];rfl
end Go.Sky
namespace Go.Sky
def Za7(xs:List Int):Prop:=xs.length=0∨(xs.length+2)*(xs.length+2)*(msz xs+16)≤65536
instance (xs:List Int):Decidable (Za7 xs):=by unfold Za7;infer_instance
def sqf(F:Nat)(xs:List Int):List Int:=Ki (nrm xs) (Ko F (nrm xs) (Pj (nrm xs)))
def sqOK(F:Nat)(xs:List Int):Prop:=(∀i,i<xs.length→bl (cf (nrm xs) (i+1)*((i:Int)+1)).natAbs≤65536)∧¬Zo9 (nrm xs) (Pj (nrm xs))∧eok F (gA (nrm xs) (Pj (nrm xs))) (gB (nrm xs) (Pj (nrm xs)))∧
 Zc1 (nrm xs) (Ko F (nrm xs) (Pj (nrm xs)))=0∧pdv (nrm xs) (Ko F (nrm xs) (Pj (nrm xs)))
def Lj(x y:List Int):List Int:=if cf y (y.length-1)<0∧(x.length-y.length+1)%2=1 then Yx (Ph x y)else Xk (Yx (Ph x y)) (-1)
def cok:Nat→List Int→List Int→Prop
 | 0,_,y=>y=[]
 | f+1,x,y=>y=[]∨(Zc1 x y=0∧y.length≤x.length∧cok f y (Lj x y))
def Lb:Nat→List Int→List Int→List (List Int)
 | 0,x,_=>[x]
 | f+1,x,y=>if y=[]then [x]else x :: Lb f y (Lj x y)
theorem Fl(f:Nat)(x:List Int):Lb f x []=[x]:=by cases f<;>rfl
theorem Zh1{f:Nat}{a b:List Int}(h:cok f a b)(hb:b≠[]):∃g,f=g+1∧Zc1 a b=0∧b.length≤a.length∧cok g b (Lj a b)∧Lb f a b=a :: Lb g b (Lj a b):=by
 cases f with
 | zero=>exact absurd h hb
 | succ g=>
  rcases h with h | h
  ·exact absurd h hb
  ·exact⟨g,rfl,h.1,h.2.1,h.2.2,by show(if b=[]then [a]else _)=_;rw [if_neg hb]⟩
def chn(F:Nat)(xs:List Int):List (List Int):=Lb F (sqf F xs) (Yx (Pj (sqf F xs)))
def Zeu(F:Nat)(xs:List Int):Prop:=sqOK F xs∧(∀i,i<xs.length→bl (cf (sqf F xs) (i+1)*((i:Int)+1)).natAbs≤65536)∧cok F (sqf F xs) (Yx (Pj (sqf F xs)))
theorem Zpw{p:List Int}(h:Vp p):Vp (nrm p):=by
 unfold nrm
 have h1:=Lt h
 refine⟨fun i=>?_,Nb h1.tr,by rw [Dr h1.tr];exact h1.len⟩
 rw [Ho];split
 ·rw [Int.natAbs_neg];exact h1.sz i
 ·exact h1.sz i
theorem Pn{p:List Int}(h:Tr p):(nrm p).length=p.length:=by unfold nrm;rw [Dr (Xg h),Yi]
theorem Zmg{x y:List Int}(hx:Vp x)(hd:Zc1 x y=0):Vp (Lj x y):=by
 have h:=Lt (Cg hx hd)
 unfold Lj
 split
 ·exact h
 ·exact⟨fun i=>by rw [Xp];exact Bu h.sz i,Qu _ _,Nat.le_trans (Fo _ _) h.len⟩
def Hi(s:Int×Int)(x:Int):Int×Int:=if x=0 then s else(if x=-s.2 then s.1+1 else s.1,x)
def chg(l:List Int):Int:=(l.foldl Hi (0,0)).1
theorem Zbl{α β:Type}(f:α→β→α)(a:α)(l:List β)(x:β):(l ++ [x]).foldl f a=f (l.foldl f a) x:=by simp
theorem chg1_n(s:Int×Int)(x:Int):(Hi s x).1=s.1∨(Hi s x).1=s.1+1:=by
 unfold Hi;split
 ·exact .inl rfl
 ·dsimp only;split
  ·exact .inr rfl
  ·exact .inl rfl
def sgs(ls:List (List Int))(x y:Int):List Int:=ls.map fun p=>(pev p x y).sign
def sgr(ls:List (List Int)):List Int:=ls.map fun p=>(cf p (p.length-1)).sign
def sgl(ls:List (List Int)):List Int:=ls.map fun p=>if p.length%2=0 then-(cf p (p.length-1)).sign else(cf p (p.length-1)).sign
def smost(xs:List Int):Nat:=(xs.take (xs.length-1)).foldl (fun m c=>max m c.natAbs) 0
def sbound(xs:List Int):Int:=((smost xs/(cf xs (xs.length-1)).natAbs:Nat):Int)+2
end Go.Sky
namespace Go.Sky
def chk0(xs:List Int):Int:=if xs.length=0 then 3 else if Za7 xs then 0 else 7
def ef(z:Int×Int):Bool:=decide (512<bl z.1.natAbs) || decide (512<bl z.2.natAbs)
def chk2r(xs:List Int)(x y x2 y2:Int):Int:=if xs.length=0 then 3 else if 0<x*y2-x2*y then 3 else if Za7 xs∧ef (x,y)=false∧ef (x2,y2)=false then 0 else 7
theorem chk0_ok{xs:List Int}(h0:xs≠[])(h:Za7 xs):chk0 xs=0:=by
 unfold chk0
 rw [if_neg (fun e=>h0 (List.eq_nil_of_length_eq_zero e)),if_pos h]
theorem Zhl{xs:List Int}(h:¬cf (Yx xs) ((Yx xs).length-1)<0):nrm xs=Yx xs:=by
 unfold nrm Kd;rw [if_neg (by omega)]
theorem Zhm{xs:List Int}(h0:(Yx xs).length≠0)(h:cf (Yx xs) ((Yx xs).length-1)<0):nrm xs=Xk (Yx xs) (-1):=by
 unfold nrm Kd;rw [if_pos ⟨h0,h⟩]
end Go.Sky
namespace Go.Sky
theorem Zbm{P:Nat→Prop} : ∀n,P n→∃m,P m∧∀k,k<m→¬P k:=by
 intro n
 induction n using Nat.strongRecOn with
 | _ n ih=>
  intro h
  by_cases hx:∃k,k<n∧P k
  ·obtain⟨k,hk,hf⟩:=hx;exact ih k hk hf
  ·exact⟨n,h,fun k hk hf=>hx ⟨k,hk,hf⟩⟩
theorem Zsd{n:Nat}(h:2≤n):∃p,2≤p∧p∣n∧∀d,2≤d→d∣n→p≤d:=by
 obtain⟨p,⟨h1,h2⟩,h3⟩:=Zbm (P:=fun d=>2≤d∧d∣n) n ⟨h,Nat.dvd_refl n⟩
 exact⟨p,h1,h2,fun d hd hdn=>by
  rcases Nat.lt_or_ge d p with h4 | h4
  ·exact absurd ⟨hd,hdn⟩ (h3 d h4)
  ·exact h4⟩
theorem Zlh{n p:Nat}(h1:2≤p)(h2:p∣n)(h3:∀d,2≤d→d∣n→p≤d)(hn:0<n){x y:Int}(h:(p:Int)∣x*y):(p:Int)∣x∨(p:Int)∣y:=by
 by_cases hx:(p:Int)∣x
 ·exact .inl hx
 ·right
  have hg:Nat.gcd p x.natAbs=1:=by
   have hd:=Nat.gcd_dvd_left p x.natAbs
   have h0:0<Nat.gcd p x.natAbs:=Nat.gcd_pos_of_pos_left _ (by omega)
   rcases Nat.lt_or_ge (Nat.gcd p x.natAbs) 2 with h4 | h4
   ·omega
   ·have h5:=h3 _ h4 (Nat.dvd_trans hd h2)
    have h6:=Nat.le_of_dvd (by omega) hd
    exfalso
    refine hx (Int.natAbs_dvd_natAbs.1 ?_)
    rw [Int.natAbs_natCast]
    have h7:Nat.gcd p x.natAbs=p:=by omega
    rw [←h7];exact Nat.gcd_dvd_right _ _
  have h8:=Int.natAbs_dvd_natAbs.2 h
  rw [Int.natAbs_natCast,Int.natAbs_mul]at h8
  refine Int.natAbs_dvd_natAbs.1 ?_
  rw [Int.natAbs_natCast]
  exact(show Nat.Coprime p x.natAbs from hg).dvd_of_dvd_mul_left h8
theorem gauss{g a:List Int}(hg:Qa g=1):∀(n:Nat) (k:Int) (s:List Int),k.natAbs=n→k≠0→(∀t,k*cf a t=(ps s*ps g).c t)→∃q:List Int,∀t,cf a t=(ps q*ps g).c t:=by
 intro n
 induction n using Nat.strongRecOn with
 | _ n ih=>
  intro k s hkn hk h
  rcases Nat.lt_or_ge n 2 with h2 | h2
  ·have hkk:k*k=1:=by
    have:k=1∨k=-1:=by omega
    rcases this with e | e<;>subst e<;>rfl
   refine⟨Xk s k,fun t=>?_⟩
   have e:(ps (Xk s k)*ps g).c t=k*(ps s*ps g).c t:=by
    rw [PS.mul_c,PS.mul_c,←Oy]
    exact Xf fun i _=>by rw [Ib,Ib,Ib,Xp];grind
   rw [e,←h,←Int.mul_assoc,hkk,Int.one_mul]
  ·obtain⟨p,p2,pd,pm⟩:=Zsd h2
   have hpp:∀{x y:Int},(p:Int)∣x*y→(p:Int)∣x∨(p:Int)∣y:=Zlh p2 pd pm (by omega)
   have hpk:(p:Int)∣k:=Int.natAbs_dvd_natAbs.1 (by rw [Int.natAbs_natCast,hkn];exact pd)
   have hgn:∃j,¬(p:Int)∣cf g j:=Classical.byContradiction fun hx=>by
    have:(p:Int)∣Qa g:=He fun i=>Classical.byContradiction fun hy=>hx ⟨i,hy⟩
    rw [hg]at this
    have:=Int.le_of_dvd (by decide) this
    omega
   obtain⟨j0,hj0⟩:=hgn
   obtain⟨j,hj,hjm⟩:=Zbm (P:=fun j=>¬(p:Int)∣cf g j) j0 hj0
   have hs:∀i,(p:Int)∣cf s i:=fun i0=>Classical.byContradiction fun hi0=>by
    obtain⟨i,hi,him⟩:=Zbm (P:=fun i=>¬(p:Int)∣cf s i) i0 hi0
    have h3:=h (i+j)
    rw [PS.mul_c]at h3
    have key:∀m,m≤i+j+1→(p:Int)∣Qp (fun k=>if k=i then 0 else(ps s).c k*(ps g).c (i+j-k)) m:=fun m=>by
     induction m with
     | zero=>intro _;exact Int.dvd_zero _
     | succ m ihm=>
      intro hm
      rw [Xv]
      refine Int.dvd_add (ihm (by omega)) ?_
      split
      ·exact Int.dvd_zero _
      ·rename_i hne
       rw [Ib,Ib]
       rcases Nat.lt_or_ge m i with h4 | h4
       ·exact Int.dvd_trans (Classical.byContradiction fun hx=>him m h4 hx) (Int.dvd_mul_right _ _)
       ·exact Int.dvd_trans (Classical.byContradiction fun hx=>hjm (i+j-m) (by omega) hx) (Int.dvd_mul_left _ _)
    have e1:Qp (fun k=>(ps s).c k*(ps g).c (i+j-k)) (i+j+1)=Qp (fun k=>if k=i then 0 else(ps s).c k*(ps g).c (i+j-k)) (i+j+1)+cf s i*cf g j:=by
     have e2:Qp (fun k=>(ps s).c k*(ps g).c (i+j-k)) (i+j+1)=Qp (fun k=>(if k=i then 0 else(ps s).c k*(ps g).c (i+j-k))+(if k=i then(ps s).c k*(ps g).c (i+j-k)else 0)) (i+j+1):=
      Xf fun k _=>by split<;>omega
     rw [e2,Fj,Fi (f:=fun k=>if k=i then(ps s).c k*(ps g).c (i+j-k)else 0) (k:=i) (by omega) (fun q _ hq=>if_neg hq),if_pos rfl,Ib,Ib,show i+j-i=j by omega]
    rw [e1]at h3
    have h4:(p:Int)∣cf s i*cf g j:=by
     have h5:cf s i*cf g j=k*cf a (i+j)-Qp (fun k=>if k=i then 0 else(ps s).c k*(ps g).c (i+j-k)) (i+j+1):=by omega
     rw [h5]
     exact Int.dvd_sub (Int.dvd_trans hpk (Int.dvd_mul_right _ _)) (key _ (Nat.le_refl _))
    rcases hpp h4 with h5 | h5
    ·exact hi h5
    ·exact hj h5
   obtain⟨k',hk'⟩:=hpk
   have hp0:(p:Int)≠0:=by omega
   refine ih k'.natAbs ?_ k' (s.map (· / (p:Int))) rfl ?_ ?_
   ·rw [←hkn,hk',Int.natAbs_mul,Int.natAbs_natCast]
    have:0<k'.natAbs:=by
     rcases Nat.eq_zero_or_pos k'.natAbs with h6 | h6
     ·rw [show k'=0 by omega]at hk';simp at hk';exact absurd hk' hk
     ·exact h6
    have:=Nat.mul_le_mul_right k'.natAbs p2
    omega
   ·intro e;rw [e]at hk';simp at hk';exact hk hk'
   ·intro t
    refine Int.eq_of_mul_eq_mul_left hp0 ?_
    rw [←Int.mul_assoc,←hk',h,PS.mul_c,PS.mul_c,←Oy]
    refine Xf fun i _=>?_
    rw [Ib,Ib,Ib,Zf3 _ _ (by simp),←Int.mul_assoc,Int.mul_ediv_cancel' (hs i)]
end Go.Sky
namespace Go.Sky
def ev1:List Int→Int→Int
 | [],_=>0
 | c :: r,t=>c+t*ev1 r t
def sdv:List Int→Int→List Int
 | [],_=>[]
 | [_],_=>[]
 | _ :: c :: r,t=>ev1 (c :: r) t :: sdv (c :: r) t
theorem Zbj:∀(u:List Int) (t:Int),(sdv u t).length=u.length-1
 | [],_=>rfl
 | [_],_=>rfl
 | _ :: c :: r,t=>by unfold sdv;rw [List.length_cons,Zbj (c :: r) t];simp
theorem Zln:∀(u:List Int) (t x:Int),ev1 u x=ev1 u t+(x-t)*ev1 (sdv u t) x
 | [],t,x=>by simp [ev1,sdv]
 | [c],t,x=>by simp [ev1,sdv]
 | a :: c :: r,t,x=>by
  have ih:=Zln (c :: r) t x
  show a+x*ev1 (c :: r) x=a+t*ev1 (c :: r) t+(x-t)*(ev1 (c :: r) t+x*ev1 (sdv (c :: r) t) x)
  rw [ih]
  generalize ev1 (c :: r) t=A
  generalize ev1 (sdv (c :: r) t) x=B
  grind
theorem Ge(a:Int)(u:List Int)(i:Nat):cf (a :: u) i=if i=0 then a else cf u (i-1):=by
 cases i with
 | zero=>rfl
 | succ i=>simp [cf]
theorem Zap(i:Nat):cf [] i=0:=Qe (Nat.zero_le _)
theorem Ztu:∀(u:List Int) (t:Int) (i:Nat),cf u (i+1)=cf (sdv u t) i-t*cf (sdv u t) (i+1)
 | [],t,i=>by unfold sdv;simp [Zap]
 | [c],t,i=>by unfold sdv;rw [Ge,if_neg (by omega)];simp [Zap]
 | a :: c :: r,t,i=>by
  unfold sdv
  rw [Ge,if_neg (by omega),Nat.add_sub_cancel]
  cases i with
  | zero=>
   rw [Ge,if_pos rfl,Ge,if_pos rfl,Ge,if_neg (by omega)]
   show c=ev1 (c :: r) t-t*cf (sdv (c :: r) t) 0
   match r with
   | []=>simp [ev1,sdv,cf]
   | d :: r'=>unfold sdv;rw [Ge,if_pos rfl];show c=(c+t*ev1 (d :: r') t)-_;omega
  | succ i=>
   rw [Ge _ (sdv _ _) (i+1),if_neg (by omega),Ge _ (sdv _ _),if_neg (by omega),Nat.add_sub_cancel,Nat.add_sub_cancel]
   exact Ztu (c :: r) t i
theorem Ztt:∀(u:List Int) (t:Int),cf u 0=ev1 u t-t*cf (sdv u t) 0
 | [],t=>by simp [ev1,sdv,cf]
 | [c],t=>by simp [ev1,sdv,cf]
 | a :: c :: r,t=>by
  unfold sdv
  rw [Ge,if_pos rfl,Ge,if_pos rfl]
  show a=(a+t*ev1 (c :: r) t)-t*ev1 (c :: r) t
  omega
theorem Zg7:∀(n:Nat) (u:List Int) (R:List Int),u.length=n→(∃i,cf u i≠0)→R.Nodup→(∀t∈R,ev1 u t=0)→R.length<n
 | 0,u,R,hn,hu,_,_=>by
  obtain⟨i,hi⟩:=hu
  rw [List.eq_nil_of_length_eq_zero hn,Zap]at hi
  exact absurd rfl hi
 | n+1,u,[],hn,hu,_,_=>by simp
 | n+1,u,t :: R,hn,hu,hd,hR=>by
  have h0:=hR t (List.mem_cons_self ..)
  have hl:=Zbj u t
  have hw:∃i,cf (sdv u t) i≠0:=Classical.byContradiction fun hx=>by
   have hz:∀i,cf (sdv u t) i=0:=fun i=>Classical.byContradiction fun hy=>hx ⟨i,hy⟩
   obtain⟨i,hi⟩:=hu
   cases i with
   | zero=>rw [Ztt u t,h0,hz]at hi;simp at hi
   | succ i=>rw [Ztu u t,hz,hz]at hi;simp at hi
  have:=Zg7 n (sdv u t) R (by omega) hw (List.nodup_cons.1 hd).2 fun x hx=>by
   have h1:=hR x (List.mem_cons_of_mem _ hx)
   rw [Zln u t x,h0,Int.zero_add]at h1
   rcases Int.mul_eq_zero.1 h1 with h2 | h2
   ·exfalso
    have:x=t:=by omega
    subst this
    exact(List.nodup_cons.1 hd).1 hx
   ·exact h2
  simp;omega
def kk:Nat→Nat
 | 0=>0
 | d+1=>30*kk d+1
theorem Zss:∀(p:List Int) (t:Int),ev1 p t=Qp (fun i=>cf p i*t^i) p.length
 | [],t=>rfl
 | c :: r,t=>by
  rw [List.length_cons,Ig,ev1,Zss r t,←Oy,Int.pow_zero,Int.mul_one]
  congr 1
  exact Xf fun i _=>by
   rw [Ge,if_neg (by omega),Nat.add_sub_cancel,Int.pow_succ];grind
theorem Zhw(p:List Int)(t:Int):ev1 p t=pev p t 1:=by
 rw [Zss];unfold pev
 exact Xf fun i _=>by rw [Int.one_pow,Int.mul_one]
def pts:List Int:=[0,1,2,3,4,5,6,7,8,9,10,11,12,13,14]
theorem Zfz{α:Type}(f:α→Bool):∀l:List α,(l.filter f).length+(l.filter fun x=>!f x).length=l.length
 | []=>rfl
 | x :: l=>by
  have ih:=Zfz f l
  cases h:f x<;>simp [h]<;>omega
end Go.Sky
namespace Go.Sky
def Psim(a b:List Int):Prop:=∃m n:Int,0<m∧0<n∧∀i,m*cf a i=n*cf b i
theorem Psim.refl(a:List Int):Psim a a:=⟨1,1,by decide,by decide,fun _=>rfl⟩
theorem Psim.symm{a b:List Int} : Psim a b→Psim b a:=fun⟨m,n,hm,hn,h⟩=>⟨n,m,hn,hm,fun i=>(h i).symm⟩
theorem Psim.trans{a b c:List Int} : Psim a b→Psim b c→Psim a c:=fun⟨m,n,hm,hn,h⟩ ⟨u,v,hu,hv,k⟩=>
 ⟨m*u,n*v,Int.mul_pos hm hu,Int.mul_pos hn hv,fun i=>by have h1:=h i;have h2:=k i;grind⟩
theorem Psim.sim{a b:List Int} : Psim a b→Sim a b:=fun⟨m,n,hm,hn,h⟩=>⟨m,n,by omega,by omega,h⟩
theorem Zbc{p:List Int}(h:Tr p):Psim (Yx p) p:=by
 by_cases h0:p=[]
 ·subst h0;exact Psim.refl _
 ·exact⟨Qa p,1,by have:=No p;have:=Co h h0;omega,by decide,fun i=>by rw [Int.one_mul,Int.mul_comm];exact Hb p i⟩
theorem Zfn{a b:List Int}(ha:Tr a)(hb:Tr b)(h:Psim a b):Yx a=Yx b:=by
 by_cases h0:a=[]
 ·rw [h.sim.nil hb h0,h0]
 ·have h0':b≠[]:=fun e=>h0 (h.sim.symm.nil ha e)
  obtain⟨m,n,hm,hn,e⟩:=(Zbc ha).trans (h.trans (Zbc hb).symm)
  have hx:=Xg ha
  have hy:=Xg hb
  have hs:Sim (Yx a) (Yx b):=⟨m,n,by omega,by omega,e⟩
  have hx0:Yx a≠[]:=fun e=>h0 (List.eq_nil_of_length_eq_zero (by rw [←Yi,e];rfl))
  rcases Zgr hx hy hx0 (Mz ha h0) (Mz hb h0') hs with h1 | h1
  ·exact h1
  ·exfalso
   have h2:=hx.mem hx0
   have h3:=e ((Yx a).length-1)
   have h4:=h1 ((Yx a).length-1)
   rw [h4]at h3 h2
   generalize cf (Yx b) ((Yx a).length-1)=z at h3 h2
   rw [Int.mul_neg]at h3
   have h5:(m+n)*z=0:=by rw [Int.add_mul];omega
   rcases Int.mul_eq_zero.1 h5 with h6 | h6<;>omega
def Zhb(y:List Int):Int:=if cf y (y.length-1)<0 then-cf y (y.length-1)else cf y (y.length-1)
def rb(x y:List Int):Int:=if cf y (y.length-1)<0 then-cf x (x.length-1)else cf x (x.length-1)
def Zdy(x y:List Int):List Int:=Zfm (Xk x (Zhb y)) (shm y (rb x y) (x.length-y.length) y.length)
def Zfg:Nat→List Int→List Int→List Int
 | 0,x,_=>x
 | f+1,x,y=>if x.length<y.length then x else Zfg f (Zdy x y) y
theorem Zjf{x y:List Int}(hx:Tr x)(hy:0<y.length)(hl:y.length≤x.length):(Zdy x y).length<x.length:=by
 have h:=Ch (p:=Zdy x y) (n:=x.length-1) fun i hi=>by
  unfold Zdy
  rw [Kz,Xp,Zoc]
  by_cases he:i=x.length-1
  ·subst he
   rw [if_pos (by omega),show x.length-1-(x.length-y.length)=y.length-1 by omega]
   unfold Zhb rb
   split
   ·grind
   ·grind
  ·rw [Qe (p:=x) (by omega),if_neg (by omega)];omega
 rw [show tzl (Zdy x y)=Zdy x y from Ad (Zdf _ _)]at h
 omega
theorem Zvm(x:List Int){y:List Int}(t:Nat):Zhb y*cf x t=(ps (mono (x.length-y.length) (rb x y))*ps y).c t+cf (Zdy x y) t:=by
 unfold Zdy
 rw [Zhp,Kz,Xp,Zoc,Ib]
 by_cases h1:x.length-y.length≤t
 ·rw [if_pos h1]
  by_cases h2:t<x.length-y.length+y.length
  ·rw [if_pos ⟨h1,h2⟩,Int.mul_comm (cf x t)];omega
  ·rw [if_neg (by omega),Qe (p:=y) (by omega),Int.mul_comm (cf x t)];omega
 ·rw [if_neg h1,if_neg (by omega),Int.mul_comm (cf x t)];omega
theorem Zcp{y:List Int}(hy:Tr y)(h0:y≠[]):0<Zhb y:=by
 have:=hy.mem h0
 unfold Zhb;split<;>omega
theorem Zdx{y:List Int}(hy:Tr y)(h0:y≠[]):∀(f:Nat) (x:List Int),Tr x→x.length<y.length+f→Tr (Zfg f x y)∧(Zfg f x y).length<y.length∧∃(k:Nat) (s:List Int),∀t,Zhb y^k*cf x t=(ps s*ps y).c t+cf (Zfg f x y) t
 | 0,x,hx,hl=>⟨hx,hl,0,[],fun t=>by rw [Mp (fun t=>Qe (Nat.zero_le _)),Int.pow_zero];unfold Zfg;omega⟩
 | f+1,x,hx,hl=>by
  unfold Zfg
  by_cases h:x.length<y.length
  ·rw [if_pos h]
   exact⟨hx,h,0,[],fun t=>by rw [Mp (fun t=>Qe (Nat.zero_le _)),Int.pow_zero];omega⟩
  ·rw [if_neg h]
   have h1:=Zjf hx (List.length_pos_iff.2 h0) (by omega)
   obtain⟨h2,h3,k,s,hs⟩:=Zdx hy h0 f (Zdy x y) (Zdf _ _) (by omega)
   refine⟨h2,h3,k+1,Zfm (Xk s 1) (Xk (mono (x.length-y.length) (rb x y)) (-(Zhb y^k))),fun t=>?_⟩
   have h4:=hs t
   have h5:=Zvm x (y:=y) t
   rw [Zcu,Int.pow_succ]
   generalize Zhb y^k=K at *
   generalize Zhb y=a at *
   generalize (ps (mono (x.length-y.length) (rb x y))*ps y).c t=M at *
   generalize (ps s*ps y).c t=S at *
   generalize cf (Zdy x y) t=X at *
   generalize cf (Zfg f (Zdy x y) y) t=Z at *
   have:K*a*cf x t=K*(a*cf x t):=by grind
   rw [this,h5];grind
theorem Zm6(l:Int)(h:l≠0):∀n:Nat,(l<0∧n%2=1→l^n<0)∧(¬(l<0∧n%2=1)→0<l^n)
 | 0=>⟨fun h=>by omega,fun _=>by rw [Int.pow_zero];decide⟩
 | n+1=>by
  have ih:=Zm6 l h n
  rw [Int.pow_succ]
  by_cases h1:l<0
  ·by_cases h2:n%2=1
   ·have h3:=ih.1 ⟨h1,h2⟩
    exact⟨fun h=>by omega,fun _=>Int.mul_pos_of_neg_of_neg h3 h1⟩
   ·have h3:=ih.2 (by omega)
    exact⟨fun _=>Int.mul_neg_of_pos_of_neg h3 h1,fun h=>by omega⟩
  ·have h3:=ih.2 (by omega)
   exact⟨fun h=>by omega,fun _=>Int.mul_pos h3 (by omega)⟩
def Zkx(p:List Int):List Int:=Xk p (-1)
theorem Fa(p:List Int)(i:Nat):cf (Zkx p) i=- cf p i:=by unfold Zkx;rw [Xp];omega
theorem Zo2{p:List Int}(h:Tr p):Yx (Zkx p)=Zkx (Yx p):=by
 have hc:Qa (Zkx p)=Qa p:=by
  have d1:Qa (Zkx p)∣Qa p:=He fun i=>by
   have h:=Mo (Zkx p) i
   rw [Fa]at h;exact Int.dvd_neg.1 h
  have d2:Qa p∣Qa (Zkx p):=He fun i=>by rw [Fa];exact Int.dvd_neg.2 (Mo p i)
  exact Int.dvd_antisymm (No _) (No _) d1 d2
 refine(Xg (Qu _ _)).ext (Qu _ _) fun i=>?_
 show cf (Yx (Zkx p)) i=cf (Zkx (Yx p)) i
 rw [Fa,Ct,Fa,hc,Ct]
 exact Int.neg_ediv_of_dvd (Mo p i)
theorem Zdn{x y:List Int}{f:Nat}(hx:Tr x)(hy:Tr y)(h0:y≠[])(hl:y.length≤x.length)(hf:x.length<y.length+f):Yx (Zkx (Zfg f x y))=Lj x y:=by
 obtain⟨tr,lr,k,s,hs⟩:=Zdx hy h0 f x hx hf
 have ly:=List.length_pos_iff.2 h0
 obtain⟨s2,hs2⟩:=Zdv (p:=x) ly hl _ (Nat.le_refl _)
 have hp:∀t,cf (Pa x y (x.length-y.length+1)) t=cf (Ph x y) t:=fun t=>by
  unfold Ph;rw [if_neg (by omega),Lm]
 have lp:=Pb x h0
 have htp:=Ll (q:=y) hx
 have hlead:=hy.mem h0
 have hK:0<Zhb y^k:=Int.pow_pos (Zcp hy h0)
 have hsg:=Zm6 (cf y (y.length-1)) hlead (x.length-y.length+1)
 generalize hL:cf y (y.length-1)^(x.length-y.length+1)=L at hs2 hsg
 have hL0:L≠0:=by rw [←hL];exact Nc hlead _
 generalize Zhb y^k=K at hs hK
 have key:∀t,(ps (Zfm (Xk s2 K) (Xk s L))*ps y).c t=cf (Zfm (Xk (Zfg f x y) L) (Xk (Ph x y) K)) t:=fun t=>by
  rw [Zcu,Kz,Xp,Xp,←hp t]
  have h1:=hs t
  have h2:=hs2 t
  generalize cf (Pa x y (x.length-y.length+1)) t=A at *
  grind
 have z:=Zrz hy h0 key fun t ht=>by
  rw [Kz,Xp,Xp,Qe (p:=Zfg f x y) (by omega),Qe (p:=Ph x y) (by omega)];omega
 have e:∀t,L*cf (Zfg f x y) t=K*cf (Ph x y) t:=fun t=>by
  have h1:=key t
  rw [Mp z,Kz,Xp,Xp]at h1
  grind
 unfold Lj
 by_cases hc:cf y (y.length-1)<0∧(x.length-y.length+1)%2=1
 ·rw [if_pos hc]
  have hn:=hsg.1 hc
  exact Zfn (Qu _ _) htp ⟨-L,K,by omega,hK,fun t=>by rw [Fa,←e];grind⟩
 ·rw [if_neg hc]
  have hn:=hsg.2 hc
  rw [show Xk (Yx (Ph x y)) (-1)=Zkx (Yx (Ph x y))from rfl,←Zo2 htp]
  exact Zfn (Qu _ _) (Qu _ _) ⟨L,K,hn,hK,fun t=>by
   rw [Fa,Fa,Int.mul_neg,e,Int.mul_neg]⟩
theorem Ae{x y:List Int}(hx:Tr x):Tr (Lj x y):=by
 unfold Lj;split
 ·exact Xg (Ll hx)
 ·exact Qu _ _
theorem Dq{x y:List Int}(hx:Tr x):(Lj x y).length=(Ph x y).length:=by
 unfold Lj
 have h:Tr (Yx (Ph x y)):=Xg (Ll hx)
 split
 ·exact Yi _
 ·rw [←Yi (Ph x y)]
  exact((Za6 (Yx (Ph x y)) (by decide:(-1:Int)≠0)).len h (Qu _ _)).symm
theorem Zmo{n:Nat}{p:List Int}(h:Sz n p):Sz n (nrm p):=fun i=>by
 unfold nrm;rw [Ho];split
 ·rw [Int.natAbs_neg];exact Iv h i
 ·exact Iv h i
theorem Zfs{p:List Int}(h:Tr p)(h0:p≠[]):nrm p≠[]:=fun e=>h0 (List.eq_nil_of_length_eq_zero (by rw [←Pn h,e];rfl))
theorem Fw{g:List Int}(h:Tr g)(h0:g≠[]):0<cf (Kd g) ((Kd g).length-1):=by
 have h1:=h.mem h0
 rw [Dr h,Ho]
 have:g.length≠0:=fun e=>h0 (List.eq_nil_of_length_eq_zero e)
 split<;>omega
theorem Dn{p:List Int}(h:Tr p)(h0:p≠[]):Qa (nrm p)=1:=by unfold nrm;rw [Zd4];exact Mz h h0
theorem Zrq{p:List Int}(h:Tr p)(h1:Qa p=1)(h2:0<cf p (p.length-1)):nrm p=p:=by
 unfold nrm;rw [Zb2 h1];unfold Kd;rw [if_neg (by omega)]
theorem Oz{xs:List Int}{F:Nat}(hx:Tr xs)(h0:xs≠[])(hok:eok F (gA (nrm xs) (Pj (nrm xs))) (gB (nrm xs) (Pj (nrm xs)))) :
  pdv (nrm xs) (Ko F (nrm xs) (Pj (nrm xs)))∧Tr (sqf F xs)∧sqf F xs≠[]∧nrm xs=Nv (sqf F xs) (Ko F (nrm xs) (Pj (nrm xs)))∧Ko F (nrm xs) (Pj (nrm xs))≠[]∧nrm (sqf F xs)=sqf F xs:=by
 have hs:Tr (nrm xs):=Nb (Xg hx)
 have hd:Tr (Pj (nrm xs)):=Ma hs
 have hs0:=Zfs hx h0
 have hdv:=(Zbf hs hd hok).1
 have htg:=Za2 (F:=F) hs hd
 have hg0:Ko F (nrm xs) (Pj (nrm xs))≠[]:=fun e=>hs0 ((e▸hdv).zero hs)
 have hc:=Zfq hs hd hg0
 obtain⟨k,s,hk,h⟩:=hdv
 obtain⟨q,hq⟩:=gauss hc _ k s rfl hk h
 have hqe:nrm xs=Nv (tzl q) (Ko F (nrm xs) (Pj (nrm xs))):=hs.ext (Pg _ _) fun i=>by
  rw [Iu,hq,ps_tzl]
 obtain⟨p1,p2⟩:=Zk0 (Ol q) htg hg0
 have hsq:sqf F xs=tzl q:=by
  unfold sqf
  have p2':=p2
  rw [←hqe]at p2'
  exact p2'
 rw [←hqe]at p1
 have hq0:tzl q≠[]:=fun e=>hs0 (by rw [hqe,e,Ik])
 refine⟨p1,by rw [hsq];exact Ol q,by rw [hsq];exact hq0,by rw [hsq];exact hqe,hg0,?_⟩
 rw [hsq]
 refine Zrq (Ol q) ?_ ?_
 ·have h1:=Dn hx h0
  have h2:Qa (tzl q)∣Qa (nrm xs):=He fun i=>by
   rw [hqe,Iu,PS.mul_c]
   have key:∀m,Qa (tzl q)∣Qp (fun k=>(ps (tzl q)).c k*(ps (Ko F (nrm xs) (Pj (nrm xs)))).c (i-k)) m:=fun m=>by
    induction m with
    | zero=>exact Int.dvd_zero _
    | succ m ih=>rw [Xv];exact Int.dvd_add ih (Int.dvd_trans (Mo (tzl q) m) (Int.dvd_mul_right _ _))
   exact key _
  rw [h1]at h2
  have h3:=No (tzl q)
  have h4:=Int.le_of_dvd (by decide) h2
  have h5:Qa (tzl q)≠0:=Co (Ol q) hq0
  omega
 ·have l1:=List.length_pos_iff.2 hq0
  have l2:=List.length_pos_iff.2 hg0
  have h1:0<cf (nrm xs) ((nrm xs).length-1):=Fw (Xg hx) (fun e=>h0 (List.eq_nil_of_length_eq_zero (by rw [←Yi,e];rfl)))
  have h2:0<cf (Ko F (nrm xs) (Pj (nrm xs))) ((Ko F (nrm xs) (Pj (nrm xs))).length-1):=Fw (Zlo F (Zio hs hd) (Zin hs hd)) (fun e=>hg0 (by unfold Ko;rw [e];rfl))
  have h3:=Px (Ol q) htg hq0 hg0
  rw [←hqe]at h3
  have h4:cf (nrm xs) ((nrm xs).length-1)=cf (tzl q) ((tzl q).length-1)*cf (Ko F (nrm xs) (Pj (nrm xs))) ((Ko F (nrm xs) (Pj (nrm xs))).length-1):=by
   rw [h3,hqe,Iu,←hqe,show(tzl q).length+(Ko F (nrm xs) (Pj (nrm xs))).length-1-1=((tzl q).length-1)+((Ko F (nrm xs) (Pj (nrm xs))).length-1) by omega]
   exact Ew (fun i hi=>Qe (by omega)) (fun i hi=>Qe (by omega))
  rw [h4]at h1
  rcases Int.lt_or_le 0 (cf (tzl q) ((tzl q).length-1))with h5 | h5
  ·exact h5
  ·exfalso
   have:=Int.mul_nonpos_of_nonpos_of_nonneg h5 (Int.le_of_lt h2)
   omega
theorem Nh(p:List Int):(Pj p).length=p.length-1:=Xn _ _
theorem Ztb{p:List Int}{n:Nat}(hp:Sz n p)(hl:p.length≤25)(i:Nat):bl (cf p (i+1)*((i:Int)+1)).natAbs≤n+5:=by
 rcases Nat.lt_or_ge (i+1) p.length with h | h
 ·have h1:=Qh (cf p (i+1)) ((i:Int)+1)
  have h2:=hp (i+1)
  have h3:bl ((i:Int)+1).natAbs≤5:=(Mf 5 _).2 (by omega)
  omega
 ·rw [Qe h];simp [La]
theorem Zc3(p:List Int)(i:Nat):cf (Pj p) i=cf p (i+1)*((i:Int)+1):=by
 unfold Pj
 rw [Ic]
 split
 ·rfl
 ·rw [Qe (by omega),Int.zero_mul]
theorem Eh{p:List Int}{n:Nat}(hp:Sz n p)(hl:p.length≤25):Sz (n+5) (Pj p):=fun i=>by rw [Zc3];exact Ztb hp hl i
end Go.Sky

