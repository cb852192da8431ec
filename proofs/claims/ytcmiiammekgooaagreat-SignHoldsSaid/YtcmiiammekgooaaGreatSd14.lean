/- rules, arithmetic and contracts: part 15
   Proved without conditions of its own: each theorem bears its own. -/
import Derived.Test.YtcmiiammekgooaaGreatSd03
import Derived.Test.YtcmiiammekgooaaGreatSd02
import Derived.Test.YtcmiiammekgooaaGreatSd01
import Derived.Test.YtcmiiammekgooaaGreatSd13
import Derived.Test.YtcmiiammekgooaaGreatSd04
import Derived.Test.YtcmiiammekgooaaGreatSd06
import Derived.Test.YtcmiiammekgooaaGreatSd07
set_option linter.all false
namespace Go.Sky
open Go.Proofs.Tryz
open Go.Proofs
set_option maxRecDepth 20000
set_option maxHeartbeats 4000000
set_option linter.unusedSimpArgs false
theorem Zc5(x y x2 y2:Int)(hx:bl x.natAbs≤65536)(hy:bl y.natAbs≤65536)(hx2:bl x2.natAbs≤65536)(hy2:bl y2.natAbs≤65536)(hp:0<y)(hp2:0<y2):Mv prog 177 #[rX x y,rX x2 y2] [] (.bool true):=by
 refine Yd func177 J ntmps177 J trivial ?_
 intro w0 sc hw hsc
 simp only [Zq,Zp]
 exact Zc<|Zg<|tt (Xa (i:=1) J J J J J hw) J fun b _=>tt (Xa (i:=2) J J J J J hw) J fun b_2 _=>as_ J<|Zf<|Za<|Zc<|Zg<|dt (Yg (i:=1) J J J Xt Yq J J J J)<|tt (Zh (n:=2) (Xv _ _ ‹_› ‹_› ‹_›) J J J K1 Cj Ze J hw) J fun _ _=>mv J<|gdt (Yg (i:=2) J J J Xt Yq J J J J) J J<|gtt (Zh (n:=2) (Xv _ _ ‹_› ‹_› ‹_›) J J J K1 Cj Ze J hw) J J J fun _ _=>dt (Yi J J J)<|as_ J<|Zf<|Za<|Zt<|xU hsc results177 J J J
theorem Zbr(x y x2 y2:Int)(hx:bl x.natAbs≤65536)(hy:bl y.natAbs≤65536)(hx2:bl x2.natAbs≤65536)(hy2:bl y2.natAbs≤65536):Cal prog 178 #[rX x y,rX x2 y2] [] true (G:=Bool×Value×Bool×Value×Bool×Value) (fun r=>sg r.1 (x*y2)∧sg r.2.2.1 (x2*y)∧sg r.2.2.2.2.1 (y*y2)) (fun r=> .tuple #[.agg #[.bool r.1,r.2.1],.agg #[.bool r.2.2.1,r.2.2.2.1],.agg #[.bool r.2.2.2.2.1,r.2.2.2.2.2]]) (fun r=>[dgp r.2.1 (x*y2).natAbs,dgp r.2.2.2.1 (x2*y).natAbs,dgp r.2.2.2.2.2 (y*y2).natAbs]):=by
 refine Yd func178 J ntmps178 J trivial ?_
 intro w0 sc hw hsc
 simp only [Zq,Zp]
 have b1:=Qb x y2
 have b2:=Qb x2 y
 have b3:=Qb y y2
 have b4:=Qb x x2
 refine Zc<|Zg<|tt (Xa (i:=1) J J J J J hw) J fun b _=>tt (Xa (i:=2) J J J J J hw) J fun b_2 _=>tt (Zl (i:=3) J J zeroValue154 J J hw) J fun b_3 _=>tt (Zl (i:=4) J J zeroValue154 J J hw) J fun b_4 _=>tt (Zl (i:=5) J J zeroValue154 J J hw) J fun b_5 _=>Zf<|Za<|Zc<|Mc [1,2] [23]<|Zz (n:=0) [(0,0),(1,0),(3,0),(4,0),(7,0),(8,0),(10,0),(11,0),(14,0),(15,0),(17,0),(18,0),(2,1),(5,1),(6,1),(9,1),(12,1),(13,1),(16,1),(19,1),(20,1),(21,1),(22,1),(23,3)]<|r0' J J (stf (Xk J J Fb J Ye J J) K2)<|r0' J J (stf (Yb (i:=1) J J J Qg Ye J J) K2)<|r0' J J (stf (Xk J J Fb J Ye J J) K2)<|r0' J J (stf (Yb (i:=2) J J J Qg Ye J J) K2)<|r0' J J (stf (Xk J J Fb J Ye J J) K2)<|r0' J J (stf (Yb (i:=2) J J J Qg Ye J J) K2)<|r0' J J (stf (Xk J J Fb J Ye J J) K2)<|r0' J J (stf (Yb (i:=1) J J J Qg Ye J J) K2)<|r0' J J (stf (Xk J J Fb J Ye J J) K2)<|r0' J J (stf (Yb (i:=1) J J J Qg Ye J J) K2)<|r0' J J (stf (Xk J J Fb J Ye J J) K2)<|r0' J J (stf (Yb (i:=2) J J J Qg Ye J J) K2) ?_
 refine r1' J (Zh (n:=6) (Qs _ _ (Xh _)) J J J K1 Mz Ze J hw) fun g hg=>r1' J (Zh (n:=7) (Qs _ _ (Xh _)) J J J K1 Mz Ze J hw) fun g_2 hg_2=>r1' J (Zh (n:=8) (Zbc _ _ _ _ _ _ ‹_› ‹_›) J J J K2 call176 (Zd 6 J J J (Zd 7 J J J Ze)) J hw) fun g_3 hg_3=>r1' J (Zh (n:=9) (Qs _ _ (Xh _)) J J J K1 Mz Ze J hw) fun g_4 hg_4=>r1' J (Zh (n:=10) (Qs _ _ (Xh _)) J J J K1 Mz Ze J hw) fun g_5 hg_5=>r1' J (Zh (n:=11) (Zbc _ _ _ _ _ _ ‹_› ‹_›) J J J K2 call176 (Zd 9 J J J (Zd 10 J J J Ze)) J hw) fun g_6 hg_6=>r1' J (Zh (n:=12) (Qs _ _ (Xh _)) J J J K1 Mz Ze J hw) fun g_7 hg_7=>r1' J (Zh (n:=13) (Qs _ _ (Xh _)) J J J K1 Mz Ze J hw) fun g_8 hg_8=>r1' J (Zh (n:=14) (Zbc _ _ _ _ _ _ ‹_› ‹_›) J J J K2 call176 (Zd 12 J J J (Zd 13 J J J Ze)) J hw) fun g_9 hg_9=>r1' J (Zh6 3 J J K2 (fun ob=>(Zn (i:=3) J J J J J (by decide) J Yy J J ⟨Zb J,Zx (i:=8) J Zi,trivial⟩ J hw ob))) (fun _ _=>?_)
 exact r1' J (Zh6 4 J J K2 (fun ob=>(Zn (i:=4) J J J J J (by decide) J Yy J J ⟨Zb J,Zx (i:=11) J Zi,trivial⟩ J hw ob))) fun _ _=>r3' J (Zn (i:=5) J J J J J (by decide) J Yy J J ⟨Zb J,Zx (i:=14) J Zi,trivial⟩ J hw trivial) fun _ _=>Yt<|Yj<|Za<|Zt<|Yl (.inl J) hsc (_,_,_,_,_,_) _ (fun a w hs=>res3 hs results178 (Yp (i:=3) J J Lg Yy J) (Yp (i:=4) J J Lg Yy J) (Yp (i:=5) J J Lg Yy J)) J ⟨by assumption,by assumption,by assumption⟩ J (Qx 8 J J J (Qx 11 J J J (Qx 14 J J J Zk)))
theorem Za1(x y x2 y2:Int)(hx:bl x.natAbs≤65536)(hy:bl y.natAbs≤65536)(hx2:bl x2.natAbs≤65536)(hy2:bl y2.natAbs≤65536)(hp:0<y)(hp2:0<y2):Mv prog 146 #[rX x y,rX x2 y2] [] (.tuple #[.int .i64 (x*y2-x2*y).sign,.int .i64 0]):=by
 refine Yd func146 J ntmps146 J trivial ?_
 intro w0 sc hw hsc
 simp only [Zq,Zp]
 have b1:=Qb x y2
 have b2:=Qb x2 y
 have b3:=Qb y y2
 have b4:=Qb x x2
 have b5:=Znw (x2*y)
 have b6:=Lv (x*y2) (-(x2*y))
 refine Zc<|Zg<|tt (Xa (i:=1) J J J J J hw) J fun b _=>tt (Xa (i:=2) J J J J J hw) J fun b_2 _=>as_ J<|as_ J<|Zf<|Za<|Zc<|Zc<|Zg<|dt (Yg (i:=1) J J J Xt Yq J J J J)<|dt (Yg (i:=2) J J J Xt Yq J J J J)<|tt (Zh (n:=2) (Zc5 _ _ _ _ ‹_› ‹_› ‹_› ‹_› ‹_› ‹_›) J J J K2 call177 Ze J hw) J fun _ _=>dt (Yr J J)<|Zf<|Za<|Zw J<|Zj<|Za<|Zc<|Zg<|dt (Yg (i:=1) J J J Xt Yq J J J J)<|dt (Yg (i:=2) J J J Xt Yq J J J J)<|tt (Zh (n:=3) (Zbr _ _ _ _ ‹_› ‹_› ‹_› ‹_›) J J J K2 call178 Ze J hw) J (fun g hg=>?_)
 obtain⟨hc1,hc2,hc3⟩:=hg
 refine mv J<|dt (Ya J J J)<|dt (Ya J J J)<|dt (Ya J J J)<|tt (Zl (i:=6) J J zeroValue154 J J hw) J fun b_3 _=>tt (Zl (i:=7) J J zeroValue154 J J hw) J fun b_4 _=>tt (Zl (i:=8) J J zeroValue154 J J hw) J fun b_5 _=>tt (Zn (i:=6) J J J J J (by decide) J Yy J J ⟨Zb J,Zx (i:=3) J Zi,trivial⟩ J hw trivial) J fun _ _=>tt (Zn (i:=7) J J J J J (by decide) J Yy J J ⟨Zb J,Zx (i:=4) J Zi,trivial⟩ J hw trivial) J fun _ _=>tt (Zn (i:=8) J J J J J (by decide) J Yy J J ⟨Zb J,Zx (i:=5) J Zi,trivial⟩ J hw trivial) J fun _ _=>Zf<|Za<|Zc<|Qf (fun _=>False) [(0,0),(1,0),(2,1),(3,1),(4,1),(5,3),(6,3)] ?_ ?_
 ·kernel_rfl
 exact r0' J J (st0 (Yb (i:=6) J J J Lg Yy J J))<|r0' J J (st0 (Yb (i:=7) J J J Lg Yy J J))<|r1' J (Zh (n:=9) (Zkh _ _ _ ‹_›) J J J K1 call134 (Zd 4 J J J Ze) J hw) fun g_2 hg_2=>r1' J (Zh (n:=10) (Zd6 _ _ _ _ _ _ ‹_› ‹_›) J J J K2 call131 (Zd 3 J J J (Zd 9 J J J Ze)) J hw) fun g_3 hg_3=>r1' J (Zh (n:=10) (Zg7 _ _ _ ‹_›) J J J K1 call135 (Zd 10 J J J Ze) J hw) fun _ _=>r3' J (Qq (Ot J J) J) fun _ _=>r3' J (Qq (Ot J J) J) fun _ _=>Py<|Za<|Zt<|Yl (.inl J) hsc () _ (fun a w hs=>Ns hs results146 J J) (by rw [Int.sub_eq_add_neg]<;>rfl) trivial J Zk
theorem Zga(x y x2 y2:Int)(hx:bl x.natAbs≤65536)(hy:bl y.natAbs≤65536)(hx2:bl x2.natAbs≤65536)(hy2:bl y2.natAbs≤65536)(hp:0<y)(hp2:0<y2):Mv prog 143 #[rX x y,rX x2 y2] [] (Zb1 (x*y2+x2*y) (y*y2)):=by
 refine Yd func143 J ntmps143 J trivial ?_
 intro w0 sc hw hsc
 simp only [Zq,Zp]
 have b1:=Qb x y2
 have b2:=Qb x2 y
 have b3:=Qb y y2
 have b4:=Qb x x2
 have b6:=Lv (x*y2) (x2*y)
 refine Zc<|Zg<|tt (Xa (i:=1) J J J J J hw) J fun b _=>tt (Xa (i:=2) J J J J J hw) J fun b_2 _=>tt (Zl (i:=3) J J zeroValue41 J J hw) J fun b_3 _=>as_ J<|Zf<|Za<|Zc<|Zc<|Zg<|dt (Yg (i:=1) J J J Xt Yq J J J J)<|dt (Yg (i:=2) J J J Xt Yq J J J J)<|tt (Zh (n:=3) (Zc5 _ _ _ _ ‹_› ‹_› ‹_› ‹_› ‹_› ‹_›) J J J K2 call177 Ze J hw) J fun _ _=>dt (Yr J J)<|Zf<|Za<|Zw J<|Zj<|Za<|Zc<|Zg<|dt (Yg (i:=1) J J J Xt Yq J J J J)<|dt (Yg (i:=2) J J J Xt Yq J J J J)<|tt (Zh (n:=4) (Zbr _ _ _ _ ‹_› ‹_› ‹_› ‹_›) J J J K2 call178 Ze J hw) J (fun g hg=>?_)
 obtain⟨hc1,hc2,hc3⟩:=hg
 refine mv J<|dt (Ya J J J)<|dt (Ya J J J)<|dt (Ya J J J)<|tt (Zl (i:=7) J J zeroValue154 J J hw) J fun b_4 _=>tt (Zl (i:=8) J J zeroValue154 J J hw) J fun b_5 _=>tt (Zl (i:=9) J J zeroValue154 J J hw) J fun b_6 _=>tt (Zn (i:=7) J J J J J (by decide) J Yy J J ⟨Zb J,Zx (i:=4) J Zi,trivial⟩ J hw trivial) J fun _ _=>tt (Zn (i:=8) J J J J J (by decide) J Yy J J ⟨Zb J,Zx (i:=5) J Zi,trivial⟩ J hw trivial) J fun _ _=>tt (Zn (i:=9) J J J J J (by decide) J Yy J J ⟨Zb J,Zx (i:=6) J Zi,trivial⟩ J hw trivial) J fun _ _=>Zf<|Za<|Zc<|Qf (fun _=>False) [(0,0),(1,0),(3,0),(2,1),(4,1),(5,0),(6,0),(7,3),(8,3)] ?_ ?_
 ·kernel_rfl
 exact r0' J J (st0 (Yb (i:=7) J J J Lg Yy J J))<|r0' J J (st0 (Yb (i:=8) J J J Lg Yy J J))<|r0' J J (st0 (Yb (i:=9) J J J Lg Yy J J))<|r1' J (Zh (n:=10) (Zd6 _ _ _ _ _ _ ‹_› ‹_›) J J J K2 call131 (Zd 4 J J J (Zd 5 J J J Ze)) J hw) fun g_2 hg_2=>r1' J (Zh (n:=10) (Bq _ _ _ _ _ _ ‹_› ‹_› (Int.mul_ne_zero (by omega) (by omega))) J J J K2 call163 (Zd 10 J J J (Zd 6 J J J Ze)) J hw) fun _ _=>r0' J J (st0 (Ya J J J))<|r0' J J (st0 (Ya J J J))<|r3' J (Zn (i:=3) J J J J J (by decide) J Yq J J ⟨Zb J,Zb J,Zb J,Zb J,trivial⟩ J hw trivial) fun _ _=>r3' J (Qq (Ot J J) J) fun _ _=>Py<|Za<|Zt<|Yl (.inl J) hsc () _ (fun a w hs=>Ns hs results143 (Yp (i:=3) J J Xt Yq J) J) J trivial J Zk
theorem Hk(x y x2 y2:Int)(hx:bl x.natAbs≤65536)(hy:bl y.natAbs≤65536)(hx2:bl x2.natAbs≤65536)(hy2:bl y2.natAbs≤65536)(hp:0<y)(hp2:0<y2:=by decide):Mv prog 144 #[rX x y,rX x2 y2] [] (Zb1 (x*x2) (y*y2)):=by
 refine Yd func144 J ntmps144 J trivial ?_
 intro w0 sc hw hsc
 simp only [Zq,Zp]
 have b1:=Qb x y2
 have b2:=Qb x2 y
 have b3:=Qb y y2
 have b4:=Qb x x2
 refine Zc<|Zg<|tt (Xa (i:=1) J J J J J hw) J fun b _=>tt (Xa (i:=2) J J J J J hw) J fun b_2 _=>tt (Zl (i:=3) J J zeroValue41 J J hw) J fun b_3 _=>as_ J<|Zf<|Za<|Zc<|Zc<|Zg<|dt (Yg (i:=1) J J J Xt Yq J J J J)<|dt (Yg (i:=2) J J J Xt Yq J J J J)<|tt (Zh (n:=3) (Zc5 _ _ _ _ ‹_› ‹_› ‹_› ‹_› ‹_› ‹_›) J J J K2 call177 Ze J hw) J fun _ _=>dt (Yr J J)<|Zf<|Za<|Zw J<|Zj<|Za<|Zc<|Qf (fun _=>False) [(0,0),(1,0),(3,0),(4,0),(7,0),(8,0),(10,0),(11,0),(2,1),(5,1),(6,1),(9,1),(12,1),(13,1),(14,1),(15,0),(16,0),(17,3),(18,3)] ?_ ?_
 ·kernel_rfl
 refine r0' J J (st0 (Xk J J Fb J Ye J J))<|r0' J J (st0 (Yb (i:=1) J J J Qg Ye J J))<|r0' J J (st0 (Xk J J Fb J Ye J J))<|r0' J J (st0 (Yb (i:=2) J J J Qg Ye J J))<|r0' J J (st0 (Xk J J Fb J Ye J J))<|r0' J J (st0 (Yb (i:=1) J J J Qg Ye J J))<|r0' J J (st0 (Xk J J Fb J Ye J J))<|r0' J J (st0 (Yb (i:=2) J J J Qg Ye J J))<|r1' J (Zh (n:=4) (Qs _ _ (Xh _)) J J J K1 Mz Ze J hw) fun g hg=>r1' J (Zh (n:=5) (Qs _ _ (Xh _)) J J J K1 Mz Ze J hw) fun g_2 hg_2=>r1' J (Zh (n:=6) (Zbc _ _ _ _ _ _ ‹_› ‹_›) J J J K2 call176 (Zd 4 J J J (Zd 5 J J J Ze)) J hw) fun g_3 hg_3=>r1' J (Zh (n:=7) (Qs _ _ (Xh _)) J J J K1 Mz Ze J hw) fun g_4 hg_4=>r1' J (Zh (n:=8) (Qs _ _ (Xh _)) J J J K1 Mz Ze J hw) fun g_5 hg_5=>r1' J (Zh (n:=9) (Zbc _ _ _ _ _ _ ‹_› ‹_›) J J J K2 call176 (Zd 7 J J J (Zd 8 J J J Ze)) J hw) fun g_6 hg_6=>r1' J (Zh (n:=9) (Bq _ _ _ _ _ _ ‹_› ‹_› (Int.mul_ne_zero (by omega) (by omega))) J J J K2 call163 (Zd 6 J J J (Zd 9 J J J Ze)) J hw) fun _ _=>r0' J J (st0 (Ya J J J)) ?_
 exact r0' J J (st0 (Ya J J J))<|r3' J (Zn (i:=3) J J J J J (by decide) J Yq J J ⟨Zb J,Zb J,Zb J,Zb J,trivial⟩ J hw trivial) fun _ _=>r3' J (Qq (Ot J J) J) fun _ _=>Py<|Za<|Zt<|Yl (.inl J) hsc () _ (fun a w hs=>Ns hs results144 (Yp (i:=3) J J Xt Yq J) J) J trivial J Zk
theorem Zbs(x y:Int)(hx:bl x.natAbs≤65536:=by omega)(hy:bl y.natAbs≤65536:=by omega):Mv prog 84 #[wv x,wv y] [] (.int .i64 (x-y).sign):=by
 refine Yd func84 J ntmps84 J trivial ?_
 intro w0 sc hw hsc
 simp only [Zq,Zp]
 have b5:=Znw y
 have b6:=Lv x (-y)
 refine Zc<|Zg<|tt (Xa (i:=1) J J J J J hw) J fun b _=>tt (Xa (i:=2) J J J J J hw) J fun b_2 _=>as_ J<|Zf<|Za<|Zc<|Zc<|Zg<|dt (Yb (i:=1) J J J Qg Ye J J)<|dt (Yb (i:=2) J J J Qg Ye J J)<|tt (Zh (n:=2) (Lj _ _ ‹_› ‹_›) J J J K2 call129 Ze J hw) J fun _ _=>dt (Yr J J)<|Zf<|Za<|Zw J<|Zj<|Za<|Zc<|Qf (fun _=>False) [(0,0),(2,0),(1,1),(3,1),(4,1),(5,1),(6,1),(7,3)] ?_ ?_
 ·kernel_rfl
 exact r0' J J (st0 (Yb (i:=1) J J J Qg Ye J J))<|r0' J J (st0 (Yb (i:=2) J J J Qg Ye J J))<|r1' J (Zh (n:=3) (Qs _ _ (Xh _)) J J J K1 Mz Ze J hw) fun g hg=>r1' J (Zh (n:=4) (Qs _ _ (Xh _)) J J J K1 Mz Ze J hw) fun g_2 hg_2=>r1' J (Zh (n:=5) (Zkh _ _ _ ‹_›) J J J K1 call134 (Zd 4 J J J Ze) J hw) fun g_3 hg_3=>r1' J (Zh (n:=6) (Zd6 _ _ _ _ _ _ ‹_› ‹_›) J J J K2 call131 (Zd 3 J J J (Zd 5 J J J Ze)) J hw) fun g_4 hg_4=>r1' J (Zh (n:=6) (Zg7 _ _ _ ‹_›) J J J K1 call135 (Zd 6 J J J Ze) J hw) fun _ _=>r3' J (Qq (Ot J J) J) fun _ _=>Py<|Za<|Zt<|xU hsc results84 J J (by rw [Int.sub_eq_add_neg]<;>rfl)
theorem st_fits(v:Value)(xs:List Int)(hv:Vp xs):Mv prog 197 #[v] [slp 2 wv v xs] (.bool (decide (Za6 xs))):=by
 refine Yd func197 J ntmps197 J K1 ?_
 intro w0 sc hw hsc
 simp only [Zq,Zp]
 have hlen:=hv.len
 have hmz:=Oo hv.sz
 have q1:(xs.length+2)*(xs.length+2)≤27*27:=Nat.mul_le_mul (by omega) (by omega)
 have q2:(xs.length+2)*(xs.length+2)*(msz xs+16)≤27*27*65552:=Nat.mul_le_mul q1 (by omega)
 have q3:((xs.length:Int)-1+3)*((xs.length:Int)-1+3)=(((xs.length+2)*(xs.length+2):Nat):Int):=by rw [show(xs.length:Int)-1+3=((xs.length+2:Nat):Int) by omega];push_cast;rfl
 have q4:((xs.length:Int)-1+3)*((xs.length:Int)-1+3)*((msz xs:Int)+16)=(((xs.length+2)*(xs.length+2)*(msz xs+16):Nat):Int):=by rw [q3];push_cast;rfl
 refine Zc<|Zg<|as_ J<|Zf<|Za<|Zc<|Zc<|Zg<|mv J<|tt (Zh (n:=1) (Xm _ _ ‹_›) J J J K1 Zes (Zd 1 J J J Ze) J hw) J fun _ _=>dt (Yr J J)<|Zf<|Za<|Zw J<|Zj<|Za<|Zc<|Zg<|mv J<|tt (Zh (n:=1) (Zd1 _ _ hv) J J J K1 call105 (Zd 1 J J J Ze) J hw) J fun _ _=>mv J<|dt (Ya J J J)<|dt (Ya J J J)<|as_ J<|as_ J<|Zf<|Za<|Zc<|Zg<|mv J<|tt (Zh (n:=1) (Zio _ _ hv) J J J K1 call106 (Zd 1 J J J Ze) J hw) J fun _ _=>mv J<|dt (Ya J J J)<|dt (Ya J J J)<|as_ J<|as_ J<|Zf<|Za<|Zc<|Zg<|mv J<|dt (Yc J J (i:=1) J Zi Qi)<|dt (Pg J J J)<|mv J<|Qp (d:=23) J (fun s24=>?_) (fun s24=>?_)
 ·exact gsk J J J<|gsk J J J<|gsk J J J<|gsk J J J<|gsk J J J<|gsk J J J<|gsk J J J<|gsk J J J<|gsk J J J<|dt (Yi J J J)<|as_ J<|Zf<|Za<|Zt<|xU hsc results197 J J (by first | exact sf_t (by omega) | exact sf_i (by omega) q4)
 ·exact gdt (Yf J J) J J<|gdt (Yu J J J ⟨by omega,by omega⟩) J J<|gdt (Yf J J) J J<|gdt (Yu J J J ⟨by omega,by omega⟩) J J<|gdt (Cf J J J (by rw [q3];exact⟨by omega,by omega⟩)) J J<|gdt (Yf J J) J J<|gdt (Yu J J J ⟨by omega,by omega⟩) J J<|gdt (Cf J J J (by rw [q4];exact⟨by omega,by omega⟩)) J J<|gdt (Ac J J J) J J<|dt (Zo J J J)<|as_ J<|Zf<|Za<|Zt<|xU hsc results197 J J (by first | exact sf_t (by omega) | exact sf_i (by omega) q4)
theorem Zpr(v:Value)(xs:List Int)(hv:Vp xs):Mv prog 183 #[v,.slice none 0 0] [slp 2 wv v xs] (.int .i64 (chk0 xs)):=by
 refine Yd func183 J ntmps183 J K1 ?_
 intro w0 sc hw hsc
 simp only [Zq,Zp]
 refine Xc (Nt 999 2 31 wv)<|Xc (Pt 999 J J pV)<|Zc<|Zg<|as_ J<|Zf<|Za<|Zc<|Zg<|mv J<|tt (Zh (n:=1) (st_fits _ _ hv) J J J K1 call197 (Zd 1 J J J Ze) J hw) J fun _ _=>dt (Zel J J)<|as_ J<|Zf<|Za<|Zc<|Zc<|Zg<|mv J<|dt (Yc J J (i:=999) J Zi Zh5)<|mv J<|Zf<|Za<|Zm<|Mm [(0,_),(1,_),(13,_),(14,_)] [(0,_),(1,_),(999,_)] (fun(_:Unit)=>[(15,.int .i64 0),(5,.bool (decide (¬Za6 xs)))]) (fun(_:Unit)=>[]) (fun(_:Unit)=>True) (fun(_:Unit)=>0) () trivial K6 K3 ?_
 rintro _ -
 simp only [CA,NA]
 refine Zc<|Zg<|dt (Zs (r':= .bool false) (Qd J J J) (congrArg Value.bool (by decide)))<|Zf<|Za<|Zc<|Zw J<|Yx<|Zu<|Zu<|Nc<|Za<|Zc<|Zc<|Zg<|mv J<|tt (Zh (n:=1) (Xm _ _ ‹_›) J J J K1 Zes (Zd 1 J J J Ze) J hw) J fun _ _=>dt (Yr J J)<|Zf<|Za<|Zw J<|Zj<|Za<|Zc<|Zc<|Zg<|mv J<|dt (Yc J J (i:=1) J Zi Qi)<|dt (Pg J J J)<|Zf<|Za<|Zr J (fun h39=>?_) (fun h39=>?_)
 ·exact Zc<|Zg<|as_ J<|Zf<|Za<|Zt<|Ys<|xU hsc results183 J J (by unfold chk0;rw [if_pos (by omega)])
 ·refine Zj<|Za<|Zc<|Zc<|Zg<|mv J<|dt (Yc J J (i:=999) J Zi Zh5)<|dt (Zs (r':= .bool false) (Pg J J J) (congrArg Value.bool (by decide)))<|Zf<|Za<|Zw J<|Zj<|Za<|Zc<|Zc<|Zg<|mv J<|Zf<|Za<|Nn J (fun h47=>?_) (fun h47=>?_)
  ·exact Zc<|Zg<|as_ J<|Zf<|Za<|Zt<|Ys<|xU hsc results183 J J (by unfold chk0;rw [if_neg (by omega),if_neg (by simpa using h47)])
  ·exact Zj<|Za<|Zc<|Zg<|as_ J<|Zf<|Za<|Zt<|xU hsc results183 J J (by unfold chk0;rw [if_neg (by omega),if_pos (by simpa using h47)])
theorem Zjt(v:Value)(xs:List Int)(hv:Vp xs)(h0:xs≠[]):Cal prog 184 #[v] [slp 2 wv v xs] true (G:=Value) (fun r=>True) (fun r=> .tuple #[r,.int .i64 0]) (fun r=>[slp 2 wv r (nrm xs)]):=by
 refine Yd func184 J ntmps184 J K1 ?_
 intro w0 sc hw hsc
 simp only [Zq,Zp]
 have hvp:=Ku hv
 have hl0:=List.length_pos_iff.2 h0
 have hlp:=Ym xs
 have hlen:=hv.len
 refine Zc<|Zg<|as_ J<|as_ J<|Zf<|Za<|Zc<|Zg<|mv J<|tt (Zh (n:=2) (Nz _ _ hv) J J J K1 call150 (Zd 1 J J J Ze) J hw) J fun _ _=>mv J<|dt (Ya J J J)<|dt (Ya J J J)<|as_ J<|as_ J<|Zf<|Za<|Zc<|Zc<|Zg<|mv J<|dt (Zs (r':= .bool true) (Pg J J J) (congrArg Value.bool (by decide)))<|mv J<|gdt (Yf J J) J J<|gdt (Yf J J) J J<|gdt (Yc J J (i:=2) J Zi Qi) J J<|gdt (Qo J J J ⟨by omega,by omega⟩) J J<|gdt (Xf (ii:=2) (i:=((Xg xs).length-1)) J J J J Zi Qi Ye) J J<|gdt (Xx (ii:=2) 0 J J J Zi pV (by first | omega | (simp only [List.length_set];omega))) J J<|gtt (Zh (n:=2) (Mg _ (hvp.sz _)) J J J K1 call104 Ze J hw) J J J fun _ _=>gdt (Qd J J J) J J<|dt (Yi J J J)<|Zf<|Za<|Zr J (fun h56=>?_) (fun h56=>?_)
 ·exact Zc<|Zg<|mv J<|tt (Zh (n:=2) (Xb _ ⟨by decide,by decide⟩) J J J K1 Bg Ze J hw) J fun _ _=>tt (Zh (n:=3) (Fy _ _ _ hvp (by decide +kernel) (fun i=>Ag hvp.sz i)) J J J K2 call151 (Zd 2 J J J Ze) J hw) J fun _ _=>dt (Ya J J J)<|dt (Ya J J J)<|as_ J<|as_ J<|Zf<|Za<|Zt<|Ys<|Yl (.inl J) hsc _ _ (fun a w hs=>Ns hs results184 J J) J trivial J (Yh 3 J J J (by rw [Zkj (by omega) ((Ph _).1 ‹_›)]<;>rfl) Zk)
 ·exact Zj<|Za<|Zc<|Zg<|mv J<|mv J<|as_ J<|as_ J<|Zf<|Za<|Zt<|Yl (.inl J) hsc _ _ (fun a w hs=>Ns hs results184 J J) J trivial J (Yh 2 J J J (by rw [Zki (fun h=>by have h2:=(Ph _).2 h;exact absurd h2 ‹_›)]<;>rfl) Zk)
theorem st_sqf(v:Value)(xs:List Int)(hv:Vp xs)(h0:xs≠[])(hf:Za6 xs)(F:Nat)(hS:sqOK F xs):Cal prog 161 #[v] [slp 2 wv v xs] true (G:=Value) (fun r=>True) (fun r=> .tuple #[r,.int .i64 0]) (fun r=>[slp 2 wv r (sqf F xs)]):=by
 refine Yd func161 J ntmps161 J K1 ?_
 intro w0 sc hw hsc
 simp only [Zq,Zp]
 obtain⟨hS1,hS2,hS3,hS4,hS5⟩:=hS
 have hvn:=vp_nrm hv
 have hln:=Pk hv.tr
 have hvd:Vp (Pi (nrm xs)):=Zc6 hvn (fun i hi=>hS1 i (by omega))
 have hvg:=vp_pgcd hvn hvd hS3
 have hc0:=chk0_ok h0 hf
 refine Xc (Nt 999 2 31 wv)<|Xc (Pt 999 J J pV)<|Zc<|Zg<|as_ J<|as_ J<|Zf<|Za<|Zc<|Zc<|Zg<|mv J<|tt (Zh (n:=1) (Zpr _ _ hv) J J J K2 call183 (Zd 1 J J J Ze) J hw) J fun _ _=>as_ J<|Zf<|Za<|Zc<|Zg<|mv J<|dt (Xo J J J)<|Zf<|Za<|Zr J (fun h64=>?_) (fun h64=>?_)
 ·exfalso;omega
 ·refine Zj<|Za<|Zc<|Zg<|mv J<|tt (Zh (n:=2) (Zjt _ _ hv h0) J J J K1 call184 (Zd 1 J J J Ze) J hw) J fun _ _=>mv J<|dt (Ya J J J)<|dt (Ya J J J)<|as_ J<|as_ J<|Zf<|Za<|Zc<|Zc<|Zg<|mv J<|dt (Zs (r':= .bool false) (Xo J J J) (congrArg Value.bool (by decide)))<|Zf<|Za<|Zw J<|Zj<|Za<|Zc<|Zg<|mv J<|tt (Zh (n:=3) (Eu _ _ hvn (fun i=>by by_cases hi:i<xs.length;exact hS1 i hi;rw [Qe (by omega)];simp [Lf])) J J J K1 call109 (Zd 2 J J J Ze) J hw) J fun _ _=>mv J<|dt (Ya J J J)<|dt (Ya J J J)<|as_ J<|as_ J<|Zf<|Za<|Zc<|Zc<|Zg<|mv J<|dt (Zs (r':= .bool false) (Xo J J J) (congrArg Value.bool (by decide)))<|Zf<|Za<|Zw J<|Zj<|Za<|Zc<|Zg<|mv J<|mv J<|tt (Zh (n:=4) (Zml _ _ _ _ hvn hvd F hS2 hS3) J J J K2 call110 (Zd 2 J J J (Zd 3 J J J Ze)) J hw) J fun _ _=>mv J<|dt (Ya J J J)<|dt (Ya J J J)<|as_ J<|as_ J<|Zf<|Za<|Zc<|Zc<|Zg<|mv J<|dt (Zs (r':= .bool false) (Xo J J J) (congrArg Value.bool (by decide)))<|Zf<|Za<|Zw J<|Zj<|Za<|Zc<|Zg<|mv J<|mv J ?_
  exact tt (Zh (n:=5) (Bt _ _ _ _ hvn hvg hS4) J J J K2 call111 (Zd 2 J J J (Zd 4 J J J Ze)) J hw) J fun _ _=>dt (Ya J J J)<|dt (Ya J J J)<|as_ J<|as_ J<|Zf<|Za<|Zt<|Yl (.inl J) hsc _ _ (fun a w hs=>Ns hs results161 J J) (by rw [if_pos hS5]<;>rfl) trivial J (Yh 5 J J J (by rw [if_pos hS5]<;>rfl) Zk)
theorem st_next(v u:Value)(xs ys:List Int)(hv:Vp xs)(hu:Vp ys)(h0:ys≠[])(hd:Zcz xs ys=0)(hl:ys.length≤xs.length):Cal prog 162 #[v,u] [slp 2 wv v xs,slp 2 wv u ys] true (G:=Value) (fun r=>True) (fun r=> .tuple #[r,.int .i64 0]) (fun r=>[slp 2 wv r (Ld xs ys)]):=by
 refine Yd func162 J ntmps162 J K2 ?_
 intro w0 sc hw hsc
 simp only [Zq,Zp]
 have hvr:=Am hv hd
 have hvp:=Ku hvr
 have hlen:=hv.len
 have hlen2:=hu.len
 have hl0:=List.length_pos_iff.2 h0
 refine Xc (Nt 999 2 31 wv)<|Xc (Pt 999 J J pV)<|Zc<|Zg<|as_ J<|as_ J<|Zf<|Za<|Zc<|Zg<|mv J<|mv J<|tt (Zh (n:=3) (Zil _ _ _ _ hv hu hd) J J J K2 call155 (Zd 1 J J J (Zd 2 J J J Ze)) J hw) J fun _ _=>mv J<|dt (Ya J J J)<|dt (Ya J J J)<|as_ J<|as_ J<|Zf<|Za<|Zc<|Zc<|Zg<|mv J<|dt (Zs (r':= .bool false) (Xo J J J) (congrArg Value.bool (by decide)))<|mv J<|gdt (Yf J J) J J<|gdt (Yc J J (i:=3) J Zi Qi) J J<|gdt (Pg J J J) J J<|dt (Zo J J J)<|Zf<|Za<|Zr J (fun h85=>?_) (fun h85=>?_)
 ·exact Zc<|Zg<|mv J<|as_ J<|as_ J<|Zf<|Za<|Zt<|Ys<|Yl (.inl J) hsc (.slice none 0 0) _ (fun a w hs=>Ns hs results162 J J) J trivial J (My (Zps (by omega)) Zk)
 ·refine Zj<|Za<|Zc<|Zg<|mv J<|tt (Zh (n:=4) (Nz _ _ hvr) J J J K1 call150 (Zd 3 J J J Ze) J hw) J fun _ _=>mv J<|dt (Ya J J J)<|dt (Ya J J J)<|as_ J<|as_ J<|Zf<|Za<|Zc<|Zc<|Zg<|mv J<|dt (Zs (r':= .bool false) (Xo J J J) (congrArg Value.bool (by decide)))<|Zf<|Za<|Zw J<|Zj<|Za<|Zc<|Zg<|mv J<|dt (Yc J J (i:=1) J Zi Qi)<|mv J<|dt (Yc J J (i:=2) J Zi Qi)<|dt (Qo J J J ⟨by omega,by omega⟩)<|dt (Yu J J J ⟨by omega,by omega⟩)<|as_ J<|Zf<|Za<|Zc<|Zc<|Zg<|mv J<|mv J<|dt (Yc J J (i:=2) J Zi Qi)<|dt (Qo J J J ⟨by omega,by omega⟩)<|dt (Xf (ii:=2) (i:=(ys.length-1)) J J J J Zi Qi Ye)<|dt (Xx (ii:=2) 0 J J J Zi pV (by first | omega | (simp only [List.length_set];omega)))<|tt (Zh (n:=4) (Mg _ (hu.sz _)) J J J K1 call104 Ze J hw) J fun _ _=>dt (Qd J J J)<|mv J<|Qp (d:=45) J (fun s94=>?_) (fun s94=>?_)
  ·refine gdt (Yf J J) J J<|gdt (Zk8 J J J) J J<|gdt (Pg J J J) J J<|dt (Yi J J J)<|Zf<|Za<|Zr J (fun h94=>?_) (fun h94=>?_)
   ·exact Zc<|Zg<|mv J<|as_ J<|as_ J<|Zf<|Za<|Zt<|Ys<|Yl (.inl J) hsc _ _ (fun a w hs=>Ns hs results162 J J) J trivial J (Yh 4 J J J (by rw [snext_a hl ‹_› ‹_›]<;>rfl) Zk)
   ·exact Zj<|Za<|Zc<|Zg<|mv J<|tt (Zh (n:=4) (Xb _ ⟨by decide,by decide⟩) J J J K1 Bg Ze J hw) J fun _ _=>tt (Zh (n:=5) (Fy _ _ _ hvp (by decide +kernel) (fun i=>Ag hvp.sz i)) J J J K2 call151 (Zd 4 J J J Ze) J hw) J fun _ _=>dt (Ya J J J)<|dt (Ya J J J)<|as_ J<|as_ J<|Zf<|Za<|Zt<|Yl (.inl J) hsc _ _ (fun a w hs=>Ns hs results162 J J) J trivial J (Yh 5 J J J (by first | (rw [Zpu ‹_›]<;>rfl) | (rw [Zpt hl ‹_›]<;>rfl)) Zk)
  ·exact gsk J J J<|gsk J J J<|gsk J J J<|dt (Zo J J J)<|Zf<|Za<|Zw J<|Zj<|Za<|Zc<|Zg<|mv J<|tt (Zh (n:=5) (Xb _ ⟨by decide,by decide⟩) J J J K1 Bg Ze J hw) J fun _ _=>tt (Zh (n:=6) (Fy _ _ _ hvp (by decide +kernel) (fun i=>Ag hvp.sz i)) J J J K2 call151 (Zd 4 J J J Ze) J hw) J fun _ _=>dt (Ya J J J)<|dt (Ya J J J)<|as_ J<|as_ J<|Zf<|Za<|Zt<|Yl (.inl J) hsc _ _ (fun a w hs=>Ns hs results162 J J) J trivial J (Yh 6 J J J (by first | (rw [Zpu ‹_›]<;>rfl) | (rw [Zpt hl ‹_›]<;>rfl)) Zk)
theorem Zug(v:Value)(xs:List Int)(hv:Vp xs)(h0:xs≠[])(hf:Za6 xs)(F:Nat)(hC:Ze8 F xs):Cal prog 118 #[v] [slp 2 wv v xs] true (G:=Value×List (SL×List Int)) (fun r=>r.2.map Prod.snd=chn F xs) (fun r=> .tuple #[r.1,.int .i64 0]) (fun r=>[Zan 1 Zaz qZ r.1 r.2]):=by
 refine Yd func118 J ntmps118 J K1 ?_
 intro w0 sc hw hsc
 simp only [Zq,Zp]
 obtain⟨hC1,hC2,hC3⟩:=hC
 have hvq:=Zpd hv h0 hC1
 have hlq:=Zfv hv hC1
 have hvqd:Vp (Pi (sqf F xs)):=Zc6 hvq (fun i hi=>hC2 i (by omega))
 refine Xc (Nt 999 2 31 wv)<|Xc (Pt 999 J J pV)<|Zc<|Zg<|as_ J<|as_ J<|Zf<|Za<|Zc<|Zg<|mv J<|tt (Zh (n:=2) (st_sqf _ _ hv h0 hf F hC1) J J J K1 call161 (Zd 1 J J J Ze) J hw) J fun _ _=>mv J<|dt (Ya J J J)<|dt (Ya J J J)<|as_ J<|as_ J<|Zf<|Za<|Zc<|Zc<|Zg<|mv J<|dt (Zs (r':= .bool false) (Xo J J J) (congrArg Value.bool (by decide)))<|Zf<|Za<|Zw J<|Zj<|Za<|Zc<|Zg<|mv J<|tt (Zh (n:=3) (Eu _ _ hvq (fun i=>by by_cases hi:i<xs.length;exact hC2 i hi;rw [Qe (by omega)];simp [Lf])) J J J K1 call109 (Zd 2 J J J Ze) J hw) J fun _ _=>mv J<|dt (Ya J J J)<|dt (Ya J J J)<|as_ J<|as_ J<|Zf<|Za<|Zc<|Zc<|Zg<|mv J<|dt (Zs (r':= .bool true) (Pg J J J) (congrArg Value.bool (by decide)))<|Zf<|Za<|Pd J<|Zg<|mv J<|tt (Zh (n:=80) (Nz _ _ hvqd) J J J K1 call150 (Zd 3 J J J Ze) J hw) J fun _ _=>mv J<|dt (Ya J J J)<|dt (Ya J J J)<|as_ J<|as_ J<|Zf<|Za<|Zc<|Zc<|Zg<|mv J<|dt (Zs (r':= .bool false) (Xo J J J) (congrArg Value.bool (by decide)))<|Zf<|Za<|Zw J<|Zj<|Za<|Zc<|e_ex (Mb 2 J Zi) (fun ss hss=>?_)
 subst hss
 refine Xc (Ij qZ 71)<|Xc (Ki (q:=qZ) (z:=(ss,sqf F xs)) 71 2 71 J J J J J)<|e_ex (Mb 80 J Zi) (fun sd0 hsd=>?_)
 subst hsd
 refine Zg<|mv J<|tt (Ps (i:=70) (ivs:=[(0,_)]) (enc:=Zaz) [(ss,sqf F xs)] J J K2 Zjk ti23 J J J J J pS.cells J J hw) J fun v _=>as_ J<|Zf<|Za<|Zc<|Zm<|Mm [] [(0,_),(1,_),(999,_),(2,_),(3,_)] (fun(q:List (SL×List Int)×SL×List Int×SL×List Int×Nat×Value)=>[(7,q.2.2.2.2.2.2),(6,svv q.2.2.2.1)]) (fun(q:List (SL×List Int)×SL×List Int×SL×List Int×Nat×Value)=>[(70,osl 1 23 Zaz q.2.2.2.2.2.2 (q.1 ++ [(q.2.1,q.2.2.1)])),(71,Zkn qZ (q.1 ++ [(q.2.1,q.2.2.1)])),(80,slp 2 wv (svv q.2.2.2.1) q.2.2.2.2.1)]) (fun(q:List (SL×List Int)×SL×List Int×SL×List Int×Nat×Value)=>(Vp q.2.2.1)∧(Vp q.2.2.2.2.1)∧(cok q.2.2.2.2.2.1 q.2.2.1 q.2.2.2.2.1)∧(q.1.map Prod.snd ++ Mx q.2.2.2.2.2.1 q.2.2.1 q.2.2.2.2.1=chn F xs)∧(q.1.length+q.2.2.2.2.1.length≤25)) (fun(q:List (SL×List Int)×SL×List Int×SL×List Int×Nat×Value)=>q.2.2.2.2.1.length) ([],ss,sqf F xs,sd0,Xg (Pi (sqf F xs)),F,_) ⟨hvq,Ku hvqd,hC3,J,by rw [Ym];simp;have:=hvqd.len;omega⟩ K2 K8 ?_
 rintro⟨ws,sx,x,sd,y,f,vo⟩ ⟨hvx,hvy,hck,hch,hwl⟩
 dsimp only at hvx hvy hck hch hwl
 simp only [CA,NA]
 refine Zc<|Zc<|Zg<|mv J<|dt (Yc J J (i:=80) J Zi Qi)<|dt (Qr J J J)<|Zf<|Za<|Zr J (fun h114=>?_) (fun h114=>?_)
 ·have hy0:y≠[]:=fun e=>by rw [e]at h114;simp at h114
  obtain⟨f0,rfl,hd,hle,hck2,hsc2⟩:=Zhl hck hy0
  refine Zj<|Za<|Zm<|Zc<|Zg<|mv J<|mv J<|tt (Ps (i:=4) (ivs:=[(0,_)]) (enc:=Zaz) [(sd,y)] J J K2 Zjk ti23 J J J J J pS.cells J J hw) J fun v_2 _=>tt (Hw (i:=70) (j:=4) (by_:=24) J J J J J J (by decide) J (Yk pS) Zjk ti23 J pS J J J (by simp;omega) (by decide) J hw) J fun v_3 _=>as_ J<|Zf<|Za<|Zc ?_
  have hll:(ws ++ [(sx,x)] ++ [(sd,y)]).length=ws.length+2:=by simp
  refine Xc (Ki (q:=qZ) (z:=(sd,y)) 71 80 71 J J J J J)<|Xc (s_many (q:=qZ) 71 92 (sx,x) J J (by simp) J)<|Zg<|mv J<|mv J<|dt (Yc J J (i:=70) J (Yk pS) Zjk)<|dt (Qo J J J ⟨by omega,by omega⟩)<|dt (Xf (ii:=70) (i:=ws.length) J J J J (Yk pS) Zjk sizeOf23)<|dt (Zs (r':=svv sx) (Xx (ii:=70) Z0 J J J (Yk pS) pS) (by simp [List.getD_eq_getElem?_getD])) ?_
  refine mv J<|tt (Zh (n:=80) (st_next _ _ _ _ hvx hvy hy0 hd hle) J J J K2 call162 (Zd 92 J J J (Zd 80 J J J Ze)) J hw) J fun _ _=>l_ex (Mb 80 J Zi) (fun sn hsn=>?_)
  subst hsn
  exact mv J<|dt (Ya J J J)<|dt (Ya J J J)<|as_ J<|as_ J<|Zf<|Za<|Zc<|Zg<|mv J<|dt (Zs (r':= .bool false) (Xo J J J) (congrArg Value.bool (by decide)))<|Zf<|Za<|Zw J<|Zj<|Og<|Xq (ws ++ [(sx,x)],sd,y,sn,Ld x y,f0,_) ⟨hvy,Zlt hvx hd,hck2,by rw [←hch,hsc2];simp,by have h7:=Pp x hy0;have h8:=Dw (y:=y) hvx.tr;simp;omega⟩ (by have h7:=Pp x hy0;have h8:=Dw (y:=y) hvx.tr;dsimp only;omega) K2 K8
 ·refine Yx<|Zu<|Zu<|Nc<|Za<|Zc ?_
  obtain rfl:y=[]:=List.eq_nil_of_length_eq_zero (by omega)
  exact Xc (Pt 70 J J pS)<|Xc (Em 70 71 72 J J J J)<|Zg<|mv J<|as_ J<|as_ J<|Zf<|Za<|Zt<|Yl (.inl J) hsc (_,ws ++ [(sx,x)]) _ (fun a w hs=>Ns hs results118 J J) J (by rw [←hch,Ft];simp) J (Qx 72 J J J Zk)
theorem Zjy(v:Value)(m:Nat)(xs:List Int)(hv:Vp xs)(hm:m≤1000:=by omega):Mv prog 50 #[v,.int .i64 (m:Int)] [slp 2 wv v xs] (.bool (decide (Zbx xs m))):=by
 refine Yd func50 J ntmps50 J K1 ?_
 intro w0 sc hw hsc
 simp only [Zq,Zp]
 have hlen:=hv.len
 have hmz:=Oo hv.sz
 have q1:(xs.length+2)*(xs.length+2)≤27*27:=Nat.mul_le_mul (by omega) (by omega)
 have q2:(xs.length+2)*(xs.length+2)*(msz xs+m+2*(xs.length-1)+32)≤27*27*70000:=Nat.mul_le_mul q1 (by omega)
 have q3:((xs.length:Int)-1+3)*((xs.length:Int)-1+3)=(((xs.length+2)*(xs.length+2):Nat):Int):=by rw [show(xs.length:Int)-1+3=((xs.length+2:Nat):Int) by omega];push_cast;rfl
 have q4:xs.length≠0→((xs.length:Int)-1+3)*((xs.length:Int)-1+3)*((msz xs:Int)+(m:Int)+2*((xs.length:Int)-1)+32)=(((xs.length+2)*(xs.length+2)*(msz xs+m+2*(xs.length-1)+32):Nat):Int):=fun h=>by rw [q3,show(msz xs:Int)+(m:Int)+2*((xs.length:Int)-1)+32=((msz xs+m+2*(xs.length-1)+32:Nat):Int) by omega];push_cast;rfl
 refine Zc<|Zg<|as_ J<|Zf<|Za<|Zc<|Zg<|mv J<|tt (Zh (n:=1) (Zd1 _ _ hv) J J J K1 call105 (Zd 1 J J J Ze) J hw) J fun _ _=>mv J<|dt (Ya J J J)<|dt (Ya J J J)<|as_ J<|as_ J<|Zf<|Za<|Zc<|Zg<|mv J<|tt (Zh (n:=1) (Zio _ _ hv) J J J K1 call106 (Zd 1 J J J Ze) J hw) J fun _ _=>mv J<|dt (Ya J J J)<|dt (Ya J J J)<|as_ J<|as_ J<|Zf<|Za<|Zc<|Zg<|mv J<|dt (Yc J J (i:=1) J Zi Qi)<|dt (Pg J J J)<|mv J<|Qp (d:=22) J (fun s24=>?_) (fun s24=>?_)
 ·exact gsk J J J<|gsk J J J<|gsk J J J<|gsk J J J<|gsk J J J<|gsk J J J<|gsk J J J<|gsk J J J<|gsk J J J<|gsk J J J<|gsk J J J<|gsk J J J<|gsk J J J<|gsk J J J<|dt (Yi J J J)<|as_ J<|Zf<|Za<|Zt<|xU hsc results50 J J (by first | exact sgf_t (by omega) | exact sgf_i (by omega) (q4 (by omega)))
 ·exact gdt (Yf J J) J J<|gdt (Yu J J J ⟨by omega,by omega⟩) J J<|gdt (Yf J J) J J<|gdt (Yu J J J ⟨by omega,by omega⟩) J J<|gdt (Cf J J J (by rw [q3];exact⟨by omega,by omega⟩)) J J<|gdt (Yf J J) J J<|gdt (Yf J J) J J<|gdt (Yu J J J ⟨by omega,by omega⟩) J J<|gdt (Yf J J) J J<|gdt (Cf J J J ⟨by omega,by omega⟩) J J<|gdt (Yu J J J ⟨by omega,by omega⟩) J J<|gdt (Yu J J J ⟨by omega,by omega⟩) J J<|gdt (Cf J J J (by rw [q4 (by omega)];exact⟨by omega,by omega⟩)) J J<|gdt (Ac J J J) J J<|dt (Zo J J J)<|as_ J<|Zf<|Za<|Zt<|xU hsc results50 J J (by first | exact sgf_t (by omega) | exact sgf_i (by omega) (q4 (by omega)))
theorem Zgo(v:Value)(xs:List Int)(hv:Vp xs):Mv prog 14 #[v] [slp 2 wv v xs] (.bool (decide (Zbx xs 0))):=by
 refine Yd func14 J ntmps14 J K1 ?_
 intro w0 sc hw hsc
 simp only [Zq,Zp]
 exact Zc<|Zg<|as_ J<|Zf<|Za<|Zc<|Zg<|mv J<|tt (Zh (n:=1) (Xm _ _ ‹_›) J J J K1 Zes (Zd 1 J J J Ze) J hw) J fun _ _=>mv J<|gdt (Yf J J) J J<|gtt (Zh (n:=1) (Zjy _ 0 xs hv) J J J K2 call50 (Zd 1 J J J Ze) J hw) J J J fun _ _=>dt (Yi J J J)<|as_ J<|Zf<|Za<|Zt<|xU hsc results14 J J J
theorem Mj(x y:Int)(hx:bl x.natAbs≤65536:=by omega)(hy:bl y.natAbs≤65536:=by omega):Mv prog 95 #[rX x y] [] (.bool (efit (x,y))):=by
 refine Yd func95 J ntmps95 J trivial ?_
 intro w0 sc hw hsc
 simp only [Zq,Zp]
 refine Zc<|Zg<|tt (Xa (i:=1) J J J J J hw) J fun bx _=>as_ J<|Zf<|Za<|Zc<|Qf (fun _=>False) [(0,0),(1,0),(3,0),(4,0),(2,1),(5,1),(6,0),(7,0),(8,3)] ?_ ?_
 ·kernel_rfl
 exact r0' J J (st0 (Xk J J Fb J Ye J J))<|r0' J J (st0 (Yb (i:=1) J J J Qg Ye J J))<|r0' J J (st0 (Xk J J Fb J Ye J J))<|r0' J J (st0 (Yb (i:=1) J J J Qg Ye J J))<|r1' J (Zh (n:=1) (Zf9 _ hx) J J J K1 call145 Ze J hw) fun _ _=>r1' J (Zh (n:=1) (Zf9 _ hy) J J J K1 call145 Ze J hw) fun _ _=>r0' J J (st0 (Zsw J J J))<|r0' J J (st0 (Ac J J J))<|r3' J (Qq (Ot J J) J) fun _ _=>Py<|Za<|Zt<|xU hsc results95 J J (by unfold efit;exact congrArg Value.bool (decide_eq_decide.2 (by dsimp only;omega)))
theorem Ii(x y x2 y2:Int)(hp:0<y)(hp2:0<y2)(hx:bl x.natAbs≤65536:=by omega)(hy:bl y.natAbs≤65536:=by omega)(hx2:bl x2.natAbs≤65536:=by omega)(hy2:bl y2.natAbs≤65536:=by omega):Mv prog 96 #[rX x y,rX x2 y2] [] (.int .i64 (cmp (x,y) (x2,y2))):=by
 refine Yd func96 J ntmps96 J trivial ?_
 intro w0 sc hw hsc
 simp only [Zq,Zp]
 exact Zc<|Zg<|tt (Xa (i:=1) J J J J J hw) J fun bx _=>tt (Xa (i:=2) J J J J J hw) J fun bx_2 _=>as_ J<|Zf<|Za<|Zc<|Zg<|dt (Yg (i:=1) J J J Xt Yq J J J J)<|dt (Yg (i:=2) J J J Xt Yq J J J J)<|tt (Zh (n:=2) (Za1 _ _ _ _ hx hy hx2 hy2 hp hp2) J J J K2 call146 Ze J hw) J fun _ _=>mv J<|dt (Ya J J J)<|dt (Ya J J J)<|as_ J<|as_ J<|Zf<|Za<|Zc<|Zg<|mv J<|as_ J<|Zf<|Za<|Zt<|xU hsc results96 J J J
theorem Zuu(bs:Nat)(v:Value)(xs:List Int)(x y:Int)(hx:bl x.natAbs≤65536)(hy:bl y.natAbs≤65536)(hp:0<y)(hv:Vp xs)(hE:¬Ka xs x y):Mv prog 120 #[.pointer (some ⟨bs,0,none⟩),v,rX x y] [Zfo bs 102 #[.int .i64 0],slp 2 wv v xs] (.int .i64 (fat x y xs)):=by
 refine Yd func120 J ntmps120 J K2 ?_
 intro w0 sc hw hsc
 simp only [Zq,Zp]
 exact Zc<|Zg<|tt (Xa (i:=3) J J J J J hw) J fun bx _=>as_ J<|Zf<|Za<|Zc<|Zg<|mv J<|dt (Yg (i:=3) J J J Xt Yq J J J J)<|tt (Zh (n:=3) (Zj8 _ _ _ _ hv hx hy hp) J J J K2 call164 (Zd 2 J J J Ze) J hw) J fun _ _=>mv J<|dt (Ya J J J)<|dt (Zs (r':= .int .i64 0) (Ya J J J) (congrArg (Value.int .i64) (if_neg hE)))<|as_ J<|as_ J<|Zf<|Za<|Zc<|Zc<|Zg<|mv J<|dt (Ze5 J J)<|dt (Xk J J Ks J Gj J J)<|dt (Zwg (i:=1) J J J Ai J)<|dt (Zs (r':= .bool true) (Pg J J J) (congrArg Value.bool (by decide)))<|Zf<|Za<|Pd J<|Zg<|mv J<|mv J<|dt (Ze5 J J)<|dt (Xk J J Ks J Gj J J)<|tt (Zoa (i:=1) J J J J J J Gj J J (by simp [Value.oneCell']) J) J fun _ _=>Zf<|Za<|Zc<|Zg<|mv J<|as_ J<|Zf<|Za<|Zt<|xU hsc results120 J J (by unfold fat;rw [show evv xs x y=pev xs x y from if_neg hE]<;>rfl)
theorem Aq(v1 v2:Value)(bs:Nat)(ls cs:List (SL×List Int))(x y:Int)(hp:0<y)(hlsv:∀z∈ls,Vp z.2)(hlsE:∀z∈ls,¬Ka z.2 x y)(hx:bl x.natAbs≤65536:=by omega)(hy:bl y.natAbs≤65536:=by omega):Mv prog 62 #[.agg #[v1,v2],.pointer (some ⟨bs,0,none⟩),rX x y] [Zan 1 Zaz qZ v1 ls,Zan 1 Zaz qZ v2 cs,Zfo bs 102 #[.int .i64 0]] (.int .i64 (vlu (ls.map Prod.snd) (x,y))):=by
 refine Yd func62 J ntmps62 J K3 ?_
 intro w0 sc hw hsc
 simp only [Zq,Zp]
 refine Oe (Lu (i:=1) J Xl) fun hlen=>Zc<|Zg<|tt (Xa (i:=4) J J J J J hw) J fun bx _=>tt (Xa (i:=5) J J J J J hw) J fun bx_2 _=>as_ J<|Zf<|Za<|Zc<|Zc<|Zg<|dt (Xk J J Zt6 J Zo7 J J)<|dt (Pr (i:=4) J J J isAgg96 J)<|dt (Yc J J (i:=1) J Xl Zjk)<|dt (Pg J J J)<|Zf<|Za<|Zr J (fun h160=>?_) (fun h160=>?_)
 ·exact Zc<|Zg<|as_ J<|Zf<|Za<|Zt<|Ys<|xU hsc results62 J J (by unfold vlu;rw [List.length_map,if_pos (by omega)]<;>rfl)
 ·refine Zj<|Za<|Zc<|Qf (fun _=>False) [(0,0),(1,0),(2,0),(3,0),(4,0),(5,0),(6,1),(7,3)] ?_ ?_
  ·kernel_rfl
  exact r0' J J (st0 (Yf J J))<|r0' J J (st0 (Xk J J Zt6 J Zo7 J J))<|r0' J J (st0 (Pr (i:=4) J J J isAgg96 J))<|r0' J J (st0 (Xf (ii:=1) (i:=0) J J J J Xl Zjk sizeOf23 J))<|r0' J J (st0 (Xx (ii:=1) Z0 J J J Xl pS))<|r0' J J (st0 (Yg (i:=5) J J J Xt Yq J J J J))<|r1' J (Zh (n:=5) (Zuu _ (svv (ls.getD 0 Z0).1) (ls.getD 0 Z0).2 _ _ hx hy hp (hlsv (ls.getD 0 Z0) (Pu)) (hlsE (ls.getD 0 Z0) (Pu))) J J J K3 call120 (Zd 3 J J J (pre_dZ 1 J J (Pu (i:=0) (zs:=ls) (d:=Z0)) Ze)) J hw) fun _ _=>r3' J (Qq (Ot J J) J) fun _ _=>Py<|Za<|Zt<|xU hsc results62 J J (by unfold vlu;rw [List.length_map,if_neg (by omega),Zdn _ (by omega)]<;>rfl)
theorem Zl5(v1 v2:Value)(bs:Nat)(ls cs:List (SL×List Int))(x y:Int)(hx:bl x.natAbs≤65536)(hy:bl y.natAbs≤65536)(hp:0<y)(hlsv:∀z∈ls,Vp z.2)(hlsE:∀z∈ls,¬Ka z.2 x y):Mv prog 99 #[.agg #[v1,v2],.pointer (some ⟨bs,0,none⟩),rX x y] [Zan 1 Zaz qZ v1 ls,Zan 1 Zaz qZ v2 cs,Zfo bs 102 #[.int .i64 0]] (.int .i64 (aft (ls.map Prod.snd) (x,y))):=by
 refine Yd func99 J ntmps99 J K3 ?_
 intro w0 sc hw hsc
 simp only [Zq,Zp]
 refine Oe (Lu (i:=1) J Xl) (fun hlen=>?_)
 have hLl:=Zfw ls (fat x y)
 have hLg:=fun i (h:i<ls.length)=>Zl3 ls (fat x y) h
 refine Zc<|Zg<|tt (Xa (i:=4) J J J J J hw) J fun bx _=>tt (Xa (i:=5) J J J J J hw) J fun bx_2 _=>as_ J<|Zf<|Za<|Zc<|Zc<|Zg<|dt (Xk J J Zt6 J Zo7 J J)<|dt (Pr (i:=4) J J J isAgg96 J)<|dt (Yc J J (i:=1) J Xl Zjk)<|mv J<|Zf<|Za<|Zm<|Mm [(1,_),(5,_),(11,_),(12,_)] [(0,_),(1,_),(2,_),(3,_),(4,_),(5,_)] (fun(i:Nat)=>[(13,.int .i64 (i:Int))]) (fun(i:Nat)=>[]) (fun(i:Nat)=>(i≤ls.length)∧(∀k,k<i→(sgx ls (fat x y)).getD k 0=0)) (fun(i:Nat)=>ls.length-i) 0 ⟨by first | omega | (dsimp only<;>omega),fun k hk=>absurd hk (Nat.not_lt_zero k)⟩ K5 K6 ?_
 rintro i ⟨hi,hz⟩
 simp only [CA,NA]
 refine Zc<|Zg<|dt (Qd J J J)<|Zf<|Za<|Zc<|Zr J (fun h168=>?_) (fun h168=>?_)
 ·refine Zj<|Za<|Zc<|Zm<|Zc<|Zg<|dt (Xf (ii:=1) J J J J Xl Zjk sizeOf23 J (by first | omega | (simp only [List.length_set];omega)))<|dt (Xx (ii:=1) Z0 J J J Xl pS (by first | omega | (simp only [List.length_set];omega)))<|as_ J<|Zf<|Za<|Zc<|Xc (s_deep 1 91 (ls.getD i Z0) J J (Pu) J)<|Zg<|mv J<|mv J<|dt (Yg (i:=5) J J J Xt Yq J J J J)<|tt (Zh (n:=5) (Zuu _ (svv (ls.getD i Z0).1) (ls.getD i Z0).2 _ _ hx hy hp (hlsv (ls.getD i Z0) (Pu)) (hlsE (ls.getD i Z0) (Pu))) J J J K3 call120 (Zd 3 J J J (Zd 91 J J J Ze)) J hw) J fun _ _=>as_ J<|Zf<|Za<|Zc<|Zg<|mv J<|dt (Xo J J J)<|Zf<|Za<|Zr J (fun h169=>?_) (fun h169=>?_)
  ·exact Zc<|Zg<|mv J<|as_ J<|Zf<|Za<|Zt<|Lx<|Ys<|Ys<|Lx<|Ys<|xU hsc results99 J J (by rw [Ztq,Zm6 ‹_› (by omega) hz (hLg i (by omega))]<;>rfl)
  ·exact Zj<|Og<|Za<|Zg<|dt (Yu J J J ⟨by omega,by omega⟩)<|mv J<|Zf<|Xq (i+1) ⟨by first | omega | (dsimp only<;>omega),fun k hk2=>by rcases Nat.lt_succ_iff_lt_or_eq.1 hk2 with h9 | h9;exact hz k h9;subst h9;rw [hLg _ (by omega)];exact Decidable.byContradiction ‹_›⟩ (by first | omega | (dsimp only<;>omega)) K5 K6
 ·exact Yx<|Zu<|Zu<|Nc<|Za<|Zc<|Zg<|as_ J<|Zf<|Za<|Zt<|xU hsc results99 J J (by rw [Ztq,Zi1 (fun k hk=>hz k (by omega))]<;>rfl)
theorem Zfi(v1 v2:Value)(bs:Nat)(ls cs:List (SL×List Int))(x y:Int)(hx:bl x.natAbs≤65536)(hy:bl y.natAbs≤65536)(hp:0<y)(hcsv:∀z∈cs,Vp z.2)(hcsE:∀z∈cs,¬Ka z.2 x y):Mv prog 148 #[.agg #[v1,v2],.pointer (some ⟨bs,0,none⟩),rX x y] [Zan 1 Zaz qZ v1 ls,Zan 1 Zaz qZ v2 cs,Zfo bs 102 #[.int .i64 0]] (.int .i64 (chv (cs.map Prod.snd) (x,y))):=by
 refine Yd func148 J ntmps148 J K3 ?_
 intro w0 sc hw hsc
 simp only [Zq,Zp]
 refine Oe (Lu (i:=2) J Xl) (fun hlen=>?_)
 have hLl:=Zfw cs (fat x y)
 have hLg:=fun i (h:i<cs.length)=>Zl3 cs (fat x y) h
 refine Zc<|Zg<|tt (Xa (i:=4) J J J J J hw) J fun bx _=>tt (Xa (i:=5) J J J J J hw) J fun bx_2 _=>as_ J<|Zf<|Za<|Zc<|Zg<|as_ J<|as_ J<|Zf<|Za<|Zc<|Zc<|Zg<|dt (Xk J J Zt6 J Zo7 J J)<|dt (Pr (i:=4) J J J isAgg96 J)<|dt (Yc J J (i:=2) J Xl Zjk)<|mv J<|Zf<|Za<|Zm<|Mm [(1,_),(5,_),(13,_),(14,_)] [(0,_),(1,_),(2,_),(3,_),(4,_),(5,_)] (fun(q:Nat×Int×Int)=>[(15,.int .i64 (q.1:Int)),(7,.int .i64 q.2.1),(8,.int .i64 q.2.2)]) (fun(q:Nat×Int×Int)=>[]) (fun(q:Nat×Int×Int)=>(q.1≤cs.length)∧((q.2.1,q.2.2)=((sgx cs (fat x y)).take q.1).foldl Hf (0,0))∧(0≤q.2.1)∧(q.2.1≤(q.1:Int))∧(-1≤q.2.2∧q.2.2≤1)) (fun(q:Nat×Int×Int)=>cs.length-q.1) (0,0,0) ⟨by first | omega | (dsimp only<;>omega),by simp,by first | omega | (dsimp only<;>omega),by first | omega | (dsimp only<;>omega),by first | omega | (dsimp only<;>omega)⟩ K7 K6 ?_
 rintro⟨i,n,l⟩ ⟨hi,hc,hn0,hn1,hl⟩
 dsimp only at hi hc hn0 hn1 hl
 simp only [CA,NA]
 have hfr:=fat_r x y (cs.getD i Z0).2
 refine Zc<|Zg<|dt (Qd J J J)<|Zf<|Za<|Zc<|Zr J (fun h179=>?_) (fun h179=>?_)
 ·refine Zj<|Za<|Zc<|Zm<|Zc<|Zg<|dt (Xf (ii:=2) J J J J Xl Zjk sizeOf23 J (by first | omega | (simp only [List.length_set];omega)))<|dt (Xx (ii:=2) Z0 J J J Xl pS (by first | omega | (simp only [List.length_set];omega)))<|as_ J<|Zf<|Za<|Zc<|Xc (s_deep 2 91 (cs.getD i Z0) J J (Pu) J)<|Zg<|mv J<|mv J<|dt (Yg (i:=5) J J J Xt Yq J J J J)<|tt (Zh (n:=5) (Zuu _ (svv (cs.getD i Z0).1) (cs.getD i Z0).2 _ _ hx hy hp (hcsv (cs.getD i Z0) (Pu)) (hcsE (cs.getD i Z0) (Pu))) J J J K3 call120 (Zd 3 J J J (Zd 91 J J J Ze)) J hw) J fun _ _=>as_ J<|Zf<|Za<|Zc<|Zc<|Zg<|mv J<|mv J<|dt (Cf J J J (sgm_i hfr hl))<|dt (Qd J J J)<|Zf<|Za<|Zr J (fun h181=>?_) (fun h181=>?_)
  ·refine Zg<|mv J<|dt (Yu J J J ⟨by omega,by omega⟩)<|as_ J<|Zf<|Za<|Zc<|Zg<|mv J<|dt (Xo J J J)<|Zf<|Za<|Zr J (fun h184=>?_) (fun h184=>?_)
   ·exact Zg<|mv J<|as_ J<|Zf<|Og<|Za<|Zg<|dt (Yu J J J ⟨by omega,by omega⟩)<|mv J<|Zf<|Xq (i+1,_,_) ⟨by first | omega | (dsimp only<;>omega),by first | exact Zwm (by omega) hc (hLg i (by omega)) (Decidable.byContradiction ‹_›) | exact Zwl (by omega) hc (hLg i (by omega)) ‹_› (Zuq hfr (by omega) ‹_›) | exact Zwk (by omega) hc (hLg i (by omega)) ‹_› (Zup hfr (by omega) ‹_› ‹_›) | exact absurd ‹_› (Zur (Decidable.byContradiction ‹_›)),by first | exact hn0 | (dsimp only;omega),by dsimp only;omega,by first | exact hl | exact hfr⟩ (by first | omega | (dsimp only<;>omega)) K7 K6
   ·exact Zj<|Og<|Za<|Zg<|dt (Yu J J J ⟨by omega,by omega⟩)<|mv J<|Zf<|Xq (i+1,_,_) ⟨by first | omega | (dsimp only<;>omega),by first | exact Zwm (by omega) hc (hLg i (by omega)) (Decidable.byContradiction ‹_›) | exact Zwl (by omega) hc (hLg i (by omega)) ‹_› (Zuq hfr (by omega) ‹_›) | exact Zwk (by omega) hc (hLg i (by omega)) ‹_› (Zup hfr (by omega) ‹_› ‹_›) | exact absurd ‹_› (Zur (Decidable.byContradiction ‹_›)),by first | exact hn0 | (dsimp only;omega),by dsimp only;omega,by first | exact hl | exact hfr⟩ (by first | omega | (dsimp only<;>omega)) K7 K6
  ·refine Zj<|Za<|Zc<|Zg<|mv J<|dt (Xo J J J)<|Zf<|Za<|Zr J (fun h184_2=>?_) (fun h184_2=>?_)
   ·exact Zg<|mv J<|as_ J<|Zf<|Og<|Za<|Zg<|dt (Yu J J J ⟨by omega,by omega⟩)<|mv J<|Zf<|Xq (i+1,_,_) ⟨by first | omega | (dsimp only<;>omega),by first | exact Zwm (by omega) hc (hLg i (by omega)) (Decidable.byContradiction ‹_›) | exact Zwl (by omega) hc (hLg i (by omega)) ‹_› (Zuq hfr (by omega) ‹_›) | exact Zwk (by omega) hc (hLg i (by omega)) ‹_› (Zup hfr (by omega) ‹_› ‹_›) | exact absurd ‹_› (Zur (Decidable.byContradiction ‹_›)),by first | exact hn0 | (dsimp only;omega),by dsimp only;omega,by first | exact hl | exact hfr⟩ (by first | omega | (dsimp only<;>omega)) K7 K6
   ·exact Zj<|Og<|Za<|Zg<|dt (Yu J J J ⟨by omega,by omega⟩)<|mv J<|Zf<|Xq (i+1,_,_) ⟨by first | omega | (dsimp only<;>omega),by first | exact Zwm (by omega) hc (hLg i (by omega)) (Decidable.byContradiction ‹_›) | exact Zwl (by omega) hc (hLg i (by omega)) ‹_› (Zuq hfr (by omega) ‹_›) | exact Zwk (by omega) hc (hLg i (by omega)) ‹_› (Zup hfr (by omega) ‹_› ‹_›) | exact absurd ‹_› (Zur (Decidable.byContradiction ‹_›)),by first | exact hn0 | (dsimp only;omega),by dsimp only;omega,by first | exact hl | exact hfr⟩ (by first | omega | (dsimp only<;>omega)) K7 K6
 ·exact Yx<|Zu<|Zu<|Nc<|Za<|Zc<|Zg<|mv J<|as_ J<|Zf<|Za<|Zt<|xU hsc results148 J J (by rw [chv_sgx,chg_end (by omega) hc]<;>rfl)
theorem Zfh(v1 v2:Value)(bs:Nat)(ls cs:List (SL×List Int))(x y x2 y2:Int)(hx:bl x.natAbs≤65536)(hy:bl y.natAbs≤65536)(hx2:bl x2.natAbs≤65536)(hy2:bl y2.natAbs≤65536)(hp:0<y)(hp2:0<y2)(hcsv:∀z∈cs,Vp z.2)(hcsE:∀z∈cs,¬Ka z.2 x y)(hcsF:∀z∈cs,¬Ka z.2 x2 y2)(hlc:cs.length≤1000):Mv prog 100 #[.agg #[v1,v2],.pointer (some ⟨bs,0,none⟩),rX x y,rX x2 y2] [Zan 1 Zaz qZ v1 ls,Zan 1 Zaz qZ v2 cs,Zfo bs 102 #[.int .i64 0]] (.bool (crb (cs.map Prod.snd) (x,y) (x2,y2))):=by
 refine Yd func100 J ntmps100 J K3 ?_
 intro w0 sc hw hsc
 simp only [Zq,Zp]
 refine Oe (Lu (i:=2) J Xl) (fun hlen=>?_)
 have hr1:=chv_r (cs.map Prod.snd) (x,y)
 have hr2:=chv_r (cs.map Prod.snd) (x2,y2)
 rw [List.length_map]at hr1 hr2
 refine Zc<|Zg<|tt (Xa (i:=4) J J J J J hw) J fun bx _=>tt (Xa (i:=5) J J J J J hw) J fun bx_2 _=>tt (Xa (i:=6) J J J J J hw) J fun bx_3 _=>as_ J<|Zf<|Za<|Zc<|Zc<|Zg<|dt (Xk J J Zt6 J Zo7 J J)<|dt (Pr (i:=4) J J J isAgg96 J)<|dt (Yc J J (i:=2) J Xl Zjk)<|dt (Pg J J J)<|Zf<|Za<|Zr J (fun h193=>?_) (fun h193=>?_)
 ·exact Zc<|Zg<|as_ J<|Zf<|Za<|Zt<|Ys<|xU hsc results100 J J (by unfold crb;rw [List.length_map,if_pos (by omega)]<;>rfl)
 ·refine Zj<|Za<|Zc<|Qf (fun _=>False) [(0,0),(1,0),(2,0),(4,0),(5,0),(6,0),(3,1),(7,1),(8,0),(9,3)] ?_ ?_
  ·kernel_rfl
  refine r0' J J (st0 (Yb (i:=4) J J J Zcg Ck J J))<|r0' J J (st0 (Yf J J))<|r0' J J (st0 (Yg (i:=5) J J J Xt Yq J J J J))<|r0' J J (st0 (Yb (i:=4) J J J Zcg Ck J J))<|r0' J J (st0 (Yf J J))<|r0' J J (st0 (Yg (i:=6) J J J Xt Yq J J J J))<|r1' J (Zh (n:=6) (Zfi _ _ _ _ _ _ _ hx hy hp hcsv hcsE) J J J K3 call148 (Zd 1 J J J (Zd 2 J J J (Zd 3 J J J Ze))) J hw) fun _ _=>r1' J (Zh (n:=6) (Zfi _ _ _ _ _ _ _ hx2 hy2 hp2 hcsv hcsF) J J J K3 call148 (Zd 1 J J J (Zd 2 J J J (Zd 3 J J J Ze))) J hw) fun _ _=>r0' J J (st0 (Qo J J J ⟨by omega,by omega⟩))<|r3' J (Qq (Ot J J) J) fun _ _=>Py<|Za<|Zc<|Zc<|Qf (fun _=>False) [(0,0),(1,0),(2,0),(3,0),(4,0),(5,0),(6,1),(7,0)] ?_ ?_
  ·kernel_rfl
  refine r0' J J (st0 (Yf J J))<|r0' J J (st0 (Xk J J Zt6 J Zo7 J J))<|r0' J J (st0 (Pr (i:=4) J J J isAgg96 J))<|r0' J J (st0 (Xf (ii:=2) (i:=0) J J J J Xl Zjk sizeOf23 J))<|r0' J J (st0 (Xx (ii:=2) Z0 J J J Xl pS))<|r0' J J (st0 (Yg (i:=6) J J J Xt Yq J J J J))<|r1' J (Zh (n:=6) (Zuu _ (svv (cs.getD 0 Z0).1) (cs.getD 0 Z0).2 _ _ hx2 hy2 hp2 (hcsv (cs.getD 0 Z0) (Pu)) (hcsF (cs.getD 0 Z0) (Pu))) J J J K3 call120 (Zd 3 J J J (pre_dZ 2 J J (Pu (i:=0) (zs:=cs) (d:=Z0)) Ze)) J hw) fun _ _=>r0' J J (st0 (Pg J J J))<|Py<|Za<|Zr J (fun h197=>?_) (fun h197=>?_)
  ·exact Zg<|mv J<|dt (Qo J J J ⟨by omega,by omega⟩)<|as_ J<|Zf<|Za<|Zc<|Zg<|mv J<|dt (Qr J J J)<|as_ J<|Zf<|Za<|Zt<|xU hsc results100 J J (by first | exact crb_t (by omega) ‹_› | exact crb_f (by omega) ‹_›)
  ·exact Zj<|Za<|Zc<|Zg<|mv J<|dt (Qr J J J)<|as_ J<|Zf<|Za<|Zt<|xU hsc results100 J J (by first | exact crb_t (by omega) ‹_› | exact crb_f (by omega) ‹_›)
theorem Lk(v1 v2:Value)(bs:Nat)(ls cs:List (SL×List Int))(x y x2 y2:Int)(hp:0<y)(hp2:0<y2)(hlsv:∀z∈ls,Vp z.2)(hlsE:∀z∈ls,¬Ka z.2 x y)(hcsv:∀z∈cs,Vp z.2)(hcsE:∀z∈cs,¬Ka z.2 x y)(hcsF:∀z∈cs,¬Ka z.2 x2 y2)(hlc:cs.length≤1000)(hx:bl x.natAbs≤65536:=by omega)(hy:bl y.natAbs≤65536:=by omega)(hx2:bl x2.natAbs≤65536:=by omega)(hy2:bl y2.natAbs≤65536:=by omega):Mv prog 61 #[.agg #[v1,v2],.pointer (some ⟨bs,0,none⟩),rX x y,rX x2 y2] [Zan 1 Zaz qZ v1 ls,Zan 1 Zaz qZ v2 cs,Zfo bs 102 #[.int .i64 0]] (.bool (ngb (ls.map Prod.snd) (cs.map Prod.snd) (x,y) (x2,y2))):=by
 refine Yd func61 J ntmps61 J K3 ?_
 intro w0 sc hw hsc
 simp only [Zq,Zp]
 refine Zc<|Zg<|tt (Xa (i:=4) J J J J J hw) J fun bx _=>tt (Xa (i:=5) J J J J J hw) J fun bx_2 _=>tt (Xa (i:=6) J J J J J hw) J fun bx_3 _=>as_ J<|Zf<|Za<|Zc<|Zc<|Zg<|dt (Yg (i:=5) J J J Xt Yq J J J J)<|dt (Yg (i:=6) J J J Xt Yq J J J J)<|tt (Zh (n:=6) (Ii _ _ _ _ hp hp2 hx hy hx2 hy2) J J J K2 call96 Ze J hw) J fun _ _=>dt (Pg J J J)<|Zf<|Za<|Zr J (fun h205=>?_) (fun h205=>?_)
 ·exact Zc<|Zg<|dt (Yb (i:=4) J J J Zcg Ck J J)<|mv J<|dt (Yg (i:=5) J J J Xt Yq J J J J)<|tt (Zh (n:=6) (Aq _ _ _ _ _ _ _ hp hlsv hlsE hx hy) J J J K3 call62 (Zd 1 J J J (Zd 2 J J J (Zd 3 J J J Ze))) J hw) J fun _ _=>dt (Qd J J J)<|as_ J<|Zf<|Za<|Zt<|Ys<|xU hsc results61 J J (by unfold ngb;rw [if_pos ‹_›])
 ·refine Zj<|Za<|Zc<|Zg<|dt (Yb (i:=4) J J J Zcg Ck J J)<|mv J<|dt (Yg (i:=5) J J J Xt Yq J J J J)<|tt (Zh (n:=6) (Zl5 _ _ _ _ _ _ _ hx hy hp hlsv hlsE) J J J K3 call99 (Zd 1 J J J (Zd 2 J J J (Zd 3 J J J Ze))) J hw) J fun _ _=>dt (Qd J J J)<|mv J<|Qp (d:=23) J (fun s208=>?_) (fun s208=>?_)
  ·exact gsk J J J<|gsk J J J<|gsk J J J<|gsk J J J<|gsk J J J<|dt (Yi J J J)<|as_ J<|Zf<|Za<|Zt<|xU hsc results61 J J (by first | exact ngb_t ‹_› ‹_› | exact ngb_f ‹_› ‹_›)
  ·exact gdt (Yb (i:=4) J J J Zcg Ck J J) J J<|gdt (Yf J J) J J<|gdt (Yg (i:=5) J J J Xt Yq J J J J) J J<|gdt (Yg (i:=6) J J J Xt Yq J J J J) J J<|gtt (Zh (n:=6) (Zfh _ _ _ _ _ _ _ _ _ hx hy hx2 hy2 hp hp2 hcsv hcsE hcsF hlc) J J J K4 call100 (Zd 1 J J J (Zd 2 J J J (Zd 3 J J J Ze))) J hw) J J J fun _ _=>dt (Zo J J J)<|as_ J<|Zf<|Za<|Zt<|xU hsc results61 J J (by first | exact ngb_t ‹_› ‹_› | exact ngb_f ‹_› ‹_›)
theorem Zib(bs:Nat)(x y x2 y2:Int)(hp:0<y)(hp2:0<y2)(hm:Ze4 (x,y) (x2,y2))(hx:bl x.natAbs≤65536:=by omega)(hy:bl y.natAbs≤65536:=by omega)(hx2:bl x2.natAbs≤65536:=by omega)(hy2:bl y2.natAbs≤65536:=by omega):Mv prog 94 #[.pointer (some ⟨bs,0,none⟩),rX x y,rX x2 y2] [Zfo bs 102 #[.int .i64 0]] (.agg #[.bool (decide ((Mi (x,y) (x2,y2)).1<0)),.string (Qc (Mi (x,y) (x2,y2)).1.natAbs),.bool (decide ((Mi (x,y) (x2,y2)).2<0)),.string (Qc (Mi (x,y) (x2,y2)).2.natAbs)]):=by
 refine Yd func94 J ntmps94 J K1 ?_
 intro w0 sc hw hsc
 simp only [Zq,Zp]
 have hq:¬Ik (x*y2+x2*y) (y*y2):=hm.1
 obtain⟨hn1,hn2,hn3⟩:=Zd7 hq
 obtain⟨hb1,hb2⟩:=nr_bl hq
 have hdp:=Zq8 hq (Int.mul_pos hp hp2)
 have hm2:=Zrj hm
 refine Zc<|Zg<|tt (Xa (i:=2) J J J J J hw) J fun bx _=>tt (Xa (i:=3) J J J J J hw) J fun bx_2 _=>tt (Zl (i:=4) J J zeroValue41 J J hw) J fun bx_3 _=>Zf<|Za<|Zc<|Zg<|dt (Yg (i:=2) J J J Xt Yq J J J J)<|dt (Yg (i:=3) J J J Xt Yq J J J J)<|tt (Zh (n:=4) (Zga _ _ _ _ hx hy hx2 hy2 hp hp2) J J J K2 call143 Ze J hw) J fun _ _=>mv J<|dt (Ya J J J)<|dt (Zs (r':= .int .i64 0) (Ya J J J) (congrArg (Value.int .i64) hn3))<|tt (Zl (i:=5) J J zeroValue41 J J hw) J fun bx_4 _=>tt (Zn (i:=5) J J J J J (by decide) J Yq J J ⟨Zb J,Zb J,Zb J,Zb J,trivial⟩ J hw trivial) J fun _ _=>as_ J<|Zf<|Za<|Zc<|Zc<|Zg<|mv J<|dt (Ze5 J J)<|dt (Xk J J Ks J Gj J J)<|dt (Zwg (i:=1) J J J Ai J)<|dt (Zs (r':= .bool true) (Pg J J J) (congrArg Value.bool (by decide)))<|Zf<|Za<|Pd J<|Zg<|mv J<|mv J<|dt (Ze5 J J)<|dt (Xk J J Ks J Gj J J)<|tt (Zoa (i:=1) J J J J J J Gj J J (by simp [Value.oneCell']) J) J fun _ _=>Zf<|Za<|Zc<|Mc [5] [10]<|Zz (n:=10) [(0,0)]<|r0' J J (stf (Yg (i:=5) J J J Xt Yq J J J J) K1)<|Yt<|Pf (n:=9) 1 8 ?_ ?_
 ·refine Yo J (Zh (n:=5) (Xb _ ⟨by decide,by decide⟩) J J J K1 Bg Ze J hw) fun _ _=>Pf (n:=8) 2 8 ?_ ?_
  ·refine Yo J (Zh (n:=5) (Xb _ ⟨by decide,by decide⟩) J J J K1 Bg Ze J hw) fun _ _=>Zz (n:=7) [(3,0)]<|r0' J J (stf (Oh (ivs:=[(0,_),(1,_)]) J K4 (fun a w hs=>Zeu)) K1)<|Yt<|Pf (n:=6) 4 8 ?_ ?_
   ·refine Yo J (Zh (n:=5) (Hk _ _ 1 2 hb1 hb2 (by decide +kernel) (by decide +kernel) hdp) J J J K2 call144 Ze J hw) fun _ _=>Zz (n:=0) [(5,0),(6,0),(7,0),(8,1),(9,1),(10,3)]<|r0' J J (stf (Yf J J) K1)<|r0' J J (stf (Ya J J J) K1)<|r0' J J (stf (Zs (r':= .int .i64 0) (Ya J J J) (congrArg (Value.int .i64) hm2)) K1)<|r1' J (Zv (i:=6) J J zeroValue41 J J hw K1) fun bx_5 ho=>r1' J (Zn (i:=6) J J J J J (by decide) J Yq J J ⟨Zb J,Zb J,Zb J,Zb J,trivial⟩ J hw ho) fun _ _=>r3' J (Qq (Ot J J) J) fun _ _=>Yt<|Yj<|Za<|Zc<|Zc<|Zg<|mv J<|dt (Ze5 J J)<|dt (Xk J J Ks J Gj J J)<|dt (Zwg (i:=1) J J J Ai J)<|dt (Zs (r':= .bool true) (Pg J J J) (congrArg Value.bool (by decide)))<|Zf<|Za<|Pd J<|Zg<|mv J<|mv J<|dt (Ze5 J J)<|dt (Xk J J Ks J Gj J J)<|tt (Zoa (i:=1) J J J J J J Gj J J (by simp [Value.oneCell']) J) J fun _ _=>Zf<|Za<|Zc<|Zg<|dt (Yg (i:=6) J J J Xt Yq J J J J)<|tt (Zn (i:=4) J J J J J (by decide) J Yq J J ⟨Zb J,Zb J,Zb J,Zb J,trivial⟩ J hw trivial) J fun _ _=>Zf<|Za<|Zt ?_
    exact Yl (.inl J) hsc () _ (fun a w hs=>Np hs results94 (Yp (i:=4) J J Xt Yq J)) J trivial J Zk
   ·refine Yo J (Zv (i:=7) J J zeroValue41 J J hw K1) fun bx_6 ho2=>Zz (n:=0) [(4,1),(5,0),(6,0),(7,0),(9,1),(10,3)]<|r1' J (Zh (n:=7) (Hk _ _ 1 2 hb1 hb2 (by decide +kernel) (by decide +kernel) hdp) J J J K2 call144 Ze J hw) fun _ _=>r0' J J (stf (Yf J J) K1)<|r0' J J (stf (Ya J J J) K1)<|r0' J J (stf (Zs (r':= .int .i64 0) (Ya J J J) (congrArg (Value.int .i64) hm2)) K1)<|r1' J (Zn (i:=7) J J J J J (by decide) J Yq J J ⟨Zb J,Zb J,Zb J,Zb J,trivial⟩ J hw ho2) fun _ _=>r3' J (Qq (Ot J J) J) fun _ _=>Yt<|Yj<|Za<|Zc<|Zc<|Zg<|mv J<|dt (Ze5 J J)<|dt (Xk J J Ks J Gj J J)<|dt (Zwg (i:=1) J J J Ai J)<|dt (Zs (r':= .bool true) (Pg J J J) (congrArg Value.bool (by decide)))<|Zf<|Za<|Pd J<|Zg<|mv J<|mv J<|dt (Ze5 J J)<|dt (Xk J J Ks J Gj J J)<|tt (Zoa (i:=1) J J J J J J Gj J J (by simp [Value.oneCell']) J) J fun _ _=>Zf<|Za<|Zc<|Zg<|dt (Yg (i:=7) J J J Xt Yq J J J J)<|tt (Zn (i:=4) J J J J J (by decide) J Yq J J ⟨Zb J,Zb J,Zb J,Zb J,trivial⟩ J hw trivial) J fun _ _=>Zf<|Za<|Zt ?_
    exact Yl (.inl J) hsc () _ (fun a w hs=>Np hs results94 (Yp (i:=4) J J Xt Yq J)) J trivial J Zk
  ·refine Yo J (Zv (i:=8) J J zeroValue41 J J hw K1) fun bx_7 ho3=>Zz (n:=0) [(2,1),(3,0),(4,1),(5,0),(6,0),(7,0),(9,1),(10,3)]<|r1' J (Zh (n:=8) (Xb _ ⟨by decide,by decide⟩) J J J K1 Bg Ze J hw) fun _ _=>r0' J J (stf (Oh (ivs:=[(0,_),(1,_)]) J K4 (fun a w hs=>Zeu)) K1)<|r1' J (Zh (n:=8) (Hk _ _ 1 2 hb1 hb2 (by decide +kernel) (by decide +kernel) hdp) J J J K2 call144 Ze J hw) fun _ _=>r0' J J (stf (Yf J J) K1)<|r0' J J (stf (Ya J J J) K1)<|r0' J J (stf (Zs (r':= .int .i64 0) (Ya J J J) (congrArg (Value.int .i64) hm2)) K1)<|r1' J (Zn (i:=8) J J J J J (by decide) J Yq J J ⟨Zb J,Zb J,Zb J,Zb J,trivial⟩ J hw ho3) fun _ _=>r3' J (Qq (Ot J J) J) fun _ _=>Yt<|Yj<|Za<|Zc<|Zc<|Zg<|mv J<|dt (Ze5 J J)<|dt (Xk J J Ks J Gj J J)<|dt (Zwg (i:=1) J J J Ai J)<|dt (Zs (r':= .bool true) (Pg J J J) (congrArg Value.bool (by decide)))<|Zf<|Za<|Pd J<|Zg<|mv J<|mv J<|dt (Ze5 J J)<|dt (Xk J J Ks J Gj J J)<|tt (Zoa (i:=1) J J J J J J Gj J J (by simp [Value.oneCell']) J) J fun _ _=>Zf<|Za<|Zc<|Zg<|dt (Yg (i:=8) J J J Xt Yq J J J J) ?_
   exact tt (Zn (i:=4) J J J J J (by decide) J Yq J J ⟨Zb J,Zb J,Zb J,Zb J,trivial⟩ J hw trivial) J fun _ _=>Zf<|Za<|Zt<|Yl (.inl J) hsc () _ (fun a w hs=>Np hs results94 (Yp (i:=4) J J Xt Yq J)) J trivial J Zk
 ·refine Yo J (Zv (i:=9) J J zeroValue41 J J hw K1) fun bx_8 ho4=>Zz (n:=0) [(1,1),(2,1),(3,0),(4,1),(5,0),(6,0),(7,0),(9,1),(10,3)]<|r1' J (Zh (n:=9) (Xb _ ⟨by decide,by decide⟩) J J J K1 Bg Ze J hw) fun _ _=>r1' J (Zh (n:=9) (Xb _ ⟨by decide,by decide⟩) J J J K1 Bg Ze J hw) fun _ _=>r0' J J (stf (Oh (ivs:=[(0,_),(1,_)]) J K4 (fun a w hs=>Zeu)) K1)<|r1' J (Zh (n:=9) (Hk _ _ 1 2 hb1 hb2 (by decide +kernel) (by decide +kernel) hdp) J J J K2 call144 Ze J hw) fun _ _=>r0' J J (stf (Yf J J) K1)<|r0' J J (stf (Ya J J J) K1)<|r0' J J (stf (Zs (r':= .int .i64 0) (Ya J J J) (congrArg (Value.int .i64) hm2)) K1)<|r1' J (Zn (i:=9) J J J J J (by decide) J Yq J J ⟨Zb J,Zb J,Zb J,Zb J,trivial⟩ J hw ho4) fun _ _=>r3' J (Qq (Ot J J) J) fun _ _=>Yt<|Yj<|Za<|Zc<|Zc<|Zg<|mv J<|dt (Ze5 J J)<|dt (Xk J J Ks J Gj J J)<|dt (Zwg (i:=1) J J J Ai J)<|dt (Zs (r':= .bool true) (Pg J J J) (congrArg Value.bool (by decide)))<|Zf<|Za<|Pd J<|Zg<|mv J<|mv J<|dt (Ze5 J J)<|dt (Xk J J Ks J Gj J J) ?_
  exact tt (Zoa (i:=1) J J J J J J Gj J J (by simp [Value.oneCell']) J) J fun _ _=>Zf<|Za<|Zc<|Zg<|dt (Yg (i:=9) J J J Xt Yq J J J J)<|tt (Zn (i:=4) J J J J J (by decide) J Yq J J ⟨Zb J,Zb J,Zb J,Zb J,trivial⟩ J hw trivial) J fun _ _=>Zf<|Za<|Zt<|Yl (.inl J) hsc () _ (fun a w hs=>Np hs results94 (Yp (i:=4) J J Xt Yq J)) J trivial J Zk
end Go.Sky

