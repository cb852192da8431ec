/- rules, arithmetic and contracts: part 12
   Proved without conditions of its own: each theorem bears its own. -/
import Derived.Test.YtcmiiammekgooaaGreatSl03
import Derived.Test.YtcmiiammekgooaaGreatSl02
import Derived.Test.YtcmiiammekgooaaGreatSl01
import Derived.Test.YtcmiiammekgooaaGreatSl10
import Derived.Test.YtcmiiammekgooaaGreatSl09
set_option linter.all false
namespace Go.Sky
open Go.Proofs.Tryz
open Go.Proofs
set_option maxRecDepth 20000
set_option maxHeartbeats 4000000
set_option linter.unusedSimpArgs false
theorem Zdy(x y x2 y2:Int)(hx:bl x.natAbs≤65536)(hy:bl y.natAbs≤65536)(hx2:bl x2.natAbs≤65536)(hy2:bl y2.natAbs≤65536)(hp:0<y)(hp2:0<y2):Ml prog 177 #[rX x y,rX x2 y2] [] (.bool true):=by
 refine Ya func177 J ntmps177 J trivial ?_
 intro w0 sc hw hsc
 simp only [Zp,Zn]
 exact Zc<|Zg<|tt (Xe (i:=1) J J J J J hw) fun b _=>tt (Xe (i:=2) J J J J J hw) fun b_2 _=>as_ J<|Zf<|Za<|Zc<|Zg<|dt (Yy (i:=1) J J J Pv Xz J J J J)<|tt (Zh (n:=2) (Qr _ _ ‹_› ‹_› ‹_›) J J J K1 call117 Ze J hw) fun _ _=>mv J<|gdt (Yy (i:=2) J J J Pv Xz J J J J) J J<|gtt (Zh (n:=2) (Qr _ _ ‹_› ‹_› ‹_›) J J J K1 call117 Ze J hw) J J J fun _ _=>dt (Xh J J J)<|as_ J<|Zf<|Za<|Zv<|xU hsc results177 J J J
theorem Zci(x y x2 y2:Int)(hx:bl x.natAbs≤65536)(hy:bl y.natAbs≤65536)(hx2:bl x2.natAbs≤65536)(hy2:bl y2.natAbs≤65536):Cal prog 178 #[rX x y,rX x2 y2] [] true (G:=Bool×Value×Bool×Value×Bool×Value) (fun r=>sg r.1 (x*y2)∧sg r.2.2.1 (x2*y)∧sg r.2.2.2.2.1 (y*y2)) (fun r=> .tuple #[.agg #[.bool r.1,r.2.1],.agg #[.bool r.2.2.1,r.2.2.2.1],.agg #[.bool r.2.2.2.2.1,r.2.2.2.2.2]]) (fun r=>[dgp r.2.1 (x*y2).natAbs,dgp r.2.2.2.1 (x2*y).natAbs,dgp r.2.2.2.2.2 (y*y2).natAbs]):=by
 refine Ya func178 J ntmps178 J trivial ?_
 intro w0 sc hw hsc
 simp only [Zp,Zn]
 have b1:=Xs x y2
 have b2:=Xs x2 y
 have b3:=Xs y y2
 have b4:=Xs x x2
 refine Zc<|Zg<|tt (Xe (i:=1) J J J J J hw) fun b _=>tt (Xe (i:=2) J J J J J hw) fun b_2 _=>tt (Zo (i:=3) J J zeroValue154 J J hw) fun b_3 _=>tt (Zo (i:=4) J J zeroValue154 J J hw) fun b_4 _=>tt (Zo (i:=5) J J zeroValue154 J J hw) fun b_5 _=>Zf<|Za<|Zc<|Oo [1,2] [23]<|Zy (n:=0) [(0,0),(1,0),(3,0),(4,0),(7,0),(8,0),(10,0),(11,0),(14,0),(15,0),(17,0),(18,0),(2,1),(5,1),(6,1),(9,1),(12,1),(13,1),(16,1),(19,1),(20,1),(21,1),(22,1),(23,3)]<|r0' J J (stf (Xx J J Zac J Yj J J) K2)<|r0' J J (stf (Zz (i:=1) J J J Qj Yj J J) K2)<|r0' J J (stf (Xx J J Zac J Yj J J) K2)<|r0' J J (stf (Zz (i:=2) J J J Qj Yj J J) K2)<|r0' J J (stf (Xx J J Zac J Yj J J) K2)<|r0' J J (stf (Zz (i:=2) J J J Qj Yj J J) K2)<|r0' J J (stf (Xx J J Zac J Yj J J) K2)<|r0' J J (stf (Zz (i:=1) J J J Qj Yj J J) K2)<|r0' J J (stf (Xx J J Zac J Yj J J) K2)<|r0' J J (stf (Zz (i:=1) J J J Qj Yj J J) K2)<|r0' J J (stf (Xx J J Zac J Yj J J) K2)<|r0' J J (stf (Zz (i:=2) J J J Qj Yj J J) K2) ?_
 refine r1' J (Zh (n:=6) (Pb _ _ (Xl _)) J J J K1 Lj Ze J hw) fun g hg=>r1' J (Zh (n:=7) (Pb _ _ (Xl _)) J J J K1 Lj Ze J hw) fun g_2 hg_2=>r1' J (Zh (n:=8) (Zb5 _ _ _ _ _ _ ‹_› ‹_›) J J J K2 call176 (Zb 6 J J J (Zb 7 J J J Ze)) J hw) fun g_3 hg_3=>r1' J (Zh (n:=9) (Pb _ _ (Xl _)) J J J K1 Lj Ze J hw) fun g_4 hg_4=>r1' J (Zh (n:=10) (Pb _ _ (Xl _)) J J J K1 Lj Ze J hw) fun g_5 hg_5=>r1' J (Zh (n:=11) (Zb5 _ _ _ _ _ _ ‹_› ‹_›) J J J K2 call176 (Zb 9 J J J (Zb 10 J J J Ze)) J hw) fun g_6 hg_6=>r1' J (Zh (n:=12) (Pb _ _ (Xl _)) J J J K1 Lj Ze J hw) fun g_7 hg_7=>r1' J (Zh (n:=13) (Pb _ _ (Xl _)) J J J K1 Lj Ze J hw) fun g_8 hg_8=>r1' J (Zh (n:=14) (Zb5 _ _ _ _ _ _ ‹_› ‹_›) J J J K2 call176 (Zb 12 J J J (Zb 13 J J J Ze)) J hw) fun g_9 hg_9=>r1' J (Zd4 3 J J K2 (fun ob=>(Zm (i:=3) J J J J J (by decide) J Xb J J ⟨Zd J,Zt (i:=8) J Zi,trivial⟩ J hw ob))) (fun _ _=>?_)
 exact r1' J (Zd4 4 J J K2 (fun ob=>(Zm (i:=4) J J J J J (by decide) J Xb J J ⟨Zd J,Zt (i:=11) J Zi,trivial⟩ J hw ob))) fun _ _=>r3' J (Zm (i:=5) J J J J J (by decide) J Xb J J ⟨Zd J,Zt (i:=14) J Zi,trivial⟩ J hw trivial) fun _ _=>Yo<|Yg<|Za<|Zv<|Yn (.inl J) hsc (_,_,_,_,_,_) _ (fun a w hs=>res3 hs results178 (Yr (i:=3) J J Lt Xb J) (Yr (i:=4) J J Lt Xb J) (Yr (i:=5) J J Lt Xb J)) J ⟨by assumption,by assumption,by assumption⟩ J (Xa 8 J J J (Xa 11 J J J (Xa 14 J J J Zk)))
theorem Zbr(x y x2 y2:Int)(hx:bl x.natAbs≤65536)(hy:bl y.natAbs≤65536)(hx2:bl x2.natAbs≤65536)(hy2:bl y2.natAbs≤65536)(hp:0<y)(hp2:0<y2):Ml prog 146 #[rX x y,rX x2 y2] [] (.tuple #[.int .i64 (x*y2-x2*y).sign,.int .i64 0]):=by
 refine Ya func146 J ntmps146 J trivial ?_
 intro w0 sc hw hsc
 simp only [Zp,Zn]
 have b1:=Xs x y2
 have b2:=Xs x2 y
 have b3:=Xs y y2
 have b4:=Xs x x2
 have b5:=Zkn (x2*y)
 have b6:=Kf (x*y2) (-(x2*y))
 refine Zc<|Zg<|tt (Xe (i:=1) J J J J J hw) fun b _=>tt (Xe (i:=2) J J J J J hw) fun b_2 _=>as_ J<|as_ J<|Zf<|Za<|Zc<|Zc<|Zg<|dt (Yy (i:=1) J J J Pv Xz J J J J)<|dt (Yy (i:=2) J J J Pv Xz J J J J)<|tt (Zh (n:=2) (Zdy _ _ _ _ ‹_› ‹_› ‹_› ‹_› ‹_› ‹_›) J J J K2 call177 Ze J hw) fun _ _=>dt (Xp J J)<|Zf<|Za<|Ye J<|Zj<|Za<|Zc<|Zg<|dt (Yy (i:=1) J J J Pv Xz J J J J)<|dt (Yy (i:=2) J J J Pv Xz J J J J)<|tt (Zh (n:=3) (Zci _ _ _ _ ‹_› ‹_› ‹_› ‹_›) J J J K2 call178 Ze J hw) (fun g hg=>?_)
 obtain⟨hc1,hc2,hc3⟩:=hg
 refine mv J<|dt (Yf J J J)<|dt (Yf J J J)<|dt (Yf J J J)<|tt (Zo (i:=6) J J zeroValue154 J J hw) fun b_3 _=>tt (Zo (i:=7) J J zeroValue154 J J hw) fun b_4 _=>tt (Zo (i:=8) J J zeroValue154 J J hw) fun b_5 _=>tt (Zm (i:=6) J J J J J (by decide) J Xb J J ⟨Zd J,Zt (i:=3) J Zi,trivial⟩ J hw trivial) fun _ _=>tt (Zm (i:=7) J J J J J (by decide) J Xb J J ⟨Zd J,Zt (i:=4) J Zi,trivial⟩ J hw trivial) fun _ _=>tt (Zm (i:=8) J J J J J (by decide) J Xb J J ⟨Zd J,Zt (i:=5) J Zi,trivial⟩ J hw trivial) fun _ _=>Zf<|Za<|Zc<|Ql (fun _=>False) [(0,0),(1,0),(2,1),(3,1),(4,1),(5,3),(6,3)] ?_ ?_
 ·kernel_rfl
 exact r0' J J (st0 (Zz (i:=6) J J J Lt Xb J J))<|r0' J J (st0 (Zz (i:=7) J J J Lt Xb J J))<|r1' J (Zh (n:=9) (Zlq _ _ _ ‹_›) J J J K1 call134 (Zb 4 J J J Ze) J hw) fun g_2 hg_2=>r1' J (Zh (n:=10) (Zet _ _ _ _ _ _ ‹_› ‹_›) J J J K2 call131 (Zb 3 J J J (Zb 9 J J J Ze)) J hw) fun g_3 hg_3=>r1' J (Zh (n:=10) (Zh1 _ _ _ ‹_›) J J J K1 call135 (Zb 10 J J J Ze) J hw) fun _ _=>r3' J (Px (Lq J J) J) fun _ _=>r3' J (Px (Lq J J) J) fun _ _=>Og<|Za<|Zv<|Yn (.inl J) hsc () _ (fun a w hs=>Np hs results146 J J) (by rw [Int.sub_eq_add_neg]<;>rfl) trivial J Zk
theorem Zgu(x y x2 y2:Int)(hx:bl x.natAbs≤65536)(hy:bl y.natAbs≤65536)(hx2:bl x2.natAbs≤65536)(hy2:bl y2.natAbs≤65536)(hp:0<y)(hp2:0<y2):Ml prog 143 #[rX x y,rX x2 y2] [] (Zcn (x*y2+x2*y) (y*y2)):=by
 refine Ya func143 J ntmps143 J trivial ?_
 intro w0 sc hw hsc
 simp only [Zp,Zn]
 have b1:=Xs x y2
 have b2:=Xs x2 y
 have b3:=Xs y y2
 have b4:=Xs x x2
 have b6:=Kf (x*y2) (x2*y)
 refine Zc<|Zg<|tt (Xe (i:=1) J J J J J hw) fun b _=>tt (Xe (i:=2) J J J J J hw) fun b_2 _=>tt (Zo (i:=3) J J zeroValue41 J J hw) fun b_3 _=>as_ J<|Zf<|Za<|Zc<|Zc<|Zg<|dt (Yy (i:=1) J J J Pv Xz J J J J)<|dt (Yy (i:=2) J J J Pv Xz J J J J)<|tt (Zh (n:=3) (Zdy _ _ _ _ ‹_› ‹_› ‹_› ‹_› ‹_› ‹_›) J J J K2 call177 Ze J hw) fun _ _=>dt (Xp J J)<|Zf<|Za<|Ye J<|Zj<|Za<|Zc<|Zg<|dt (Yy (i:=1) J J J Pv Xz J J J J)<|dt (Yy (i:=2) J J J Pv Xz J J J J)<|tt (Zh (n:=4) (Zci _ _ _ _ ‹_› ‹_› ‹_› ‹_›) J J J K2 call178 Ze J hw) (fun g hg=>?_)
 obtain⟨hc1,hc2,hc3⟩:=hg
 refine mv J<|dt (Yf J J J)<|dt (Yf J J J)<|dt (Yf J J J)<|tt (Zo (i:=7) J J zeroValue154 J J hw) fun b_4 _=>tt (Zo (i:=8) J J zeroValue154 J J hw) fun b_5 _=>tt (Zo (i:=9) J J zeroValue154 J J hw) fun b_6 _=>tt (Zm (i:=7) J J J J J (by decide) J Xb J J ⟨Zd J,Zt (i:=4) J Zi,trivial⟩ J hw trivial) fun _ _=>tt (Zm (i:=8) J J J J J (by decide) J Xb J J ⟨Zd J,Zt (i:=5) J Zi,trivial⟩ J hw trivial) fun _ _=>tt (Zm (i:=9) J J J J J (by decide) J Xb J J ⟨Zd J,Zt (i:=6) J Zi,trivial⟩ J hw trivial) fun _ _=>Zf<|Za<|Zc<|Ql (fun _=>False) [(0,0),(1,0),(3,0),(2,1),(4,1),(5,0),(6,0),(7,3),(8,3)] ?_ ?_
 ·kernel_rfl
 exact r0' J J (st0 (Zz (i:=7) J J J Lt Xb J J))<|r0' J J (st0 (Zz (i:=8) J J J Lt Xb J J))<|r0' J J (st0 (Zz (i:=9) J J J Lt Xb J J))<|r1' J (Zh (n:=10) (Zet _ _ _ _ _ _ ‹_› ‹_›) J J J K2 call131 (Zb 4 J J J (Zb 5 J J J Ze)) J hw) fun g_2 hg_2=>r1' J (Zh (n:=10) (Ab _ _ _ _ _ _ ‹_› ‹_› (Int.mul_ne_zero (by omega) (by omega))) J J J K2 call163 (Zb 10 J J J (Zb 6 J J J Ze)) J hw) fun _ _=>r0' J J (st0 (Yf J J J))<|r0' J J (st0 (Yf J J J))<|r3' J (Zm (i:=3) J J J J J (by decide) J Xz J J ⟨Zd J,Zd J,Zd J,Zd J,trivial⟩ J hw trivial) fun _ _=>r3' J (Px (Lq J J) J) fun _ _=>Og<|Za<|Zv<|Yn (.inl J) hsc () _ (fun a w hs=>Np hs results143 (Yr (i:=3) J J Pv Xz J) J) J trivial J Zk
theorem Hw(x y x2 y2:Int)(hx:bl x.natAbs≤65536)(hy:bl y.natAbs≤65536)(hx2:bl x2.natAbs≤65536)(hy2:bl y2.natAbs≤65536)(hp:0<y)(hp2:0<y2:=by decide):Ml prog 144 #[rX x y,rX x2 y2] [] (Zcn (x*x2) (y*y2)):=by
 refine Ya func144 J ntmps144 J trivial ?_
 intro w0 sc hw hsc
 simp only [Zp,Zn]
 have b1:=Xs x y2
 have b2:=Xs x2 y
 have b3:=Xs y y2
 have b4:=Xs x x2
 refine Zc<|Zg<|tt (Xe (i:=1) J J J J J hw) fun b _=>tt (Xe (i:=2) J J J J J hw) fun b_2 _=>tt (Zo (i:=3) J J zeroValue41 J J hw) fun b_3 _=>as_ J<|Zf<|Za<|Zc<|Zc<|Zg<|dt (Yy (i:=1) J J J Pv Xz J J J J)<|dt (Yy (i:=2) J J J Pv Xz J J J J)<|tt (Zh (n:=3) (Zdy _ _ _ _ ‹_› ‹_› ‹_› ‹_› ‹_› ‹_›) J J J K2 call177 Ze J hw) fun _ _=>dt (Xp J J)<|Zf<|Za<|Ye J<|Zj<|Za<|Zc<|Ql (fun _=>False) [(0,0),(1,0),(3,0),(4,0),(7,0),(8,0),(10,0),(11,0),(2,1),(5,1),(6,1),(9,1),(12,1),(13,1),(14,1),(15,0),(16,0),(17,3),(18,3)] ?_ ?_
 ·kernel_rfl
 refine r0' J J (st0 (Xx J J Zac J Yj J J))<|r0' J J (st0 (Zz (i:=1) J J J Qj Yj J J))<|r0' J J (st0 (Xx J J Zac J Yj J J))<|r0' J J (st0 (Zz (i:=2) J J J Qj Yj J J))<|r0' J J (st0 (Xx J J Zac J Yj J J))<|r0' J J (st0 (Zz (i:=1) J J J Qj Yj J J))<|r0' J J (st0 (Xx J J Zac J Yj J J))<|r0' J J (st0 (Zz (i:=2) J J J Qj Yj J J))<|r1' J (Zh (n:=4) (Pb _ _ (Xl _)) J J J K1 Lj Ze J hw) fun g hg=>r1' J (Zh (n:=5) (Pb _ _ (Xl _)) J J J K1 Lj Ze J hw) fun g_2 hg_2=>r1' J (Zh (n:=6) (Zb5 _ _ _ _ _ _ ‹_› ‹_›) J J J K2 call176 (Zb 4 J J J (Zb 5 J J J Ze)) J hw) fun g_3 hg_3=>r1' J (Zh (n:=7) (Pb _ _ (Xl _)) J J J K1 Lj Ze J hw) fun g_4 hg_4=>r1' J (Zh (n:=8) (Pb _ _ (Xl _)) J J J K1 Lj Ze J hw) fun g_5 hg_5=>r1' J (Zh (n:=9) (Zb5 _ _ _ _ _ _ ‹_› ‹_›) J J J K2 call176 (Zb 7 J J J (Zb 8 J J J Ze)) J hw) fun g_6 hg_6=>r1' J (Zh (n:=9) (Ab _ _ _ _ _ _ ‹_› ‹_› (Int.mul_ne_zero (by omega) (by omega))) J J J K2 call163 (Zb 6 J J J (Zb 9 J J J Ze)) J hw) fun _ _=>r0' J J (st0 (Yf J J J)) ?_
 exact r0' J J (st0 (Yf J J J))<|r3' J (Zm (i:=3) J J J J J (by decide) J Xz J J ⟨Zd J,Zd J,Zd J,Zd J,trivial⟩ J hw trivial) fun _ _=>r3' J (Px (Lq J J) J) fun _ _=>Og<|Za<|Zv<|Yn (.inl J) hsc () _ (fun a w hs=>Np hs results144 (Yr (i:=3) J J Pv Xz J) J) J trivial J Zk
theorem Zcj(x y:Int)(hx:bl x.natAbs≤65536:=by omega)(hy:bl y.natAbs≤65536:=by omega):Ml prog 84 #[wv x,wv y] [] (.int .i64 (x-y).sign):=by
 refine Ya func84 J ntmps84 J trivial ?_
 intro w0 sc hw hsc
 simp only [Zp,Zn]
 have b5:=Zkn y
 have b6:=Kf x (-y)
 refine Zc<|Zg<|tt (Xe (i:=1) J J J J J hw) fun b _=>tt (Xe (i:=2) J J J J J hw) fun b_2 _=>as_ J<|Zf<|Za<|Zc<|Zc<|Zg<|dt (Zz (i:=1) J J J Qj Yj J J)<|dt (Zz (i:=2) J J J Qj Yj J J)<|tt (Zh (n:=2) (Lu _ _ ‹_› ‹_›) J J J K2 call129 Ze J hw) fun _ _=>dt (Xp J J)<|Zf<|Za<|Ye J<|Zj<|Za<|Zc<|Ql (fun _=>False) [(0,0),(2,0),(1,1),(3,1),(4,1),(5,1),(6,1),(7,3)] ?_ ?_
 ·kernel_rfl
 exact r0' J J (st0 (Zz (i:=1) J J J Qj Yj J J))<|r0' J J (st0 (Zz (i:=2) J J J Qj Yj J J))<|r1' J (Zh (n:=3) (Pb _ _ (Xl _)) J J J K1 Lj Ze J hw) fun g hg=>r1' J (Zh (n:=4) (Pb _ _ (Xl _)) J J J K1 Lj Ze J hw) fun g_2 hg_2=>r1' J (Zh (n:=5) (Zlq _ _ _ ‹_›) J J J K1 call134 (Zb 4 J J J Ze) J hw) fun g_3 hg_3=>r1' J (Zh (n:=6) (Zet _ _ _ _ _ _ ‹_› ‹_›) J J J K2 call131 (Zb 3 J J J (Zb 5 J J J Ze)) J hw) fun g_4 hg_4=>r1' J (Zh (n:=6) (Zh1 _ _ _ ‹_›) J J J K1 call135 (Zb 6 J J J Ze) J hw) fun _ _=>r3' J (Px (Lq J J) J) fun _ _=>Og<|Za<|Zv<|xU hsc results84 J J (by rw [Int.sub_eq_add_neg]<;>rfl)
abbrev RW:=List (Bool×ByteArray)
abbrev qR (z:SL×RW):Pc:=slp 2 Zie (svv z.1) z.2
abbrev qZ (z:SL×List Int):Pc:=slp 2 wv (svv z.1) z.2
abbrev R0:SL×RW:=((none,0,0),[])
def short1(r:RW):Bool:=(decide (r.length≤14) || decide (r.length=26)) && r.all fun c=>decide (c.2.size≤16)
def shortb(ls:List RW):Bool:=ls.all short1
theorem r1g' {P:Program} {N:Nat} {sc:Nat→Prop} {M:Nat→Prop} {env:Env} {H:Hp} {ops:Array Oper} {F:Env→Hp→Prop} {rest:List (Nat×Nat)} {i:Nat} {o:Oper} {G:Type} {φ:G→Prop} {genv:G→Env} {gH:G→Hp} {j e:Nat} {b:Bool} (ho:ops[i]? = some o) (hg:o.guard=some (j,b)) (hj:(ops[j]?).bind (·.dst)=some e) (he:lk env e=some (.bool b)) (heN:Nat.blt e N=true) (ht:T P N sc M o env H φ genv gH)
  (h:∀g,φ g→LD P N sc M ops F rest (genv g) (gH g)) :
  LD P N sc M ops F ((i,1) :: rest) env H:=r1g ht ho hg hj he heN h
theorem inI_bl{x:Int}(h:inI x):bl x.natAbs≤65536:=Zd5 (l:=[x]) (fun y hy=>by rw [List.mem_singleton.1 hy];exact h) 0
theorem Fw{f:Nat→Int}{k:Nat} : ∀{n:Nat},k<n→(∀i,i<n→i≠k→f i=0)→Qn f n=f k
 | 0,hk,_=>absurd hk (Nat.not_lt_zero _)
 | n+1,hk,h=>by
  rw [Xt]
  by_cases e:k=n
  ·subst e
   rw [Ff fun i hi=>h i (by omega) (by omega),Int.zero_add]
  ·rw [h n (by omega) (fun x=>e x.symm),Fw (by omega) (fun i hi=>h i (by omega)),Int.add_zero]
theorem Dl{p q:List Int}{a b:Nat}(ha:∀i,a<i→cf p i=0)(hb:∀i,b<i→cf q i=0):(ps p*ps q).c (a+b)=cf p a*cf q b:=by
 rw [PS.mul_c,Fw (k:=a) (by omega) fun i hi hne=>?_]
 ·rw [Ik,Ik,show a+b-a=b by omega]
 ·rw [Ik,Ik]
  rcases Nat.lt_or_ge a i with h | h
  ·rw [ha i h,Int.zero_mul]
  ·rw [hb (a+b-i) (by omega),Int.mul_zero]
theorem Zdh(s s':List Int)(c c':Int)(f:PS)(t:Nat):(ps (Zfm (Xj s c) (Xj s' c'))*f).c t=c*(ps s*f).c t-c'*(ps s'*f).c t:=by
 rw [PS.mul_c,PS.mul_c,PS.mul_c,←Ng,Int.sub_eq_add_neg,←Int.neg_mul,←Ng,←Fx]
 refine Xg fun k _=>?_
 rw [Ik,Ik,Ik,Kq,Xn,Xn]
 grind
theorem Zlu(f:PS)(q q':List Int)(u v:Int)(h:∀i,u*cf q i=v*cf q' i)(t:Nat):u*(f*ps q).c t=v*(f*ps q').c t:=by
 rw [PS.mul_c,PS.mul_c,←Ng,←Ng]
 refine Xg fun k _=>?_
 rw [Ik,Ik]
 have:=h (t-k)
 grind
theorem Zsp{q s r:List Int}(hq:Tr q)(hq0:q≠[])(h:∀t,(ps s*ps q).c t=cf r t)(hr:∀t,q.length-1≤t→cf r t=0):∀t,cf s t=0:=by
 have hlead:=hq.mem hq0
 have hlen:0<q.length:=List.length_pos_iff.2 hq0
 have hs:tzl s=[]:=by
  rcases Zg8 (tzl s)with h1 | ⟨ys,y,h1⟩
  ·exact h1
  ·exfalso
   have ht:=Oy s
   have hne:tzl s≠[]:=by rw [h1];simp
   have h2:=ht.mem hne
   have h3:=Dl (p:=tzl s) (q:=q) (a:=(tzl s).length-1) (b:=q.length-1) (fun i hi=>Qf (by omega)) (fun i hi=>Qf (by omega))
   have h4:ps (tzl s)=ps s:=PS.ext' fun i=>Lr s i
   rw [h4,h,hr _ (by omega)]at h3
   rcases Int.mul_eq_zero.1 h3.symm with h5 | h5
   ·exact h2 h5
   ·exact hlead h5
 exact(Lb s).1 hs
theorem Mu{s:List Int}(h:∀t,cf s t=0)(f:PS)(t:Nat):(ps s*f).c t=0:=by
 rw [PS.mul_c]
 exact Ff fun k _=>by rw [Ik,h,Int.zero_mul]
theorem Oe{p q:List Int}(hp:Tr p)(hq:Tr q)(h1:p≠[])(h2:q≠[]):(Mb p q).length=p.length+q.length-1:=by
 have l1:=List.length_pos_iff.2 h1
 have l2:=List.length_pos_iff.2 h2
 unfold Mb
 rw [Zae,Xr]
 right
 rw [Xr,Il,if_pos (by omega),show p.length+q.length-1-1=(p.length-1)+(q.length-1) by omega,Dl (fun i hi=>Qf (by omega)) (fun i hi=>Qf (by omega))]
 exact Int.mul_ne_zero (hp.mem h1) (hq.mem h2)
def mono(s:Nat)(c:Int):List Int:=List.replicate s 0 ++ [c]
theorem Zim(s:Nat)(c:Int)(i:Nat):cf (mono s c) i=if i=s then c else 0:=by
 unfold mono
 rw [Zbi,List.length_replicate]
 split
 ·rw [if_neg (by omega)]
  unfold cf
  simp [List.getD_eq_getElem?_getD,List.getElem?_replicate]
  split<;>rfl
 ·rename_i h
  split
  ·rename_i h2;subst h2;simp [cf]
  ·exact Qf (by simp;omega)
theorem Zh6(s:Nat)(c:Int)(f:PS)(t:Nat):(ps (mono s c)*f).c t=if s≤t then c*f.c (t-s)else 0:=by
 rw [PS.mul_c]
 split
 ·rw [Fw (k:=s) (by omega) fun i _ hne=>by rw [Ik,Zim,if_neg hne,Int.zero_mul],Ik,Zim,if_pos rfl]
 ·exact Ff fun k hk=>by rw [Ik,Zim,if_neg (by omega),Int.zero_mul]
theorem Zeh{p q:List Int}(hq:0<q.length)(hl:q.length≤p.length):∀j,j≤p.length-q.length+1→∃s:List Int,∀t,cf q (q.length-1)^j*cf p t=(ps s*ps q).c t+cf (Pe p q j) t
 | 0,_=>⟨[],fun t=>by rw [Mu (fun t=>Qf (Nat.zero_le _)),Int.pow_zero];unfold Pe;omega⟩
 | j+1,hj=>by
  obtain⟨s,ih⟩:=Zeh hq hl j (by omega)
  refine⟨Zfm (Xj s (cf q (q.length-1))) (Xj (mono (p.length-1-j-(q.length-1)) (cf (Pe p q j) (p.length-1-j))) (-1)),fun t=>?_⟩
  rw [Zdh,Zh6]
  have h0:=ih t
  show _=_+cf (Zfl q (Pe p q j) (p.length-1-j)) t
  rw [Int.pow_succ]
  rcases Nat.lt_or_ge t p.length with h | h
  ·rw [Zdp (by rw [Pa];exact h)]
   generalize p.length-1-j-(q.length-1)=sh
   generalize cf (Pe p q j) (p.length-1-j)=R
   generalize cf (Pe p q j) t=R' at h0 ⊢
   generalize (ps s*ps q).c t=X at h0 ⊢
   generalize cf q (q.length-1)^j=L at h0 ⊢
   generalize cf q (q.length-1)=l at h0 ⊢
   have e:L*l*cf p t=l*X+R'*l:=by rw [Int.mul_assoc,Int.mul_comm l,←Int.mul_assoc,h0];grind
   rw [e]
   by_cases h1:sh≤t
   ·rw [if_pos h1,Ik]
    by_cases h2:t<sh+q.length
    ·rw [if_pos ⟨h1,h2⟩];omega
    ·rw [if_neg (by omega),Qf (p:=q) (i:=t-_) (by omega)];omega
   ·rw [if_neg h1,if_neg (by omega)];omega
  ·have z1:cf p t=0:=Qf h
   have z2:cf (Pe p q j) t=0:=Qf (by rw [Pa];exact h)
   have z3:cf (Zfl q (Pe p q j) (p.length-1-j)) t=0:=Qf (by rw [Zcp,Pa];exact h)
   have z4:cf q (t-(p.length-1-j-(q.length-1)))=0:=Qf (by omega)
   rw [z1,z2,Int.mul_zero,Int.add_zero]at h0
   rw [z1,z3,if_pos (by omega),Ik,z4,←h0];simp
theorem Gy(p:List Int){q:List Int}(hq:q≠[]):∃(k:Nat) (s:List Int),∀t,cf q (q.length-1)^k*cf p t=(ps s*ps q).c t+cf (Pk p q) t:=by
 have hq':0<q.length:=List.length_pos_iff.2 hq
 rcases Nat.lt_or_ge p.length q.length with h | h
 ·refine⟨0,[],fun t=>?_⟩
  rw [Mu (fun t=>Qf (Nat.zero_le _)),Int.pow_zero]
  unfold Pk;rw [if_pos h];omega
 ·obtain⟨s,hs⟩:=Zeh hq' h _ (Nat.le_refl _)
  refine⟨p.length-q.length+1,s,fun t=>?_⟩
  rw [hs t]
  unfold Pk
  rw [if_neg (by omega),Lr]
theorem Qx(p:List Int){q:List Int}(hq:q≠[]):(Pk p q).length<q.length:=by
 have hq':0<q.length:=List.length_pos_iff.2 hq
 unfold Pk
 split
 ·assumption
 ·have:=Cw (p:=Pe p q (p.length-q.length+1)) (n:=q.length-1) fun i hi=>Zb0 hq' (by omega) _ (Nat.le_refl _) i (by omega)
  omega
theorem Lp{p q:List Int}(hp:Tr p):Tr (Pk p q):=by
 unfold Pk;split
 ·exact hp
 ·exact Oy _
def Sim(a b:List Int):Prop:=∃m n:Int,m≠0∧n≠0∧∀i,m*cf a i=n*cf b i
theorem Sim.refl(a:List Int):Sim a a:=⟨1,1,by decide,by decide,fun _=>rfl⟩
theorem Sim.symm{a b:List Int} : Sim a b→Sim b a:=fun⟨m,n,hm,hn,h⟩=>⟨n,m,hn,hm,fun i=>(h i).symm⟩
theorem Sim.trans{a b c:List Int} : Sim a b→Sim b c→Sim a c:=fun⟨m,n,hm,hn,h⟩ ⟨u,v,hu,hv,k⟩=>
 ⟨m*u,n*v,Int.mul_ne_zero hm hu,Int.mul_ne_zero hn hv,fun i=>by have h1:=h i;have h2:=k i;grind⟩
theorem Sim.zero{a b:List Int}(h:Sim a b){i:Nat}(hi:cf a i=0):cf b i=0:=by
 obtain⟨m,n,hm,hn,h⟩:=h
 have:=h i
 rw [hi,Int.mul_zero]at this
 rcases Int.mul_eq_zero.1 this.symm with h | h
 ·exact absurd h hn
 ·exact h
theorem Sim.len_le{a b:List Int}(h:Sim a b)(hb:Tr b):b.length≤a.length:=by
 rcases Nat.lt_or_ge a.length b.length with hl | hl
 ·exfalso
  have hne:b≠[]:=List.length_pos_iff.1 (by omega)
  exact hb.mem hne (h.zero (Qf (by omega)))
 ·exact hl
theorem Sim.len{a b:List Int}(h:Sim a b)(ha:Tr a)(hb:Tr b):a.length=b.length:=Nat.le_antisymm (h.symm.len_le ha) (h.len_le hb)
theorem Sim.nil{a b:List Int}(h:Sim a b)(hb:Tr b)(ha:a=[]):b=[]:=by
 have:=h.len_le hb
 rw [ha]at this
 exact List.eq_nil_of_length_eq_zero (by simpa using this)
theorem Zr0{a b a' b':List Int}(ha:Tr a)(ha':Tr a')(hb:Tr b)(hb':Tr b')(h0:b≠[])(h1:Sim a a')(h2:Sim b b'):Sim (Pk a b) (Pk a' b'):=by
 have h0':b'≠[]:=fun e=>h0 (h2.symm.nil hb e)
 have hlen:=h2.len hb hb'
 obtain⟨k,s,hs⟩:=Gy a h0
 obtain⟨k',s',hs'⟩:=Gy a' h0'
 have hL:cf b (b.length-1)^k≠0:=Nl (hb.mem h0) k
 have hL':cf b' (b'.length-1)^k'≠0:=Nl (hb'.mem h0') k'
 generalize cf b (b.length-1)^k=L at hs hL
 generalize cf b' (b'.length-1)^k'=L' at hs' hL'
 obtain⟨m,n,hm,hn,e1⟩:=h1
 obtain⟨u,v,hu,hv,e2⟩:=h2
 have l1:=Qx a h0
 have l2:=Qx a' h0'
 have key:∀t,(ps (Zfm (Xj s (L'*m*v)) (Xj s' (L*n*u)))*ps b').c t=cf (Zfm (Xj (Pk a' b') (L*n*u)) (Xj (Pk a b) (L'*m*u))) t:=fun t=>by
  rw [Zdh,Kq,Xn,Xn]
  have a1:=hs t
  have a2:=hs' t
  have a3:=e1 t
  have a4:=Zlu (ps s) b b' u v e2 t
  generalize (ps s*ps b).c t=X at a1 a4
  generalize (ps s*ps b').c t=Y at a4
  generalize (ps s'*ps b').c t=Z at a2
  generalize cf a t=A at a1 a3
  generalize cf a' t=A' at a2 a3
  generalize cf (Pk a b) t=R at a1
  generalize cf (Pk a' b') t=R' at a2
  have:L'*m*v*Y=L'*m*u*X:=by grind
  grind
 have z:=Zsp hb' h0' key fun t ht=>by
  rw [Kq,Xn,Xn,Qf (p:=Pk a' b') (by omega),Qf (p:=Pk a b) (by omega)];omega
 refine⟨L'*m*u,L*n*u,by simp [*],by simp [*],fun t=>?_⟩
 have:=key t
 rw [Mu z,Kq,Xn,Xn]at this
 grind
theorem Cl(c:Int):∀(p:List Int) (g:Int),0≤g→(p.map (· * c)).foldl (fun g c=>(Int.gcd g c:Int)) (g*c.natAbs)=p.foldl (fun g c=>(Int.gcd g c:Int)) g*c.natAbs
 | [],g,_=>rfl
 | x :: p,g,hg=>by
  rw [List.map_cons,List.foldl_cons,List.foldl_cons,←Cl c p _ (by omega)]
  congr 1
  have:Int.gcd (g*(c.natAbs:Int)) (x*c)=Int.gcd g x*c.natAbs:=by
   unfold Int.gcd
   rw [Int.natAbs_mul,Int.natAbs_mul,Int.natAbs_natCast,Nat.gcd_mul_right]
  rw [this];push_cast;rfl
theorem Zep(p:List Int)(c:Int):Qc (p.map (· * c))=Qc p*c.natAbs:=by
 have:=Cl c p 0 (Int.le_refl _)
 rw [Int.zero_mul]at this
 exact this
theorem Hj(p:List Int)(i:Nat):cf (Yx p) i*Qc p=cf p i:=by
 rw [Bi];exact Int.ediv_mul_cancel (Mt p i)
theorem Zr1:Yx []=[]:=rfl
theorem Dd{p:List Int}(h:Tr p)(h0:p≠[]):Qc p≠0:=fun e=>h.mem h0 ((Bx p).1 e _)
theorem Ld{p:List Int}(h:Tr p)(h0:p≠[]):Qc (Yx p)=1:=by
 have h1:=Dd h h0
 have h2:=Zep (Yx p) (Qc p)
 rw [show(Yx p).map (· * Qc p)=p from Ka (by rw [List.length_map,Yi]) fun i _=>by rw [Zgn _ _ (by simp)];exact Hj p i]at h2
 have h3:=Ns p
 have h4:Qc p*(Qc (Yx p)-1)=0:=by
  rw [Int.mul_sub,Int.mul_one,Int.mul_comm]
  have:((Qc p).natAbs:Int)=Qc p:=by omega
  rw [this]at h2;omega
 rcases Int.mul_eq_zero.1 h4 with h5 | h5<;>omega
theorem Zco{p:List Int}(h:Qc p=1):Yx p=p:=Ka (Yi p) fun i _=>by rw [Bi,h,Int.ediv_one]
theorem Eb{p:List Int}(h:Tr p):Yx (Yx p)=Yx p:=by
 by_cases h0:p=[]
 ·subst h0;rfl
 ·exact Zco (Ld h h0)
theorem Qo{p:List Int}(h:Tr p):Sim (Yx p) p:=by
 by_cases h0:p=[]
 ·subst h0;exact Sim.refl _
 ·exact⟨Qc p,1,Dd h h0,by decide,fun i=>by rw [Int.one_mul,Int.mul_comm];exact Hj p i⟩
def nrm(p:List Int):List Int:=Ki (Yx p)
theorem Zha{x y:List Int}(hx:Tr x)(hy:Tr y)(h0:x≠[])(h1:Qc x=1)(h2:Qc y=1)(h:Sim x y):x=y∨∀i,cf x i=- cf y i:=by
 have hl:=h.len hx hy
 obtain⟨m,n,hm,hn,e⟩:=h
 have h3:=Zep x m
 have h4:=Zep y n
 rw [show x.map (· * m)=y.map (· * n)from Ka (by simp [hl]) fun i _=>by
  rw [Zgn _ _ (by simp),Zgn _ _ (by simp),Int.mul_comm,Int.mul_comm (cf y i)];exact e i,h4,h1,h2]at h3
 have h5:m=n∨m=-n:=by omega
 rcases h5 with rfl | rfl
 ·exact .inl (Ka hl fun i _=>Int.eq_of_mul_eq_mul_left hm (e i))
 ·exact .inr fun i=>Int.eq_of_mul_eq_mul_left hn (by have:=e i;grind)
theorem Ga(g:List Int)(i:Nat):cf (Ki g) i=if g.length≠0∧cf g (g.length-1)<0 then-cf g i else cf g i:=by
 unfold Ki;split
 ·rw [Xn];omega
 ·rfl
theorem Nk{g:List Int}(h:Tr g):Tr (Ki g):=by
 unfold Ki;split
 ·exact Qw _ _
 ·exact h
theorem Kg(g:List Int):Sim (Ki g) g:=by
 by_cases h:g.length≠0∧cf g (g.length-1)<0
 ·exact⟨-1,1,by decide,by decide,fun i=>by rw [Ga,if_pos h];omega⟩
 ·exact⟨1,1,by decide,by decide,fun i=>by rw [Ga,if_neg h]⟩
theorem Zlr{a b:List Int}(ha:Tr a)(hb:Tr b)(h:Sim a b):nrm a=nrm b:=by
 by_cases h0:a=[]
 ·rw [h.nil hb h0,h0]
 ·have h0':b≠[]:=fun e=>h0 (h.symm.nil ha e)
  have hs:Sim (Yx a) (Yx b):=(Qo ha).trans (h.trans (Qo hb).symm)
  have hx:=Xi ha
  have hy:=Xi hb
  have hl:=hs.len hx hy
  have hx0:Yx a≠[]:=fun e=>h0 (List.eq_nil_of_length_eq_zero (by rw [←Yi,e];rfl))
  rcases Zha hx hy hx0 (Ld ha h0) (Ld hb h0') hs with e | e
  ·unfold nrm;rw [e]
  ·unfold nrm
   refine(Nk hx).ext (Nk hy) fun i=>?_
   rw [Ga,Ga,←hl,e i,e ((Yx a).length-1)]
   have hne:cf (Yx b) ((Yx a).length-1)≠0:=by rw [hl];exact hy.mem (fun e2=>hx0 (List.eq_nil_of_length_eq_zero (by rw [hl,e2];rfl)))
   have hl0:(Yx a).length≠0:=fun e2=>hx0 (List.eq_nil_of_length_eq_zero e2)
   by_cases h3:cf (Yx b) ((Yx a).length-1)<0
   ·rw [if_neg (by omega),if_pos ⟨hl0,h3⟩]
   ·rw [if_pos (by omega),if_neg (by omega)];omega
theorem Ztm:∀(f:Nat) {a b a' b':List Int},Tr a→Tr a'→Tr b→Tr b'→Sim a a'→Sim b b'→Sim (eu f a b) (eu f a' b')
 | 0,_,_,_,_,_,_,_,_,h,_=>h
 | f+1,a,b,a',b',ha,ha',hb,hb',h1,h2=>by
  unfold eu
  by_cases h0:b=[]
  ·rw [if_pos h0,if_pos (h2.nil hb' h0)];exact h1
  ·rw [if_neg h0,if_neg (fun e=>h0 (h2.symm.nil hb e))]
   have t1:=Lp (q:=b) ha
   have t2:=Lp (q:=b') ha'
   exact Ztm f hb hb' (Xi t1) (Xi t2) h2 ((Qo t1).trans ((Zr0 ha ha' hb hb' h0 h1 h2).trans (Qo t2).symm))
theorem Zl7:∀(f:Nat) {a b:List Int},Tr a→Tr b→Tr (eu f a b)
 | 0,_,_,h,_=>h
 | f+1,a,b,ha,hb=>by
  unfold eu
  split
  ·exact ha
  ·exact Zl7 f hb (Xi (Lp ha))
theorem Ze2:∀(f k:Nat) {a b:List Int},eok f a b→eu (f+k) a b=eu f a b
 | 0,k,a,b,h=>by rw [show b=[]from h,Ek,Ek]
 | f+1,k,a,b,h=>by
  rcases h with h | h
  ·rw [h,Ek,Ek]
  ·by_cases h0:b=[]
   ·rw [h0,Ek,Ek]
   ·rw [show f+1+k=f+k+1 by omega]
    unfold eu
    rw [if_neg h0,if_neg h0]
    exact Ze2 f k h.2
theorem Ztn:∀(f:Nat) {a b:List Int},Tr a→Tr b→Yx a=a→Yx b=b→Yx (eu f a b)=eu f a b
 | 0,_,_,_,_,h,_=>h
 | f+1,a,b,ha,hb,h1,h2=>by
  unfold eu
  split
  ·exact h1
  ·exact Ztn f hb (Xi (Lp ha)) h2 (Eb (Lp ha))
theorem Zi6{p q:List Int}(hp:Tr p)(hq:Tr q):Tr (gA p q):=by unfold gA;split<;>exact Xi ‹_›
theorem Zi5{p q:List Int}(hp:Tr p)(hq:Tr q):Tr (gB p q):=by unfold gB;split<;>exact Xi ‹_›
theorem Znt{F:Nat}{p q:List Int}(hp:Tr p)(hq:Tr q):Ku F p q=nrm (eu F (gA p q) (gB p q)):=by
 unfold Ku nrm
 rw [Ztn F (Zi6 hp hq) (Zi5 hp hq)]
 ·unfold gA;split
  ·exact Eb hq
  ·exact Eb hp
 ·unfold gB;split
  ·exact Eb hp
  ·exact Eb hq
theorem gcd_two{F G:Nat}{p q:List Int}(hp:Tr p)(hq:Tr q)(h1:eok F p q)(h2:eok G (gA p q) (gB p q)):Ki (Yx (eu F p q))=Ku G p q:=by
 rw [Znt hp hq]
 show nrm (eu F p q)=_
 rw [←Ze2 F (G+1) h1,←Ze2 G F h2]
 refine Zlr (Zl7 _ hp hq) (Zl7 _ (Zi6 hp hq) (Zi5 hp hq)) ?_
 rcases Nat.lt_or_ge p.length q.length with h | h
 ·rw [show gA p q=Yx q from if_pos h,show gB p q=Yx p from if_pos h]
  rw [show F+(G+1)=F+G+1 by omega,show G+F=F+G by omega]
  have h0:q≠[]:=List.length_pos_iff.1 (by omega)
  have:eu (F+G+1) p q=eu (F+G) q (Yx p):=by
   conv=>lhs;unfold eu
   rw [if_neg h0,show Pk p q=p from if_pos h]
  rw [this]
  exact Ztm _ hq (Xi hq) (Xi hp) (Xi hp) (Qo hq).symm (Sim.refl _)
 ·rw [show gA p q=Yx p from if_neg (by omega),show gB p q=Yx q from if_neg (by omega)]
  have h3:eu (F+(G+1)) p q=eu (F+G) p q:=by rw [Ze2 F (G+1) h1,Ze2 F G h1]
  rw [h3,show G+F=F+G by omega]
  exact Ztm _ hp (Xi hp) hq (Xi hq) (Qo hp).symm (Qo hq).symm
def chk:Nat→Nat→Nat→Nat→Nat→Bool
 | 0,_,lb,_,_=>Nat.beq lb 0
 | f+1,la,lb,A,B=>Nat.beq lb 0 || (bif Nat.blt la lb then chk f lb la B A else
   Nat.ble (A+(la-lb+1)*B) 65537 && (List.range lb).all fun l=>chk f lb l B (bif Nat.ble l 1 then 2 else A+(la-lb+1)*B))
theorem Zpy(p:List Int)(x y z:Int):(Zer p x y z).length≤p.length:=by
 unfold Zer
 split
 ·exact Nat.zero_le _
 ·refine Nat.le_trans (Hu _) ?_
  rw [Ao];omega
theorem Zn5(x y:Int):Gi x y∣x:=by
 unfold Gi;split
 ·exact Int.neg_dvd.2 (Int.gcd_dvd_left ..)
 ·exact Int.gcd_dvd_left ..
theorem Zh9(x y:Int):Gi x y∣y:=by
 unfold Gi;split
 ·exact Int.neg_dvd.2 (Int.gcd_dvd_right ..)
 ·exact Int.gcd_dvd_right ..
def s8(l:List Int):Prop:=∀x∈l,(Qq x.natAbs).size≤8
abbrev Z0:SL×List Int:=((none,0,0),[])
theorem vp_eu:∀(f:Nat) {a b:List Int},Vp a→Vp b→eok f a b→Vp (eu f a b)
 | 0,_,_,h,_,_=>h
 | f+1,a,b,ha,hb,h=>by
  unfold eu
  split
  ·exact ha
  ·rcases h with h | h
   ·contradiction
   ·exact vp_eu f hb (Lo (Cv ha h.1)) h.2
theorem Zvf{g:List Int}(h:Vp g):Vp (Ki g):=by
 unfold Ki
 split
 ·refine⟨fun i=>by rw [Xn];exact Aw h.sz i,Qw _ _,Nat.le_trans (Kt _ _) h.len⟩
 ·exact h
theorem Zqj{F:Nat}{p q:List Int}(hp:Vp p)(hq:Vp q)(h:eok F (gA p q) (gB p q)):Vp (Ku F p q):=Zvf (vp_eu F (vp_gA hp hq) (vp_gB hp hq) h)
def pevn(p:List Int)(x y:Int)(n:Nat):Int:=Qn (fun i=>cf p i*(x^i*y^(n-1-i))) n
def dn(p:List Int)(y:Int):Int:=y^(p.length-1)
theorem Zwx{p q:List Int}(hp:Tr p)(hq:Tr q)(h1:p≠[])(h2:q≠[])(x y:Int):pev (Mb p q) x y=pev p x y*pev q x y:=by
 have l1:=List.length_pos_iff.2 h1
 have l2:=List.length_pos_iff.2 h2
 unfold pev
 rw [Oe hp hq h1 h2]
 obtain⟨Fk,hF⟩:∃Fk:Nat→Nat→Int,∀k j,Fk k j=cf p k*cf q j*(x^(k+j)*y^(p.length+q.length-1-1-(k+j))):=⟨_,fun _ _=>rfl⟩
 have e1:Qn (fun i=>cf (Mb p q) i*(x^i*y^(p.length+q.length-1-1-i))) (p.length+q.length-1)=Qn (fun i=>Qn (fun k=>Fk k (i-k)) (i+1)) (p.length+q.length-1):=by
  refine Xg fun i _=>?_
  rw [Hc,PS.mul_c,←Cy]
  exact Xg fun k hk=>by
   rw [hF,show k+(i-k)=i by omega];rfl
 rw [e1,Zd6,Zah (m:=p.length) (by omega) fun k h1 h2=>Ff fun j _=>by rw [hF,Qf h1,Int.zero_mul,Int.zero_mul],←Cy]
 refine Xg fun k hk=>?_
 rw [Zah (m:=q.length) (by omega) fun j h1 h2=>by rw [hF,Qf h1,Int.mul_zero,Int.zero_mul],←Ng]
 refine Xg fun j hj=>?_
 rw [hF,Int.pow_add,show p.length+q.length-1-1-(k+j)=(p.length-1-k)+(q.length-1-j) by omega,Int.pow_add]
 generalize x^k=a;generalize x^j=b;generalize y^(p.length-1-k)=c;generalize y^(q.length-1-j)=d
 grind
theorem Iw(q:List Int):Mb [] q=[]:=Bc (.inl rfl)
theorem Zb3(p:List Int):Mb p []=[]:=Bc (.inr rfl)
theorem Zxl(N D:Int):N/Gi N D*D=N*(D/Gi N D):=by
 have h1:=Int.ediv_mul_cancel (Zn5 N D)
 have h2:=Int.ediv_mul_cancel (Zh9 N D)
 generalize N/Gi N D=n at *
 generalize D/Gi N D=d at *
 generalize Gi N D=g at *
 subst h1 h2
 grind
theorem Zs0{N D:Int}(h:0<D):0<D/Gi N D:=by
 have h1:Gi N D=(Int.gcd N D:Int):=if_neg (by omega)
 have h2:=Int.ediv_mul_cancel (Zh9 N D)
 rw [h1]at h2 ⊢
 generalize D/(Int.gcd N D:Int)=d at *
 rcases Int.lt_or_le 0 d with h3 | h3
 ·exact h3
 ·exfalso
  have:d*(Int.gcd N D:Int)≤0:=Int.mul_nonpos_of_nonpos_of_nonneg h3 (by omega)
  omega
section
variable {p q:List Int}
theorem Zcd(hp:Tr p)(hq:Tr q)(h1:p≠[])(h2:q≠[]):∀j,j≤p.length→∀t,cf (Qi (Mb p q) q j) t=(ps (p.take (p.length-j))*ps q).c t
 | 0,_,t=>by
  rw [Nat.sub_zero,List.take_length];exact Hc p q t
 | j+1,hj,t=>by
  have ih:=Zcd hp hq h1 h2 j (by omega)
  have l1:=List.length_pos_iff.2 h1
  have l2:=List.length_pos_iff.2 h2
  have hl:=Oe hp hq h1 h2
  have e0:Qi (Mb p q) q (j+1)=Zfo q (Qi (Mb p q) q j) (p.length-1-j):=by
   show Zfo q _ _=_;rw [hl];congr 1;omega
  have hq0:=hq.mem h2
  have htop:cf (Qi (Mb p q) q j) (p.length-1-j+q.length-1)=cf p (p.length-1-j)*cf q (q.length-1):=by
   rw [ih,show p.length-1-j+q.length-1=(p.length-1-j)+(q.length-1) by omega,Dl (fun i hi=>by rw [Gl,if_neg (by omega)]) (fun i hi=>Qf (by omega)),Gl,if_pos (by omega)]
  have hdq:dq q (Qi (Mb p q) q j) (p.length-1-j)=cf p (p.length-1-j):=by
   unfold dq;rw [htop];exact Int.mul_ediv_cancel _ hq0
  have e1:(ps (p.take (p.length-j))*ps q).c t=(ps (p.take (p.length-(j+1)))*ps q).c t+(ps (mono (p.length-1-j) (cf p (p.length-1-j)))*ps q).c t:=by
   rw [PS.mul_c,PS.mul_c,PS.mul_c,←Fx]
   refine Xg fun k _=>?_
   rw [Ik,Ik,Ik,Ik,Gl,Gl,Zim]
   by_cases a1:k=p.length-1-j
   ·rw [if_pos (by omega),if_neg (by omega),if_pos a1,←a1];omega
   ·rw [if_neg a1]
    by_cases a2:k<p.length-j
    ·rw [if_pos a2,if_pos (by omega)];omega
    ·rw [if_neg a2,if_neg (by omega)];omega
  rw [e0]
  unfold Zfo
  rw [Il,Ig,hl,hdq,ih,e1,Zh6,Ik]
  by_cases b1:t<p.length+q.length-1
  ·rw [if_pos b1]
   by_cases b2:p.length-1-j≤t
   ·rw [if_pos b2]
    by_cases b3:t<p.length-1-j+q.length
    ·rw [if_pos ⟨b2,b3⟩];omega
    ·rw [if_neg (by omega),Qf (p:=q) (by omega)];omega
   ·rw [if_neg b2,if_neg (by omega)];omega
  ·rw [if_neg b1,PS.mul_c]
   refine(Ff fun k _=>?_).symm
   rw [Ik,Ik,Gl]
   split
   ·rw [Qf (p:=q) (by omega),Int.mul_zero]
   ·rw [Int.zero_mul]
theorem Zlm(hp:Tr p)(hq:Tr q)(h2:q≠[]):pdv (Mb p q) q∧Kn (Mb p q) q=p:=by
 by_cases h1:p=[]
 ·subst h1;rw [Iw];exact⟨.inl rfl,rfl⟩
 have l1:=List.length_pos_iff.2 h1
 have l2:=List.length_pos_iff.2 h2
 have hl:=Oe hp hq h1 h2
 have hq0:=hq.mem h2
 have hd:∀k,k≤p.length-1→cf (Qi (Mb p q) q (p.length-1-k)) (k+q.length-1)=cf p k*cf q (q.length-1):=fun k hk=>by
  rw [Zcd hp hq h1 h2 _ (by omega),show k+q.length-1=k+(q.length-1) by omega,Dl (fun i hi=>by rw [Gl,if_neg (by omega)]) (fun i hi=>Qf (by omega)),Gl,if_pos (by omega)]
 have hn:(Mb p q).length-q.length=p.length-1:=by omega
 have hne:Mb p q≠[]:=List.length_pos_iff.1 (by omega)
 refine⟨.inr ⟨by omega,fun k hk=>?_,?_⟩,?_⟩
 ·unfold Mv;rw [hn]at hk ⊢;rw [hd k hk];exact Int.mul_emod_left _ _
 ·rw [hn,show p.length-1+1=p.length by omega]
  refine(Lb _).2 fun i=>?_
  rw [Zcd hp hq h1 h2 _ (Nat.le_refl _),Nat.sub_self,List.take_zero]
  exact Mu (fun t=>Qf (Nat.zero_le _)) _ _
 ·rw [Zhv hne]
  unfold pquo
  rw [hn,show p.length-1+1=p.length by omega,Ie (g:=cf p) fun k hk=>?_,Zh7,Zae hp]
  unfold Zt5 dq
  rw [hn,hd k (by omega)]
  exact Int.mul_ediv_cancel _ hq0
end
def Dv(g a:List Int):Prop:=∃(k:Int) (s:List Int),k≠0∧∀t,k*cf a t=(ps s*ps g).c t
theorem Znu(f:PS)(t:Nat):(ps [1]*f).c t=f.c t:=by
 rw [PS.mul_c,Fw (k:=0) (by omega) fun i _ hne=>by rw [Ik,Qf (p:=[1]) (by simp;omega),Int.zero_mul],Ik,show cf [1] 0=1 from rfl,Int.one_mul,Nat.sub_zero]
theorem Dv.refl(a:List Int):Dv a a:=⟨1,[1],by decide,fun t=>by rw [Znu,Int.one_mul,Ik]⟩
theorem Dv.nil(g:List Int):Dv g []:=⟨1,[],by decide,fun t=>by rw [Mu (fun t=>Qf (Nat.zero_le _)),Qf (Nat.zero_le _)];rfl⟩
theorem Dv.sim{g a b:List Int} : Dv g a→Sim a b→Dv g b:=fun⟨k,s,hk,h⟩ ⟨m,n,hm,hn,e⟩=>
 ⟨k*n,Xj s m,Int.mul_ne_zero hk hn,fun t=>by
  rw [PS.mul_c,show(fun i=>(ps (Xj s m)).c i*(ps g).c (t-i))=fun i=>m*((ps s).c i*(ps g).c (t-i))from funext fun i=>by rw [Ik,Ik,Ik,Xn];grind,Ng,←PS.mul_c,←h,Int.mul_assoc,←e];grind⟩
theorem Dv.lin{g a b c:List Int}(ha:Dv g a)(hb:Dv g b)(s:List Int)(L:Int)(hL:L≠0)(h:∀t,L*cf c t=(ps s*ps a).c t+cf b t):Dv g c:=by
 obtain⟨k,u,hk,h1⟩:=ha
 obtain⟨m,v,hm,h2⟩:=hb
 refine⟨L*(k*m),Zw0 (Xj (Mb s u) m) (Xj v k),Int.mul_ne_zero hL (Int.mul_ne_zero hk hm),fun t=>?_⟩
 have e1:ps g=ps g:=rfl
 have e2:k*(ps s*ps a).c t=(ps (Mb s u)*ps g).c t:=by
  rw [ps_pmul,PS.mul_assoc',PS.mul_c,PS.mul_c,←Ng]
  refine Xg fun i _=>?_
  rw [←h1,Ik,Ik];grind
 have e3:(ps (Zw0 (Xj (Mb s u) m) (Xj v k))*ps g).c t=m*(ps (Mb s u)*ps g).c t+k*(ps v*ps g).c t:=by
  rw [PS.mul_c,PS.mul_c,PS.mul_c,←Ng,←Ng,←Fx]
  refine Xg fun i _=>?_
  rw [Ik,Ik,Ik,Ik,Zup,Xn,Xn];grind
 have h0:=h t
 have h3:=h2 t
 rw [e3,←e2,←h3]
 generalize (ps s*ps a).c t=X at *
 generalize cf c t=C at *
 generalize cf b t=B at *
 have:L*(k*m)*C=k*m*(L*C):=by grind
 rw [this,h0];grind
theorem eu_dv:∀(f:Nat) {a b:List Int},Tr a→Tr b→eok f a b→Dv (eu f a b) a∧Dv (eu f a b) b
 | 0,a,b,ha,hb,h=>by rw [show b=[]from h];exact⟨Dv.refl _,Dv.nil _⟩
 | f+1,a,b,ha,hb,h=>by
  by_cases h0:b=[]
  ·subst h0;rw [Ek];exact⟨Dv.refl _,Dv.nil _⟩
  ·rcases h with h | h
   ·exact absurd h h0
   ·have e:eu (f+1) a b=eu f b (Yx (Pk a b)):=by
     conv=>lhs;unfold eu
     rw [if_neg h0]
    rw [e]
    have t1:=Lp (q:=b) ha
    obtain⟨d1,d2⟩:=eu_dv f hb (Xi t1) h.2
    obtain⟨k,s,hs⟩:=Gy a h0
    exact⟨d1.lin (d2.sim (Qo t1)) s _ (Nl (hb.mem h0) k) hs,d1⟩
theorem Dv.of_sim{g g' a:List Int} : Dv g a→Sim g g'→Dv g' a:=fun⟨k,s,hk,h⟩ ⟨m,n,hm,hn,e⟩=>
 ⟨m*k,Xj s n,Int.mul_ne_zero hm hk,fun t=>by
  rw [Int.mul_assoc,h,PS.mul_c,PS.mul_c,←Ng]
  refine Xg fun i _=>?_
  rw [Ik,Ik,Ik,Ik,Xn]
  have:=e (t-i)
  grind⟩
theorem Dv.zero{a:List Int}(ha:Tr a)(h:Dv [] a):a=[]:=by
 obtain⟨k,s,hk,h⟩:=h
 rw [←Zae ha,Lb]
 intro i
 have h1:=h i
 rw [PS.mul_comm',Mu (fun t=>Qf (Nat.zero_le _))]at h1
 rcases Int.mul_eq_zero.1 h1 with h2 | h2
 ·exact absurd h2 hk
 ·exact h2
theorem Zb4{F:Nat}{p q:List Int}(hp:Tr p)(hq:Tr q)(h:eok F (gA p q) (gB p q)):Dv (Ku F p q) p∧Dv (Ku F p q) q:=by
 have hA:=Zi6 hp hq
 have hB:=Zi5 hp hq
 obtain⟨h1,h2⟩:=eu_dv F hA hB h
 have hs:Sim (eu F (gA p q) (gB p q)) (Ku F p q):=(Kg _).symm
 have h1:=h1.of_sim hs
 have h2:=h2.of_sim hs
 by_cases hl:p.length<q.length
 ·rw [show gA p q=Yx q from if_pos hl]at h1
  rw [show gB p q=Yx p from if_pos hl]at h2
  exact⟨h2.sim (Qo hp),h1.sim (Qo hq)⟩
 ·rw [show gA p q=Yx p from if_neg hl]at h1
  rw [show gB p q=Yx q from if_neg hl]at h2
  exact⟨h1.sim (Qo hp),h2.sim (Qo hq)⟩
theorem Zbt{F:Nat}{p q:List Int}(hp:Tr p)(hq:Tr q):Tr (Ku F p q):=Nk (Zl7 F (Zi6 hp hq) (Zi5 hp hq))
theorem Zbx(p:List Int){c:Int}(h:c≠0):Sim p (Xj p c):=⟨c,1,h,by decide,fun i=>by rw [Xn];grind⟩
def fin8(la A:Nat):Bool:=Nat.ble la 2 || Nat.ble (64+(9-la)*A) 65536
def chk2:Nat→Nat→Nat→Nat→Nat→Bool
 | 0,la,_,A,_=>fin8 la A
 | f+1,la,lb,A,B=>bif Nat.beq lb 0 then fin8 la A else bif Nat.blt la lb then chk2 f lb la B A else
   (List.range lb).all fun l=>chk2 f lb l B (bif Nat.ble l 1 then 2 else A+(la-lb+1)*B)
theorem Cg{g:List Int}(h:Tr g):(Ki g).length=g.length:=(Kg g).len (Nk h) h
theorem Zeq(g:List Int):Qc (Ki g)=Qc g:=by
 have d1:Qc (Ki g)∣Qc g:=Hm fun i=>by
  have h:=Mt (Ki g) i
  rw [Ga]at h
  split at h
  ·exact Int.dvd_neg.1 h
  ·exact h
 have d2:Qc g∣Qc (Ki g):=Hm fun i=>by
  rw [Ga];split
  ·exact Int.dvd_neg.2 (Mt g i)
  ·exact Mt g i
 exact Int.dvd_antisymm (Ns _) (Ns _) d1 d2
theorem Zgb{F:Nat}{p q:List Int}(hp:Tr p)(hq:Tr q)(h0:Ku F p q≠[]):Qc (Ku F p q)=1:=by
 rw [Znt hp hq]at h0 ⊢
 unfold nrm at h0 ⊢
 rw [Zeq]
 refine Ld (Zl7 F (Zi6 hp hq) (Zi5 hp hq)) fun e=>h0 ?_
 rw [e];rfl
end Go.Sky
namespace Go.Sky
def Zbz(xs:List Int):Prop:=xs.length=0∨(xs.length+2)*(xs.length+2)*(msz xs+16)≤65536
instance (xs:List Int):Decidable (Zbz xs):=by unfold Zbz;infer_instance
def sqf(F:Nat)(xs:List Int):List Int:=Kn (nrm xs) (Ku F (nrm xs) (Pf (nrm xs)))
def sqOK(F:Nat)(xs:List Int):Prop:=(∀i,i<xs.length→bl (cf (nrm xs) (i+1)*((i:Int)+1)).natAbs≤65536)∧¬Zpz (nrm xs) (Pf (nrm xs))∧eok F (gA (nrm xs) (Pf (nrm xs))) (gB (nrm xs) (Pf (nrm xs)))∧
 Zdn (nrm xs) (Ku F (nrm xs) (Pf (nrm xs)))=0∧pdv (nrm xs) (Ku F (nrm xs) (Pf (nrm xs)))
def Lf(x y:List Int):List Int:=if cf y (y.length-1)<0∧(x.length-y.length+1)%2=1 then Yx (Pk x y)else Xj (Yx (Pk x y)) (-1)
def cok:Nat→List Int→List Int→Prop
 | 0,_,y=>y=[]
 | f+1,x,y=>y=[]∨(Zdn x y=0∧y.length≤x.length∧cok f y (Lf x y))
def Mk:Nat→List Int→List Int→List (List Int)
 | 0,x,_=>[x]
 | f+1,x,y=>if y=[]then [x]else x :: Mk f y (Lf x y)
theorem Ge(f:Nat)(x:List Int):Mk f x []=[x]:=by cases f<;>rfl
theorem Zdo{f:Nat}{a b:List Int}(h:cok f a b)(hb:b≠[]):∃g,f=g+1∧Zdn a b=0∧b.length≤a.length∧cok g b (Lf a b)∧Mk f a b=a :: Mk g b (Lf a b):=by
 cases f with
 | zero=>exact absurd h hb
 | succ g=>
  rcases h with h | h
  ·exact absurd h hb
  ·exact⟨g,rfl,h.1,h.2.1,h.2.2,by show(if b=[]then [a]else _)=_;rw [if_neg hb]⟩
def chn(F:Nat)(xs:List Int):List (List Int):=Mk F (sqf F xs) (Yx (Pf (sqf F xs)))
def Zfh(F:Nat)(xs:List Int):Prop:=sqOK F xs∧(∀i,i<xs.length→bl (cf (sqf F xs) (i+1)*((i:Int)+1)).natAbs≤65536)∧cok F (sqf F xs) (Yx (Pf (sqf F xs)))
theorem Zql{p:List Int}(h:Vp p):Vp (nrm p):=by
 unfold nrm
 have h1:=Lo h
 refine⟨fun i=>?_,Nk h1.tr,by rw [Cg h1.tr];exact h1.len⟩
 rw [Ga];split
 ·rw [Int.natAbs_neg];exact h1.sz i
 ·exact h1.sz i
theorem Pt{p:List Int}(h:Tr p):(nrm p).length=p.length:=by unfold nrm;rw [Cg (Xi h),Yi]
theorem Zgv{x y:List Int}(hx:Vp x)(hd:Zdn x y=0):Vp (Lf x y):=by
 have h:=Lo (Cv hx hd)
 unfold Lf
 split
 ·exact h
 ·exact⟨fun i=>by rw [Xn];exact Aw h.sz i,Qw _ _,Nat.le_trans (Kt _ _) h.len⟩
def Kx(s:Int×Int)(x:Int):Int×Int:=if x=0 then s else(if x=-s.2 then s.1+1 else s.1,x)
def chg(l:List Int):Int:=(l.foldl Kx (0,0)).1
theorem Bf{α β:Type}(f:α→β→α)(a:α)(l:List β)(x:β):(l ++ [x]).foldl f a=f (l.foldl f a) x:=by simp
theorem chg1_n(s:Int×Int)(x:Int):(Kx s x).1=s.1∨(Kx s x).1=s.1+1:=by
 unfold Kx;split
 ·exact .inl rfl
 ·dsimp only;split
  ·exact .inr rfl
  ·exact .inl rfl
def sgs(ls:List (List Int))(x y:Int):List Int:=ls.map fun p=>(pev p x y).sign
def sgr(ls:List (List Int)):List Int:=ls.map fun p=>(cf p (p.length-1)).sign
def sgl(ls:List (List Int)):List Int:=ls.map fun p=>if p.length%2=0 then-(cf p (p.length-1)).sign else(cf p (p.length-1)).sign
def smost(xs:List Int):Nat:=(xs.take (xs.length-1)).foldl (fun m c=>max m c.natAbs) 0
def sbound(xs:List Int):Int:=((smost xs/(cf xs (xs.length-1)).natAbs:Nat):Int)+2
def chk0(xs:List Int):Int:=if xs.length=0 then 3 else if Zbz xs then 0 else 7
def ef(z:Int×Int):Bool:=decide (512<bl z.1.natAbs) || decide (512<bl z.2.natAbs)
def chk2r(xs:List Int)(x y x2 y2:Int):Int:=if xs.length=0 then 3 else if 0<x*y2-x2*y then 3 else if Zbz xs∧ef (x,y)=false∧ef (x2,y2)=false then 0 else 7
theorem chk0_ok{xs:List Int}(h0:xs≠[])(h:Zbz xs):chk0 xs=0:=by
 unfold chk0
 rw [if_neg (fun e=>h0 (List.eq_nil_of_length_eq_zero e)),if_pos h]
theorem Zh2{xs:List Int}(h:¬cf (Yx xs) ((Yx xs).length-1)<0):nrm xs=Yx xs:=by
 unfold nrm Ki;rw [if_neg (by omega)]
theorem Zh3{xs:List Int}(h0:(Yx xs).length≠0)(h:cf (Yx xs) ((Yx xs).length-1)<0):nrm xs=Xj (Yx xs) (-1):=by
 unfold nrm Ki;rw [if_pos ⟨h0,h⟩]
theorem Zcc{P:Nat→Prop} : ∀n,P n→∃m,P m∧∀k,k<m→¬P k:=by
 intro n
 induction n using Nat.strongRecOn with
 | _ n ih=>
  intro h
  by_cases hx:∃k,k<n∧P k
  ·obtain⟨k,hk,hf⟩:=hx;exact ih k hk hf
  ·exact⟨n,h,fun k hk hf=>hx ⟨k,hk,hf⟩⟩
theorem Zs3{n:Nat}(h:2≤n):∃p,2≤p∧p∣n∧∀d,2≤d→d∣n→p≤d:=by
 obtain⟨p,⟨h1,h2⟩,h3⟩:=Zcc (P:=fun d=>2≤d∧d∣n) n ⟨h,Nat.dvd_refl n⟩
 exact⟨p,h1,h2,fun d hd hdn=>by
  rcases Nat.lt_or_ge d p with h4 | h4
  ·exact absurd ⟨hd,hdn⟩ (h3 d h4)
  ·exact h4⟩
theorem Zl0{n p:Nat}(h1:2≤p)(h2:p∣n)(h3:∀d,2≤d→d∣n→p≤d)(hn:0<n){x y:Int}(h:(p:Int)∣x*y):(p:Int)∣x∨(p:Int)∣y:=by
 by_cases hx:(p:Int)∣x
 ·exact .inl hx
 ·right
  have hg:Nat.gcd p x.natAbs=1:=by
   have hd:=Nat.gcd_dvd_left p x.natAbs
   have h0:0<Nat.gcd p x.natAbs:=Nat.gcd_pos_of_pos_left _ (by omega)
   rcases Nat.lt_or_ge (Nat.gcd p x.natAbs) 2 with h4 | h4
   ·omega
   ·have h5:=h3 _ h4 (Nat.dvd_trans hd h2)
    have h6:=Nat.le_of_dvd (by omega) hd
    exfalso
    refine hx (Int.natAbs_dvd_natAbs.1 ?_)
    rw [Int.natAbs_natCast]
    have h7:Nat.gcd p x.natAbs=p:=by omega
    rw [←h7];exact Nat.gcd_dvd_right _ _
  have h8:=Int.natAbs_dvd_natAbs.2 h
  rw [Int.natAbs_natCast,Int.natAbs_mul]at h8
  refine Int.natAbs_dvd_natAbs.1 ?_
  rw [Int.natAbs_natCast]
  exact(show Nat.Coprime p x.natAbs from hg).dvd_of_dvd_mul_left h8
theorem gauss{g a:List Int}(hg:Qc g=1):∀(n:Nat) (k:Int) (s:List Int),k.natAbs=n→k≠0→(∀t,k*cf a t=(ps s*ps g).c t)→∃q:List Int,∀t,cf a t=(ps q*ps g).c t:=by
 intro n
 induction n using Nat.strongRecOn with
 | _ n ih=>
  intro k s hkn hk h
  rcases Nat.lt_or_ge n 2 with h2 | h2
  ·have hkk:k*k=1:=by
    have:k=1∨k=-1:=by omega
    rcases this with e | e<;>subst e<;>rfl
   refine⟨Xj s k,fun t=>?_⟩
   have e:(ps (Xj s k)*ps g).c t=k*(ps s*ps g).c t:=by
    rw [PS.mul_c,PS.mul_c,←Ng]
    exact Xg fun i _=>by rw [Ik,Ik,Ik,Xn];grind
   rw [e,←h,←Int.mul_assoc,hkk,Int.one_mul]
  ·obtain⟨p,p2,pd,pm⟩:=Zs3 h2
   have hpp:∀{x y:Int},(p:Int)∣x*y→(p:Int)∣x∨(p:Int)∣y:=Zl0 p2 pd pm (by omega)
   have hpk:(p:Int)∣k:=Int.natAbs_dvd_natAbs.1 (by rw [Int.natAbs_natCast,hkn];exact pd)
   have hgn:∃j,¬(p:Int)∣cf g j:=Classical.byContradiction fun hx=>by
    have:(p:Int)∣Qc g:=Hm fun i=>Classical.byContradiction fun hy=>hx ⟨i,hy⟩
    rw [hg]at this
    have:=Int.le_of_dvd (by decide) this
    omega
   obtain⟨j0,hj0⟩:=hgn
   obtain⟨j,hj,hjm⟩:=Zcc (P:=fun j=>¬(p:Int)∣cf g j) j0 hj0
   have hs:∀i,(p:Int)∣cf s i:=fun i0=>Classical.byContradiction fun hi0=>by
    obtain⟨i,hi,him⟩:=Zcc (P:=fun i=>¬(p:Int)∣cf s i) i0 hi0
    have h3:=h (i+j)
    rw [PS.mul_c]at h3
    have key:∀m,m≤i+j+1→(p:Int)∣Qn (fun k=>if k=i then 0 else(ps s).c k*(ps g).c (i+j-k)) m:=fun m=>by
     induction m with
     | zero=>intro _;exact Int.dvd_zero _
     | succ m ihm=>
      intro hm
      rw [Xt]
      refine Int.dvd_add (ihm (by omega)) ?_
      split
      ·exact Int.dvd_zero _
      ·rename_i hne
       rw [Ik,Ik]
       rcases Nat.lt_or_ge m i with h4 | h4
       ·exact Int.dvd_trans (Classical.byContradiction fun hx=>him m h4 hx) (Int.dvd_mul_right _ _)
       ·exact Int.dvd_trans (Classical.byContradiction fun hx=>hjm (i+j-m) (by omega) hx) (Int.dvd_mul_left _ _)
    have e1:Qn (fun k=>(ps s).c k*(ps g).c (i+j-k)) (i+j+1)=Qn (fun k=>if k=i then 0 else(ps s).c k*(ps g).c (i+j-k)) (i+j+1)+cf s i*cf g j:=by
     have e2:Qn (fun k=>(ps s).c k*(ps g).c (i+j-k)) (i+j+1)=Qn (fun k=>(if k=i then 0 else(ps s).c k*(ps g).c (i+j-k))+(if k=i then(ps s).c k*(ps g).c (i+j-k)else 0)) (i+j+1):=
      Xg fun k _=>by split<;>omega
     rw [e2,Fx,Fw (f:=fun k=>if k=i then(ps s).c k*(ps g).c (i+j-k)else 0) (k:=i) (by omega) (fun q _ hq=>if_neg hq),if_pos rfl,Ik,Ik,show i+j-i=j by omega]
    rw [e1]at h3
    have h4:(p:Int)∣cf s i*cf g j:=by
     have h5:cf s i*cf g j=k*cf a (i+j)-Qn (fun k=>if k=i then 0 else(ps s).c k*(ps g).c (i+j-k)) (i+j+1):=by omega
     rw [h5]
     exact Int.dvd_sub (Int.dvd_trans hpk (Int.dvd_mul_right _ _)) (key _ (Nat.le_refl _))
    rcases hpp h4 with h5 | h5
    ·exact hi h5
    ·exact hj h5
   obtain⟨k',hk'⟩:=hpk
   have hp0:(p:Int)≠0:=by omega
   refine ih k'.natAbs ?_ k' (s.map (· / (p:Int))) rfl ?_ ?_
   ·rw [←hkn,hk',Int.natAbs_mul,Int.natAbs_natCast]
    have:0<k'.natAbs:=by
     rcases Nat.eq_zero_or_pos k'.natAbs with h6 | h6
     ·rw [show k'=0 by omega]at hk';simp at hk';exact absurd hk' hk
     ·exact h6
    have:=Nat.mul_le_mul_right k'.natAbs p2
    omega
   ·intro e;rw [e]at hk';simp at hk';exact hk hk'
   ·intro t
    refine Int.eq_of_mul_eq_mul_left hp0 ?_
    rw [←Int.mul_assoc,←hk',h,PS.mul_c,PS.mul_c,←Ng]
    refine Xg fun i _=>?_
    rw [Ik,Ik,Ik,Zgn _ _ (by simp),←Int.mul_assoc,Int.mul_ediv_cancel' (hs i)]
def ev1:List Int→Int→Int
 | [],_=>0
 | c :: r,t=>c+t*ev1 r t
def sdv:List Int→Int→List Int
 | [],_=>[]
 | [_],_=>[]
 | _ :: c :: r,t=>ev1 (c :: r) t :: sdv (c :: r) t
theorem Zb8:∀(u:List Int) (t:Int),(sdv u t).length=u.length-1
 | [],_=>rfl
 | [_],_=>rfl
 | _ :: c :: r,t=>by unfold sdv;rw [List.length_cons,Zb8 (c :: r) t];simp
theorem Zl6:∀(u:List Int) (t x:Int),ev1 u x=ev1 u t+(x-t)*ev1 (sdv u t) x
 | [],t,x=>by simp [ev1,sdv]
 | [c],t,x=>by simp [ev1,sdv]
 | a :: c :: r,t,x=>by
  have ih:=Zl6 (c :: r) t x
  show a+x*ev1 (c :: r) x=a+t*ev1 (c :: r) t+(x-t)*(ev1 (c :: r) t+x*ev1 (sdv (c :: r) t) x)
  rw [ih]
  generalize ev1 (c :: r) t=A
  generalize ev1 (sdv (c :: r) t) x=B
  grind
theorem Gn(a:Int)(u:List Int)(i:Nat):cf (a :: u) i=if i=0 then a else cf u (i-1):=by
 cases i with
 | zero=>rfl
 | succ i=>simp [cf]
theorem Zbh(i:Nat):cf [] i=0:=Qf (Nat.zero_le _)
theorem Zuo:∀(u:List Int) (t:Int) (i:Nat),cf u (i+1)=cf (sdv u t) i-t*cf (sdv u t) (i+1)
 | [],t,i=>by unfold sdv;simp [Zbh]
 | [c],t,i=>by unfold sdv;rw [Gn,if_neg (by omega)];simp [Zbh]
 | a :: c :: r,t,i=>by
  unfold sdv
  rw [Gn,if_neg (by omega),Nat.add_sub_cancel]
  cases i with
  | zero=>
   rw [Gn,if_pos rfl,Gn,if_pos rfl,Gn,if_neg (by omega)]
   show c=ev1 (c :: r) t-t*cf (sdv (c :: r) t) 0
   match r with
   | []=>simp [ev1,sdv,cf]
   | d :: r'=>unfold sdv;rw [Gn,if_pos rfl];show c=(c+t*ev1 (d :: r') t)-_;omega
  | succ i=>
   rw [Gn _ (sdv _ _) (i+1),if_neg (by omega),Gn _ (sdv _ _),if_neg (by omega),Nat.add_sub_cancel,Nat.add_sub_cancel]
   exact Zuo (c :: r) t i
theorem Zun:∀(u:List Int) (t:Int),cf u 0=ev1 u t-t*cf (sdv u t) 0
 | [],t=>by simp [ev1,sdv,cf]
 | [c],t=>by simp [ev1,sdv,cf]
 | a :: c :: r,t=>by
  unfold sdv
  rw [Gn,if_pos rfl,Gn,if_pos rfl]
  show a=(a+t*ev1 (c :: r) t)-t*ev1 (c :: r) t
  omega
theorem Zho:∀(n:Nat) (u:List Int) (R:List Int),u.length=n→(∃i,cf u i≠0)→R.Nodup→(∀t∈R,ev1 u t=0)→R.length<n
 | 0,u,R,hn,hu,_,_=>by
  obtain⟨i,hi⟩:=hu
  rw [List.eq_nil_of_length_eq_zero hn,Zbh]at hi
  exact absurd rfl hi
 | n+1,u,[],hn,hu,_,_=>by simp
 | n+1,u,t :: R,hn,hu,hd,hR=>by
  have h0:=hR t (List.mem_cons_self ..)
  have hl:=Zb8 u t
  have hw:∃i,cf (sdv u t) i≠0:=Classical.byContradiction fun hx=>by
   have hz:∀i,cf (sdv u t) i=0:=fun i=>Classical.byContradiction fun hy=>hx ⟨i,hy⟩
   obtain⟨i,hi⟩:=hu
   cases i with
   | zero=>rw [Zun u t,h0,hz]at hi;simp at hi
   | succ i=>rw [Zuo u t,hz,hz]at hi;simp at hi
  have:=Zho n (sdv u t) R (by omega) hw (List.nodup_cons.1 hd).2 fun x hx=>by
   have h1:=hR x (List.mem_cons_of_mem _ hx)
   rw [Zl6 u t x,h0,Int.zero_add]at h1
   rcases Int.mul_eq_zero.1 h1 with h2 | h2
   ·exfalso
    have:x=t:=by omega
    subst this
    exact(List.nodup_cons.1 hd).1 hx
   ·exact h2
  simp;omega
def kk:Nat→Nat
 | 0=>0
 | d+1=>30*kk d+1
theorem Ztl:∀(p:List Int) (t:Int),ev1 p t=Qn (fun i=>cf p i*t^i) p.length
 | [],t=>rfl
 | c :: r,t=>by
  rw [List.length_cons,Ir,ev1,Ztl r t,←Ng,Int.pow_zero,Int.mul_one]
  congr 1
  exact Xg fun i _=>by
   rw [Gn,if_neg (by omega),Nat.add_sub_cancel,Int.pow_succ];grind
theorem Zid(p:List Int)(t:Int):ev1 p t=pev p t 1:=by
 rw [Ztl];unfold pev
 exact Xg fun i _=>by rw [Int.one_pow,Int.mul_one]
def pts:List Int:=[0,1,2,3,4,5,6,7,8,9,10,11,12,13,14]
theorem Zgj{α:Type}(f:α→Bool):∀l:List α,(l.filter f).length+(l.filter fun x=>!f x).length=l.length
 | []=>rfl
 | x :: l=>by
  have ih:=Zgj f l
  cases h:f x<;>simp [h]<;>omega
def Psim(a b:List Int):Prop:=∃m n:Int,0<m∧0<n∧∀i,m*cf a i=n*cf b i
theorem Psim.refl(a:List Int):Psim a a:=⟨1,1,by decide,by decide,fun _=>rfl⟩
theorem Psim.symm{a b:List Int} : Psim a b→Psim b a:=fun⟨m,n,hm,hn,h⟩=>⟨n,m,hn,hm,fun i=>(h i).symm⟩
theorem Psim.trans{a b c:List Int} : Psim a b→Psim b c→Psim a c:=fun⟨m,n,hm,hn,h⟩ ⟨u,v,hu,hv,k⟩=>
 ⟨m*u,n*v,Int.mul_pos hm hu,Int.mul_pos hn hv,fun i=>by have h1:=h i;have h2:=k i;grind⟩
theorem Psim.sim{a b:List Int} : Psim a b→Sim a b:=fun⟨m,n,hm,hn,h⟩=>⟨m,n,by omega,by omega,h⟩
theorem Zb2{p:List Int}(h:Tr p):Psim (Yx p) p:=by
 by_cases h0:p=[]
 ·subst h0;exact Psim.refl _
 ·exact⟨Qc p,1,by have:=Ns p;have:=Dd h h0;omega,by decide,fun i=>by rw [Int.one_mul,Int.mul_comm];exact Hj p i⟩
theorem Zf7{a b:List Int}(ha:Tr a)(hb:Tr b)(h:Psim a b):Yx a=Yx b:=by
 by_cases h0:a=[]
 ·rw [h.sim.nil hb h0,h0]
 ·have h0':b≠[]:=fun e=>h0 (h.sim.symm.nil ha e)
  obtain⟨m,n,hm,hn,e⟩:=(Zb2 ha).trans (h.trans (Zb2 hb).symm)
  have hx:=Xi ha
  have hy:=Xi hb
  have hs:Sim (Yx a) (Yx b):=⟨m,n,by omega,by omega,e⟩
  have hx0:Yx a≠[]:=fun e=>h0 (List.eq_nil_of_length_eq_zero (by rw [←Yi,e];rfl))
  rcases Zha hx hy hx0 (Ld ha h0) (Ld hb h0') hs with h1 | h1
  ·exact h1
  ·exfalso
   have h2:=hx.mem hx0
   have h3:=e ((Yx a).length-1)
   have h4:=h1 ((Yx a).length-1)
   rw [h4]at h3 h2
   generalize cf (Yx b) ((Yx a).length-1)=z at h3 h2
   rw [Int.mul_neg]at h3
   have h5:(m+n)*z=0:=by rw [Int.add_mul];omega
   rcases Int.mul_eq_zero.1 h5 with h6 | h6<;>omega
def Ai(y:List Int):Int:=if cf y (y.length-1)<0 then-cf y (y.length-1)else cf y (y.length-1)
def rb(x y:List Int):Int:=if cf y (y.length-1)<0 then-cf x (x.length-1)else cf x (x.length-1)
def Fh(x y:List Int):List Int:=Zfm (Xj x (Ai y)) (shm y (rb x y) (x.length-y.length) y.length)
def Bn:Nat→List Int→List Int→List Int
 | 0,x,_=>x
 | f+1,x,y=>if x.length<y.length then x else Bn f (Fh x y) y
theorem Zcq{x y:List Int}(hx:Tr x)(hy:0<y.length)(hl:y.length≤x.length):(Fh x y).length<x.length:=by
 have h:=Cw (p:=Fh x y) (n:=x.length-1) fun i hi=>by
  unfold Fh
  rw [Kq,Xn,Zoy]
  by_cases he:i=x.length-1
  ·subst he
   rw [if_pos (by omega),show x.length-1-(x.length-y.length)=y.length-1 by omega]
   unfold Ai rb
   split
   ·grind
   ·grind
  ·rw [Qf (p:=x) (by omega),if_neg (by omega)];omega
 rw [show tzl (Fh x y)=Fh x y from Zae (Zbs _ _)]at h
 omega
theorem Zwd(x:List Int){y:List Int}(t:Nat):Ai y*cf x t=(ps (mono (x.length-y.length) (rb x y))*ps y).c t+cf (Fh x y) t:=by
 unfold Fh
 rw [Zh6,Kq,Xn,Zoy,Ik]
 by_cases h1:x.length-y.length≤t
 ·rw [if_pos h1]
  by_cases h2:t<x.length-y.length+y.length
  ·rw [if_pos ⟨h1,h2⟩,Int.mul_comm (cf x t)];omega
  ·rw [if_neg (by omega),Qf (p:=y) (by omega),Int.mul_comm (cf x t)];omega
 ·rw [if_neg h1,if_neg (by omega),Int.mul_comm (cf x t)];omega
theorem Zdc{y:List Int}(hy:Tr y)(h0:y≠[]):0<Ai y:=by
 have:=hy.mem h0
 unfold Ai;split<;>omega
theorem Ag{y:List Int}(hy:Tr y)(h0:y≠[]):∀(f:Nat) (x:List Int),Tr x→x.length<y.length+f→Tr (Bn f x y)∧(Bn f x y).length<y.length∧∃(k:Nat) (s:List Int),∀t,Ai y^k*cf x t=(ps s*ps y).c t+cf (Bn f x y) t
 | 0,x,hx,hl=>⟨hx,hl,0,[],fun t=>by rw [Mu (fun t=>Qf (Nat.zero_le _)),Int.pow_zero];unfold Bn;omega⟩
 | f+1,x,hx,hl=>by
  unfold Bn
  by_cases h:x.length<y.length
  ·rw [if_pos h]
   exact⟨hx,h,0,[],fun t=>by rw [Mu (fun t=>Qf (Nat.zero_le _)),Int.pow_zero];omega⟩
  ·rw [if_neg h]
   have h1:=Zcq hx (List.length_pos_iff.2 h0) (by omega)
   obtain⟨h2,h3,k,s,hs⟩:=Ag hy h0 f (Fh x y) (Zbs _ _) (by omega)
   refine⟨h2,h3,k+1,Zfm (Xj s 1) (Xj (mono (x.length-y.length) (rb x y)) (-(Ai y^k))),fun t=>?_⟩
   have h4:=hs t
   have h5:=Zwd x (y:=y) t
   rw [Zdh,Int.pow_succ]
   generalize Ai y^k=K at *
   generalize Ai y=a at *
   generalize (ps (mono (x.length-y.length) (rb x y))*ps y).c t=M at *
   generalize (ps s*ps y).c t=S at *
   generalize cf (Fh x y) t=X at *
   generalize cf (Bn f (Fh x y) y) t=Z at *
   have:K*a*cf x t=K*(a*cf x t):=by grind
   rw [this,h5];grind
theorem Znp(l:Int)(h:l≠0):∀n:Nat,(l<0∧n%2=1→l^n<0)∧(¬(l<0∧n%2=1)→0<l^n)
 | 0=>⟨fun h=>by omega,fun _=>by rw [Int.pow_zero];decide⟩
 | n+1=>by
  have ih:=Znp l h n
  rw [Int.pow_succ]
  by_cases h1:l<0
  ·by_cases h2:n%2=1
   ·have h3:=ih.1 ⟨h1,h2⟩
    exact⟨fun h=>by omega,fun _=>Int.mul_pos_of_neg_of_neg h3 h1⟩
   ·have h3:=ih.2 (by omega)
    exact⟨fun _=>Int.mul_neg_of_pos_of_neg h3 h1,fun h=>by omega⟩
  ·have h3:=ih.2 (by omega)
   exact⟨fun h=>by omega,fun _=>Int.mul_pos h3 (by omega)⟩
def Zlj(p:List Int):List Int:=Xj p (-1)
theorem Fn(p:List Int)(i:Nat):cf (Zlj p) i=- cf p i:=by unfold Zlj;rw [Xn];omega
theorem Zps{p:List Int}(h:Tr p):Yx (Zlj p)=Zlj (Yx p):=by
 have hc:Qc (Zlj p)=Qc p:=by
  have d1:Qc (Zlj p)∣Qc p:=Hm fun i=>by
   have h:=Mt (Zlj p) i
   rw [Fn]at h;exact Int.dvd_neg.1 h
  have d2:Qc p∣Qc (Zlj p):=Hm fun i=>by rw [Fn];exact Int.dvd_neg.2 (Mt p i)
  exact Int.dvd_antisymm (Ns _) (Ns _) d1 d2
 refine(Xi (Qw _ _)).ext (Qw _ _) fun i=>?_
 show cf (Yx (Zlj p)) i=cf (Zlj (Yx p)) i
 rw [Fn,Bi,Fn,hc,Bi]
 exact Int.neg_ediv_of_dvd (Mt p i)
theorem Zai{x y:List Int}{f:Nat}(hx:Tr x)(hy:Tr y)(h0:y≠[])(hl:y.length≤x.length)(hf:x.length<y.length+f):Yx (Zlj (Bn f x y))=Lf x y:=by
 obtain⟨tr,lr,k,s,hs⟩:=Ag hy h0 f x hx hf
 have ly:=List.length_pos_iff.2 h0
 obtain⟨s2,hs2⟩:=Zeh (p:=x) ly hl _ (Nat.le_refl _)
 have hp:∀t,cf (Pe x y (x.length-y.length+1)) t=cf (Pk x y) t:=fun t=>by
  unfold Pk;rw [if_neg (by omega),Lr]
 have lp:=Qx x h0
 have htp:=Lp (q:=y) hx
 have hlead:=hy.mem h0
 have hK:0<Ai y^k:=Int.pow_pos (Zdc hy h0)
 have hsg:=Znp (cf y (y.length-1)) hlead (x.length-y.length+1)
 generalize hL:cf y (y.length-1)^(x.length-y.length+1)=L at hs2 hsg
 have hL0:L≠0:=by rw [←hL];exact Nl hlead _
 generalize Ai y^k=K at hs hK
 have key:∀t,(ps (Zfm (Xj s2 K) (Xj s L))*ps y).c t=cf (Zfm (Xj (Bn f x y) L) (Xj (Pk x y) K)) t:=fun t=>by
  rw [Zdh,Kq,Xn,Xn,←hp t]
  have h1:=hs t
  have h2:=hs2 t
  generalize cf (Pe x y (x.length-y.length+1)) t=A at *
  grind
 have z:=Zsp hy h0 key fun t ht=>by
  rw [Kq,Xn,Xn,Qf (p:=Bn f x y) (by omega),Qf (p:=Pk x y) (by omega)];omega
 have e:∀t,L*cf (Bn f x y) t=K*cf (Pk x y) t:=fun t=>by
  have h1:=key t
  rw [Mu z,Kq,Xn,Xn]at h1
  grind
 unfold Lf
 by_cases hc:cf y (y.length-1)<0∧(x.length-y.length+1)%2=1
 ·rw [if_pos hc]
  have hn:=hsg.1 hc
  exact Zf7 (Qw _ _) htp ⟨-L,K,by omega,hK,fun t=>by rw [Fn,←e];grind⟩
 ·rw [if_neg hc]
  have hn:=hsg.2 hc
  rw [show Xj (Yx (Pk x y)) (-1)=Zlj (Yx (Pk x y))from rfl,←Zps htp]
  exact Zf7 (Qw _ _) (Qw _ _) ⟨L,K,hn,hK,fun t=>by
   rw [Fn,Fn,Int.mul_neg,e,Int.mul_neg]⟩
theorem Zaf{x y:List Int}(hx:Tr x):Tr (Lf x y):=by
 unfold Lf;split
 ·exact Xi (Lp hx)
 ·exact Qw _ _
theorem Fa{x y:List Int}(hx:Tr x):(Lf x y).length=(Pk x y).length:=by
 unfold Lf
 have h:Tr (Yx (Pk x y)):=Xi (Lp hx)
 split
 ·exact Yi _
 ·rw [←Yi (Pk x y)]
  exact((Zbx (Yx (Pk x y)) (by decide:(-1:Int)≠0)).len h (Qw _ _)).symm
theorem Zm1{n:Nat}{p:List Int}(h:Sz n p):Sz n (nrm p):=fun i=>by
 unfold nrm;rw [Ga];split
 ·rw [Int.natAbs_neg];exact Hd h i
 ·exact Hd h i
theorem Zgd{p:List Int}(h:Tr p)(h0:p≠[]):nrm p≠[]:=fun e=>h0 (List.eq_nil_of_length_eq_zero (by rw [←Pt h,e];rfl))
theorem Ej{g:List Int}(h:Tr g)(h0:g≠[]):0<cf (Ki g) ((Ki g).length-1):=by
 have h1:=h.mem h0
 rw [Cg h,Ga]
 have:g.length≠0:=fun e=>h0 (List.eq_nil_of_length_eq_zero e)
 split<;>omega
theorem Cf{p:List Int}(h:Tr p)(h0:p≠[]):Qc (nrm p)=1:=by unfold nrm;rw [Zeq];exact Ld h h0
theorem Zsg{p:List Int}(h:Tr p)(h1:Qc p=1)(h2:0<cf p (p.length-1)):nrm p=p:=by
 unfold nrm;rw [Zco h1];unfold Ki;rw [if_neg (by omega)]
theorem Nh{xs:List Int}{F:Nat}(hx:Tr xs)(h0:xs≠[])(hok:eok F (gA (nrm xs) (Pf (nrm xs))) (gB (nrm xs) (Pf (nrm xs)))) :
  pdv (nrm xs) (Ku F (nrm xs) (Pf (nrm xs)))∧Tr (sqf F xs)∧sqf F xs≠[]∧nrm xs=Mb (sqf F xs) (Ku F (nrm xs) (Pf (nrm xs)))∧Ku F (nrm xs) (Pf (nrm xs))≠[]∧nrm (sqf F xs)=sqf F xs:=by
 have hs:Tr (nrm xs):=Nk (Xi hx)
 have hd:Tr (Pf (nrm xs)):=Nv hs
 have hs0:=Zgd hx h0
 have hdv:=(Zb4 hs hd hok).1
 have htg:=Zbt (F:=F) hs hd
 have hg0:Ku F (nrm xs) (Pf (nrm xs))≠[]:=fun e=>hs0 ((e▸hdv).zero hs)
 have hc:=Zgb hs hd hg0
 obtain⟨k,s,hk,h⟩:=hdv
 obtain⟨q,hq⟩:=gauss hc _ k s rfl hk h
 have hqe:nrm xs=Mb (tzl q) (Ku F (nrm xs) (Pf (nrm xs))):=hs.ext (Pi _ _) fun i=>by
  rw [Hc,hq,ps_tzl]
 obtain⟨p1,p2⟩:=Zlm (Oy q) htg hg0
 have hsq:sqf F xs=tzl q:=by
  unfold sqf
  have p2':=p2
  rw [←hqe]at p2'
  exact p2'
 rw [←hqe]at p1
 have hq0:tzl q≠[]:=fun e=>hs0 (by rw [hqe,e,Iw])
 refine⟨p1,by rw [hsq];exact Oy q,by rw [hsq];exact hq0,by rw [hsq];exact hqe,hg0,?_⟩
 rw [hsq]
 refine Zsg (Oy q) ?_ ?_
 ·have h1:=Cf hx h0
  have h2:Qc (tzl q)∣Qc (nrm xs):=Hm fun i=>by
   rw [hqe,Hc,PS.mul_c]
   have key:∀m,Qc (tzl q)∣Qn (fun k=>(ps (tzl q)).c k*(ps (Ku F (nrm xs) (Pf (nrm xs)))).c (i-k)) m:=fun m=>by
    induction m with
    | zero=>exact Int.dvd_zero _
    | succ m ih=>rw [Xt];exact Int.dvd_add ih (Int.dvd_trans (Mt (tzl q) m) (Int.dvd_mul_right _ _))
   exact key _
  rw [h1]at h2
  have h3:=Ns (tzl q)
  have h4:=Int.le_of_dvd (by decide) h2
  have h5:Qc (tzl q)≠0:=Dd (Oy q) hq0
  omega
 ·have l1:=List.length_pos_iff.2 hq0
  have l2:=List.length_pos_iff.2 hg0
  have h1:0<cf (nrm xs) ((nrm xs).length-1):=Ej (Xi hx) (fun e=>h0 (List.eq_nil_of_length_eq_zero (by rw [←Yi,e];rfl)))
  have h2:0<cf (Ku F (nrm xs) (Pf (nrm xs))) ((Ku F (nrm xs) (Pf (nrm xs))).length-1):=Ej (Zl7 F (Zi6 hs hd) (Zi5 hs hd)) (fun e=>hg0 (by unfold Ku;rw [e];rfl))
  have h3:=Oe (Oy q) htg hq0 hg0
  rw [←hqe]at h3
  have h4:cf (nrm xs) ((nrm xs).length-1)=cf (tzl q) ((tzl q).length-1)*cf (Ku F (nrm xs) (Pf (nrm xs))) ((Ku F (nrm xs) (Pf (nrm xs))).length-1):=by
   rw [h3,hqe,Hc,←hqe,show(tzl q).length+(Ku F (nrm xs) (Pf (nrm xs))).length-1-1=((tzl q).length-1)+((Ku F (nrm xs) (Pf (nrm xs))).length-1) by omega]
   exact Dl (fun i hi=>Qf (by omega)) (fun i hi=>Qf (by omega))
  rw [h4]at h1
  rcases Int.lt_or_le 0 (cf (tzl q) ((tzl q).length-1))with h5 | h5
  ·exact h5
  ·exfalso
   have:=Int.mul_nonpos_of_nonpos_of_nonneg h5 (Int.le_of_lt h2)
   omega
theorem Oj(p:List Int):(Pf p).length=p.length-1:=Xr _ _
theorem Zt3{p:List Int}{n:Nat}(hp:Sz n p)(hl:p.length≤25)(i:Nat):bl (cf p (i+1)*((i:Int)+1)).natAbs≤n+5:=by
 rcases Nat.lt_or_ge (i+1) p.length with h | h
 ·have h1:=Xs (cf p (i+1)) ((i:Int)+1)
  have h2:=hp (i+1)
  have h3:bl ((i:Int)+1).natAbs≤5:=(Me 5 _).2 (by omega)
  omega
 ·rw [Qf h];simp [Le]
theorem Zdq(p:List Int)(i:Nat):cf (Pf p) i=cf p (i+1)*((i:Int)+1):=by
 unfold Pf
 rw [Il]
 split
 ·rfl
 ·rw [Qf (by omega),Int.zero_mul]
theorem He{p:List Int}{n:Nat}(hp:Sz n p)(hl:p.length≤25):Sz (n+5) (Pf p):=fun i=>by rw [Zdq];exact Zt3 hp hl i
end Go.Sky

