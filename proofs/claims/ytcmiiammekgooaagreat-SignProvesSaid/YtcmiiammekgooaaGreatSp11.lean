/- Rules, arithmetic and contracts: part 12. No conditions but those that each theorem names. -/
import Derived.Test.YtcmiiammekgooaaGreatSp10
set_option linter.all false
namespace Go.Sky
open Go.Proofs.Tryz
open Go.Proofs
set_option maxRecDepth 20000
set_option maxHeartbeats 4000000
set_option linter.unusedSimpArgs false
theorem Zhi(x y x2 y2:Int)(hx:bl x.natAbs≤65536)(hy:bl y.natAbs≤65536)(hx2:bl x2.natAbs≤65536)(hy2:bl y2.natAbs≤65536)(hp:0<y)(hp2:0<y2):Od prog 177 #[rX x y,rX x2 y2] [] (.bool true):=by
 refine Yg func177 J ntmps177 J trivial fun w0 sc hw hsc=>?_
 simp only [Zs,Zq]
 exact Zb<|Zf<|tt (Xp (i:=1) K5 hw) fun b _=>tt (Xp (i:=2) K5 hw) fun b_2 _=>Zo J<|Zd<|Za<|Zb<|Zf<|dt (Pj (i:=1) K3 Xf Ym K4)<|tt (Zy (n:=2) (Oh _ _ ‹_› ‹_› ‹_›) K4 Zbq Ze J hw) fun _ _=>mv J<|Zx (Pj (i:=2) K3 Xf Ym K4) K2<|Pp (Zy (n:=2) (Oh _ _ ‹_› ‹_› ‹_›) K4 Zbq Ze J hw) K3 fun _ _=>dt (Om K3)<|Zo J<|Zd<|Za<|Zp<|xU hsc results177 J J J
theorem Zfp(x y x2 y2:Int)(hx:bl x.natAbs≤65536)(hy:bl y.natAbs≤65536)(hx2:bl x2.natAbs≤65536)(hy2:bl y2.natAbs≤65536):Cal prog 178 #[rX x y,rX x2 y2] [] true (G:=Bool×Value×Bool×Value×Bool×Value) (fun r=>sg r.1 (x*y2)∧sg r.2.2.1 (x2*y)∧sg r.2.2.2.2.1 (y*y2)) (fun r=> .tuple #[.agg #[.bool r.1,r.2.1],.agg #[.bool r.2.2.1,r.2.2.2.1],.agg #[.bool r.2.2.2.2.1,r.2.2.2.2.2]]) (fun r=>[Dj r.2.1 (x*y2).natAbs,Dj r.2.2.2.1 (x2*y).natAbs,Dj r.2.2.2.2.2 (y*y2).natAbs]):=by
 refine Yg func178 J ntmps178 J trivial fun w0 sc hw hsc=>?_
 simp only [Zs,Zq]
 have b1:=Qb x y2
 have b2:=Qb x2 y
 have b3:=Qb y y2
 have b4:=Qb x x2
 refine Zb<|Zf<|tt (Xp (i:=1) K5 hw) fun b _=>tt (Xp (i:=2) K5 hw) fun b_2 _=>tt (Xi (i:=3) K2 zeroValue154 K2 hw) fun b_3 _=>tt (Xi (i:=4) K2 zeroValue154 K2 hw) fun b_4 _=>tt (Xi (i:=5) K2 zeroValue154 K2 hw) fun b_5 _=>Zd<|Za<|Zb<|Ni [1,2] [23]<|Zw (n:=0) [(0,0),(1,0),(3,0),(4,0),(7,0),(8,0),(10,0),(11,0),(14,0),(15,0),(17,0),(18,0),(2,1),(5,1),(6,1),(9,1),(12,1),(13,1),(16,1),(19,1),(20,1),(21,1),(22,1),(23,3)]<|Zh K2 (Yy (Qy K2 Hn J Yb K2) K2)<|Zh K2 (Yy (Qm (i:=1) K3 Xl Yb K2) K2)<|Zh K2 (Yy (Qy K2 Hn J Yb K2) K2)<|Zh K2 (Yy (Qm (i:=2) K3 Xl Yb K2) K2)<|Zh K2 (Yy (Qy K2 Hn J Yb K2) K2)<|Zh K2 (Yy (Qm (i:=2) K3 Xl Yb K2) K2)<|Zh K2 (Yy (Qy K2 Hn J Yb K2) K2)<|Zh K2 (Yy (Qm (i:=1) K3 Xl Yb K2) K2)<|Zh K2 (Yy (Qy K2 Hn J Yb K2) K2)<|Zh K2 (Yy (Qm (i:=1) K3 Xl Yb K2) K2)<|Zh K2 (Yy (Qy K2 Hn J Yb K2) K2)<|Zh K2 (Yy (Qm (i:=2) K3 Xl Yb K2) K2) ?_
 refine Yq J (Zy (n:=6) (Oe _ _ (Xs _)) K4 Ld Ze J hw) fun g hg=>Yq J (Zy (n:=7) (Oe _ _ (Xs _)) K4 Ld Ze J hw) fun g_2 hg_2=>Yq J (Yf (n:=8) (Zd9 _ _ _ _ _ _ ‹_› ‹_›) K5 call176 (Zi 6 K3 (Zi 7 K3 Ze)) J hw) fun g_3 hg_3=>Yq J (Zy (n:=9) (Oe _ _ (Xs _)) K4 Ld Ze J hw) fun g_4 hg_4=>Yq J (Zy (n:=10) (Oe _ _ (Xs _)) K4 Ld Ze J hw) fun g_5 hg_5=>Yq J (Yf (n:=11) (Zd9 _ _ _ _ _ _ ‹_› ‹_›) K5 call176 (Zi 9 K3 (Zi 10 K3 Ze)) J hw) fun g_6 hg_6=>Yq J (Zy (n:=12) (Oe _ _ (Xs _)) K4 Ld Ze J hw) fun g_7 hg_7=>Yq J (Zy (n:=13) (Oe _ _ (Xs _)) K4 Ld Ze J hw) fun g_8 hg_8=>Yq J (Yf (n:=14) (Zd9 _ _ _ _ _ _ ‹_› ‹_›) K5 call176 (Zi 12 K3 (Zi 13 K3 Ze)) J hw) fun g_9 hg_9=>Yq J (Zcz 3 J J K2 (fun ob=>Zt (i:=3) K6 Xb K2 ⟨Zc J,Zj (i:=8) J Zg,trivial⟩ J hw ob)) (fun _ _=>?_)
 exact Yq J (Zcz 4 J J K2 (fun ob=>Zt (i:=4) K6 Xb K2 ⟨Zc J,Zj (i:=11) J Zg,trivial⟩ J hw ob)) fun _ _=>Qs J (Zt (i:=5) K6 Xb K2 ⟨Zc J,Zj (i:=14) J Zg,trivial⟩ J hw trivial) fun _ _=>Yi<|Yh<|Za<|Zp<|Yr (.inl J) hsc (_,_,_,_,_,_) _ (fun a w hs=>Ztg hs results178 (Yw (i:=3) J J Ln Xb J) (Yw (i:=4) J J Ln Xb J) (Yw (i:=5) J J Ln Xb J)) J ⟨by assumption,by assumption,by assumption⟩ J (Kg 8 K3 (Kg 11 K3 (Kg 14 K3 Zm)))
theorem Zfq(x y x2 y2:Int)(hx:bl x.natAbs≤65536)(hy:bl y.natAbs≤65536)(hx2:bl x2.natAbs≤65536)(hy2:bl y2.natAbs≤65536)(hp:0<y)(hp2:0<y2):Od prog 146 #[rX x y,rX x2 y2] [] (.tuple #[.int .i64 (x*y2-x2*y).sign,.int .i64 0]):=by
 refine Yg func146 J ntmps146 J trivial fun w0 sc hw hsc=>?_
 simp only [Zs,Zq]
 have b1:=Qb x y2
 have b2:=Qb x2 y
 have b3:=Qb y y2
 have b4:=Qb x x2
 have b5:=Zls (x2*y)
 have b6:=Ia (x*y2) (-(x2*y))
 refine Zb<|Zf<|tt (Xp (i:=1) K5 hw) fun b _=>tt (Xp (i:=2) K5 hw) fun b_2 _=>Zo J<|Zo J<|Zd<|Za<|Zb<|Zb<|Zf<|dt (Pj (i:=1) K3 Xf Ym K4)<|dt (Pj (i:=2) K3 Xf Ym K4)<|tt (Yf (n:=2) (Zhi _ _ _ _ ‹_› ‹_› ‹_› ‹_› ‹_› ‹_›) K5 call177 Ze J hw) fun _ _=>dt (Xh J J)<|Zd<|Za<|Yk J<|Zl<|Za<|Zb<|Zf<|dt (Pj (i:=1) K3 Xf Ym K4)<|dt (Pj (i:=2) K3 Xf Ym K4)<|tt (Yf (n:=3) (Zfp _ _ _ _ ‹_› ‹_› ‹_› ‹_›) K5 call178 Ze J hw) (fun g hg=>?_)
 obtain⟨hc1,hc2,hc3⟩:=hg
 refine mv J<|dt (Xa K3)<|dt (Xa K3)<|dt (Xa K3)<|tt (Xi (i:=6) K2 zeroValue154 K2 hw) fun b_3 _=>tt (Xi (i:=7) K2 zeroValue154 K2 hw) fun b_4 _=>tt (Xi (i:=8) K2 zeroValue154 K2 hw) fun b_5 _=>tt (Zt (i:=6) K6 Xb K2 ⟨Zc J,Zj (i:=3) J Zg,trivial⟩ J hw trivial) fun _ _=>tt (Zt (i:=7) K6 Xb K2 ⟨Zc J,Zj (i:=4) J Zg,trivial⟩ J hw trivial) fun _ _=>tt (Zt (i:=8) K6 Xb K2 ⟨Zc J,Zj (i:=5) J Zg,trivial⟩ J hw trivial) fun _ _=>Zd<|Za<|Zb<|Qj (fun _=>False) [(0,0),(1,0),(2,1),(3,1),(4,1),(5,3),(6,3)] ?_ ?_
 ·kernel_rfl
 exact Zh K2 (Yo (Qm (i:=6) K3 Ln Xb K2))<|Zh K2 (Yo (Qm (i:=7) K3 Ln Xb K2))<|Yq J (Zy (n:=9) (Zoz _ _ _ ‹_›) K4 call134 (Zi 4 K3 Ze) J hw) fun g_2 hg_2=>Yq J (Yf (n:=10) (Zgo _ _ _ _ _ _ ‹_› ‹_›) K5 call131 (Zi 3 K3 (Zi 9 K3 Ze)) J hw) fun g_3 hg_3=>Yq J (Zy (n:=10) (Zkv _ _ _ ‹_›) K4 call135 (Zi 10 K3 Ze) J hw) fun _ _=>Qs J (Pu (Ok J J) J) fun _ _=>Qs J (Pu (Ok J J) J) fun _ _=>Pv<|Za<|Zp<|Yr (.inl J) hsc () _ (fun a w hs=>Pz hs results146 J J) (by rw [Int.sub_eq_add_neg]<;>rfl) trivial J Zm
theorem Zlx(x y x2 y2:Int)(hx:bl x.natAbs≤65536)(hy:bl y.natAbs≤65536)(hx2:bl x2.natAbs≤65536)(hy2:bl y2.natAbs≤65536)(hp:0<y)(hp2:0<y2):Od prog 143 #[rX x y,rX x2 y2] [] (Zc7 (x*y2+x2*y) (y*y2)):=by
 refine Yg func143 J ntmps143 J trivial fun w0 sc hw hsc=>?_
 simp only [Zs,Zq]
 have b1:=Qb x y2
 have b2:=Qb x2 y
 have b3:=Qb y y2
 have b4:=Qb x x2
 have b6:=Ia (x*y2) (x2*y)
 refine Zb<|Zf<|tt (Xp (i:=1) K5 hw) fun b _=>tt (Xp (i:=2) K5 hw) fun b_2 _=>tt (Xi (i:=3) K2 zeroValue41 K2 hw) fun b_3 _=>Zo J<|Zd<|Za<|Zb<|Zb<|Zf<|dt (Pj (i:=1) K3 Xf Ym K4)<|dt (Pj (i:=2) K3 Xf Ym K4)<|tt (Yf (n:=3) (Zhi _ _ _ _ ‹_› ‹_› ‹_› ‹_› ‹_› ‹_›) K5 call177 Ze J hw) fun _ _=>dt (Xh J J)<|Zd<|Za<|Yk J<|Zl<|Za<|Zb<|Zf<|dt (Pj (i:=1) K3 Xf Ym K4)<|dt (Pj (i:=2) K3 Xf Ym K4)<|tt (Yf (n:=4) (Zfp _ _ _ _ ‹_› ‹_› ‹_› ‹_›) K5 call178 Ze J hw) (fun g hg=>?_)
 obtain⟨hc1,hc2,hc3⟩:=hg
 refine mv J<|dt (Xa K3)<|dt (Xa K3)<|dt (Xa K3)<|tt (Xi (i:=7) K2 zeroValue154 K2 hw) fun b_4 _=>tt (Xi (i:=8) K2 zeroValue154 K2 hw) fun b_5 _=>tt (Xi (i:=9) K2 zeroValue154 K2 hw) fun b_6 _=>tt (Zt (i:=7) K6 Xb K2 ⟨Zc J,Zj (i:=4) J Zg,trivial⟩ J hw trivial) fun _ _=>tt (Zt (i:=8) K6 Xb K2 ⟨Zc J,Zj (i:=5) J Zg,trivial⟩ J hw trivial) fun _ _=>tt (Zt (i:=9) K6 Xb K2 ⟨Zc J,Zj (i:=6) J Zg,trivial⟩ J hw trivial) fun _ _=>Zd<|Za<|Zb<|Qj (fun _=>False) [(0,0),(1,0),(3,0),(2,1),(4,1),(5,0),(6,0),(7,3),(8,3)] ?_ ?_
 ·kernel_rfl
 exact Zh K2 (Yo (Qm (i:=7) K3 Ln Xb K2))<|Zh K2 (Yo (Qm (i:=8) K3 Ln Xb K2))<|Zh K2 (Yo (Qm (i:=9) K3 Ln Xb K2))<|Yq J (Yf (n:=10) (Zgo _ _ _ _ _ _ ‹_› ‹_›) K5 call131 (Zi 4 K3 (Zi 5 K3 Ze)) J hw) fun g_2 hg_2=>Yq J (Yf (n:=10) (Zcw _ _ _ _ _ _ ‹_› ‹_› (Int.mul_ne_zero (by omega) (by omega))) K5 call163 (Zi 10 K3 (Zi 6 K3 Ze)) J hw) fun _ _=>Zh K2 (Yo (Xa K3))<|Zh K2 (Yo (Xa K3))<|Qs J (Zt (i:=3) K6 Ym K2 ⟨Zc J,Zc J,Zc J,Zc J,trivial⟩ J hw trivial) fun _ _=>Qs J (Pu (Ok J J) J) fun _ _=>Pv<|Za<|Zp<|Yr (.inl J) hsc () _ (fun a w hs=>Pz hs results143 (Yw (i:=3) J J Xf Ym J) J) J trivial J Zm
theorem Ci(x y x2 y2:Int)(hx:bl x.natAbs≤65536)(hy:bl y.natAbs≤65536)(hx2:bl x2.natAbs≤65536)(hy2:bl y2.natAbs≤65536)(hp:0<y)(hp2:0<y2:=by decide):Od prog 144 #[rX x y,rX x2 y2] [] (Zc7 (x*x2) (y*y2)):=by
 refine Yg func144 J ntmps144 J trivial fun w0 sc hw hsc=>?_
 simp only [Zs,Zq]
 have b1:=Qb x y2
 have b2:=Qb x2 y
 have b3:=Qb y y2
 have b4:=Qb x x2
 refine Zb<|Zf<|tt (Xp (i:=1) K5 hw) fun b _=>tt (Xp (i:=2) K5 hw) fun b_2 _=>tt (Xi (i:=3) K2 zeroValue41 K2 hw) fun b_3 _=>Zo J<|Zd<|Za<|Zb<|Zb<|Zf<|dt (Pj (i:=1) K3 Xf Ym K4)<|dt (Pj (i:=2) K3 Xf Ym K4)<|tt (Yf (n:=3) (Zhi _ _ _ _ ‹_› ‹_› ‹_› ‹_› ‹_› ‹_›) K5 call177 Ze J hw) fun _ _=>dt (Xh J J)<|Zd<|Za<|Yk J<|Zl<|Za<|Zb<|Qj (fun _=>False) [(0,0),(1,0),(3,0),(4,0),(7,0),(8,0),(10,0),(11,0),(2,1),(5,1),(6,1),(9,1),(12,1),(13,1),(14,1),(15,0),(16,0),(17,3),(18,3)] ?_ ?_
 ·kernel_rfl
 refine Zh K2 (Yo (Qy K2 Hn J Yb K2))<|Zh K2 (Yo (Qm (i:=1) K3 Xl Yb K2))<|Zh K2 (Yo (Qy K2 Hn J Yb K2))<|Zh K2 (Yo (Qm (i:=2) K3 Xl Yb K2))<|Zh K2 (Yo (Qy K2 Hn J Yb K2))<|Zh K2 (Yo (Qm (i:=1) K3 Xl Yb K2))<|Zh K2 (Yo (Qy K2 Hn J Yb K2))<|Zh K2 (Yo (Qm (i:=2) K3 Xl Yb K2))<|Yq J (Zy (n:=4) (Oe _ _ (Xs _)) K4 Ld Ze J hw) fun g hg=>Yq J (Zy (n:=5) (Oe _ _ (Xs _)) K4 Ld Ze J hw) fun g_2 hg_2=>Yq J (Yf (n:=6) (Zd9 _ _ _ _ _ _ ‹_› ‹_›) K5 call176 (Zi 4 K3 (Zi 5 K3 Ze)) J hw) fun g_3 hg_3=>Yq J (Zy (n:=7) (Oe _ _ (Xs _)) K4 Ld Ze J hw) fun g_4 hg_4=>Yq J (Zy (n:=8) (Oe _ _ (Xs _)) K4 Ld Ze J hw) fun g_5 hg_5=>Yq J (Yf (n:=9) (Zd9 _ _ _ _ _ _ ‹_› ‹_›) K5 call176 (Zi 7 K3 (Zi 8 K3 Ze)) J hw) fun g_6 hg_6=>Yq J (Yf (n:=9) (Zcw _ _ _ _ _ _ ‹_› ‹_› (Int.mul_ne_zero (by omega) (by omega))) K5 call163 (Zi 6 K3 (Zi 9 K3 Ze)) J hw) fun _ _=>Zh K2 (Yo (Xa K3)) ?_
 exact Zh K2 (Yo (Xa K3))<|Qs J (Zt (i:=3) K6 Ym K2 ⟨Zc J,Zc J,Zc J,Zc J,trivial⟩ J hw trivial) fun _ _=>Qs J (Pu (Ok J J) J) fun _ _=>Pv<|Za<|Zp<|Yr (.inl J) hsc () _ (fun a w hs=>Pz hs results144 (Yw (i:=3) J J Xf Ym J) J) J trivial J Zm
theorem Zfr(x y:Int)(hx:bl x.natAbs≤65536:=by omega)(hy:bl y.natAbs≤65536:=by omega):Od prog 84 #[wv x,wv y] [] (.int .i64 (x-y).sign):=by
 refine Yg func84 J ntmps84 J trivial fun w0 sc hw hsc=>?_
 simp only [Zs,Zq]
 have b5:=Zls y
 have b6:=Ia x (-y)
 refine Zb<|Zf<|tt (Xp (i:=1) K5 hw) fun b _=>tt (Xp (i:=2) K5 hw) fun b_2 _=>Zo J<|Zd<|Za<|Zb<|Zb<|Zf<|dt (Qm (i:=1) K3 Xl Yb K2)<|dt (Qm (i:=2) K3 Xl Yb K2)<|tt (Yf (n:=2) (Hm _ _ ‹_› ‹_›) K5 call129 Ze J hw) fun _ _=>dt (Xh J J)<|Zd<|Za<|Yk J<|Zl<|Za<|Zb<|Qj (fun _=>False) [(0,0),(2,0),(1,1),(3,1),(4,1),(5,1),(6,1),(7,3)] ?_ ?_
 ·kernel_rfl
 exact Zh K2 (Yo (Qm (i:=1) K3 Xl Yb K2))<|Zh K2 (Yo (Qm (i:=2) K3 Xl Yb K2))<|Yq J (Zy (n:=3) (Oe _ _ (Xs _)) K4 Ld Ze J hw) fun g hg=>Yq J (Zy (n:=4) (Oe _ _ (Xs _)) K4 Ld Ze J hw) fun g_2 hg_2=>Yq J (Zy (n:=5) (Zoz _ _ _ ‹_›) K4 call134 (Zi 4 K3 Ze) J hw) fun g_3 hg_3=>Yq J (Yf (n:=6) (Zgo _ _ _ _ _ _ ‹_› ‹_›) K5 call131 (Zi 3 K3 (Zi 5 K3 Ze)) J hw) fun g_4 hg_4=>Yq J (Zy (n:=6) (Zkv _ _ _ ‹_›) K4 call135 (Zi 6 K3 Ze) J hw) fun _ _=>Qs J (Pu (Ok J J) J) fun _ _=>Pv<|Za<|Zp<|xU hsc results84 J J (by rw [Int.sub_eq_add_neg]<;>rfl)
abbrev RW:=List (Bool×ByteArray)
abbrev qR (z:SL×RW):Pc:=Pw 2 Zax (svv z.1) z.2
abbrev qZ (z:SL×List Int):Pc:=Pw 2 wv (svv z.1) z.2
abbrev R0:SL×RW:=((none,0,0),[])
def short1(r:RW):Bool:=(decide (r.length≤14) || decide (r.length=26)) && r.all fun c=>decide (c.2.size≤16)
def shortb(ls:List RW):Bool:=ls.all short1
theorem Zx4 {P:Program} {N:Nat} {sc:Nat→Prop} {M:Nat→Prop} {env:Kl} {H:Hp} {ops:Array Oper} {F:Kl→Hp→Prop} {rest:List (Nat×Nat)} {i:Nat} {o:Oper} {G:Type} {φ:G→Prop} {genv:G→Kl} {gH:G→Hp} {j e:Nat} {b:Bool} (ho:ops[i]? = some o) (hg:o.guard=some (j,b)) (hj:(ops[j]?).bind (·.dst)=some e) (he:lk env e=some (.bool b)) (heN:Nat.blt e N=true) (ht:T P N sc M o env H φ genv gH)
  (h:∀g,φ g→LD P N sc M ops F rest (genv g) (gH g)) :
  LD P N sc M ops F ((i,1) :: rest) env H:=r1g ht ho hg hj he heN h
theorem inI_bl{x:Int}(h:inI x):bl x.natAbs≤65536:=Zfy (l:=[x]) (fun y hy=>by rw [List.mem_singleton.1 hy];exact h) 0
theorem Ae{f:Nat→Int}{k:Nat} : ∀{n:Nat},k<n→(∀i,i<n→i≠k→f i=0)→Qi f n=f k
 | 0,hk,_=>absurd hk (Nat.not_lt_zero _)
 | n+1,hk,h=>by
  rw [Qf]
  by_cases e:k=n
  ·subst e
   rw [Fv fun i hi=>h i (by omega) (by omega),Int.zero_add]
  ·rw [h n (by omega) (fun x=>e x.symm),Ae (by omega) (fun i hi=>h i (by omega)),Int.add_zero]
theorem Au{p q:List Int}{a b:Nat}(ha:∀i,a<i→cf p i=0)(hb:∀i,b<i→cf q i=0):(ps p*ps q).c (a+b)=cf p a*cf q b:=by
 rw [PS.mul_c,Ae (k:=a) (by omega) fun i hi hne=>?_]
 ·rw [Nx,Nx,show a+b-a=b by omega]
 ·rw [Nx,Nx]
  rcases Nat.lt_or_ge a i with h | h
  ·rw [ha i h,Int.zero_mul]
  ·rw [hb (a+b-i) (by omega),Int.mul_zero]
theorem Zgs(s s':List Int)(c c':Int)(f:PS)(t:Nat):(ps (Zat (Xm s c) (Xm s' c'))*f).c t=c*(ps s*f).c t-c'*(ps s'*f).c t:=by
 rw [PS.mul_c,PS.mul_c,PS.mul_c,←Mn,Int.sub_eq_add_neg,←Int.neg_mul,←Mn,←Dy]
 refine Xx fun k _=>?_
 rw [Nx,Nx,Nx,Hy,Qd,Qd]
 grind
theorem Zrk(f:PS)(q q':List Int)(u v:Int)(h:∀i,u*cf q i=v*cf q' i)(t:Nat):u*(f*ps q).c t=v*(f*ps q').c t:=by
 rw [PS.mul_c,PS.mul_c,←Mn,←Mn]
 refine Xx fun k _=>?_
 rw [Nx,Nx]
 have:=h (t-k)
 grind
theorem Zv5{q s r:List Int}(hq:Tr q)(hq0:q≠[])(h:∀t,(ps s*ps q).c t=cf r t)(hr:∀t,q.length-1≤t→cf r t=0):∀t,cf s t=0:=by
 have hlead:=hq.mem hq0
 have hlen:0<q.length:=List.length_pos_iff.2 hq0
 have hs:tzl s=[]:=by
  rcases Zi5 (tzl s)with h1 | ⟨ys,y,h1⟩
  ·exact h1
  ·exfalso
   have ht:=Nk s
   have hne:tzl s≠[]:=by rw [h1];simp
   have h2:=ht.mem hne
   have h3:=Au (p:=tzl s) (q:=q) (a:=(tzl s).length-1) (b:=q.length-1) (fun i hi=>Xt (by omega)) (fun i hi=>Xt (by omega))
   have h4:ps (tzl s)=ps s:=PS.ext' fun i=>Ki s i
   rw [h4,h,hr _ (by omega)]at h3
   rcases Int.mul_eq_zero.1 h3.symm with h5 | h5
   ·exact h2 h5
   ·exact hlead h5
 exact(Ik s).1 hs
theorem Kv{s:List Int}(h:∀t,cf s t=0)(f:PS)(t:Nat):(ps s*f).c t=0:=by
 rw [PS.mul_c]
 exact Fv fun k _=>by rw [Nx,h,Int.zero_mul]
theorem Nv{p q:List Int}(hp:Tr p)(hq:Tr q)(h1:p≠[])(h2:q≠[]):(Oo p q).length=p.length+q.length-1:=by
 have l1:=List.length_pos_iff.2 h1
 have l2:=List.length_pos_iff.2 h2
 unfold Oo
 rw [Zbw,Qe]
 right
 rw [Qe,Iu,if_pos (by omega),show p.length+q.length-1-1=(p.length-1)+(q.length-1) by omega,Au (fun i hi=>Xt (by omega)) (fun i hi=>Xt (by omega))]
 exact Int.mul_ne_zero (hp.mem h1) (hq.mem h2)
def mono(s:Nat)(c:Int):List Int:=List.replicate s 0 ++ [c]
theorem Zjm(s:Nat)(c:Int)(i:Nat):cf (mono s c) i=if i=s then c else 0:=by
 unfold mono
 rw [Zek,List.length_replicate]
 split
 ·rw [if_neg (by omega)]
  unfold cf
  simp [List.getD_eq_getElem?_getD,List.getElem?_replicate]
  split<;>rfl
 ·rename_i h
  split
  ·rename_i h2;subst h2;simp [cf]
  ·exact Xt (by simp;omega)
theorem Zkz(s:Nat)(c:Int)(f:PS)(t:Nat):(ps (mono s c)*f).c t=if s≤t then c*f.c (t-s)else 0:=by
 rw [PS.mul_c]
 split
 ·rw [Ae (k:=s) (by omega) fun i _ hne=>by rw [Nx,Zjm,if_neg hne,Int.zero_mul],Nx,Zjm,if_pos rfl]
 ·exact Fv fun k hk=>by rw [Nx,Zjm,if_neg (by omega),Int.zero_mul]
theorem Zhs{p q:List Int}(hq:0<q.length)(hl:q.length≤p.length):∀j,j≤p.length-q.length+1→∃s:List Int,∀t,cf q (q.length-1)^j*cf p t=(ps s*ps q).c t+cf (Py p q j) t
 | 0,_=>⟨[],fun t=>by rw [Kv (fun t=>Xt (Nat.zero_le _)),Int.pow_zero];unfold Py;omega⟩
 | j+1,hj=>by
  obtain⟨s,ih⟩:=Zhs hq hl j (by omega)
  refine⟨Zat (Xm s (cf q (q.length-1))) (Xm (mono (p.length-1-j-(q.length-1)) (cf (Py p q j) (p.length-1-j))) (-1)),fun t=>?_⟩
  rw [Zgs,Zkz]
  have h0:=ih t
  show _=_+cf (Zeq q (Py p q j) (p.length-1-j)) t
  rw [Int.pow_succ]
  rcases Nat.lt_or_ge t p.length with h | h
  ·rw [Zg8 (by rw [Ow];exact h)]
   generalize p.length-1-j-(q.length-1)=sh
   generalize cf (Py p q j) (p.length-1-j)=R
   generalize cf (Py p q j) t=R' at h0 ⊢
   generalize (ps s*ps q).c t=X at h0 ⊢
   generalize cf q (q.length-1)^j=L at h0 ⊢
   generalize cf q (q.length-1)=l at h0 ⊢
   have e:L*l*cf p t=l*X+R'*l:=by rw [Int.mul_assoc,Int.mul_comm l,←Int.mul_assoc,h0];grind
   rw [e]
   by_cases h1:sh≤t
   ·rw [if_pos h1,Nx]
    by_cases h2:t<sh+q.length
    ·rw [if_pos ⟨h1,h2⟩];omega
    ·rw [if_neg (by omega),Xt (p:=q) (i:=t-_) (by omega)];omega
   ·rw [if_neg h1,if_neg (by omega)];omega
  ·have z1:cf p t=0:=Xt h
   have z2:cf (Py p q j) t=0:=Xt (by rw [Ow];exact h)
   have z3:cf (Zeq q (Py p q j) (p.length-1-j)) t=0:=Xt (by rw [Zgu,Ow];exact h)
   have z4:cf q (t-(p.length-1-j-(q.length-1)))=0:=Xt (by omega)
   rw [z1,z2,Int.mul_zero,Int.add_zero]at h0
   rw [z1,z3,if_pos (by omega),Nx,z4,←h0];simp
theorem Cx(p:List Int){q:List Int}(hq:q≠[]):∃(k:Nat) (s:List Int),∀t,cf q (q.length-1)^k*cf p t=(ps s*ps q).c t+cf (Pn p q) t:=by
 have hq':0<q.length:=List.length_pos_iff.2 hq
 rcases Nat.lt_or_ge p.length q.length with h | h
 ·refine⟨0,[],fun t=>?_⟩
  rw [Kv (fun t=>Xt (Nat.zero_le _)),Int.pow_zero]
  unfold Pn;rw [if_pos h];omega
 ·obtain⟨s,hs⟩:=Zhs hq' h _ (Nat.le_refl _)
  refine⟨p.length-q.length+1,s,fun t=>?_⟩
  rw [hs t]
  unfold Pn
  rw [if_neg (by omega),Ki]
theorem Oq(p:List Int){q:List Int}(hq:q≠[]):(Pn p q).length<q.length:=by
 have hq':0<q.length:=List.length_pos_iff.2 hq
 unfold Pn
 split
 ·assumption
 ·have:=Zbx (p:=Py p q (p.length-q.length+1)) (n:=q.length-1) fun i hi=>Ze8 hq' (by omega) _ (Nat.le_refl _) i (by omega)
  omega
theorem Im{p q:List Int}(hp:Tr p):Tr (Pn p q):=by
 unfold Pn;split
 ·exact hp
 ·exact Nk _
def Sim(a b:List Int):Prop:=∃m n:Int,m≠0∧n≠0∧∀i,m*cf a i=n*cf b i
theorem Sim.refl(a:List Int):Sim a a:=⟨1,1,by decide,by decide,fun _=>rfl⟩
theorem Sim.symm{a b:List Int} : Sim a b→Sim b a:=fun⟨m,n,hm,hn,h⟩=>⟨n,m,hn,hm,fun i=>(h i).symm⟩
theorem Sim.trans{a b c:List Int} : Sim a b→Sim b c→Sim a c:=fun⟨m,n,hm,hn,h⟩ ⟨u,v,hu,hv,k⟩=>
 ⟨m*u,n*v,Int.mul_ne_zero hm hu,Int.mul_ne_zero hn hv,fun i=>by have h1:=h i;have h2:=k i;grind⟩
theorem Sim.zero{a b:List Int}(h:Sim a b){i:Nat}(hi:cf a i=0):cf b i=0:=by
 obtain⟨m,n,hm,hn,h⟩:=h
 have:=h i
 rw [hi,Int.mul_zero]at this
 rcases Int.mul_eq_zero.1 this.symm with h | h
 ·exact absurd h hn
 ·exact h
theorem Sim.len_le{a b:List Int}(h:Sim a b)(hb:Tr b):b.length≤a.length:=by
 rcases Nat.lt_or_ge a.length b.length with hl | hl
 ·exfalso
  have hne:b≠[]:=List.length_pos_iff.1 (by omega)
  exact hb.mem hne (h.zero (Xt (by omega)))
 ·exact hl
theorem Sim.len{a b:List Int}(h:Sim a b)(ha:Tr a)(hb:Tr b):a.length=b.length:=Nat.le_antisymm (h.symm.len_le ha) (h.len_le hb)
theorem Sim.nil{a b:List Int}(h:Sim a b)(hb:Tr b)(ha:a=[]):b=[]:=by
 have:=h.len_le hb
 rw [ha]at this
 exact List.eq_nil_of_length_eq_zero (by simpa using this)
theorem Zx8{a b a' b':List Int}(ha:Tr a)(ha':Tr a')(hb:Tr b)(hb':Tr b')(h0:b≠[])(h1:Sim a a')(h2:Sim b b'):Sim (Pn a b) (Pn a' b'):=by
 have h0':b'≠[]:=fun e=>h0 (h2.symm.nil hb e)
 have hlen:=h2.len hb hb'
 obtain⟨k,s,hs⟩:=Cx a h0
 obtain⟨k',s',hs'⟩:=Cx a' h0'
 have hL:cf b (b.length-1)^k≠0:=Mw (hb.mem h0) k
 have hL':cf b' (b'.length-1)^k'≠0:=Mw (hb'.mem h0') k'
 generalize cf b (b.length-1)^k=L at hs hL
 generalize cf b' (b'.length-1)^k'=L' at hs' hL'
 obtain⟨m,n,hm,hn,e1⟩:=h1
 obtain⟨u,v,hu,hv,e2⟩:=h2
 have l1:=Oq a h0
 have l2:=Oq a' h0'
 have key:∀t,(ps (Zat (Xm s (L'*m*v)) (Xm s' (L*n*u)))*ps b').c t=cf (Zat (Xm (Pn a' b') (L*n*u)) (Xm (Pn a b) (L'*m*u))) t:=fun t=>by
  rw [Zgs,Hy,Qd,Qd]
  have a1:=hs t
  have a2:=hs' t
  have a3:=e1 t
  have a4:=Zrk (ps s) b b' u v e2 t
  generalize (ps s*ps b).c t=X at a1 a4
  generalize (ps s*ps b').c t=Y at a4
  generalize (ps s'*ps b').c t=Z at a2
  generalize cf a t=A at a1 a3
  generalize cf a' t=A' at a2 a3
  generalize cf (Pn a b) t=R at a1
  generalize cf (Pn a' b') t=R' at a2
  have:L'*m*v*Y=L'*m*u*X:=by grind
  grind
 have z:=Zv5 hb' h0' key fun t ht=>by
  rw [Hy,Qd,Qd,Xt (p:=Pn a' b') (by omega),Xt (p:=Pn a b) (by omega)];omega
 refine⟨L'*m*u,L*n*u,by simp [*],by simp [*],fun t=>?_⟩
 have:=key t
 rw [Kv z,Hy,Qd,Qd]at this
 grind
theorem Zcr(c:Int):∀(p:List Int) (g:Int),0≤g→(p.map (· * c)).foldl (fun g c=>(Int.gcd g c:Int)) (g*c.natAbs)=p.foldl (fun g c=>(Int.gcd g c:Int)) g*c.natAbs
 | [],g,_=>rfl
 | x :: p,g,hg=>by
  rw [List.map_cons,List.foldl_cons,List.foldl_cons,←Zcr c p _ (by omega)]
  congr 1
  have:Int.gcd (g*(c.natAbs:Int)) (x*c)=Int.gcd g x*c.natAbs:=by
   unfold Int.gcd
   rw [Int.natAbs_mul,Int.natAbs_mul,Int.natAbs_natCast,Nat.gcd_mul_right]
  rw [this];push_cast;rfl
theorem Zhw(p:List Int)(c:Int):Qc (p.map (· * c))=Qc p*c.natAbs:=by
 have:=Zcr c p 0 (Int.le_refl _)
 rw [Int.zero_mul]at this
 exact this
theorem Eo(p:List Int)(i:Nat):cf (Yx p) i*Qc p=cf p i:=by
 rw [Zbo];exact Int.ediv_mul_cancel (Kn p i)
theorem Zx9:Yx []=[]:=rfl
theorem Al{p:List Int}(h:Tr p)(h0:p≠[]):Qc p≠0:=fun e=>h.mem h0 ((Zc9 p).1 e _)
theorem It{p:List Int}(h:Tr p)(h0:p≠[]):Qc (Yx p)=1:=by
 have h1:=Al h h0
 have h2:=Zhw (Yx p) (Qc p)
 rw [show(Yx p).map (· * Qc p)=p from He (by rw [List.length_map,Yv]) fun i _=>by rw [Zh3 _ _ (by simp)];exact Eo p i]at h2
 have h3:=Lq p
 have h4:Qc p*(Qc (Yx p)-1)=0:=by
  rw [Int.mul_sub,Int.mul_one,Int.mul_comm]
  have:((Qc p).natAbs:Int)=Qc p:=by omega
  rw [this]at h2;omega
 rcases Int.mul_eq_zero.1 h4 with h5 | h5<;>omega
theorem Zgj{p:List Int}(h:Qc p=1):Yx p=p:=He (Yv p) fun i _=>by rw [Zbo,h,Int.ediv_one]
theorem Aj{p:List Int}(h:Tr p):Yx (Yx p)=Yx p:=by
 by_cases h0:p=[]
 ·subst h0;rfl
 ·exact Zgj (It h h0)
theorem Pr{p:List Int}(h:Tr p):Sim (Yx p) p:=by
 by_cases h0:p=[]
 ·subst h0;exact Sim.refl _
 ·exact⟨Qc p,1,Al h h0,by decide,fun i=>by rw [Int.one_mul,Int.mul_comm];exact Eo p i⟩
def Qa(p:List Int):List Int:=Kk (Yx p)
theorem Zj5{x y:List Int}(hx:Tr x)(hy:Tr y)(h0:x≠[])(h1:Qc x=1)(h2:Qc y=1)(h:Sim x y):x=y∨∀i,cf x i=- cf y i:=by
 have hl:=h.len hx hy
 obtain⟨m,n,hm,hn,e⟩:=h
 have h3:=Zhw x m
 have h4:=Zhw y n
 rw [show x.map (· * m)=y.map (· * n)from He (by simp [hl]) fun i _=>by
  rw [Zh3 _ _ (by simp),Zh3 _ _ (by simp),Int.mul_comm,Int.mul_comm (cf y i)];exact e i,h4,h1,h2]at h3
 have h5:m=n∨m=-n:=by omega
 rcases h5 with rfl | rfl
 ·exact .inl (He hl fun i _=>Int.eq_of_mul_eq_mul_left hm (e i))
 ·exact .inr fun i=>Int.eq_of_mul_eq_mul_left hn (by have:=e i;grind)
theorem Dq(g:List Int)(i:Nat):cf (Kk g) i=if g.length≠0∧cf g (g.length-1)<0 then-cf g i else cf g i:=by
 unfold Kk;split
 ·rw [Qd];omega
 ·rfl
theorem Mm{g:List Int}(h:Tr g):Tr (Kk g):=by
 unfold Kk;split
 ·exact Ob _ _
 ·exact h
theorem Gc(g:List Int):Sim (Kk g) g:=by
 by_cases h:g.length≠0∧cf g (g.length-1)<0
 ·exact⟨-1,1,by decide,by decide,fun i=>by rw [Dq,if_pos h];omega⟩
 ·exact⟨1,1,by decide,by decide,fun i=>by rw [Dq,if_neg h]⟩
theorem Zo0{a b:List Int}(ha:Tr a)(hb:Tr b)(h:Sim a b):Qa a=Qa b:=by
 by_cases h0:a=[]
 ·rw [h.nil hb h0,h0]
 ·have h0':b≠[]:=fun e=>h0 (h.symm.nil ha e)
  have hs:Sim (Yx a) (Yx b):=(Pr ha).trans (h.trans (Pr hb).symm)
  have hx:=Xu ha
  have hy:=Xu hb
  have hl:=hs.len hx hy
  have hx0:Yx a≠[]:=fun e=>h0 (List.eq_nil_of_length_eq_zero (by rw [←Yv,e];rfl))
  rcases Zj5 hx hy hx0 (It ha h0) (It hb h0') hs with e | e
  ·unfold Qa;rw [e]
  ·unfold Qa
   refine(Mm hx).ext (Mm hy) fun i=>?_
   rw [Dq,Dq,←hl,e i,e ((Yx a).length-1)]
   have hne:cf (Yx b) ((Yx a).length-1)≠0:=by rw [hl];exact hy.mem (fun e2=>hx0 (List.eq_nil_of_length_eq_zero (by rw [hl,e2];rfl)))
   have hl0:(Yx a).length≠0:=fun e2=>hx0 (List.eq_nil_of_length_eq_zero e2)
   by_cases h3:cf (Yx b) ((Yx a).length-1)<0
   ·rw [if_neg (by omega),if_pos ⟨hl0,h3⟩]
   ·rw [if_pos (by omega),if_neg (by omega)];omega
theorem Zt0:∀(f:Nat) {a b a' b':List Int},Tr a→Tr a'→Tr b→Tr b'→Sim a a'→Sim b b'→Sim (eu f a b) (eu f a' b')
 | 0,_,_,_,_,_,_,_,_,h,_=>h
 | f+1,a,b,a',b',ha,ha',hb,hb',h1,h2=>by
  unfold eu
  by_cases h0:b=[]
  ·rw [if_pos h0,if_pos (h2.nil hb' h0)];exact h1
  ·rw [if_neg h0,if_neg (fun e=>h0 (h2.symm.nil hb e))]
   have t1:=Im (q:=b) ha
   have t2:=Im (q:=b') ha'
   exact Zt0 f hb hb' (Xu t1) (Xu t2) h2 ((Pr t1).trans ((Zx8 ha ha' hb hb' h0 h1 h2).trans (Pr t2).symm))
theorem Zle:∀(f:Nat) {a b:List Int},Tr a→Tr b→Tr (eu f a b)
 | 0,_,_,h,_=>h
 | f+1,a,b,ha,hb=>by
  unfold eu
  split
  ·exact ha
  ·exact Zle f hb (Xu (Im ha))
theorem Zgx:∀(f k:Nat) {a b:List Int},eok f a b→eu (f+k) a b=eu f a b
 | 0,k,a,b,h=>by rw [show b=[]from h,Cf,Cf]
 | f+1,k,a,b,h=>by
  rcases h with h | h
  ·rw [h,Cf,Cf]
  ·by_cases h0:b=[]
   ·rw [h0,Cf,Cf]
   ·rw [show f+1+k=f+k+1 by omega]
    unfold eu
    rw [if_neg h0,if_neg h0]
    exact Zgx f k h.2
theorem Zwi:∀(f:Nat) {a b:List Int},Tr a→Tr b→Yx a=a→Yx b=b→Yx (eu f a b)=eu f a b
 | 0,_,_,_,_,h,_=>h
 | f+1,a,b,ha,hb,h1,h2=>by
  unfold eu
  split
  ·exact h1
  ·exact Zwi f hb (Xu (Im ha)) h2 (Aj (Im ha))
theorem Zh8{p q:List Int}(hp:Tr p)(hq:Tr q):Tr (gA p q):=by unfold gA;split<;>exact Xu ‹_›
theorem Zh7{p q:List Int}(hp:Tr p)(hq:Tr q):Tr (gB p q):=by unfold gB;split<;>exact Xu ‹_›
theorem Zrd{F:Nat}{p q:List Int}(hp:Tr p)(hq:Tr q):Mp F p q=Qa (eu F (gA p q) (gB p q)):=by
 unfold Mp Qa
 rw [Zwi F (Zh8 hp hq) (Zh7 hp hq)]
 ·unfold gA;split
  ·exact Aj hq
  ·exact Aj hp
 ·unfold gB;split
  ·exact Aj hp
  ·exact Aj hq
theorem Yfk{F G:Nat}{p q:List Int}(hp:Tr p)(hq:Tr q)(h1:eok F p q)(h2:eok G (gA p q) (gB p q)):Kk (Yx (eu F p q))=Mp G p q:=by
 rw [Zrd hp hq]
 show Qa (eu F p q)=_
 rw [←Zgx F (G+1) h1,←Zgx G F h2]
 refine Zo0 (Zle _ hp hq) (Zle _ (Zh8 hp hq) (Zh7 hp hq)) ?_
 rcases Nat.lt_or_ge p.length q.length with h | h
 ·rw [show gA p q=Yx q from if_pos h,show gB p q=Yx p from if_pos h]
  rw [show F+(G+1)=F+G+1 by omega,show G+F=F+G by omega]
  have h0:q≠[]:=List.length_pos_iff.1 (by omega)
  have:eu (F+G+1) p q=eu (F+G) q (Yx p):=by
   conv=>lhs;unfold eu
   rw [if_neg h0,show Pn p q=p from if_pos h]
  rw [this]
  exact Zt0 _ hq (Xu hq) (Xu hp) (Xu hp) (Pr hq).symm (Sim.refl _)
 ·rw [show gA p q=Yx p from if_neg (by omega),show gB p q=Yx q from if_neg (by omega)]
  have h3:eu (F+(G+1)) p q=eu (F+G) p q:=by rw [Zgx F (G+1) h1,Zgx F G h1]
  rw [h3,show G+F=F+G by omega]
  exact Zt0 _ hp (Xu hp) hq (Xu hq) (Pr hp).symm (Pr hq).symm
def chk:Nat→Nat→Nat→Nat→Nat→Bool
 | 0,_,lb,_,_=>Nat.beq lb 0
 | f+1,la,lb,A,B=>Nat.beq lb 0 || (bif Nat.blt la lb then chk f lb la B A else
   Nat.ble (A+(la-lb+1)*B) 65537 && (List.range lb).all fun l=>chk f lb l B (bif Nat.ble l 1 then 2 else A+(la-lb+1)*B))
theorem Ztu(p:List Int)(x y z:Int):(Zau p x y z).length≤p.length:=by
 unfold Zau
 split
 ·exact Nat.zero_le _
 ·refine Nat.le_trans (Hc _) ?_
  rw [Zde];omega
theorem Zrr(x y:Int):Kw x y∣x:=by
 unfold Kw;split
 ·exact Int.neg_dvd.2 (Int.gcd_dvd_left ..)
 ·exact Int.gcd_dvd_left ..
theorem Zk2(x y:Int):Kw x y∣y:=by
 unfold Kw;split
 ·exact Int.neg_dvd.2 (Int.gcd_dvd_right ..)
 ·exact Int.gcd_dvd_right ..
def s8(l:List Int):Prop:=∀x∈l,(Xk x.natAbs).size≤8
abbrev Z0:SL×List Int:=((none,0,0),[])
theorem vp_eu:∀(f:Nat) {a b:List Int},Vp a→Vp b→eok f a b→Vp (eu f a b)
 | 0,_,_,h,_,_=>h
 | f+1,a,b,ha,hb,h=>by
  unfold eu
  split
  ·exact ha
  ·rcases h with h | h
   ·contradiction
   ·exact vp_eu f hb (Ij (Za2 ha h.1)) h.2
theorem Zzd{g:List Int}(h:Vp g):Vp (Kk g):=by
 unfold Kk
 split
 ·refine⟨fun i=>by rw [Qd];exact Zcj h.sz i,Ob _ _,Nat.le_trans (Ht _ _) h.len⟩
 ·exact h
theorem Zum{F:Nat}{p q:List Int}(hp:Vp p)(hq:Vp q)(h:eok F (gA p q) (gB p q)):Vp (Mp F p q):=Zzd (vp_eu F (vp_gA hp hq) (vp_gB hp hq) h)
def pevn(p:List Int)(x y:Int)(n:Nat):Int:=Qi (fun i=>cf p i*(x^i*y^(n-1-i))) n
def dn(p:List Int)(y:Int):Int:=y^(p.length-1)
theorem Ybc{p q:List Int}(hp:Tr p)(hq:Tr q)(h1:p≠[])(h2:q≠[])(x y:Int):pev (Oo p q) x y=pev p x y*pev q x y:=by
 have l1:=List.length_pos_iff.2 h1
 have l2:=List.length_pos_iff.2 h2
 unfold pev
 rw [Nv hp hq h1 h2]
 obtain⟨Fk,hF⟩:∃Fk:Nat→Nat→Int,∀k j,Fk k j=cf p k*cf q j*(x^(k+j)*y^(p.length+q.length-1-1-(k+j))):=⟨_,fun _ _=>rfl⟩
 have e1:Qi (fun i=>cf (Oo p q) i*(x^i*y^(p.length+q.length-1-1-i))) (p.length+q.length-1)=Qi (fun i=>Qi (fun k=>Fk k (i-k)) (i+1)) (p.length+q.length-1):=by
  refine Xx fun i _=>?_
  rw [Fa,PS.mul_c,←Zb1]
  exact Xx fun k hk=>by
   rw [hF,show k+(i-k)=i by omega];rfl
 rw [e1,Zhn,Zdx (m:=p.length) (by omega) fun k h1 h2=>Fv fun j _=>by rw [hF,Xt h1,Int.zero_mul,Int.zero_mul],←Zb1]
 refine Xx fun k hk=>?_
 rw [Zdx (m:=q.length) (by omega) fun j h1 h2=>by rw [hF,Xt h1,Int.mul_zero,Int.zero_mul],←Mn]
 refine Xx fun j hj=>?_
 rw [hF,Int.pow_add,show p.length+q.length-1-1-(k+j)=(p.length-1-k)+(q.length-1-j) by omega,Int.pow_add]
 generalize x^k=a;generalize x^j=b;generalize y^(p.length-1-k)=c;generalize y^(q.length-1-j)=d
 grind
theorem Ec(q:List Int):Oo [] q=[]:=Zba (.inl rfl)
theorem Zfb(p:List Int):Oo p []=[]:=Zba (.inr rfl)
theorem Yb8(N D:Int):N/Kw N D*D=N*(D/Kw N D):=by
 have h1:=Int.ediv_mul_cancel (Zrr N D)
 have h2:=Int.ediv_mul_cancel (Zk2 N D)
 generalize N/Kw N D=n at *
 generalize D/Kw N D=d at *
 generalize Kw N D=g at *
 subst h1 h2
 grind
theorem Zyo{N D:Int}(h:0<D):0<D/Kw N D:=by
 have h1:Kw N D=(Int.gcd N D:Int):=if_neg (by omega)
 have h2:=Int.ediv_mul_cancel (Zk2 N D)
 rw [h1]at h2 ⊢
 generalize D/(Int.gcd N D:Int)=d at *
 rcases Int.lt_or_le 0 d with h3 | h3
 ·exact h3
 ·exfalso
  have:d*(Int.gcd N D:Int)≤0:=Int.mul_nonpos_of_nonpos_of_nonneg h3 (by omega)
  omega
section
variable {p q:List Int}
theorem Zfj(hp:Tr p)(hq:Tr q)(h1:p≠[])(h2:q≠[]):∀j,j≤p.length→∀t,cf (Qr (Oo p q) q j) t=(ps (p.take (p.length-j))*ps q).c t
 | 0,_,t=>by
  rw [Nat.sub_zero,List.take_length];exact Fa p q t
 | j+1,hj,t=>by
  have ih:=Zfj hp hq h1 h2 j (by omega)
  have l1:=List.length_pos_iff.2 h1
  have l2:=List.length_pos_iff.2 h2
  have hl:=Nv hp hq h1 h2
  have e0:Qr (Oo p q) q (j+1)=Zeu q (Qr (Oo p q) q j) (p.length-1-j):=by
   show Zeu q _ _=_;rw [hl];congr 1;omega
  have hq0:=hq.mem h2
  have htop:cf (Qr (Oo p q) q j) (p.length-1-j+q.length-1)=cf p (p.length-1-j)*cf q (q.length-1):=by
   rw [ih,show p.length-1-j+q.length-1=(p.length-1-j)+(q.length-1) by omega,Au (fun i hi=>by rw [Dm,if_neg (by omega)]) (fun i hi=>Xt (by omega)),Dm,if_pos (by omega)]
  have hdq:dq q (Qr (Oo p q) q j) (p.length-1-j)=cf p (p.length-1-j):=by
   unfold dq;rw [htop];exact Int.mul_ediv_cancel _ hq0
  have e1:(ps (p.take (p.length-j))*ps q).c t=(ps (p.take (p.length-(j+1)))*ps q).c t+(ps (mono (p.length-1-j) (cf p (p.length-1-j)))*ps q).c t:=by
   rw [PS.mul_c,PS.mul_c,PS.mul_c,←Dy]
   refine Xx fun k _=>?_
   rw [Nx,Nx,Nx,Nx,Dm,Dm,Zjm]
   by_cases a1:k=p.length-1-j
   ·rw [if_pos (by omega),if_neg (by omega),if_pos a1,←a1];omega
   ·rw [if_neg a1]
    by_cases a2:k<p.length-j
    ·rw [if_pos a2,if_pos (by omega)];omega
    ·rw [if_neg a2,if_neg (by omega)];omega
  rw [e0]
  unfold Zeu
  rw [Iu,Fp,hl,hdq,ih,e1,Zkz,Nx]
  by_cases b1:t<p.length+q.length-1
  ·rw [if_pos b1]
   by_cases b2:p.length-1-j≤t
   ·rw [if_pos b2]
    by_cases b3:t<p.length-1-j+q.length
    ·rw [if_pos ⟨b2,b3⟩];omega
    ·rw [if_neg (by omega),Xt (p:=q) (by omega)];omega
   ·rw [if_neg b2,if_neg (by omega)];omega
  ·rw [if_neg b1,PS.mul_c]
   refine(Fv fun k _=>?_).symm
   rw [Nx,Nx,Dm]
   split
   ·rw [Xt (p:=q) (by omega),Int.mul_zero]
   ·rw [Int.zero_mul]
theorem Zou(hp:Tr p)(hq:Tr q)(h2:q≠[]):pdv (Oo p q) q∧Kt (Oo p q) q=p:=by
 by_cases h1:p=[]
 ·subst h1;rw [Ec];exact⟨.inl rfl,rfl⟩
 have l1:=List.length_pos_iff.2 h1
 have l2:=List.length_pos_iff.2 h2
 have hl:=Nv hp hq h1 h2
 have hq0:=hq.mem h2
 have hd:∀k,k≤p.length-1→cf (Qr (Oo p q) q (p.length-1-k)) (k+q.length-1)=cf p k*cf q (q.length-1):=fun k hk=>by
  rw [Zfj hp hq h1 h2 _ (by omega),show k+q.length-1=k+(q.length-1) by omega,Au (fun i hi=>by rw [Dm,if_neg (by omega)]) (fun i hi=>Xt (by omega)),Dm,if_pos (by omega)]
 have hn:(Oo p q).length-q.length=p.length-1:=by omega
 have hne:Oo p q≠[]:=List.length_pos_iff.1 (by omega)
 refine⟨.inr ⟨by omega,fun k hk=>?_,?_⟩,?_⟩
 ·unfold Ll;rw [hn]at hk ⊢;rw [hd k hk];exact Int.mul_emod_left _ _
 ·rw [hn,show p.length-1+1=p.length by omega]
  refine(Ik _).2 fun i=>?_
  rw [Zfj hp hq h1 h2 _ (Nat.le_refl _),Nat.sub_self,List.take_zero]
  exact Kv (fun t=>Xt (Nat.zero_le _)) _ _
 ·rw [Zkk hne]
  unfold Ya4
  rw [hn,show p.length-1+1=p.length by omega,Gq (g:=cf p) fun k hk=>?_,Zjf,Zbw hp]
  unfold Zsh dq
  rw [hn,hd k (by omega)]
  exact Int.mul_ediv_cancel _ hq0
end
def Dv(g a:List Int):Prop:=∃(k:Int) (s:List Int),k≠0∧∀t,k*cf a t=(ps s*ps g).c t
theorem Zre(f:PS)(t:Nat):(ps [1]*f).c t=f.c t:=by
 rw [PS.mul_c,Ae (k:=0) (by omega) fun i _ hne=>by rw [Nx,Xt (p:=[1]) (by simp;omega),Int.zero_mul],Nx,show cf [1] 0=1 from rfl,Int.one_mul,Nat.sub_zero]
theorem Dv.refl(a:List Int):Dv a a:=⟨1,[1],by decide,fun t=>by rw [Zre,Int.one_mul,Nx]⟩
theorem Dv.nil(g:List Int):Dv g []:=⟨1,[],by decide,fun t=>by rw [Kv (fun t=>Xt (Nat.zero_le _)),Xt (Nat.zero_le _)];rfl⟩
theorem Dv.sim{g a b:List Int} : Dv g a→Sim a b→Dv g b:=fun⟨k,s,hk,h⟩ ⟨m,n,hm,hn,e⟩=>
 ⟨k*n,Xm s m,Int.mul_ne_zero hk hn,fun t=>by
  rw [PS.mul_c,show(fun i=>(ps (Xm s m)).c i*(ps g).c (t-i))=fun i=>m*((ps s).c i*(ps g).c (t-i))from funext fun i=>by rw [Nx,Nx,Nx,Qd];grind,Mn,←PS.mul_c,←h,Int.mul_assoc,←e];grind⟩
theorem Dv.lin{g a b c:List Int}(ha:Dv g a)(hb:Dv g b)(s:List Int)(L:Int)(hL:L≠0)(h:∀t,L*cf c t=(ps s*ps a).c t+cf b t):Dv g c:=by
 obtain⟨k,u,hk,h1⟩:=ha
 obtain⟨m,v,hm,h2⟩:=hb
 refine⟨L*(k*m),Zfc (Xm (Oo s u) m) (Xm v k),Int.mul_ne_zero hL (Int.mul_ne_zero hk hm),fun t=>?_⟩
 have e1:ps g=ps g:=rfl
 have e2:k*(ps s*ps a).c t=(ps (Oo s u)*ps g).c t:=by
  rw [Zvp,PS.mul_assoc',PS.mul_c,PS.mul_c,←Mn]
  refine Xx fun i _=>?_
  rw [←h1,Nx,Nx];grind
 have e3:(ps (Zfc (Xm (Oo s u) m) (Xm v k))*ps g).c t=m*(ps (Oo s u)*ps g).c t+k*(ps v*ps g).c t:=by
  rw [PS.mul_c,PS.mul_c,PS.mul_c,←Mn,←Mn,←Dy]
  refine Xx fun i _=>?_
  rw [Nx,Nx,Nx,Nx,Zjl,Qd,Qd];grind
 have h0:=h t
 have h3:=h2 t
 rw [e3,←e2,←h3]
 generalize (ps s*ps a).c t=X at *
 generalize cf c t=C at *
 generalize cf b t=B at *
 have:L*(k*m)*C=k*m*(L*C):=by grind
 rw [this,h0];grind
theorem eu_dv:∀(f:Nat) {a b:List Int},Tr a→Tr b→eok f a b→Dv (eu f a b) a∧Dv (eu f a b) b
 | 0,a,b,ha,hb,h=>by rw [show b=[]from h];exact⟨Dv.refl _,Dv.nil _⟩
 | f+1,a,b,ha,hb,h=>by
  by_cases h0:b=[]
  ·subst h0;rw [Cf];exact⟨Dv.refl _,Dv.nil _⟩
  ·rcases h with h | h
   ·exact absurd h h0
   ·have e:eu (f+1) a b=eu f b (Yx (Pn a b)):=by
     conv=>lhs;unfold eu
     rw [if_neg h0]
    rw [e]
    have t1:=Im (q:=b) ha
    obtain⟨d1,d2⟩:=eu_dv f hb (Xu t1) h.2
    obtain⟨k,s,hs⟩:=Cx a h0
    exact⟨d1.lin (d2.sim (Pr t1)) s _ (Mw (hb.mem h0) k) hs,d1⟩
theorem Dv.of_sim{g g' a:List Int} : Dv g a→Sim g g'→Dv g' a:=fun⟨k,s,hk,h⟩ ⟨m,n,hm,hn,e⟩=>
 ⟨m*k,Xm s n,Int.mul_ne_zero hm hk,fun t=>by
  rw [Int.mul_assoc,h,PS.mul_c,PS.mul_c,←Mn]
  refine Xx fun i _=>?_
  rw [Nx,Nx,Nx,Nx,Qd]
  have:=e (t-i)
  grind⟩
theorem Dv.zero{a:List Int}(ha:Tr a)(h:Dv [] a):a=[]:=by
 obtain⟨k,s,hk,h⟩:=h
 rw [←Zbw ha,Ik]
 intro i
 have h1:=h i
 rw [PS.mul_comm',Kv (fun t=>Xt (Nat.zero_le _))]at h1
 rcases Int.mul_eq_zero.1 h1 with h2 | h2
 ·exact absurd h2 hk
 ·exact h2
theorem Zd7{F:Nat}{p q:List Int}(hp:Tr p)(hq:Tr q)(h:eok F (gA p q) (gB p q)):Dv (Mp F p q) p∧Dv (Mp F p q) q:=by
 have hA:=Zh8 hp hq
 have hB:=Zh7 hp hq
 obtain⟨h1,h2⟩:=eu_dv F hA hB h
 have hs:Sim (eu F (gA p q) (gB p q)) (Mp F p q):=(Gc _).symm
 have h1:=h1.of_sim hs
 have h2:=h2.of_sim hs
 by_cases hl:p.length<q.length
 ·rw [show gA p q=Yx q from if_pos hl]at h1
  rw [show gB p q=Yx p from if_pos hl]at h2
  exact⟨h2.sim (Pr hp),h1.sim (Pr hq)⟩
 ·rw [show gA p q=Yx p from if_neg hl]at h1
  rw [show gB p q=Yx q from if_neg hl]at h2
  exact⟨h1.sim (Pr hp),h2.sim (Pr hq)⟩
theorem Zdv{F:Nat}{p q:List Int}(hp:Tr p)(hq:Tr q):Tr (Mp F p q):=Mm (Zle F (Zh8 hp hq) (Zh7 hp hq))
theorem Ze7(p:List Int){c:Int}(h:c≠0):Sim p (Xm p c):=⟨c,1,h,by decide,fun i=>by rw [Qd];grind⟩
def fin8(la A:Nat):Bool:=Nat.ble la 2 || Nat.ble (64+(9-la)*A) 65536
def chk2:Nat→Nat→Nat→Nat→Nat→Bool
 | 0,la,_,A,_=>fin8 la A
 | f+1,la,lb,A,B=>bif Nat.beq lb 0 then fin8 la A else bif Nat.blt la lb then chk2 f lb la B A else
   (List.range lb).all fun l=>chk2 f lb l B (bif Nat.ble l 1 then 2 else A+(la-lb+1)*B)
theorem Zcc{g:List Int}(h:Tr g):(Kk g).length=g.length:=(Gc g).len (Mm h) h
theorem Zih(g:List Int):Qc (Kk g)=Qc g:=by
 have d1:Qc (Kk g)∣Qc g:=Et fun i=>by
  have h:=Kn (Kk g) i
  rw [Dq]at h
  split at h
  ·exact Int.dvd_neg.1 h
  ·exact h
 have d2:Qc g∣Qc (Kk g):=Et fun i=>by
  rw [Dq];split
  ·exact Int.dvd_neg.2 (Kn g i)
  ·exact Kn g i
 exact Int.dvd_antisymm (Lq _) (Lq _) d1 d2
theorem Zkq{F:Nat}{p q:List Int}(hp:Tr p)(hq:Tr q)(h0:Mp F p q≠[]):Qc (Mp F p q)=1:=by
 rw [Zrd hp hq]at h0 ⊢
 unfold Qa at h0 ⊢
 rw [Zih]
 refine It (Zle F (Zh8 hp hq) (Zh7 hp hq)) fun e=>h0 ?_
 rw [e];rfl
end Go.Sky
namespace Go.Sky
def Za5(xs:List Int):Prop:=xs.length=0∨(xs.length+2)*(xs.length+2)*(Pf xs+16)≤65536
instance (xs:List Int):Decidable (Za5 xs):=by unfold Za5;infer_instance
def sqf(F:Nat)(xs:List Int):List Int:=Kt (Qa xs) (Mp F (Qa xs) (Xy (Qa xs)))
def Yd8(F:Nat)(xs:List Int):Prop:=(∀i,i<xs.length→bl (cf (Qa xs) (i+1)*((i:Int)+1)).natAbs≤65536)∧¬Znb (Qa xs) (Xy (Qa xs))∧eok F (gA (Qa xs) (Xy (Qa xs))) (gB (Qa xs) (Xy (Qa xs)))∧
 Bv (Qa xs) (Mp F (Qa xs) (Xy (Qa xs)))=0∧pdv (Qa xs) (Mp F (Qa xs) (Xy (Qa xs)))
def Lb(x y:List Int):List Int:=if cf y (y.length-1)<0∧(x.length-y.length+1)%2=1 then Yx (Pn x y)else Xm (Yx (Pn x y)) (-1)
def cok:Nat→List Int→List Int→Prop
 | 0,_,y=>y=[]
 | f+1,x,y=>y=[]∨(Bv x y=0∧y.length≤x.length∧cok f y (Lb x y))
def Le:Nat→List Int→List Int→List (List Int)
 | 0,x,_=>[x]
 | f+1,x,y=>if y=[]then [x]else x :: Le f y (Lb x y)
theorem Ca(f:Nat)(x:List Int):Le f x []=[x]:=by cases f<;>rfl
theorem Zg6{f:Nat}{a b:List Int}(h:cok f a b)(hb:b≠[]):∃g,f=g+1∧Bv a b=0∧b.length≤a.length∧cok g b (Lb a b)∧Le f a b=a :: Le g b (Lb a b):=by
 cases f with
 | zero=>exact absurd h hb
 | succ g=>
  rcases h with h | h
  ·exact absurd h hb
  ·exact⟨g,rfl,h.1,h.2.1,h.2.2,by show(if b=[]then [a]else _)=_;rw [if_neg hb]⟩
def chn(F:Nat)(xs:List Int):List (List Int):=Le F (sqf F xs) (Yx (Xy (sqf F xs)))
def Az(F:Nat)(xs:List Int):Prop:=Yd8 F xs∧(∀i,i<xs.length→bl (cf (sqf F xs) (i+1)*((i:Int)+1)).natAbs≤65536)∧cok F (sqf F xs) (Yx (Xy (sqf F xs)))
theorem Zs0{p:List Int}(h:Vp p):Vp (Qa p):=by
 unfold Qa
 have h1:=Ij h
 refine⟨fun i=>?_,Mm h1.tr,by rw [Zcc h1.tr];exact h1.len⟩
 rw [Dq];split
 ·rw [Int.natAbs_neg];exact h1.sz i
 ·exact h1.sz i
theorem Nf{p:List Int}(h:Tr p):(Qa p).length=p.length:=by unfold Qa;rw [Zcc (Xu h),Yv]
theorem Zju{x y:List Int}(hx:Vp x)(hd:Bv x y=0):Vp (Lb x y):=by
 have h:=Ij (Za2 hx hd)
 unfold Lb
 split
 ·exact h
 ·exact⟨fun i=>by rw [Qd];exact Zcj h.sz i,Ob _ _,Nat.le_trans (Ht _ _) h.len⟩
def Mr(s:Int×Int)(x:Int):Int×Int:=if x=0 then s else(if x=-s.2 then s.1+1 else s.1,x)
def chg(l:List Int):Int:=(l.foldl Mr (0,0)).1
theorem Zce{α β:Type}(f:α→β→α)(a:α)(l:List β)(x:β):(l ++ [x]).foldl f a=f (l.foldl f a) x:=by simp
theorem chg1_n(s:Int×Int)(x:Int):(Mr s x).1=s.1∨(Mr s x).1=s.1+1:=by
 unfold Mr;split
 ·exact .inl rfl
 ·dsimp only;split
  ·exact .inr rfl
  ·exact .inl rfl
def sgs(ls:List (List Int))(x y:Int):List Int:=ls.map fun p=>(pev p x y).sign
def sgr(ls:List (List Int)):List Int:=ls.map fun p=>(cf p (p.length-1)).sign
def sgl(ls:List (List Int)):List Int:=ls.map fun p=>if p.length%2=0 then-(cf p (p.length-1)).sign else(cf p (p.length-1)).sign
def smost(xs:List Int):Nat:=(xs.take (xs.length-1)).foldl (fun m c=>max m c.natAbs) 0
def sbound(xs:List Int):Int:=((smost xs/(cf xs (xs.length-1)).natAbs:Nat):Int)+2
def Zt9(xs:List Int):Int:=if xs.length=0 then 3 else if Za5 xs then 0 else 7
def ef(z:Int×Int):Bool:=decide (512<bl z.1.natAbs) || decide (512<bl z.2.natAbs)
def chk2r(xs:List Int)(x y x2 y2:Int):Int:=if xs.length=0 then 3 else if 0<x*y2-x2*y then 3 else if Za5 xs∧ef (x,y)=false∧ef (x2,y2)=false then 0 else 7
theorem Ygh{xs:List Int}(h0:xs≠[])(h:Za5 xs):Zt9 xs=0:=by
 unfold Zt9
 rw [if_neg (fun e=>h0 (List.eq_nil_of_length_eq_zero e)),if_pos h]
theorem Zjd{xs:List Int}(h:¬cf (Yx xs) ((Yx xs).length-1)<0):Qa xs=Yx xs:=by
 unfold Qa Kk;rw [if_neg (by omega)]
theorem Zje{xs:List Int}(h0:(Yx xs).length≠0)(h:cf (Yx xs) ((Yx xs).length-1)<0):Qa xs=Xm (Yx xs) (-1):=by
 unfold Qa Kk;rw [if_pos ⟨h0,h⟩]
theorem Zfh{P:Nat→Prop} : ∀n,P n→∃m,P m∧∀k,k<m→¬P k:=by
 intro n
 induction n using Nat.strongRecOn with
 | _ n ih=>
  intro h
  by_cases hx:∃k,k<n∧P k
  ·obtain⟨k,hk,hf⟩:=hx;exact ih k hk hf
  ·exact⟨n,h,fun k hk hf=>hx ⟨k,hk,hf⟩⟩
theorem Zyq{n:Nat}(h:2≤n):∃p,2≤p∧p∣n∧∀d,2≤d→d∣n→p≤d:=by
 obtain⟨p,⟨h1,h2⟩,h3⟩:=Zfh (P:=fun d=>2≤d∧d∣n) n ⟨h,Nat.dvd_refl n⟩
 exact⟨p,h1,h2,fun d hd hdn=>by
  rcases Nat.lt_or_ge d p with h4 | h4
  ·exact absurd ⟨hd,hdn⟩ (h3 d h4)
  ·exact h4⟩
theorem Zrw{n p:Nat}(h1:2≤p)(h2:p∣n)(h3:∀d,2≤d→d∣n→p≤d)(hn:0<n){x y:Int}(h:(p:Int)∣x*y):(p:Int)∣x∨(p:Int)∣y:=by
 by_cases hx:(p:Int)∣x
 ·exact .inl hx
 ·right
  have hg:Nat.gcd p x.natAbs=1:=by
   have hd:=Nat.gcd_dvd_left p x.natAbs
   have h0:0<Nat.gcd p x.natAbs:=Nat.gcd_pos_of_pos_left _ (by omega)
   rcases Nat.lt_or_ge (Nat.gcd p x.natAbs) 2 with h4 | h4
   ·omega
   ·have h5:=h3 _ h4 (Nat.dvd_trans hd h2)
    have h6:=Nat.le_of_dvd (by omega) hd
    exfalso
    refine hx (Int.natAbs_dvd_natAbs.1 ?_)
    rw [Int.natAbs_natCast]
    have h7:Nat.gcd p x.natAbs=p:=by omega
    rw [←h7];exact Nat.gcd_dvd_right _ _
  have h8:=Int.natAbs_dvd_natAbs.2 h
  rw [Int.natAbs_natCast,Int.natAbs_mul]at h8
  refine Int.natAbs_dvd_natAbs.1 ?_
  rw [Int.natAbs_natCast]
  exact(show Nat.Coprime p x.natAbs from hg).dvd_of_dvd_mul_left h8
theorem gauss{g a:List Int}(hg:Qc g=1):∀(n:Nat) (k:Int) (s:List Int),k.natAbs=n→k≠0→(∀t,k*cf a t=(ps s*ps g).c t)→∃q:List Int,∀t,cf a t=(ps q*ps g).c t:=by
 intro n
 induction n using Nat.strongRecOn with
 | _ n ih=>
  intro k s hkn hk h
  rcases Nat.lt_or_ge n 2 with h2 | h2
  ·have hkk:k*k=1:=by
    have:k=1∨k=-1:=by omega
    rcases this with e | e<;>subst e<;>rfl
   refine⟨Xm s k,fun t=>?_⟩
   have e:(ps (Xm s k)*ps g).c t=k*(ps s*ps g).c t:=by
    rw [PS.mul_c,PS.mul_c,←Mn]
    exact Xx fun i _=>by rw [Nx,Nx,Nx,Qd];grind
   rw [e,←h,←Int.mul_assoc,hkk,Int.one_mul]
  ·obtain⟨p,p2,pd,pm⟩:=Zyq h2
   have hpp:∀{x y:Int},(p:Int)∣x*y→(p:Int)∣x∨(p:Int)∣y:=Zrw p2 pd pm (by omega)
   have hpk:(p:Int)∣k:=Int.natAbs_dvd_natAbs.1 (by rw [Int.natAbs_natCast,hkn];exact pd)
   have hgn:∃j,¬(p:Int)∣cf g j:=Classical.byContradiction fun hx=>by
    have:(p:Int)∣Qc g:=Et fun i=>Classical.byContradiction fun hy=>hx ⟨i,hy⟩
    rw [hg]at this
    have:=Int.le_of_dvd (by decide) this
    omega
   obtain⟨j0,hj0⟩:=hgn
   obtain⟨j,hj,hjm⟩:=Zfh (P:=fun j=>¬(p:Int)∣cf g j) j0 hj0
   have hs:∀i,(p:Int)∣cf s i:=fun i0=>Classical.byContradiction fun hi0=>by
    obtain⟨i,hi,him⟩:=Zfh (P:=fun i=>¬(p:Int)∣cf s i) i0 hi0
    have h3:=h (i+j)
    rw [PS.mul_c]at h3
    have key:∀m,m≤i+j+1→(p:Int)∣Qi (fun k=>if k=i then 0 else(ps s).c k*(ps g).c (i+j-k)) m:=fun m=>by
     induction m with
     | zero=>intro _;exact Int.dvd_zero _
     | succ m ihm=>
      intro hm
      rw [Qf]
      refine Int.dvd_add (ihm (by omega)) ?_
      split
      ·exact Int.dvd_zero _
      ·rename_i hne
       rw [Nx,Nx]
       rcases Nat.lt_or_ge m i with h4 | h4
       ·exact Int.dvd_trans (Classical.byContradiction fun hx=>him m h4 hx) (Int.dvd_mul_right _ _)
       ·exact Int.dvd_trans (Classical.byContradiction fun hx=>hjm (i+j-m) (by omega) hx) (Int.dvd_mul_left _ _)
    have e1:Qi (fun k=>(ps s).c k*(ps g).c (i+j-k)) (i+j+1)=Qi (fun k=>if k=i then 0 else(ps s).c k*(ps g).c (i+j-k)) (i+j+1)+cf s i*cf g j:=by
     have e2:Qi (fun k=>(ps s).c k*(ps g).c (i+j-k)) (i+j+1)=Qi (fun k=>(if k=i then 0 else(ps s).c k*(ps g).c (i+j-k))+(if k=i then(ps s).c k*(ps g).c (i+j-k)else 0)) (i+j+1):=
      Xx fun k _=>by split<;>omega
     rw [e2,Dy,Ae (f:=fun k=>if k=i then(ps s).c k*(ps g).c (i+j-k)else 0) (k:=i) (by omega) (fun q _ hq=>if_neg hq),if_pos rfl,Nx,Nx,show i+j-i=j by omega]
    rw [e1]at h3
    have h4:(p:Int)∣cf s i*cf g j:=by
     have h5:cf s i*cf g j=k*cf a (i+j)-Qi (fun k=>if k=i then 0 else(ps s).c k*(ps g).c (i+j-k)) (i+j+1):=by omega
     rw [h5]
     exact Int.dvd_sub (Int.dvd_trans hpk (Int.dvd_mul_right _ _)) (key _ (Nat.le_refl _))
    rcases hpp h4 with h5 | h5
    ·exact hi h5
    ·exact hj h5
   obtain⟨k',hk'⟩:=hpk
   have hp0:(p:Int)≠0:=by omega
   refine ih k'.natAbs ?_ k' (s.map (· / (p:Int))) rfl ?_ ?_
   ·rw [←hkn,hk',Int.natAbs_mul,Int.natAbs_natCast]
    have:0<k'.natAbs:=by
     rcases Nat.eq_zero_or_pos k'.natAbs with h6 | h6
     ·rw [show k'=0 by omega]at hk';simp at hk';exact absurd hk' hk
     ·exact h6
    have:=Nat.mul_le_mul_right k'.natAbs p2
    omega
   ·intro e;rw [e]at hk';simp at hk';exact hk hk'
   ·intro t
    refine Int.eq_of_mul_eq_mul_left hp0 ?_
    rw [←Int.mul_assoc,←hk',h,PS.mul_c,PS.mul_c,←Mn]
    refine Xx fun i _=>?_
    rw [Nx,Nx,Nx,Zh3 _ _ (by simp),←Int.mul_assoc,Int.mul_ediv_cancel' (hs i)]
def Ay:List Int→Int→Int
 | [],_=>0
 | c :: r,t=>c+t*Ay r t
def sdv:List Int→Int→List Int
 | [],_=>[]
 | [_],_=>[]
 | _ :: c :: r,t=>Ay (c :: r) t :: sdv (c :: r) t
theorem Zff:∀(u:List Int) (t:Int),(sdv u t).length=u.length-1
 | [],_=>rfl
 | [_],_=>rfl
 | _ :: c :: r,t=>by unfold sdv;rw [List.length_cons,Zff (c :: r) t];simp
theorem Zpg:∀(u:List Int) (t x:Int),Ay u x=Ay u t+(x-t)*Ay (sdv u t) x
 | [],t,x=>by simp [Ay,sdv]
 | [c],t,x=>by simp [Ay,sdv]
 | a :: c :: r,t,x=>by
  have ih:=Zpg (c :: r) t x
  show a+x*Ay (c :: r) x=a+t*Ay (c :: r) t+(x-t)*(Ay (c :: r) t+x*Ay (sdv (c :: r) t) x)
  rw [ih]
  generalize Ay (c :: r) t=A
  generalize Ay (sdv (c :: r) t) x=B
  grind
theorem Dr(a:Int)(u:List Int)(i:Nat):cf (a :: u) i=if i=0 then a else cf u (i-1):=by
 cases i with
 | zero=>rfl
 | succ i=>simp [cf]
theorem Zci(i:Nat):cf [] i=0:=Xt (Nat.zero_le _)
theorem Zua:∀(u:List Int) (t:Int) (i:Nat),cf u (i+1)=cf (sdv u t) i-t*cf (sdv u t) (i+1)
 | [],t,i=>by unfold sdv;simp [Zci]
 | [c],t,i=>by unfold sdv;rw [Dr,if_neg (by omega)];simp [Zci]
 | a :: c :: r,t,i=>by
  unfold sdv
  rw [Dr,if_neg (by omega),Nat.add_sub_cancel]
  cases i with
  | zero=>
   rw [Dr,if_pos rfl,Dr,if_pos rfl,Dr,if_neg (by omega)]
   show c=Ay (c :: r) t-t*cf (sdv (c :: r) t) 0
   match r with
   | []=>simp [Ay,sdv,cf]
   | d :: r'=>unfold sdv;rw [Dr,if_pos rfl];show c=(c+t*Ay (d :: r') t)-_;omega
  | succ i=>
   rw [Dr _ (sdv _ _) (i+1),if_neg (by omega),Dr _ (sdv _ _),if_neg (by omega),Nat.add_sub_cancel,Nat.add_sub_cancel]
   exact Zua (c :: r) t i
theorem Zxb:∀(u:List Int) (t:Int),cf u 0=Ay u t-t*cf (sdv u t) 0
 | [],t=>by simp [Ay,sdv,cf]
 | [c],t=>by simp [Ay,sdv,cf]
 | a :: c :: r,t=>by
  unfold sdv
  rw [Dr,if_pos rfl,Dr,if_pos rfl]
  show a=(a+t*Ay (c :: r) t)-t*Ay (c :: r) t
  omega
theorem Zkc:∀(n:Nat) (u:List Int) (R:List Int),u.length=n→(∃i,cf u i≠0)→R.Nodup→(∀t∈R,Ay u t=0)→R.length<n
 | 0,u,R,hn,hu,_,_=>by
  obtain⟨i,hi⟩:=hu
  rw [List.eq_nil_of_length_eq_zero hn,Zci]at hi
  exact absurd rfl hi
 | n+1,u,[],hn,hu,_,_=>by simp
 | n+1,u,t :: R,hn,hu,hd,hR=>by
  have h0:=hR t (List.mem_cons_self ..)
  have hl:=Zff u t
  have hw:∃i,cf (sdv u t) i≠0:=Classical.byContradiction fun hx=>by
   have hz:∀i,cf (sdv u t) i=0:=fun i=>Classical.byContradiction fun hy=>hx ⟨i,hy⟩
   obtain⟨i,hi⟩:=hu
   cases i with
   | zero=>rw [Zxb u t,h0,hz]at hi;simp at hi
   | succ i=>rw [Zua u t,hz,hz]at hi;simp at hi
  have:=Zkc n (sdv u t) R (by omega) hw (List.nodup_cons.1 hd).2 fun x hx=>by
   have h1:=hR x (List.mem_cons_of_mem _ hx)
   rw [Zpg u t x,h0,Int.zero_add]at h1
   rcases Int.mul_eq_zero.1 h1 with h2 | h2
   ·exfalso
    have:x=t:=by omega
    subst this
    exact(List.nodup_cons.1 hd).1 hx
   ·exact h2
  simp;omega
def kk:Nat→Nat
 | 0=>0
 | d+1=>30*kk d+1
theorem Zwh:∀(p:List Int) (t:Int),Ay p t=Qi (fun i=>cf p i*t^i) p.length
 | [],t=>rfl
 | c :: r,t=>by
  rw [List.length_cons,Gp,Ay,Zwh r t,←Mn,Int.pow_zero,Int.mul_one]
  congr 1
  exact Xx fun i _=>by
   rw [Dr,if_neg (by omega),Nat.add_sub_cancel,Int.pow_succ];grind
theorem Zld(p:List Int)(t:Int):Ay p t=pev p t 1:=by
 rw [Zwh];unfold pev
 exact Xx fun i _=>by rw [Int.one_pow,Int.mul_one]
def pts:List Int:=[0,1,2,3,4,5,6,7,8,9,10,11,12,13,14]
theorem Zlc{α:Type}(f:α→Bool):∀l:List α,(l.filter f).length+(l.filter fun x=>!f x).length=l.length
 | []=>rfl
 | x :: l=>by
  have ih:=Zlc f l
  cases h:f x<;>simp [h]<;>omega
def Psim(a b:List Int):Prop:=∃m n:Int,0<m∧0<n∧∀i,m*cf a i=n*cf b i
theorem Psim.refl(a:List Int):Psim a a:=⟨1,1,by decide,by decide,fun _=>rfl⟩
theorem Psim.symm{a b:List Int} : Psim a b→Psim b a:=fun⟨m,n,hm,hn,h⟩=>⟨n,m,hn,hm,fun i=>(h i).symm⟩
theorem Psim.trans{a b c:List Int} : Psim a b→Psim b c→Psim a c:=fun⟨m,n,hm,hn,h⟩ ⟨u,v,hu,hv,k⟩=>
 ⟨m*u,n*v,Int.mul_pos hm hu,Int.mul_pos hn hv,fun i=>by have h1:=h i;have h2:=k i;grind⟩
theorem Psim.sim{a b:List Int} : Psim a b→Sim a b:=fun⟨m,n,hm,hn,h⟩=>⟨m,n,by omega,by omega,h⟩
theorem Ze9{p:List Int}(h:Tr p):Psim (Yx p) p:=by
 by_cases h0:p=[]
 ·subst h0;exact Psim.refl _
 ·exact⟨Qc p,1,by have:=Lq p;have:=Al h h0;omega,by decide,fun i=>by rw [Int.one_mul,Int.mul_comm];exact Eo p i⟩
theorem Zkl{a b:List Int}(ha:Tr a)(hb:Tr b)(h:Psim a b):Yx a=Yx b:=by
 by_cases h0:a=[]
 ·rw [h.sim.nil hb h0,h0]
 ·have h0':b≠[]:=fun e=>h0 (h.sim.symm.nil ha e)
  obtain⟨m,n,hm,hn,e⟩:=(Ze9 ha).trans (h.trans (Ze9 hb).symm)
  have hx:=Xu ha
  have hy:=Xu hb
  have hs:Sim (Yx a) (Yx b):=⟨m,n,by omega,by omega,e⟩
  have hx0:Yx a≠[]:=fun e=>h0 (List.eq_nil_of_length_eq_zero (by rw [←Yv,e];rfl))
  rcases Zj5 hx hy hx0 (It ha h0) (It hb h0') hs with h1 | h1
  ·exact h1
  ·exfalso
   have h2:=hx.mem hx0
   have h3:=e ((Yx a).length-1)
   have h4:=h1 ((Yx a).length-1)
   rw [h4]at h3 h2
   generalize cf (Yx b) ((Yx a).length-1)=z at h3 h2
   rw [Int.mul_neg]at h3
   have h5:(m+n)*z=0:=by rw [Int.add_mul];omega
   rcases Int.mul_eq_zero.1 h5 with h6 | h6<;>omega
def Ea(y:List Int):Int:=if cf y (y.length-1)<0 then-cf y (y.length-1)else cf y (y.length-1)
def rb(x y:List Int):Int:=if cf y (y.length-1)<0 then-cf x (x.length-1)else cf x (x.length-1)
def Fm(x y:List Int):List Int:=Zat (Xm x (Ea y)) (shm y (rb x y) (x.length-y.length) y.length)
def Ff:Nat→List Int→List Int→List Int
 | 0,x,_=>x
 | f+1,x,y=>if x.length<y.length then x else Ff f (Fm x y) y
theorem Zgv{x y:List Int}(hx:Tr x)(hy:0<y.length)(hl:y.length≤x.length):(Fm x y).length<x.length:=by
 have h:=Zbx (p:=Fm x y) (n:=x.length-1) fun i hi=>by
  unfold Fm
  rw [Hy,Qd,Zpw]
  by_cases he:i=x.length-1
  ·subst he
   rw [if_pos (by omega),show x.length-1-(x.length-y.length)=y.length-1 by omega]
   unfold Ea rb
   split
   ·grind
   ·grind
  ·rw [Xt (p:=x) (by omega),if_neg (by omega)];omega
 rw [show tzl (Fm x y)=Fm x y from Zbw (Zdu _ _)]at h
 omega
theorem Yaf(x:List Int){y:List Int}(t:Nat):Ea y*cf x t=(ps (mono (x.length-y.length) (rb x y))*ps y).c t+cf (Fm x y) t:=by
 unfold Fm
 rw [Zkz,Hy,Qd,Zpw,Nx]
 by_cases h1:x.length-y.length≤t
 ·rw [if_pos h1]
  by_cases h2:t<x.length-y.length+y.length
  ·rw [if_pos ⟨h1,h2⟩,Int.mul_comm (cf x t)];omega
  ·rw [if_neg (by omega),Xt (p:=y) (by omega),Int.mul_comm (cf x t)];omega
 ·rw [if_neg h1,if_neg (by omega),Int.mul_comm (cf x t)];omega
theorem Zgf{y:List Int}(hy:Tr y)(h0:y≠[]):0<Ea y:=by
 have:=hy.mem h0
 unfold Ea;split<;>omega
theorem Zb3{y:List Int}(hy:Tr y)(h0:y≠[]):∀(f:Nat) (x:List Int),Tr x→x.length<y.length+f→Tr (Ff f x y)∧(Ff f x y).length<y.length∧∃(k:Nat) (s:List Int),∀t,Ea y^k*cf x t=(ps s*ps y).c t+cf (Ff f x y) t
 | 0,x,hx,hl=>⟨hx,hl,0,[],fun t=>by rw [Kv (fun t=>Xt (Nat.zero_le _)),Int.pow_zero];unfold Ff;omega⟩
 | f+1,x,hx,hl=>by
  unfold Ff
  by_cases h:x.length<y.length
  ·rw [if_pos h]
   exact⟨hx,h,0,[],fun t=>by rw [Kv (fun t=>Xt (Nat.zero_le _)),Int.pow_zero];omega⟩
  ·rw [if_neg h]
   have h1:=Zgv hx (List.length_pos_iff.2 h0) (by omega)
   obtain⟨h2,h3,k,s,hs⟩:=Zb3 hy h0 f (Fm x y) (Zdu _ _) (by omega)
   refine⟨h2,h3,k+1,Zat (Xm s 1) (Xm (mono (x.length-y.length) (rb x y)) (-(Ea y^k))),fun t=>?_⟩
   have h4:=hs t
   have h5:=Yaf x (y:=y) t
   rw [Zgs,Int.pow_succ]
   generalize Ea y^k=K at *
   generalize Ea y=a at *
   generalize (ps (mono (x.length-y.length) (rb x y))*ps y).c t=M at *
   generalize (ps s*ps y).c t=S at *
   generalize cf (Fm x y) t=X at *
   generalize cf (Ff f (Fm x y) y) t=Z at *
   have:K*a*cf x t=K*(a*cf x t):=by grind
   rw [this,h5];grind
theorem Zq8(l:Int)(h:l≠0):∀n:Nat,(l<0∧n%2=1→l^n<0)∧(¬(l<0∧n%2=1)→0<l^n)
 | 0=>⟨fun h=>by omega,fun _=>by rw [Int.pow_zero];decide⟩
 | n+1=>by
  have ih:=Zq8 l h n
  rw [Int.pow_succ]
  by_cases h1:l<0
  ·by_cases h2:n%2=1
   ·have h3:=ih.1 ⟨h1,h2⟩
    exact⟨fun h=>by omega,fun _=>Int.mul_pos_of_neg_of_neg h3 h1⟩
   ·have h3:=ih.2 (by omega)
    exact⟨fun _=>Int.mul_neg_of_pos_of_neg h3 h1,fun h=>by omega⟩
  ·have h3:=ih.2 (by omega)
   exact⟨fun h=>by omega,fun _=>Int.mul_pos h3 (by omega)⟩
def Zfa(p:List Int):List Int:=Xm p (-1)
theorem Cn(p:List Int)(i:Nat):cf (Zfa p) i=- cf p i:=by unfold Zfa;rw [Qd];omega
theorem Ztl{p:List Int}(h:Tr p):Yx (Zfa p)=Zfa (Yx p):=by
 have hc:Qc (Zfa p)=Qc p:=by
  have d1:Qc (Zfa p)∣Qc p:=Et fun i=>by
   have h:=Kn (Zfa p) i
   rw [Cn]at h;exact Int.dvd_neg.1 h
  have d2:Qc p∣Qc (Zfa p):=Et fun i=>by rw [Cn];exact Int.dvd_neg.2 (Kn p i)
  exact Int.dvd_antisymm (Lq _) (Lq _) d1 d2
 refine(Xu (Ob _ _)).ext (Ob _ _) fun i=>?_
 show cf (Yx (Zfa p)) i=cf (Zfa (Yx p)) i
 rw [Cn,Zbo,Cn,hc,Zbo]
 exact Int.neg_ediv_of_dvd (Kn p i)
theorem Zdy{x y:List Int}{f:Nat}(hx:Tr x)(hy:Tr y)(h0:y≠[])(hl:y.length≤x.length)(hf:x.length<y.length+f):Yx (Zfa (Ff f x y))=Lb x y:=by
 obtain⟨tr,lr,k,s,hs⟩:=Zb3 hy h0 f x hx hf
 have ly:=List.length_pos_iff.2 h0
 obtain⟨s2,hs2⟩:=Zhs (p:=x) ly hl _ (Nat.le_refl _)
 have hp:∀t,cf (Py x y (x.length-y.length+1)) t=cf (Pn x y) t:=fun t=>by
  unfold Pn;rw [if_neg (by omega),Ki]
 have lp:=Oq x h0
 have htp:=Im (q:=y) hx
 have hlead:=hy.mem h0
 have hK:0<Ea y^k:=Int.pow_pos (Zgf hy h0)
 have hsg:=Zq8 (cf y (y.length-1)) hlead (x.length-y.length+1)
 generalize hL:cf y (y.length-1)^(x.length-y.length+1)=L at hs2 hsg
 have hL0:L≠0:=by rw [←hL];exact Mw hlead _
 generalize Ea y^k=K at hs hK
 have key:∀t,(ps (Zat (Xm s2 K) (Xm s L))*ps y).c t=cf (Zat (Xm (Ff f x y) L) (Xm (Pn x y) K)) t:=fun t=>by
  rw [Zgs,Hy,Qd,Qd,←hp t]
  have h1:=hs t
  have h2:=hs2 t
  generalize cf (Py x y (x.length-y.length+1)) t=A at *
  grind
 have z:=Zv5 hy h0 key fun t ht=>by
  rw [Hy,Qd,Qd,Xt (p:=Ff f x y) (by omega),Xt (p:=Pn x y) (by omega)];omega
 have e:∀t,L*cf (Ff f x y) t=K*cf (Pn x y) t:=fun t=>by
  have h1:=key t
  rw [Kv z,Hy,Qd,Qd]at h1
  grind
 unfold Lb
 by_cases hc:cf y (y.length-1)<0∧(x.length-y.length+1)%2=1
 ·rw [if_pos hc]
  have hn:=hsg.1 hc
  exact Zkl (Ob _ _) htp ⟨-L,K,by omega,hK,fun t=>by rw [Cn,←e];grind⟩
 ·rw [if_neg hc]
  have hn:=hsg.2 hc
  rw [show Xm (Yx (Pn x y)) (-1)=Zfa (Yx (Pn x y))from rfl,←Ztl htp]
  exact Zkl (Ob _ _) (Ob _ _) ⟨L,K,hn,hK,fun t=>by
   rw [Cn,Cn,Int.mul_neg,e,Int.mul_neg]⟩
theorem Zcy{x y:List Int}(hx:Tr x):Tr (Lb x y):=by
 unfold Lb;split
 ·exact Xu (Im hx)
 ·exact Ob _ _
theorem Bs{x y:List Int}(hx:Tr x):(Lb x y).length=(Pn x y).length:=by
 unfold Lb
 have h:Tr (Yx (Pn x y)):=Xu (Im hx)
 split
 ·exact Yv _
 ·rw [←Yv (Pn x y)]
  exact((Ze7 (Yx (Pn x y)) (by decide:(-1:Int)≠0)).len h (Ob _ _)).symm
theorem Zn0{n:Nat}{p:List Int}(h:Sz n p):Sz n (Qa p):=fun i=>by
 unfold Qa;rw [Dq];split
 ·rw [Int.natAbs_neg];exact Fj h i
 ·exact Fj h i
theorem Zhy{p:List Int}(h:Tr p)(h0:p≠[]):Qa p≠[]:=fun e=>h0 (List.eq_nil_of_length_eq_zero (by rw [←Nf h,e];rfl))
theorem Ao{g:List Int}(h:Tr g)(h0:g≠[]):0<cf (Kk g) ((Kk g).length-1):=by
 have h1:=h.mem h0
 rw [Zcc h,Dq]
 have:g.length≠0:=fun e=>h0 (List.eq_nil_of_length_eq_zero e)
 split<;>omega
theorem Zbc{p:List Int}(h:Tr p)(h0:p≠[]):Qc (Qa p)=1:=by unfold Qa;rw [Zih];exact It h h0
theorem Ztq{p:List Int}(h:Tr p)(h1:Qc p=1)(h2:0<cf p (p.length-1)):Qa p=p:=by
 unfold Qa;rw [Zgj h1];unfold Kk;rw [if_neg (by omega)]
theorem Mf{xs:List Int}{F:Nat}(hx:Tr xs)(h0:xs≠[])(hok:eok F (gA (Qa xs) (Xy (Qa xs))) (gB (Qa xs) (Xy (Qa xs)))) :
  pdv (Qa xs) (Mp F (Qa xs) (Xy (Qa xs)))∧Tr (sqf F xs)∧sqf F xs≠[]∧Qa xs=Oo (sqf F xs) (Mp F (Qa xs) (Xy (Qa xs)))∧Mp F (Qa xs) (Xy (Qa xs))≠[]∧Qa (sqf F xs)=sqf F xs:=by
 have hs:Tr (Qa xs):=Mm (Xu hx)
 have hd:Tr (Xy (Qa xs)):=Mv hs
 have hs0:=Zhy hx h0
 have hdv:=(Zd7 hs hd hok).1
 have htg:=Zdv (F:=F) hs hd
 have hg0:Mp F (Qa xs) (Xy (Qa xs))≠[]:=fun e=>hs0 ((e▸hdv).zero hs)
 have hc:=Zkq hs hd hg0
 obtain⟨k,s,hk,h⟩:=hdv
 obtain⟨q,hq⟩:=gauss hc _ k s rfl hk h
 have hqe:Qa xs=Oo (tzl q) (Mp F (Qa xs) (Xy (Qa xs))):=hs.ext (Oj _ _) fun i=>by
  rw [Fa,hq,Zom]
 obtain⟨p1,p2⟩:=Zou (Nk q) htg hg0
 have hsq:sqf F xs=tzl q:=by
  unfold sqf
  have p2':=p2
  rw [←hqe]at p2'
  exact p2'
 rw [←hqe]at p1
 have hq0:tzl q≠[]:=fun e=>hs0 (by rw [hqe,e,Ec])
 refine⟨p1,by rw [hsq];exact Nk q,by rw [hsq];exact hq0,by rw [hsq];exact hqe,hg0,?_⟩
 rw [hsq]
 refine Ztq (Nk q) ?_ ?_
 ·have h1:=Zbc hx h0
  have h2:Qc (tzl q)∣Qc (Qa xs):=Et fun i=>by
   rw [hqe,Fa,PS.mul_c]
   have key:∀m,Qc (tzl q)∣Qi (fun k=>(ps (tzl q)).c k*(ps (Mp F (Qa xs) (Xy (Qa xs)))).c (i-k)) m:=fun m=>by
    induction m with
    | zero=>exact Int.dvd_zero _
    | succ m ih=>rw [Qf];exact Int.dvd_add ih (Int.dvd_trans (Kn (tzl q) m) (Int.dvd_mul_right _ _))
   exact key _
  rw [h1]at h2
  have h3:=Lq (tzl q)
  have h4:=Int.le_of_dvd (by decide) h2
  have h5:Qc (tzl q)≠0:=Al (Nk q) hq0
  omega
 ·have l1:=List.length_pos_iff.2 hq0
  have l2:=List.length_pos_iff.2 hg0
  have h1:0<cf (Qa xs) ((Qa xs).length-1):=Ao (Xu hx) (fun e=>h0 (List.eq_nil_of_length_eq_zero (by rw [←Yv,e];rfl)))
  have h2:0<cf (Mp F (Qa xs) (Xy (Qa xs))) ((Mp F (Qa xs) (Xy (Qa xs))).length-1):=Ao (Zle F (Zh8 hs hd) (Zh7 hs hd)) (fun e=>hg0 (by unfold Mp;rw [e];rfl))
  have h3:=Nv (Nk q) htg hq0 hg0
  rw [←hqe]at h3
  have h4:cf (Qa xs) ((Qa xs).length-1)=cf (tzl q) ((tzl q).length-1)*cf (Mp F (Qa xs) (Xy (Qa xs))) ((Mp F (Qa xs) (Xy (Qa xs))).length-1):=by
   rw [h3,hqe,Fa,←hqe,show(tzl q).length+(Mp F (Qa xs) (Xy (Qa xs))).length-1-1=((tzl q).length-1)+((Mp F (Qa xs) (Xy (Qa xs))).length-1) by omega]
   exact Au (fun i hi=>Xt (by omega)) (fun i hi=>Xt (by omega))
  rw [h4]at h1
  rcases Int.lt_or_le 0 (cf (tzl q) ((tzl q).length-1))with h5 | h5
  ·exact h5
  ·exfalso
   have:=Int.mul_nonpos_of_nonpos_of_nonneg h5 (Int.le_of_lt h2)
   omega
theorem Nq(p:List Int):(Xy p).length=p.length-1:=Qe _ _
theorem Zt4{p:List Int}{n:Nat}(hp:Sz n p)(hl:p.length≤25)(i:Nat):bl (cf p (i+1)*((i:Int)+1)).natAbs≤n+5:=by
 rcases Nat.lt_or_ge (i+1) p.length with h | h
 ·have h1:=Qb (cf p (i+1)) ((i:Int)+1)
  have h2:=hp (i+1)
  have h3:bl ((i:Int)+1).natAbs≤5:=(Mj 5 _).2 (by omega)
  omega
 ·rw [Xt h];simp [Lu]
theorem Zg9(p:List Int)(i:Nat):cf (Xy p) i=cf p (i+1)*((i:Int)+1):=by
 unfold Xy
 rw [Iu]
 split
 ·rfl
 ·rw [Xt (by omega),Int.zero_mul]
theorem Fl{p:List Int}{n:Nat}(hp:Sz n p)(hl:p.length≤25):Sz (n+5) (Xy p):=fun i=>by rw [Zg9];exact Zt4 hp hl i
end Go.Sky

