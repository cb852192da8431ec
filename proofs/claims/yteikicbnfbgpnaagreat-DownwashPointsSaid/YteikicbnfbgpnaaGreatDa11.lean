/- Rules, arithmetic and contracts: part 12. No conditions but those that each theorem names. -/
import Derived.Test.YteikicbnfbgpnaaGreatDa10
set_option linter.all false
set_option maxHeartbeats 4000000
namespace Go.Sky
open Go.Proofs.Tryz
open Go.Proofs
set_option synthInstance.maxHeartbeats 0
set_option synthInstance.maxSize 100000
set_option maxRecDepth 20000
set_option maxHeartbeats 4000000
set_option linter.unusedSimpArgs false
theorem rp_to(v:Value)(zs:List (Int×SL))(hs:Sz 1000000 (Fe zs))(hl:zs.length≤1000):Cal prog 24 #[v] [pp v zs] false (G:=Value) (fun r=>True) (fun r=>r) (fun r=>[Yk 2 wv r (Fe zs)]):=by
 refine Zd func24 ntmps24 fun w0 sc hw hsc=>?_
 have hli:=Ay zs
 refine go 17 ?_
 refine Zi (Nw 70 2 80 wv)<|lp (G:=Nat×Value) [0] [0,1] (fun q=>[(4,.int .i64 (q.1:Int)),(3,q.2)]) (fun q=>[(70,Pu 2 80 wv q.2 ((Fe zs).take q.1))]) (fun q=>q.1≤zs.length) (fun q=>zs.length-q.1) (0,.slice none 0 0) O1 K2 K1 ?_
 rintro⟨i,vo⟩ hi
 dsimp only at hi
 dsimp only
 have htl:((Fe zs).take i).length=i:=by rw [List.length_take];omega
 have hci:=Zur zs i
 refine go 9 ?_
 refine Zc J (fun h50=>?_) (fun h50=>?_)
 ·refine go 9 ⟨O2,?_⟩
  refine dt (Lz (ii:=1) I0 J J J Yl pI O2)<|tt (Gh (n:=1) (r_to _ _ (by rw [hci];have:=hs i;omega)) J J J K1 call76 (Zy2 1 J J (Zu) Yf) J hw.h) (fun _ _=>?_)
  refine tt (Qz (i:=2) (ivs:=[(0,_)]) (enc:=wv) [(zs.getD i I0).1] J J K2 Oh ti80 J J J J J pV.cells J J hw.h) (fun v _=>?_)
  refine tt (Kg (i:=70) (j:=2) (by_:=24) J J J J J J O3 J (Yj pV) Oh ti80 J pV J J J O8 O3 J hw.h) fun v_2 _=>go 9 ⟨O,?_⟩
  exact Xg (i+1,_) O1 O1 K2 ⟨by rw [Qx 0 _ _ O,show(Fe zs).getD i 0=(zs.getD i I0).1 from hci.symm];rfl,trivial⟩
 ·refine go 12 ?_
  exact Xo hsc _ results24 J trivial (gow 70 Za (List.take_of_length_le O))
theorem Yd0(v:Value)(zs:List (Int×SL))(hs:Sz 3000000000 (Fe zs)):Cal prog 82 #[v] [pp v zs] true (G:=Value×List (Int×SL)) (fun r=>Fe r.2=tzl (Fe zs)) (fun r=>r.1) (fun r=>[pp r.1 r.2]):=by
 refine Zd func82 ntmps82 fun w0 sc hw hsc=>?_
 refine Mr (Zou (i:=1) J) (fun hself=>?_)
 refine Mr (Er (i:=1) J Yl) (fun hlen=>?_)
 have hli:=Ay zs
 refine go 7 ?_
 refine lp (G:=Nat) [] [0] (fun k=>[(0,Ml v k)]) (fun k=>[(1,pp (Ml v k) (zs.take k))]) (fun k=>(k≤zs.length)∧(tzl ((Fe zs).take k)=tzl (Fe zs))) (fun k=>k) zs.length ⟨Nat.le_refl _,by rw [List.take_of_length_le O]⟩ ⟨by rw [hself];rfl,trivial⟩ ⟨by rw [hself,List.take_length];rfl,trivial⟩ ?_
 rintro k ⟨hk,ht⟩
 have hl:(zs.take k).length=k:=by rw [List.length_take];omega
 have hce:((zs.take k).getD (k-1) I0).1=((Fe zs).take k).getD (k-1) 0:=by rw [Zur,Zd5];rfl
 refine go 7 ?_
 refine Yv (d:=6) J (fun s22=>?_) (fun s22=>?_)
 ·refine go 4 ⟨O,?_⟩
  refine Da (Ym (ii:=1) (i:=k-1) J J J J Yl Ydc sizeOf89) J J<|Da (Lz (ii:=1) I0 J J J Yl pI) J J<|gtt (Gh (n:=1) (Zyv _ _ (by rw [hce];exact(hs.take _).getD _)) J J J K1 call130 (Zy2 1 J J (Zu) Yf) J hw.h) J J J J fun _ _=>go 4 ?_
  refine Zc J (fun h22=>?_) (fun h22=>?_)
  ·rw [hce]at h22
   have hstep:=Zmy (xs:=Fe zs) (k:=k) O O (Zgk (k:=k) O (Int.sign_eq_zero_iff_zero.1 h22))
   refine go 8 ⟨O,?_⟩
   refine dt (Zt9 (ii:=1) (i:=k-1) J J J J Yl Ydc sizeOf89)<|go 3 ?_
   exact Yw (Zvo 1 1 (k-1) J J O)<|Xg (k-1) ⟨O1,by rw [←ht,←hstep]⟩ O1 ⟨by rw [←Ix v k (k-1)];rfl,trivial⟩ ⟨by rw [Ix,List.take_take,Nat.min_eq_left O];rfl,trivial⟩
  ·try rw [hce]at h22
   refine go 12 ?_
   exact Xo hsc (_,zs.take k) results82 J (by rw [Zd5,←ht];exact(Zcq O (by first | (left;omega) | (right;exact Zcu (k:=k) O ‹_›))).symm) (Nz 1 Za)
 ·refine go 24 ?_
  exact Xo hsc (_,zs.take k) results82 J (by rw [Zd5,←ht];exact(Zcq O (by first | (left;omega) | (right;exact Zcu (k:=k) O ‹_›))).symm) (Nz 1 Za)
theorem Yd1(v:Value)(l:List Int)(hl:∀x∈l,Nc x)(hlen:l.length≤1000):Cal prog 67 #[v] [Yk 1 Yu v l] true (G:=Value×List (Int×SL)) (fun r=>Fe r.2=tzl l) (fun r=>r.1) (fun r=>[pp r.1 r.2]):=by
 refine Zd func67 ntmps67 fun w0 sc hw hsc=>?_
 have hsz:=Zkh hl
 refine go 17 ?_
 refine Zi (Nw 70 2 89 Zq7)<|Zi (Pb qI 71)<|lp (G:=Nat×Value×List (Int×SL)) [0] [0,1] (fun q=>[(4,.int .i64 (q.1:Int)),(3,q.2.1)]) (fun q=>[(70,Pu 2 89 Zq7 q.2.1 q.2.2),(71,Gc qI q.2.2)]) (fun q=>(q.1≤l.length)∧(Fe q.2.2=mk q.1 (cf l))∧(q.2.2.length=q.1)) (fun q=>l.length-q.1) (0,.slice none 0 0,[]) ⟨O1,rfl,rfl⟩ K2 K2 ?_
 rintro⟨i,vo,ws⟩ ⟨hi,hz,hzl⟩
 dsimp only at hi hz hzl
 dsimp only
 refine go 9 ?_
 refine Zc J (fun h59=>?_) (fun h59=>?_)
 ·refine go 10 ⟨O2,O2,?_⟩
  refine cl 2 [] (Zyw _ (hl _ (Zu))) fun v _=>?_
  refine Ye3 (Md 2 J Zk) (fun sl hsl=>?_)
  subst hsl
  refine tt (Qz (i:=3) (ivs:=[(0,_)]) (enc:=Zq7) [(l.getD i 0,sl)] J J K2 Ydc ti89 J J J J J pI.cells J J hw.h) (fun v_2 _=>?_)
  refine tt (Kg (i:=70) (j:=3) (by_:=32) J J J J J J O3 J (Yj pI) Ydc ti89 J pI J J J O8 O3 J hw.h) fun v_3 _=>go 9 ⟨O,?_⟩
  exact Yw (Xl (q:=qI) (z:=(l.getD i 0,sl)) 71 2 71 J J J J J)<|Xg (i+1,_,ws ++ [(l.getD i 0,sl)]) ⟨O1,by rw [Zwg,Ztd,hz];dsimp only;rfl,by simp [hzl]⟩ O1 K2 K2
 ·refine go 6 ?_
  refine Zi (Pg 70 J J pI)<|Zi (Kz 70 71 72 J J J J)<|go 2 ?_
  refine cl 4 [72] (Yd0 _ _ (by rw [hz];exact Zbq fun t ht=>by have:=hsz t;omega)) fun g hg=>go 4 ?_
  exact Xo hsc _ results67 J (by rw [hg,hz,show i=l.length by omega,Zdi]) (Nz 4 Za)
theorem r_same(v u:Value)(r t:List (Bool×ByteArray)):Pn prog 23 #[v,u] [Yk 2 Zq6 v r,Yk 2 Zq6 u t] (.bool (decide (r=t))):=by
 refine Zd func23 ntmps23 fun w0 sc hw hsc=>?_
 refine Mr (Er (i:=1) J Zk) (fun hlr=>?_)
 refine Mr (Er (i:=2) J Zk) fun hlt=>go 15 ?_
 refine Zc J (fun h78=>?_) (fun h78=>?_)
 ·refine go 7 ?_
  exact Xo hsc () results23 (by rw [decide_eq_false (fun e=>by subst e;exact h78 rfl)]) trivial Za
 ·have hle:r.length=t.length:=O
  refine go 9 ?_
  refine lp (G:=Nat) [0,1] [0,1,2] (fun k=>[(5,.int .i64 (k:Int))]) (fun k=>[]) (fun k=>(k≤r.length)∧(r.take k=t.take k)) (fun k=>r.length-k) 0 ⟨O1,O6⟩ K1 trivial ?_
  rintro k ⟨hk,ht⟩
  refine go 9 ?_
  refine Zc J (fun h81=>?_) (fun h81=>?_)
  ·refine go 5 ?_
   refine Qe (fun _=>False) [(0,0),(1,0),(2,0),(3,0),(4,0),(5,0),(6,0),(7,0),(8,0)]<|go 3 ⟨O2,?_⟩
   refine Qb J J (Ph (Lz (ii:=1) (false,⟨#[]⟩) J J J Zk pW O2))<|go 3 ⟨O2,?_⟩
   refine Qb J J (Ph (Lz (ii:=2) (false,⟨#[]⟩) J J J Zk pW O2))<|Qb J J (Ph (Ybm J J J eg80 (fun w=>neq80 w _ _ _ _)))<|go 2 ?_
   refine My J (fun h82=>?_) (fun h82=>?_)
   ·refine go 11 ?_
    exact Xo hsc () results23 (by rw [decide_eq_false (fun e=>by rw [e]at h82;simp [Ya0]at h82)]) trivial Za
   ·refine go 8 ⟨O,?_⟩
    exact Xg (k+1) ⟨O1,by rw [Qx (false,⟨#[]⟩) _ _ O,Qx (false,⟨#[]⟩) _ _ O,ht,Ya1 (x:=r.getD k (false,⟨#[]⟩)) (y:=t.getD k (false,⟨#[]⟩)) (by simpa using h82)]⟩ O1 K1 trivial
  ·refine go 11 ?_
   exact Xo hsc () results23 (by rw [decide_eq_true (by rw [show k=r.length by omega,List.take_length,hle,List.take_length]at ht;exact ht)]) trivial Za
theorem Zvt(v u:Value)(xs ys:List Int):Pn prog 23 #[v,u] [Yk 2 wv v xs,Yk 2 wv u ys] (.bool (decide (xs=ys))):=by
 have h:=((r_same v u (xs.map wr) (ys.map wr)).imp (Zp5 v xs) (fun _ h=>fpm h)).imp2 (Zp5 u ys) (fun _ h=>fpm h)
 rw [decide_eq_decide.2 (Zqt xs ys)]at h;exact h
theorem Zd1(x y x2 y2:Int)(hx:bl x.natAbs≤65536)(hy:bl y.natAbs≤65536)(hx2:bl x2.natAbs≤65536)(hy2:bl y2.natAbs≤65536)(hp:0<y)(hp2:0<y2):Pn prog 164 #[rX x y,rX x2 y2] [] (.bool true):=by
 refine Zd func164 ntmps164 fun w0 sc hw hsc=>go 2 ?_
 refine Yc (Yb 1) fun b _=>Yc (Yb 2) fun b_2 _=>go 6 ?_
 refine cl 2 [] (Nq _ _ ‹_› ‹_› ‹_›) fun _ _=>go 2 ?_
 refine Hs 2 [] (Nq _ _ ‹_› ‹_› ‹_›) fun _ _=>go 5 ?_
 exact Xo hsc () results164 J trivial Za
theorem Zck(x y x2 y2:Int)(hx:bl x.natAbs≤65536)(hy:bl y.natAbs≤65536)(hx2:bl x2.natAbs≤65536)(hy2:bl y2.natAbs≤65536):Cal prog 169 #[rX x y,rX x2 y2] [] true (G:=Bool×Value×Bool×Value×Bool×Value) (fun r=>sg r.1 (x*y2)∧sg r.2.2.1 (x2*y)∧sg r.2.2.2.2.1 (y*y2)) (fun r=> .tuple #[.agg #[.bool r.1,r.2.1],.agg #[.bool r.2.2.1,r.2.2.2.1],.agg #[.bool r.2.2.2.2.1,r.2.2.2.2.2]]) (fun r=>[Gd r.2.1 (x*y2).natAbs,Gd r.2.2.2.1 (x2*y).natAbs,Gd r.2.2.2.2.2 (y*y2).natAbs]):=by
 refine Zd func169 ntmps169 fun w0 sc hw hsc=>?_
 have b1:=Xb x y2
 have b2:=Xb x2 y
 have b3:=Xb y y2
 have b4:=Xb x x2
 refine go 2 ?_
 refine Yc (Yb 1) fun b _=>Yc (Yb 2) fun b_2 _=>Yc (Zr 3) fun b_3 _=>Yc (Zr 4) fun b_4 _=>Yc (Zr 5) fun b_5 _=>go 3 ?_
 refine Il [1,2] [23]<|Zl (n:=0) [(0,0),(1,0),(3,0),(4,0),(7,0),(8,0),(10,0),(11,0),(14,0),(15,0),(17,0),(18,0),(2,1),(5,1),(6,1),(9,1),(12,1),(13,1),(16,1),(19,1),(20,1),(21,1),(22,1),(23,3)]<|go 12 ?_
 refine Yz (Zf 6 [] (Xi _ _ (Yn _))) fun g hg=>Yz (Zf 7 [] (Xi _ _ (Yn _))) fun g_2 hg_2=>Yz (Zf 8 [6,7] (Za5 _ _ _ _ _ _ ‹_› ‹_›)) fun g_3 hg_3=>Yz (Zf 9 [] (Xi _ _ (Yn _))) fun g_4 hg_4=>Yz (Zf 10 [] (Xi _ _ (Yn _))) fun g_5 hg_5=>Yz (Zf 11 [9,10] (Za5 _ _ _ _ _ _ ‹_› ‹_›)) fun g_6 hg_6=>Yz (Zf 12 [] (Xi _ _ (Yn _))) fun g_7 hg_7=>Yz (Zf 13 [] (Xi _ _ (Yn _))) fun g_8 hg_8=>Yz (Zf 14 [12,13] (Za5 _ _ _ _ _ _ ‹_› ‹_›)) fun g_9 hg_9=>go 4 ?_
 refine Zw<|go 2 ?_
 exact xe3 hsc (_,_,_,_,_,_) results169 J ⟨by assumption,by assumption,by assumption⟩ (Nz 8 (Nz 11 (Nz 14 Za)))
theorem Zcl(x y x2 y2:Int)(hx:bl x.natAbs≤65536)(hy:bl y.natAbs≤65536)(hx2:bl x2.natAbs≤65536)(hy2:bl y2.natAbs≤65536)(hp:0<y)(hp2:0<y2):Pn prog 284 #[rX x y,rX x2 y2] [] (.tuple #[.int .i64 (x*y2-x2*y).sign,.int .i64 0]):=by
 refine Zd func284 ntmps284 fun w0 sc hw hsc=>?_
 have b1:=Xb x y2
 have b2:=Xb x2 y
 have b3:=Xb y y2
 have b4:=Xb x x2
 have b5:=Zme (x2*y)
 have b6:=Hy (x*y2) (-(x2*y))
 refine go 2 ?_
 refine Yc (Yb 1) fun b _=>Yc (Yb 2) fun b_2 _=>go 9 ?_
 refine cl 2 [] (Zd1 _ _ _ _ ‹_› ‹_› ‹_› ‹_› ‹_› ‹_›) fun _ _=>go 10 ?_
 refine cl 3 [] (Zck _ _ _ _ ‹_› ‹_› ‹_› ‹_›) fun g hg=>?_
 obtain⟨hc1,hc2,hc3⟩:=hg
 refine go 4 ?_
 refine Yc (Zr 6) fun b_3 _=>Yc (Zr 7) fun b_4 _=>Yc (Zr 8) fun b_5 _=>go 6 ?_
 refine Qe (fun _=>False) [(0,0),(1,0),(2,1),(3,1),(4,1),(5,3),(6,3)]<|go 2 ?_
 refine Yz (Zf 9 [4] (Zk4 _ _ _ ‹_›)) fun g_2 hg_2=>Yz (Zf 10 [3,9] (Zdf _ _ _ _ _ _ ‹_› ‹_›)) fun g_3 hg_3=>Yz (Zf 10 [10] (Zha _ _ _ ‹_›)) fun _ _=>go 5 ?_
 exact Nu hsc () results284 (by rw [Int.sub_eq_add_neg]<;>rfl) trivial Za
theorem Zio(x y x2 y2:Int)(hx:bl x.natAbs≤65536)(hy:bl y.natAbs≤65536)(hx2:bl x2.natAbs≤65536)(hy2:bl y2.natAbs≤65536)(hp:0<y)(hp2:0<y2):Pn prog 99 #[rX x y,rX x2 y2] [] (Bi (x*y2+x2*y) (y*y2)):=by
 refine Zd func99 ntmps99 fun w0 sc hw hsc=>?_
 have b1:=Xb x y2
 have b2:=Xb x2 y
 have b3:=Xb y y2
 have b4:=Xb x x2
 have b6:=Hy (x*y2) (x2*y)
 refine go 2 ?_
 refine Yc (Yb 1) fun b _=>Yc (Yb 2) fun b_2 _=>Yc (Zr 3) fun b_3 _=>go 8 ?_
 refine cl 3 [] (Zd1 _ _ _ _ ‹_› ‹_› ‹_› ‹_› ‹_› ‹_›) fun _ _=>go 10 ?_
 refine cl 4 [] (Zck _ _ _ _ ‹_› ‹_› ‹_› ‹_›) fun g hg=>?_
 obtain⟨hc1,hc2,hc3⟩:=hg
 refine go 4 ?_
 refine Yc (Zr 7) fun b_4 _=>Yc (Zr 8) fun b_5 _=>Yc (Zr 9) fun b_6 _=>go 6 ?_
 refine Qe (fun _=>False) [(0,0),(1,0),(3,0),(2,1),(4,1),(5,0),(6,0),(7,3),(8,3)]<|go 3 ?_
 refine Yz (Zf 10 [4,5] (Zdf _ _ _ _ _ _ ‹_› ‹_›)) fun g_2 hg_2=>Yz (Zf 10 [10,6] (Ad _ _ _ _ _ _ ‹_› ‹_› (Int.mul_ne_zero O O))) fun _ _=>go 7 ?_
 exact Nu hsc () results99 J trivial Za
theorem Gv(x y x2 y2:Int)(hx:bl x.natAbs≤65536)(hy:bl y.natAbs≤65536)(hx2:bl x2.natAbs≤65536)(hy2:bl y2.natAbs≤65536)(hp:0<y)(hp2:0<y2:=by decide):Pn prog 97 #[rX x y,rX x2 y2] [] (Bi (x*x2) (y*y2)):=by
 refine Zd func97 ntmps97 fun w0 sc hw hsc=>?_
 have b1:=Xb x y2
 have b2:=Xb x2 y
 have b3:=Xb y y2
 have b4:=Xb x x2
 refine go 2 ?_
 refine Yc (Yb 1) fun b _=>Yc (Yb 2) fun b_2 _=>Yc (Zr 3) fun b_3 _=>go 8 ?_
 refine cl 3 [] (Zd1 _ _ _ _ ‹_› ‹_› ‹_› ‹_› ‹_› ‹_›) fun _ _=>go 7 ?_
 refine Qe (fun _=>False) [(0,0),(1,0),(3,0),(4,0),(7,0),(8,0),(10,0),(11,0),(2,1),(5,1),(6,1),(9,1),(12,1),(13,1),(14,1),(15,0),(16,0),(17,3),(18,3)]<|go 8 ?_
 refine Yz (Zf 4 [] (Xi _ _ (Yn _))) fun g hg=>Yz (Zf 5 [] (Xi _ _ (Yn _))) fun g_2 hg_2=>Yz (Zf 6 [4,5] (Za5 _ _ _ _ _ _ ‹_› ‹_›)) fun g_3 hg_3=>Yz (Zf 7 [] (Xi _ _ (Yn _))) fun g_4 hg_4=>Yz (Zf 8 [] (Xi _ _ (Yn _))) fun g_5 hg_5=>Yz (Zf 9 [7,8] (Za5 _ _ _ _ _ _ ‹_› ‹_›)) fun g_6 hg_6=>Yz (Zf 9 [6,9] (Ad _ _ _ _ _ _ ‹_› ‹_› (Int.mul_ne_zero O O))) fun _ _=>go 7 ?_
 exact Nu hsc () results97 J trivial Za
theorem Zcm(x y:Int)(hx:bl x.natAbs≤65536)(hy:bl y.natAbs≤65536):Pn prog 187 #[wv x,wv y] [] (.int .i64 (x-y).sign):=by
 refine Zd func187 ntmps187 fun w0 sc hw hsc=>?_
 have b5:=Zme y
 have b6:=Hy x (-y)
 refine go 2 ?_
 refine Yc (Yb 1) fun b _=>Yc (Yb 2) fun b_2 _=>go 8 ?_
 refine cl 2 [] (Lj _ _ ‹_› ‹_›) fun _ _=>go 7 ?_
 refine Qe (fun _=>False) [(0,0),(2,0),(1,1),(3,1),(4,1),(5,1),(6,1),(7,3)]<|go 2 ?_
 refine Yz (Zf 3 [] (Xi _ _ (Yn _))) fun g hg=>Yz (Zf 4 [] (Xi _ _ (Yn _))) fun g_2 hg_2=>Yz (Zf 5 [4] (Zk4 _ _ _ ‹_›)) fun g_3 hg_3=>Yz (Zf 6 [3,5] (Zdf _ _ _ _ _ _ ‹_› ‹_›)) fun g_4 hg_4=>Yz (Zf 6 [6] (Zha _ _ _ ‹_›)) fun _ _=>go 4 ?_
 exact Xo hsc () results187 (by rw [Int.sub_eq_add_neg]<;>rfl) trivial Za
theorem Zx5(x y:Int)(hx:bl x.natAbs≤30000)(hy:bl y.natAbs≤30000):Cal Tryz.prog 115 #[wv x,wv y] [] false (G:=Unit) (fun _=>True) (fun _=>wv (x+y)) (fun _=>[]):=by
 refine Zd Tryz.func115 Tryz.ntmps115 fun w0 sc hw hsc=>?_
 have hb:=Hy x y
 refine go 2 ?_
 refine Yc (Yb 1) fun bx _=>?_
 refine Yc (Yb 2) fun bx_2 _=>?_
 refine Yc (Zr 3) fun bx_3 _=>?_
 refine go 6 ?_
 refine cl 3 [] (Zmu _ _ O O) fun _ _=>?_
 refine go 3 ?_
 refine Yc (Zr 4) fun bx_4 _=>?_
 refine go 11 ?_
 exact Xo hsc () Tryz.results115 (by rw [Ll O]) trivial Za
theorem Eh(x y:Int)(hx:bl x.natAbs≤30000)(hy:bl y.natAbs≤30000):Cal Tryz.prog 186 #[wv x,wv y] [] false (G:=Unit) (fun _=>True) (fun _=>wv (x*y)) (fun _=>[]):=by
 refine Zd Tryz.func186 Tryz.ntmps186 fun w0 sc hw hsc=>?_
 have hb:=Xb x y
 refine go 2 ?_
 refine Yc (Yb 1) fun bx _=>?_
 refine Yc (Yb 2) fun bx_2 _=>?_
 refine Yc (Zr 3) fun bx_3 _=>?_
 refine go 6 ?_
 refine cl 3 [] (Zmr _ _ O O) fun _ _=>?_
 refine go 3 ?_
 refine Yc (Zr 4) fun bx_4 _=>?_
 refine go 11 ?_
 exact Xo hsc () Tryz.results186 (by rw [Ll O]) trivial Za
theorem Zkk(x y:Int)(hx:bl x.natAbs≤30000)(hy:bl y.natAbs≤30000):Cal Tryz.prog 134 #[wv x,wv y] [] false (G:=Unit) (fun _=>True) (fun _=>wv ((Int.gcd x y:Int))) (fun _=>[]):=by
 refine Zd Tryz.func134 Tryz.ntmps134 fun w0 sc hw hsc=>?_
 have hb:=Zmf x y
 refine go 2 ?_
 refine Yc (Yb 1) fun bx _=>?_
 refine Yc (Yb 2) fun bx_2 _=>?_
 refine Yc (Zr 3) fun bx_3 _=>?_
 refine go 6 ?_
 refine cl 3 [] (Zmt _ _ O O) fun _ _=>?_
 refine go 3 ?_
 refine Yc (Zr 4) fun bx_4 _=>?_
 refine go 11 ?_
 exact Xo hsc () Tryz.results134 (by rw [Ll O]) trivial Za
theorem Zec(x y:Int)(hx:bl x.natAbs≤30000)(hy:bl y.natAbs≤30000)(hy0:y≠0):Cal Tryz.prog 114 #[wv x,wv y] [] false (G:=Unit) (fun _=>True) (fun _=>wv (x/y)) (fun _=>[]):=by
 refine Zd Tryz.func114 Tryz.ntmps114 fun w0 sc hw hsc=>?_
 have hb:=Zga x y
 refine go 2 ?_
 refine Yc (Yb 1) fun bx _=>?_
 refine Yc (Yb 2) fun bx_2 _=>?_
 refine Yc (Zr 3) fun bx_3 _=>?_
 refine go 6 ?_
 refine cl 3 [] (Ec _ _ O O hy0) fun _ _=>?_
 refine go 4 ?_
 refine Yc (Zr 4) fun bx_4 _=>?_
 refine Yc (Zr 5) fun bx_5 _=>?_
 refine go 12 ?_
 exact Xo hsc () Tryz.results114 (by rw [Ll O]) trivial Za
theorem Zx1(n:Int)(k:Nat)(hn:bl n.natAbs≤60)(hk:k≤10):Cal Tryz.prog 227 #[.int .i64 n,.int .i64 (k:Int)] [] false (G:=Unit) (fun _=>True) (fun _=>wv (n^k)) (fun _=>[]):=by
 refine Zd Tryz.func227 Tryz.ntmps227 fun w0 sc hw hsc=>?_
 have hb:∀i,i≤10→bl (n^i).natAbs≤1000:=fun i hi=>bl_pw (Nat.le_trans hn O3) hi
 refine go 2 ?_
 refine Yc (Zr 1) fun bx _=>?_
 refine go 4 ?_
 refine cl 1 [] (Zh 1 ⟨O3,O3⟩) fun _ _=>?_
 refine Yc (Zr 2) fun bx_2 _=>?_
 refine go 11 ?_
 refine lp (G:=Nat) [0,4,5,7] [0,1] (fun i=>[(8,.int .i64 (i:Int))]) (fun i=>[(2,box bx_2 80 (wc (n^i)))]) (fun i=>i≤k) (fun i=>k-i) 0 O1 ⟨rfl,trivial⟩ ⟨by rw [Int.pow_zero];rfl,trivial⟩ ?_
 rintro i hi
 refine go 6 ?_
 refine Zc rfl (fun h43=>?_) (fun h43=>?_)
 ·refine go 4 ?_
  refine Qe (fun _=>False) [(0,0),(1,0),(2,1),(3,1),(4,3)] ?_
  refine go 2 ?_
  refine Yz (Zf 2 [] (Zh _ (in_bl O))) fun _ _=>?_
  refine Yz (Zf 2 [] (Eh (n^i) n (Nat.le_trans (hb i O) O) O)) fun _ _=>?_
  refine go 8 ⟨O,?_⟩
  exact Xg (i+1) O1 O1 ⟨rfl,trivial⟩ ⟨by rw [Int.pow_succ];rfl,trivial⟩
 ·obtain rfl:i=k:=O
  refine go 12 ?_
  exact Xo hsc () Tryz.results227 rfl trivial Za
theorem Fn(x y:Int)(hx:Nc x)(hy:Nc y)(hy0:y≠0):Cal Tryz.prog 168 #[.int .i64 x,.int .i64 y] [] false (G:=Unit) (fun _=>True) (fun _=>Bi x y) (fun _=>[]):=by
 refine Zd Tryz.func168 Tryz.ntmps168 fun w0 sc hw hsc=>?_
 have hbx:=Fg hx
 have hby:=Fg hy
 refine go 2 ?_
 refine Yc (Zr 1) fun bx _=>?_
 refine go 6 ?_
 refine cl 1 [] (Zh _ hx) fun _ _=>?_
 refine go 1 ?_
 refine cl 1 [] (Zh _ hy) fun _ _=>?_
 refine cl 1 [] (Zbv _ _ O O hy0) fun _ _=>?_
 refine go 7 ?_
 exact Nu hsc () Tryz.results168 rfl trivial Za
theorem Zp4:Cal Tryz.prog 185 #[] [] false (G:=List Int) (fun r=>Tb r 6 0) (fun r=> .agg (Ey r)) (fun r=>[]):=by
 refine Zd Tryz.func185 Tryz.ntmps185 fun w0 sc hw hsc=>?_
 refine go 2 ?_
 refine tt (Zfo (i:=1) rfl rfl rfl Tryz.zeroValue243 rfl rfl hw.h) (fun bx _=>?_)
 refine go 4 ?_
 refine tt (Zfo (i:=2) rfl rfl rfl Tryz.zeroValue243 rfl rfl hw.h) (fun bx_2 _=>?_)
 refine go 9 ?_
 refine Zi (Mv 2 (q:=box bx_2 243 (Ey (List.replicate 36 0))) (congrArg (box bx_2 243) zc6_eq) rfl rfl) ?_
 refine lp (G:=Nat×List Int) [0,1] [0,1] (fun q=>[(4,.int .i64 (q.1:Int))]) (fun q=>[(2,box bx_2 243 (Ey q.2))]) (fun q=>(q.1≤6)∧(Tb q.2 q.1 0)) (fun q=>6-q.1) (0,List.replicate 36 0) ⟨O1,Tb.start⟩ ⟨rfl,trivial⟩ ⟨rfl,trivial⟩ ?_
 rintro⟨n,l⟩ ⟨hn,hT⟩
 dsimp only at hn hT
 dsimp only
 have hl:=hT.len
 refine go 6 ?_
 refine Zc rfl (fun h52=>?_) (fun h52=>?_)
 ·refine go 13 ?_
  refine dt (Ic (i:=n) rfl rfl rfl Tryz.underlying243 Tryz.sizeOf242) ?_
  refine dt (Ic (i:=0) rfl rfl rfl Tryz.underlying242 Tryz.sizeOf3 rfl) ?_
  refine tt (Zp1 (i:=2) rfl rfl rfl rfl rfl Tryz.sizeOf3 rfl hw.h trivial) (fun _ _=>?_)
  refine go 8 ?_
  refine lp (G:=Nat×List Int) [0,1,2,4] [0,1] (fun q=>[(3,.int .i64 (q.1:Int))]) (fun q=>[(2,box bx_2 243 (Ey q.2))]) (fun q=>(1≤q.1)∧(q.1≤n+1)∧(Tb q.2 n q.1)) (fun q=>n+1-q.1) (1,l.set (0+n*6+0*1) 1) ⟨O1,O1,hT.step O O (by cases n<;>rfl) O⟩ ⟨rfl,trivial⟩ ⟨rfl,trivial⟩ ?_
  rintro⟨k,l2⟩ ⟨hk1,hk2,hT2⟩
  dsimp only at hk1 hk2 hT2
  dsimp only
  have hl2:=hT2.len
  refine go 8 ?_
  refine Zc rfl (fun h54=>?_) (fun h54=>?_)
  ·refine go 4 ?_
   have hv1:=hT2.get (j:=0+(n-1)*6+(k-1)*1) (r:=n-1) (c:=k-1) O O (.inl O) O
   have hv2:=hT2.get (j:=0+(n-1)*6+k*1) (r:=n-1) (c:=k) O O (.inl O) O
   have hb1:=Zrm (n:=n-1) (k:=k-1) 
   have hb2:=Zrm (n:=n-1) (k:=k) 
   refine Il [] [] ?_
   refine Zl (n:=5) [(0,0),(1,0),(2,0),(3,0),(4,0),(5,0),(6,0),(7,0),(9,0),(10,0),(11,0),(12,0),(13,0),(16,0)] ?_
   refine go 6 ⟨O,O,?_⟩
   refine Qb rfl rfl (Ai (Ic (i:=(n-1)) rfl rfl rfl Tryz.underlying243 Tryz.sizeOf242) trivial) ?_
   refine Qb rfl rfl (Ai (Ic (i:=(k-1)) rfl rfl rfl Tryz.underlying242 Tryz.sizeOf3) trivial) ?_
   refine go 3 ⟨O,?_⟩
   refine Qb rfl rfl (Ai (Ic (i:=(n-1)) rfl rfl rfl Tryz.underlying243 Tryz.sizeOf242) trivial) ?_
   refine Qb rfl rfl (Ai (Ic (i:=k) rfl rfl rfl Tryz.underlying242 Tryz.sizeOf3) trivial) ?_
   refine Qb rfl rfl (Ai (Ic (i:=n) rfl rfl rfl Tryz.underlying243 Tryz.sizeOf242) trivial) ?_
   refine go 1 ?_
   refine Qw (n:=4) 8 14 ?_ ?_
   ·refine Zar rfl (Zbl (Zws (i:=2) rfl rfl rfl Tryz.isAgg3) rfl rfl) (fun _ _=>?_)
    refine Zl (n:=0) [(14,1),(15,0),(17,0),(18,1)] ?_
    refine Bk rfl (Zbl (Zws (i:=2) rfl rfl rfl Tryz.isAgg3) rfl rfl) (fun _ _=>?_)
    refine go 1 ⟨by rw [hv1,hv2];exact⟨O,O⟩,?_⟩
    refine Qb rfl rfl (Ai (Ic (i:=k) rfl rfl rfl Tryz.underlying242 Tryz.sizeOf3) trivial) ?_
    refine Bk rfl (Zp1 (i:=2) rfl rfl rfl rfl rfl Tryz.sizeOf3 rfl hw.h (fun _ h=>nomatch h)) (fun _ _=>?_)
    refine go 1 ?_
    refine Zw ?_
    refine go 7 ⟨O,?_⟩
    exact Xg (k+1,_) ⟨O1,O1,hT2.step O O (by rw [hv1,hv2,Zum (n:=n) (k:=k)];push_cast;rfl) O⟩ O1 ⟨rfl,trivial⟩ ⟨rfl,trivial⟩
   ·refine Zar rfl (Zbl (Zws (i:=2) rfl rfl rfl Tryz.isAgg3) rfl rfl) (fun _ _=>?_)
    refine Zl (n:=0) [(8,1),(15,0),(17,0),(18,1)] ?_
    refine Bk rfl (Zbl (Zws (i:=2) rfl rfl rfl Tryz.isAgg3) rfl rfl) (fun _ _=>?_)
    refine go 1 ⟨by rw [hv1,hv2];exact⟨O,O⟩,?_⟩
    refine Qb rfl rfl (Ai (Ic (i:=k) rfl rfl rfl Tryz.underlying242 Tryz.sizeOf3) trivial) ?_
    refine Bk rfl (Zp1 (i:=2) rfl rfl rfl rfl rfl Tryz.sizeOf3 rfl hw.h (fun _ h=>nomatch h)) (fun _ _=>?_)
    refine go 1 ?_
    refine Zw ?_
    refine go 7 ⟨O,?_⟩
    exact Xg (k+1,_) ⟨O1,O1,hT2.step O O (by rw [hv1,hv2,Zum (n:=n) (k:=k)];push_cast;rfl) O⟩ O1 ⟨rfl,trivial⟩ ⟨rfl,trivial⟩
  ·refine go 10 ⟨O,?_⟩
   exact Xg (n+1,l2) ⟨O1,hT2.row O⟩ O1 ⟨rfl,trivial⟩ ⟨rfl,trivial⟩
 ·obtain rfl:n=6:=O
  let r0:=l
  refine go 7 ?_
  refine dt (d_lwa (i:=2) rfl rfl rfl Tryz.isAgg243 Tryz.sizeOf243 hl) ?_
  refine tt (Zxk (i:=1) rfl rfl rfl rfl rfl Tryz.sizeOf243 hl Zmn rfl hw.h trivial) (fun _ _=>?_)
  refine go 3 ?_
  exact Zmo (.inl rfl) hsc l _ (fun a w hs=>Zbi hs Tryz.results185 (Hg (i:=1) (vs:=r0.map (Value.int .i64)) rfl rfl Tryz.isAgg243 Tryz.sizeOf243 (by simpa using hl))) rfl hT rfl Za
theorem Zgp(v:Value)(c:List Int)(over:Int)(hc:∀x∈c,Nc x)(hl1:1≤c.length)(hl:c.length≤6)(ho:1≤over)(ho2:over≤4294967296):Cal Tryz.prog 133 #[v,.int .i64 over] [Yk 1 Yu v c] false (G:=Unit) (fun _=>True) (fun _=> .bool (Zih c over)) (fun _=>[]):=by
 refine Zd Tryz.func133 Tryz.ntmps133 fun w0 sc hw hsc=>?_
 have hbo:bl (62914560*over).natAbs≤90:=(Xs 90 _).2 O
 have hbo2:bl over.natAbs≤40:=(Xs 40 _).2 O
 refine go 7 ?_
 refine cl 1 [] (Zp4) fun g hg=>?_
 refine tt (Zfo (i:=2) rfl rfl rfl Tryz.zeroValue243 rfl rfl hw.h) (fun bx _=>?_)
 refine tt (Zxk (i:=2) rfl rfl rfl rfl rfl Tryz.sizeOf243 hg.len Zmn rfl hw.h trivial) (fun _ _=>?_)
 refine Xu (Mv 2 (q:=box bx 243 (Ey g)) rfl rfl rfl) ?_
 refine go 4 ?_
 refine cl 2 [] (Zh 62914560 ⟨O3,O3⟩) fun _ _=>?_
 refine go 1 ?_
 refine cl 2 [] (Zh over) fun _ _=>?_
 refine cl 2 [] (Eh 62914560 over O3 O) fun _ _=>?_
 refine Yc (Zr 3) fun bx_2 _=>?_
 refine go 20 ⟨O,?_⟩
 refine lp (G:=Nat) [0,5,6,7,20] [0,1,2,3] (fun j=>[(21,.int .i64 (j:Int))]) (fun j=>[]) (fun j=>(j≤c.length)∧(∀i,i<j→((ctl c i (i+1)).natAbs:Int)≤62914560*over)) (fun j=>c.length-j) 0 ⟨O1,fun i hi=>absurd hi (Nat.not_lt_zero i)⟩ ⟨rfl,trivial⟩ trivial ?_
 rintro j ⟨hj,hz⟩
 refine go 6 ?_
 refine Zc rfl (fun h69=>?_) (fun h69=>?_)
 ·refine go 12 ?_
  refine Yc (Zr 4) fun bx_3 _=>?_
  refine go 11 ⟨O,?_⟩
  refine lp (G:=Nat) [0,5,6,7,8,9,20,21,25] [0,1,2,3] (fun k=>[(26,.int .i64 (k:Int))]) (fun k=>[(4,box bx_3 80 (wc (ctl c j k)))]) (fun k=>k≤j+1) (fun k=>j+1-k) 0 O1 ⟨rfl,trivial⟩ ⟨rfl,trivial⟩ ?_
  rintro k hk
  refine go 6 ?_
  refine Zc rfl (fun h71=>?_) (fun h71=>?_)
  ·refine go 10 ?_
   have hw6:=Zxd (n:=(c.length-1)) (j:=j) (k:=k) O
   refine Qe (fun _=>False) [(0,0),(1,0),(2,0),(3,0),(4,0),(6,0),(7,0),(8,0),(9,0),(10,0),(11,0),(12,0),(13,0),(14,0),(15,0),(16,0),(17,0),(5,1),(18,1),(19,1),(20,1),(21,3)] ?_
   refine go 3 ?_
   refine Qb rfl rfl (Ph (Ym (ii:=1) (i:=k) rfl rfl rfl rfl Zk Tryz.underlying33 Tryz.sizeOf3 rfl)) ?_
   refine go 3 ⟨O,?_⟩
   refine Qb rfl rfl (Ph (Ic (i:=(c.length-1)) rfl rfl rfl Tryz.underlying243 Tryz.sizeOf242)) ?_
   refine Qb rfl rfl (Ph (Ic (i:=k) rfl rfl rfl Tryz.underlying242 Tryz.sizeOf3)) ?_
   refine Qb rfl rfl (Ph (Zp (r':= .int .i64 (Pa (c.length-1) k:Int)) (Zws (i:=2) rfl rfl rfl Tryz.isAgg3 (by have:=hg.len;omega)) (congrArg (Value.int .i64) (hg.get O O (.inl O) O)))) ?_
   refine Qb rfl rfl (Ph (Zfa rfl rfl rfl O3 O3 (by have:=Zl8 (n:=(c.length-1)) (k:=k) O;omega))) ?_
   refine go 2 ?_
   refine Qb rfl rfl (Ph (Ic (i:=j) rfl rfl rfl Tryz.underlying243 Tryz.sizeOf242)) ?_
   refine Qb rfl rfl (Ph (Ic (i:=k) rfl rfl rfl Tryz.underlying242 Tryz.sizeOf3)) ?_
   refine Qb rfl rfl (Ph (Zp (r':= .int .i64 (Pa j k:Int)) (Zws (i:=2) rfl rfl rfl Tryz.isAgg3 (by have:=hg.len;omega)) (congrArg (Value.int .i64) (hg.get O O (.inl O) O)))) ?_
   refine go 1 ⟨show Nc (w60 (c.length-1) j k)from⟨O,O⟩,?_⟩
   refine Yz (Zf 4 [] (Zh (c.getD k 0) (Ik hc k))) fun _ _=>?_
   refine Yz (Zf 4 [] (Zh (w60 (c.length-1) j k))) fun _ _=>?_
   refine Yz (Zf 4 [] (Eh (c.getD k 0) (w60 (c.length-1) j k) (Nat.le_trans (Fg (Ik hc k)) O3) (Nat.le_trans (Zrs O) O3))) fun _ _=>?_
   refine Yz (Zf 4 [] (Zx5 (ctl c j k) (c.getD k 0*(w60 (c.length-1) j k)) (Nat.le_trans (Ycf hc O O) O3) (Nat.le_trans (Xb _ _) (by have h1:=Fg (Ik hc k);have h2:=Zrs (n:=(c.length-1)) (j:=j) (k:=k) O;omega)))) fun _ _=>?_
   refine go 8 ⟨O,?_⟩
   exact Xg (k+1) O1 O1 ⟨rfl,trivial⟩ ⟨by rw [Ybu];rfl,trivial⟩
  ·obtain rfl:k=j+1:=O
   refine go 9 ?_
   refine Xu (Mv 4 (q:=box bx_3 80 (wc ((ctl c j (j+1)).natAbs:Int))) (congrArg (box bx_3 80) (wc_abs _)) rfl rfl) ?_
   refine go 6 ?_
   refine cl 4 [] (Zcm ((ctl c j (j+1)).natAbs:Int) (62914560*over) (by rw [Int.natAbs_natCast];exact Nat.le_trans (Ycf hc O O) O3) O) fun _ _=>?_
   refine go 3 ?_
   refine Zc rfl (fun h74=>?_) (fun h74=>?_)
   ·have hgt:=(sgp _).1 h74
    refine go 11 ?_
    exact Xo hsc () Tryz.results133 (by rw [bndB_f (j:=j) O O]) trivial Za
   ·have hle:((ctl c j (j+1)).natAbs:Int)≤62914560*over:=Int.not_lt.1 fun h9=>h74 ((sgp _).2 O)
    refine go 7 ⟨O,?_⟩
    exact Xg (j+1) ⟨O1,fun i hi=>by rcases Nat.lt_succ_iff_lt_or_eq.1 hi with h9 | h9;exact hz i h9;subst h9;exact hle⟩ O1 ⟨rfl,trivial⟩ trivial
 ·refine go 11 ?_
  exact Xo hsc () Tryz.results133 (by rw [Ycb fun i hi=>hz i O]) trivial Za
theorem _root_.Go.Proofs.Tryz.ti182:Tryz.prog.info? 182=some Tryz.t182:=O5
theorem Ycn{v0 v1 v2:Value}(h0:v0.oneCell'=true)(h1:v1.oneCell'=true)(h2:v2.oneCell'=true):Tryz.prog.built 182 [(0,v0),(1,v1),(2,v2)]=some #[v0,v1,v2]:=by
 refine Zbf _ Tryz.ti182 Tryz.underlying182 rfl Tryz.ti33 ?_
 rw [show Tryz.t33.size=1 from rfl]
 rw [show(Value.agg #[.slice none 0 0,.slice none 0 0,.slice none 0 0]).cells=#[.slice none 0 0,.slice none 0 0,.slice none 0 0]from rfl]
 simp [Instr.fill,Zm h0,Zm h1,Zm h2]
theorem _root_.Go.Proofs.Tryz.ti186:Tryz.prog.info? 186=some Tryz.t186:=O5
theorem Zwz{v0 v1 v2 v3:Value}(h0:v0.oneCell'=true)(h1:v1.oneCell'=true)(h2:v2.oneCell'=true)(h3:v3.oneCell'=true):Tryz.prog.built 186 [(0,v0),(1,v1),(2,v2),(3,v3)]=some #[v0,v1,v2,v3]:=by
 refine Zbf _ Tryz.ti186 Tryz.underlying186 rfl Tryz.ti3 ?_
 rw [show Tryz.t3.size=1 from rfl]
 rw [show(Value.agg #[.int .i64 0,.int .i64 0,.int .i64 0,.int .i64 0]).cells=#[.int .i64 0,.int .i64 0,.int .i64 0,.int .i64 0]from rfl]
 simp [Instr.fill,Zm h0,Zm h1,Zm h2,Zm h3]
theorem _root_.Go.Proofs.Tryz.ti331:Tryz.prog.info? 331=some Tryz.t331:=O5
theorem _root_.Go.Proofs.Tryz.ti330:Tryz.prog.info? 330=some Tryz.t330:=O5
theorem Ycl{v0 v1 v2:Value}(h0:v0.oneCell'=true)(h1:v1.oneCell'=true)(h2:v2.oneCell'=true):Tryz.prog.built 331 [(0,v0),(1,v1),(2,v2)]=some #[v0,v1,v2]:=by
 refine Zbf _ Tryz.ti331 Tryz.underlying331 rfl Tryz.ti330 ?_
 rw [show Tryz.t330.size=1 from rfl]
 rw [show(Value.agg #[.pointer none,.pointer none,.pointer none]).cells=#[.pointer none,.pointer none,.pointer none]from rfl]
 simp [Instr.fill,Zm h0,Zm h1,Zm h2]
theorem Zkl(fr to ov:Int)(vx vy vz:Value)(x y z:List Int):Cal Tryz.prog 132 #[.agg #[.int .i64 fr,.int .i64 to,.int .i64 ov,vx,vy,vz]] [Yk 1 Yu vx x,Yk 1 Yu vy y,Yk 1 Yu vz z] false (G:=Unit) (fun _=>True) (fun _=> .agg #[vx,vy,vz]) (fun _=>[]):=by
 refine Zd Tryz.func132 Tryz.ntmps132 fun w0 sc hw hsc=>?_
 refine go 2 ?_
 refine Yc (Yb 4) fun bx _=>?_
 refine Yc (Zr 5) fun bx_2 _=>?_
 refine go 10 ?_
 refine dt (Qg (ivs:=[(0,_),(1,_),(2,_)]) rfl ⟨rfl,rfl,rfl,rfl,rfl,rfl,trivial⟩ (fun a w hs=>Ycn ((Qt (i:=1) rfl Zk) a w hs) ((Qt (i:=2) rfl Zk) a w hs) ((Qt (i:=3) rfl Zk) a w hs))) ?_
 refine go 4 ?_
 exact Xo hsc () Tryz.results132 rfl trivial Za
theorem Aj(fr to ov:Int)(vx vy vz:Value)(x y z:List Int)(hfr:Nc fr)(hto:Nc to)(hov:Nc ov)(hx:∀a∈x,Nc a)(hy:∀a∈y,Nc a)(hz:∀a∈z,Nc a):Cal Tryz.prog 73 #[.agg #[.int .i64 fr,.int .i64 to,.int .i64 ov,vx,vy,vz]] [Yk 1 Yu vx x,Yk 1 Yu vy y,Yk 1 Yu vz z] false (G:=Unit) (fun _=>True) (fun _=> .bool (Fi fr to ov x y z)) (fun _=>[]):=by
 refine Zd Tryz.func73 Tryz.ntmps73 fun w0 sc hw hsc=>?_
 have hbo:=Fg hov
 have hfc:=fun i k=>bl_fc hx hy hz hbo i k
 have hfc0:=fun i=>hfc i 0
 simp only [List.take_zero,Mc]at hfc0
 refine go 2 ?_
 refine Yc (Yb 4) fun bx _=>?_
 refine go 10 ?_
 refine Yv (d:=11) rfl (fun s83=>?_) (fun s83=>?_)
 ·refine go 31 ?_
  exact Xo hsc () Tryz.results73 (by rw [Zgj O]) trivial Za
 ·refine go 7 ?_
  refine Yv (d:=18) rfl (fun s83_2=>?_) (fun s83_2=>?_)
  ·refine go 24 ?_
   exact Xo hsc () Tryz.results73 (by rw [Zgj O]) trivial Za
  ·refine go 5 ?_
   refine Yv (d:=23) rfl (fun s83_3=>?_) (fun s83_3=>?_)
   ·refine go 19 ?_
    exact Xo hsc () Tryz.results73 (by rw [Zgj O]) trivial Za
   ·refine go 5 ?_
    refine Yv (d:=28) rfl (fun s83_4=>?_) (fun s83_4=>?_)
    ·refine go 14 ?_
     exact Xo hsc () Tryz.results73 (by rw [Zgj O]) trivial Za
    ·refine go 6 ?_
     refine Zc rfl (fun h83=>?_) (fun h83=>?_)
     ·refine go 7 ?_
      exact Xo hsc () Tryz.results73 (by rw [Zgj O]) trivial Za
     ·refine go 6 ?_
      refine cl 4 [] (Zh ov hov) fun _ _=>?_
      refine Yc (Zr 5) fun bx_2 _=>?_
      refine go 7 ?_
      refine cl 5 [1,2,3] (Zkl _ _ _ _ _ _ _ _ _) fun _ _=>?_
      refine go 4 ?_
      refine lp (G:=Nat) [1,3,37] [0,1,2,3,4] (fun i=>[(38,.int .i64 (i:Int))]) (fun i=>[(5,box bx_2 80 (wc (Mc ov (Lf i x y z))))]) (fun i=>(i≤3)∧(∀k,k<i→axB (Zt k x y z) ov=true)) (fun i=>3-i) 0 ⟨O1,fun k hk=>absurd hk (Nat.not_lt_zero k)⟩ ⟨rfl,trivial⟩ ⟨rfl,trivial⟩ ?_
      rintro i ⟨hi,hax⟩
      refine go 6 ?_
      refine Zc rfl (fun h87=>?_) (fun h87=>?_)
      ·refine go 5 ?_
       refine Zi (Zb0 i 1 2 3 50 rfl rfl rfl rfl rfl rfl) ?_
       refine go 1 ?_
       refine dt (Zo9 (i:=i) rfl rfl rfl Tryz.underlying182 Tryz.sizeOf33 Tryz.isAgg33 rfl) ?_
       refine go 10 ?_
       refine Yv (d:=44) rfl (fun s88=>?_) (fun s88=>?_)
       ·refine go 40 ?_
        exact Xo hsc () Tryz.results73 (by rw [Zgv (i:=i) (Zpq fun h1 h2 h3 h4=>by first | omega | simp_all)]) trivial Za
       ·refine go 5 ?_
        refine Yv (d:=49) rfl (fun s88_2=>?_) (fun s88_2=>?_)
        ·refine go 35 ?_
         exact Xo hsc () Tryz.results73 (by rw [Zgv (i:=i) (Zpq fun h1 h2 h3 h4=>by first | omega | simp_all)]) trivial Za
        ·refine go 4 ?_
         refine Yv (d:=53) rfl (fun s88_3=>?_) (fun s88_3=>?_)
         ·refine go 4 ⟨O,?_⟩
          refine Da (Ym (ii:=50) (i:=((Zt i x y z).length-1)) rfl rfl rfl rfl Zk Tryz.underlying33 Tryz.sizeOf3) rfl rfl ?_
          refine go 5 ⟨O,?_⟩
          refine Yv (d:=63) rfl (fun s88_4=>?_) (fun s88_4=>?_)
          ·refine go 21 ?_
           exact Xo hsc () Tryz.results73 (by rw [Zgv (i:=i) (Zpq fun h1 h2 h3 h4=>by first | omega | simp_all)]) trivial Za
          ·refine go 3 ?_
           refine Hs 5 [50] (Zgp _ (Zt i x y z) ov (Dm hx hy hz i) O O O O) fun _ _=>?_
           refine go 4 ?_
           refine My rfl (fun h88=>?_) (fun h88=>?_)
           ·refine go 12 ?_
            exact Xo hsc () Tryz.results73 (by rw [Zgv (i:=i) (Zpq fun h1 h2 h3 h4=>by first | omega | simp_all)]) trivial Za
           ·refine go 10 ?_
            refine lp (G:=Nat) [1,3,37,38,45,46,47,50,51,52,53,54,55,56,57,58,59,60,61,64,65,66,67,68,70,71] [0,1,2,3,4,50] (fun k=>[(72,.int .i64 (k:Int))]) (fun k=>[(5,box bx_2 80 (wc (Mc (Mc ov (Lf i x y z)) ((Zt i x y z).take k))))]) (fun k=>k≤(Zt i x y z).length) (fun k=>(Zt i x y z).length-k) 0 O1 ⟨rfl,trivial⟩ ⟨rfl,trivial⟩ ?_
            rintro k hk
            refine go 6 ?_
            refine Zc rfl (fun h91=>?_) (fun h91=>?_)
            ·refine go 11 ⟨O2,O2,?_⟩
             refine Qe (fun _=>False) [(0,0),(1,0),(2,1),(3,1),(4,3)] ?_
             refine go 2 ?_
             refine Yz (Zf 5 [] (Zh ((Zt i x y z).getD k 0) (Ik (Dm hx hy hz i) k))) fun _ _=>?_
             refine Yz (Zf 5 [] (Zkk (Mc (Mc ov (Lf i x y z)) ((Zt i x y z).take k)) ((Zt i x y z).getD k 0) (Nat.le_trans (hfc i k) O3) (Nat.le_trans (Fg (Ik (Dm hx hy hz i) k)) O3))) fun _ _=>?_
             refine go 8 ⟨O,?_⟩
             exact Xg (k+1) O1 O1 ⟨rfl,trivial⟩ ⟨by rw [Zem _ O];rfl,trivial⟩
            ·obtain rfl:k=(Zt i x y z).length:=O
             rw [List.take_length]
             refine go 10 ⟨O,?_⟩
             exact Xg (i+1) ⟨O1,fun k hk=>by rcases Nat.lt_succ_iff_lt_or_eq.1 hk with h9 | h9;exact hax k h9;subst h9;exact Ycp O O (by first | omega | simp_all) (by simp_all)⟩ O1 ⟨rfl,trivial⟩ ⟨by rw [Zae x y z O,Hm];rfl,trivial⟩
         ·refine go 13 ?_
          refine Hs 5 [50] (Zgp _ (Zt i x y z) ov (Dm hx hy hz i) O O O O) fun _ _=>?_
          refine go 4 ?_
          refine My rfl (fun h88_2=>?_) (fun h88_2=>?_)
          ·refine go 12 ?_
           exact Xo hsc () Tryz.results73 (by rw [Zgv (i:=i) (Zpq fun h1 h2 h3 h4=>by first | omega | simp_all)]) trivial Za
          ·refine go 10 ?_
           refine lp (G:=Nat) [1,3,37,38,45,46,47,50,51,52,53,54,55,56,57,58,59,60,61,64,65,66,67,68,70,71] [0,1,2,3,4,50] (fun k=>[(72,.int .i64 (k:Int))]) (fun k=>[(5,box bx_2 80 (wc (Mc (Mc ov (Lf i x y z)) ((Zt i x y z).take k))))]) (fun k=>k≤(Zt i x y z).length) (fun k=>(Zt i x y z).length-k) 0 O1 ⟨rfl,trivial⟩ ⟨rfl,trivial⟩ ?_
           rintro k hk
           refine go 6 ?_
           refine Zc rfl (fun h91_2=>?_) (fun h91_2=>?_)
           ·refine go 11 ⟨O2,O2,?_⟩
            refine Qe (fun _=>False) [(0,0),(1,0),(2,1),(3,1),(4,3)] ?_
            refine go 2 ?_
            refine Yz (Zf 5 [] (Zh ((Zt i x y z).getD k 0) (Ik (Dm hx hy hz i) k))) fun _ _=>?_
            refine Yz (Zf 5 [] (Zkk (Mc (Mc ov (Lf i x y z)) ((Zt i x y z).take k)) ((Zt i x y z).getD k 0) (Nat.le_trans (hfc i k) O3) (Nat.le_trans (Fg (Ik (Dm hx hy hz i) k)) O3))) fun _ _=>?_
            refine go 8 ⟨O,?_⟩
            exact Xg (k+1) O1 O1 ⟨rfl,trivial⟩ ⟨by rw [Zem _ O];rfl,trivial⟩
           ·obtain rfl:k=(Zt i x y z).length:=O
            rw [List.take_length]
            refine go 10 ⟨O,?_⟩
            exact Xg (i+1) ⟨O1,fun k hk=>by rcases Nat.lt_succ_iff_lt_or_eq.1 hk with h9 | h9;exact hax k h9;subst h9;exact Ycp O O (by first | omega | simp_all) (by simp_all)⟩ O1 ⟨rfl,trivial⟩ ⟨by rw [Zae x y z O,Hm];rfl,trivial⟩
      ·obtain rfl:i=3:=O
       refine go 6 ?_
       refine Qe (fun _=>False) [(0,0),(1,1),(2,0),(3,3)] ?_
       refine go 1 ?_
       refine Yz (Zf 5 [] (Zh 1 ⟨O3,O3⟩)) fun _ _=>?_
       refine Qb rfl rfl (Ph (Ybm rfl rfl rfl eg80 (fun w=>eql80 w _ _ _ _))) ?_
       refine go 4 ?_
       exact Xo hsc () Tryz.results73 (by rw [Yaz,segB_e O hax]) trivial Za
theorem pG:Enc Tryz.prog 35 6 Mp:=Enc.agg O3 Tryz.sizeOf35 Tryz.isAgg35 (fun x=>⟨[.int .i64 x.1.1,.int .i64 x.1.2.1,.int .i64 x.1.2.2,Qq x.2.1.1,Qq x.2.2.1.1,Qq x.2.2.2.1],rfl,rfl,O10⟩)
theorem Iw(n k:Int)(hn:bl n.natAbs≤60)(h0:0≤k)(hk:k≤10):Cal Tryz.prog 227 #[.int .i64 n,.int .i64 k] [] false (G:=Unit) (fun _=>True) (fun _=>wv (n^k.toNat)) (fun _=>[]):=by
 have h:=Zx1 n k.toNat hn O
 rw [Int.toNat_of_nonneg h0]at h
 exact h
end Go.Sky

