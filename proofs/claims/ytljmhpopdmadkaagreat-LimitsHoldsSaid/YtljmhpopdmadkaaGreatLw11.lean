/- Rules, arithmetic and contracts: part 12. No conditions but those that each theorem names. -/
import Derived.Test.YtljmhpopdmadkaaGreatLw10
set_option linter.all false
set_option maxHeartbeats 4000000
namespace Go.Sky
open Go.Proofs.Tryz
open Go.Proofs
set_option synthInstance.maxHeartbeats 0
set_option synthInstance.maxSize 100000
set_option maxRecDepth 20000
set_option maxHeartbeats 4000000
set_option linter.unusedSimpArgs false
theorem rp_to(v:Value)(zs:List (Int×SL))(hs:Sz 1000000 (Pw zs))(hl:zs.length≤1000):Cal prog 20 #[v] [pp v zs] false (G:=Value) (fun r=>True) (fun r=>r) (fun r=>[Ym 2 wv r (Pw zs)]):=by
 refine Zd func20 ntmps20 fun w0 sc hw hsc=>?_
 have hli:=Ij zs
 refine go 17 ?_
 refine Ze (Np 70 2 93 wv)<|lp (G:=Nat×Value) [0] [0,1] (fun q=>[(4,.int .i64 (q.1:Int)),(3,q.2)]) (fun q=>[(70,Ma 2 93 wv q.2 ((Pw zs).take q.1))]) (fun q=>q.1≤zs.length) (fun q=>zs.length-q.1) (0,.slice none 0 0) O1 K2 K1 ?_
 rintro⟨i,vo⟩ hi
 dsimp only at hi
 dsimp only
 have htl:((Pw zs).take i).length=i:=by rw [List.length_take];omega
 have hci:=Fd zs i
 refine go 9 ?_
 refine Zc J (fun h50=>?_) (fun h50=>?_)
 ·refine go 9 ⟨O2,?_⟩
  refine dt (Pj (ii:=1) I0 J J J Zi pI O2)<|tt (Pk (n:=1) (Yce _ _ (by rw [hci];have:=hs i;omega)) J J J K1 call50 (He 1 J J (Zf) Zw) J hw.h) J (fun _ _=>?_)
  refine tt (Qd (i:=2) (ivs:=[(0,_)]) (enc:=wv) [(zs.getD i I0).1] J J K2 Nn ti93 J J J J J pV.cells J J hw.h) J (fun v _=>?_)
  refine tt (Kq (i:=70) (j:=2) (by_:=24) J J J J J J O3 J (Xa pV) Nn ti93 J pV J J J O8 O3 J hw.h) J fun v_2 _=>go 9 ⟨O,?_⟩
  exact Xb (i+1,_) O1 O1 K2 ⟨by rw [Pa 0 _ _ O,show(Pw zs).getD i 0=(zs.getD i I0).1 from hci.symm];rfl,trivial⟩
 ·refine go 12 ?_
  exact Xj hsc _ results20 J trivial (gow 70 Za (List.take_of_length_le O))
theorem Yhn(v:Value)(zs:List (Int×SL))(hs:Sz 3000000000 (Pw zs)):Cal prog 92 #[v] [pp v zs] true (G:=Value×List (Int×SL)) (fun r=>Pw r.2=tzl (Pw zs)) (fun r=>r.1) (fun r=>[pp r.1 r.2]):=by
 refine Zd func92 ntmps92 fun w0 sc hw hsc=>?_
 refine Nd (Zrn (i:=1) J) (fun hself=>?_)
 refine Nd (Hq (i:=1) J Zi) (fun hlen=>?_)
 have hli:=Ij zs
 refine go 7 ?_
 refine lp (G:=Nat) [] [0] (fun k=>[(0,Ld v k)]) (fun k=>[(1,pp (Ld v k) (zs.take k))]) (fun k=>(k≤zs.length)∧(tzl ((Pw zs).take k)=tzl (Pw zs))) (fun k=>k) zs.length ⟨Nat.le_refl _,by rw [List.take_of_length_le O]⟩ ⟨by rw [hself];rfl,trivial⟩ ⟨by rw [hself,List.take_length];rfl,trivial⟩ ?_
 rintro k ⟨hk,ht⟩
 have hl:(zs.take k).length=k:=by rw [List.length_take];omega
 have hce:((zs.take k).getD (k-1) I0).1=((Pw zs).take k).getD (k-1) 0:=by rw [Fd,Zfz];rfl
 refine go 7 ?_
 refine Yu (d:=6) J (fun s22=>?_) (fun s22=>?_)
 ·refine go 4 ⟨O,?_⟩
  refine Ly (Yf (ii:=1) (i:=k-1) J J J J Zi Ygx zT77) J J<|Ly (Pj (ii:=1) I0 J J J Zi pI) J J<|gtt (Pk (n:=1) (Znm _ _ (by rw [hce];exact(hs.take _).getD _)) J J J K1 call83 (He 1 J J (Zf) Zw) J hw.h) J J J J fun _ _=>go 4 ?_
  refine Zc J (fun h22=>?_) (fun h22=>?_)
  ·rw [hce]at h22
   have hstep:=Zpy (xs:=Pw zs) (k:=k) O O (Zip (k:=k) O (Int.sign_eq_zero_iff_zero.1 h22))
   refine go 8 ⟨O,?_⟩
   refine dt (Zxl (ii:=1) (i:=k-1) J J J J Zi Ygx zT77)<|go 3 ?_
   exact Yn (Zy1 1 1 (k-1) J J O)<|Xb (k-1) ⟨O1,by rw [←ht,←hstep]⟩ O1 ⟨by rw [←Gh v k (k-1)];rfl,trivial⟩ ⟨by rw [Gh,List.take_take,Nat.min_eq_left O];rfl,trivial⟩
  ·try rw [hce]at h22
   refine go 12 ?_
   exact Xj hsc (_,zs.take k) results92 J (by rw [Zfz,←ht];exact(Zec O (by first | (left;omega) | (right;exact Zef (k:=k) O ‹_›))).symm) (Mm 1 Za)
 ·refine go 24 ?_
  exact Xj hsc (_,zs.take k) results92 J (by rw [Zfz,←ht];exact(Zec O (by first | (left;omega) | (right;exact Zef (k:=k) O ‹_›))).symm) (Mm 1 Za)
theorem Yho(v:Value)(l:List Int)(hl:∀x∈l,Qx x)(hlen:l.length≤1000):Cal prog 69 #[v] [Ym 1 Yl v l] true (G:=Value×List (Int×SL)) (fun r=>Pw r.2=tzl l) (fun r=>r.1) (fun r=>[pp r.1 r.2]):=by
 refine Zd func69 ntmps69 fun w0 sc hw hsc=>?_
 have hsz:=Zm9 hl
 refine go 17 ?_
 refine Ze (Np 70 2 77 Zc2)<|Ze (Oc qI 71)<|lp (G:=Nat×Value×List (Int×SL)) [0] [0,1] (fun q=>[(4,.int .i64 (q.1:Int)),(3,q.2.1)]) (fun q=>[(70,Ma 2 77 Zc2 q.2.1 q.2.2),(71,De qI q.2.2)]) (fun q=>(q.1≤l.length)∧(Pw q.2.2=mk q.1 (cf l))∧(q.2.2.length=q.1)) (fun q=>l.length-q.1) (0,.slice none 0 0,[]) ⟨O1,rfl,rfl⟩ K2 K2 ?_
 rintro⟨i,vo,ws⟩ ⟨hi,hz,hzl⟩
 dsimp only at hi hz hzl
 dsimp only
 refine go 9 ?_
 refine Zc J (fun h59=>?_) (fun h59=>?_)
 ·refine go 10 ⟨O2,O2,?_⟩
  refine cl 2 [] (Em _ (hl _ (Zf))) fun v _=>?_
  refine Yiv (Mp 2 J Zo) (fun sl hsl=>?_)
  subst hsl
  refine tt (Qd (i:=3) (ivs:=[(0,_)]) (enc:=Zc2) [(l.getD i 0,sl)] J J K2 Ygx ti77 J J J J J pI.cells J J hw.h) J (fun v_2 _=>?_)
  refine tt (Kq (i:=70) (j:=3) (by_:=32) J J J J J J O3 J (Xa pI) Ygx ti77 J pI J J J O8 O3 J hw.h) J fun v_3 _=>go 9 ⟨O,?_⟩
  exact Yn (Xt (q:=qI) (z:=(l.getD i 0,sl)) 71 2 71 J J J J J)<|Xb (i+1,_,ws ++ [(l.getD i 0,sl)]) ⟨O1,by rw [Zcr,Ze5,hz];dsimp only;rfl,by simp [hzl]⟩ O1 K2 K2
 ·refine go 6 ?_
  refine Ze (Pf 70 J J pI)<|Ze (Hi 70 71 72 J J J J)<|go 2 ?_
  refine cl 4 [72] (Yhn _ _ (by rw [hz];exact Zc7 fun t ht=>by have:=hsz t;omega)) fun g hg=>go 4 ?_
  exact Xj hsc _ results69 J (by rw [hg,hz,show i=l.length by omega,Ze6]) (Mm 4 Za)
theorem r_same(v u:Value)(r t:List (Bool×ByteArray)):Oo prog 19 #[v,u] [Ym 2 Zuh v r,Ym 2 Zuh u t] (.bool (decide (r=t))):=by
 refine Zd func19 ntmps19 fun w0 sc hw hsc=>?_
 refine Nd (Hq (i:=1) J Zo) (fun hlr=>?_)
 refine Nd (Hq (i:=2) J Zo) fun hlt=>go 15 ?_
 refine Zc J (fun h78=>?_) (fun h78=>?_)
 ·refine go 7 ?_
  exact Xj hsc () results19 (by rw [decide_eq_false (fun e=>by subst e;exact h78 rfl)]) trivial Za
 ·have hle:r.length=t.length:=O
  refine go 9 ?_
  refine lp (G:=Nat) [0,1] [0,1,2] (fun k=>[(5,.int .i64 (k:Int))]) (fun k=>[]) (fun k=>(k≤r.length)∧(r.take k=t.take k)) (fun k=>r.length-k) 0 ⟨O1,O5⟩ K1 trivial ?_
  rintro k ⟨hk,ht⟩
  refine go 9 ?_
  refine Zc J (fun h81=>?_) (fun h81=>?_)
  ·refine go 5 ?_
   refine Xw (fun _=>False) [(0,0),(1,0),(2,0),(3,0),(4,0),(5,0),(6,0),(7,0),(8,0)]<|go 3 ⟨O2,?_⟩
   refine Qe J J (Qa (Pj (ii:=1) (false,⟨#[]⟩) J J J Zo pW O2))<|go 3 ⟨O2,?_⟩
   refine Qe J J (Qa (Pj (ii:=2) (false,⟨#[]⟩) J J J Zo pW O2))<|Qe J J (Qa (Zhf J J J eg93 (fun w=>neq93 w _ _ _ _)))<|go 2 ?_
   refine Nw J (fun h82=>?_) (fun h82=>?_)
   ·refine go 11 ?_
    exact Xj hsc () results19 (by rw [decide_eq_false (fun e=>by rw [e]at h82;simp [Ye1]at h82)]) trivial Za
   ·refine go 8 ⟨O,?_⟩
    exact Xb (k+1) ⟨O1,by rw [Pa (false,⟨#[]⟩) _ _ O,Pa (false,⟨#[]⟩) _ _ O,ht,Ye2 (x:=r.getD k (false,⟨#[]⟩)) (y:=t.getD k (false,⟨#[]⟩)) (by simpa using h82)]⟩ O1 K1 trivial
  ·refine go 11 ?_
   exact Xj hsc () results19 (by rw [decide_eq_true (by rw [show k=r.length by omega,List.take_length,hle,List.take_length]at ht;exact ht)]) trivial Za
theorem Zy7(v u:Value)(xs ys:List Int):Oo prog 19 #[v,u] [Ym 2 wv v xs,Ym 2 wv u ys] (.bool (decide (xs=ys))):=by
 have h:=((r_same v u (xs.map wr) (ys.map wr)).imp (Zs5 v xs) (fun _ h=>fpm h)).imp2 (Zs5 u ys) (fun _ h=>fpm h)
 rw [decide_eq_decide.2 (Ztt xs ys)]at h;exact h
theorem Zfv(x y x2 y2:Int)(hx:bl x.natAbs≤65536)(hy:bl y.natAbs≤65536)(hx2:bl x2.natAbs≤65536)(hy2:bl y2.natAbs≤65536)(hp:0<y)(hp2:0<y2):Oo prog 240 #[rX x y,rX x2 y2] [] (.bool true):=by
 refine Zd func240 ntmps240 fun w0 sc hw hsc=>go 2 ?_
 refine Yd (Yg 1) fun b _=>Yd (Yg 2) fun b_2 _=>go 6 ?_
 refine cl 2 [] (Mn _ _ ‹_› ‹_› ‹_›) fun _ _=>go 2 ?_
 refine Fl 2 [] (Mn _ _ ‹_› ‹_› ‹_›) fun _ _=>go 5 ?_
 exact Xj hsc () results240 J trivial Za
theorem Zd7(x y x2 y2:Int)(hx:bl x.natAbs≤65536)(hy:bl y.natAbs≤65536)(hx2:bl x2.natAbs≤65536)(hy2:bl y2.natAbs≤65536):Cal prog 241 #[rX x y,rX x2 y2] [] true (G:=Bool×Value×Bool×Value×Bool×Value) (fun r=>sg r.1 (x*y2)∧sg r.2.2.1 (x2*y)∧sg r.2.2.2.2.1 (y*y2)) (fun r=> .tuple #[.agg #[.bool r.1,r.2.1],.agg #[.bool r.2.2.1,r.2.2.2.1],.agg #[.bool r.2.2.2.2.1,r.2.2.2.2.2]]) (fun r=>[Fj r.2.1 (x*y2).natAbs,Fj r.2.2.2.1 (x2*y).natAbs,Fj r.2.2.2.2.2 (y*y2).natAbs]):=by
 refine Zd func241 ntmps241 fun w0 sc hw hsc=>?_
 have b1:=Yv x y2
 have b2:=Yv x2 y
 have b3:=Yv y y2
 have b4:=Yv x x2
 refine go 2 ?_
 refine Yd (Yg 1) fun b _=>Yd (Yg 2) fun b_2 _=>Yd (Zs 3) fun b_3 _=>Yd (Zs 4) fun b_4 _=>Yd (Zs 5) fun b_5 _=>go 3 ?_
 refine Mq [1,2] [23]<|Zm (n:=0) [(0,0),(1,0),(3,0),(4,0),(7,0),(8,0),(10,0),(11,0),(14,0),(15,0),(17,0),(18,0),(2,1),(5,1),(6,1),(9,1),(12,1),(13,1),(16,1),(19,1),(20,1),(21,1),(22,1),(23,3)]<|go 12 ?_
 refine Yx (Zh 6 [] (Xu _ _ (Yz _))) fun g hg=>Yx (Zh 7 [] (Xu _ _ (Yz _))) fun g_2 hg_2=>Yx (Zh 8 [6,7] (Zck _ _ _ _ _ _ ‹_› ‹_›)) fun g_3 hg_3=>Yx (Zh 9 [] (Xu _ _ (Yz _))) fun g_4 hg_4=>Yx (Zh 10 [] (Xu _ _ (Yz _))) fun g_5 hg_5=>Yx (Zh 11 [9,10] (Zck _ _ _ _ _ _ ‹_› ‹_›)) fun g_6 hg_6=>Yx (Zh 12 [] (Xu _ _ (Yz _))) fun g_7 hg_7=>Yx (Zh 13 [] (Xu _ _ (Yz _))) fun g_8 hg_8=>Yx (Zh 14 [12,13] (Zck _ _ _ _ _ _ ‹_› ‹_›)) fun g_9 hg_9=>go 4 ?_
 refine Zy<|go 2 ?_
 exact xe3 hsc (_,_,_,_,_,_) results241 J ⟨by assumption,by assumption,by assumption⟩ (Mm 8 (Mm 11 (Mm 14 Za)))
theorem Zd8(x y x2 y2:Int)(hx:bl x.natAbs≤65536)(hy:bl y.natAbs≤65536)(hx2:bl x2.natAbs≤65536)(hy2:bl y2.natAbs≤65536)(hp:0<y)(hp2:0<y2):Oo prog 223 #[rX x y,rX x2 y2] [] (.tuple #[.int .i64 (x*y2-x2*y).sign,.int .i64 0]):=by
 refine Zd func223 ntmps223 fun w0 sc hw hsc=>?_
 have b1:=Yv x y2
 have b2:=Yv x2 y
 have b3:=Yv y y2
 have b4:=Yv x x2
 have b5:=Zpi (x2*y)
 have b6:=Hy (x*y2) (-(x2*y))
 refine go 2 ?_
 refine Yd (Yg 1) fun b _=>Yd (Yg 2) fun b_2 _=>go 9 ?_
 refine cl 2 [] (Zfv _ _ _ _ ‹_› ‹_› ‹_› ‹_› ‹_› ‹_›) fun _ _=>go 10 ?_
 refine cl 3 [] (Zd7 _ _ _ _ ‹_› ‹_› ‹_› ‹_›) fun g hg=>?_
 obtain⟨hc1,hc2,hc3⟩:=hg
 refine go 4 ?_
 refine Yd (Zs 6) fun b_3 _=>Yd (Zs 7) fun b_4 _=>Yd (Zs 8) fun b_5 _=>go 6 ?_
 refine Xw (fun _=>False) [(0,0),(1,0),(2,1),(3,1),(4,1),(5,3),(6,3)]<|go 2 ?_
 refine Yx (Zh 9 [4] (Zn3 _ _ _ ‹_›)) fun g_2 hg_2=>Yx (Zh 10 [3,9] (Ze1 _ _ _ _ _ _ ‹_› ‹_›)) fun g_3 hg_3=>Yx (Zh 10 [10] (Zjn _ _ _ ‹_›)) fun _ _=>go 5 ?_
 exact Nz hsc () results223 (by rw [Int.sub_eq_add_neg]<;>rfl) trivial Za
theorem Zk6(x y x2 y2:Int)(hx:bl x.natAbs≤65536)(hy:bl y.natAbs≤65536)(hx2:bl x2.natAbs≤65536)(hy2:bl y2.natAbs≤65536)(hp:0<y)(hp2:0<y2):Oo prog 231 #[rX x y,rX x2 y2] [] (Zab (x*y2+x2*y) (y*y2)):=by
 refine Zd func231 ntmps231 fun w0 sc hw hsc=>?_
 have b1:=Yv x y2
 have b2:=Yv x2 y
 have b3:=Yv y y2
 have b4:=Yv x x2
 have b6:=Hy (x*y2) (x2*y)
 refine go 2 ?_
 refine Yd (Yg 1) fun b _=>Yd (Yg 2) fun b_2 _=>Yd (Zs 3) fun b_3 _=>go 8 ?_
 refine cl 3 [] (Zfv _ _ _ _ ‹_› ‹_› ‹_› ‹_› ‹_› ‹_›) fun _ _=>go 10 ?_
 refine cl 4 [] (Zd7 _ _ _ _ ‹_› ‹_› ‹_› ‹_›) fun g hg=>?_
 obtain⟨hc1,hc2,hc3⟩:=hg
 refine go 4 ?_
 refine Yd (Zs 7) fun b_4 _=>Yd (Zs 8) fun b_5 _=>Yd (Zs 9) fun b_6 _=>go 6 ?_
 refine Xw (fun _=>False) [(0,0),(1,0),(3,0),(2,1),(4,1),(5,0),(6,0),(7,3),(8,3)]<|go 3 ?_
 refine Yx (Zh 10 [4,5] (Ze1 _ _ _ _ _ _ ‹_› ‹_›)) fun g_2 hg_2=>Yx (Zh 10 [10,6] (Za4 _ _ _ _ _ _ ‹_› ‹_› (Int.mul_ne_zero O O))) fun _ _=>go 7 ?_
 exact Nz hsc () results231 J trivial Za
theorem Fy(x y x2 y2:Int)(hx:bl x.natAbs≤65536)(hy:bl y.natAbs≤65536)(hx2:bl x2.natAbs≤65536)(hy2:bl y2.natAbs≤65536)(hp:0<y)(hp2:0<y2:=by decide):Oo prog 232 #[rX x y,rX x2 y2] [] (Zab (x*x2) (y*y2)):=by
 refine Zd func232 ntmps232 fun w0 sc hw hsc=>?_
 have b1:=Yv x y2
 have b2:=Yv x2 y
 have b3:=Yv y y2
 have b4:=Yv x x2
 refine go 2 ?_
 refine Yd (Yg 1) fun b _=>Yd (Yg 2) fun b_2 _=>Yd (Zs 3) fun b_3 _=>go 8 ?_
 refine cl 3 [] (Zfv _ _ _ _ ‹_› ‹_› ‹_› ‹_› ‹_› ‹_›) fun _ _=>go 7 ?_
 refine Xw (fun _=>False) [(0,0),(1,0),(3,0),(4,0),(7,0),(8,0),(10,0),(11,0),(2,1),(5,1),(6,1),(9,1),(12,1),(13,1),(14,1),(15,0),(16,0),(17,3),(18,3)]<|go 8 ?_
 refine Yx (Zh 4 [] (Xu _ _ (Yz _))) fun g hg=>Yx (Zh 5 [] (Xu _ _ (Yz _))) fun g_2 hg_2=>Yx (Zh 6 [4,5] (Zck _ _ _ _ _ _ ‹_› ‹_›)) fun g_3 hg_3=>Yx (Zh 7 [] (Xu _ _ (Yz _))) fun g_4 hg_4=>Yx (Zh 8 [] (Xu _ _ (Yz _))) fun g_5 hg_5=>Yx (Zh 9 [7,8] (Zck _ _ _ _ _ _ ‹_› ‹_›)) fun g_6 hg_6=>Yx (Zh 9 [6,9] (Za4 _ _ _ _ _ _ ‹_› ‹_› (Int.mul_ne_zero O O))) fun _ _=>go 7 ?_
 exact Nz hsc () results232 J trivial Za
theorem Zd9(x y:Int)(hx:bl x.natAbs≤65536)(hy:bl y.natAbs≤65536):Oo prog 117 #[wv x,wv y] [] (.int .i64 (x-y).sign):=by
 refine Zd func117 ntmps117 fun w0 sc hw hsc=>?_
 have b5:=Zpi y
 have b6:=Hy x (-y)
 refine go 2 ?_
 refine Yd (Yg 1) fun b _=>Yd (Yg 2) fun b_2 _=>go 8 ?_
 refine cl 2 [] (Ka _ _ ‹_› ‹_›) fun _ _=>go 7 ?_
 refine Xw (fun _=>False) [(0,0),(2,0),(1,1),(3,1),(4,1),(5,1),(6,1),(7,3)]<|go 2 ?_
 refine Yx (Zh 3 [] (Xu _ _ (Yz _))) fun g hg=>Yx (Zh 4 [] (Xu _ _ (Yz _))) fun g_2 hg_2=>Yx (Zh 5 [4] (Zn3 _ _ _ ‹_›)) fun g_3 hg_3=>Yx (Zh 6 [3,5] (Ze1 _ _ _ _ _ _ ‹_› ‹_›)) fun g_4 hg_4=>Yx (Zh 6 [6] (Zjn _ _ _ ‹_›)) fun _ _=>go 4 ?_
 exact Xj hsc () results117 (by rw [Int.sub_eq_add_neg]<;>rfl) trivial Za
theorem Ybm(x y:Int)(hx:bl x.natAbs≤30000)(hy:bl y.natAbs≤30000):Cal Tryz.prog 116 #[wv x,wv y] [] false (G:=Unit) (fun _=>True) (fun _=>wv (x+y)) (fun _=>[]):=by
 refine Zd Tryz.func116 Tryz.ntmps116 fun w0 sc hw hsc=>?_
 have hb:=Hy x y
 refine go 2 ?_
 refine Yd (Yg 1) fun bx _=>?_
 refine Yd (Yg 2) fun bx_2 _=>?_
 refine Yd (Zs 3) fun bx_3 _=>?_
 refine go 6 ?_
 refine cl 3 [] (Ek _ _ O O) fun _ _=>?_
 refine go 3 ?_
 refine Yd (Zs 4) fun bx_4 _=>?_
 refine go 11 ?_
 exact Xj hsc () Tryz.results116 (by rw [Mr O]) trivial Za
theorem Cd(x y:Int)(hx:bl x.natAbs≤30000)(hy:bl y.natAbs≤30000):Cal Tryz.prog 115 #[wv x,wv y] [] false (G:=Unit) (fun _=>True) (fun _=>wv (x*y)) (fun _=>[]):=by
 refine Zd Tryz.func115 Tryz.ntmps115 fun w0 sc hw hsc=>?_
 have hb:=Yv x y
 refine go 2 ?_
 refine Yd (Yg 1) fun bx _=>?_
 refine Yd (Yg 2) fun bx_2 _=>?_
 refine Yd (Zs 3) fun bx_3 _=>?_
 refine go 6 ?_
 refine cl 3 [] (Zd6 _ _ O O) fun _ _=>?_
 refine go 3 ?_
 refine Yd (Zs 4) fun bx_4 _=>?_
 refine go 11 ?_
 exact Xj hsc () Tryz.results115 (by rw [Mr O]) trivial Za
theorem Zna(x y:Int)(hx:bl x.natAbs≤30000)(hy:bl y.natAbs≤30000):Cal Tryz.prog 74 #[wv x,wv y] [] false (G:=Unit) (fun _=>True) (fun _=>wv ((Int.gcd x y:Int))) (fun _=>[]):=by
 refine Zd Tryz.func74 Tryz.ntmps74 fun w0 sc hw hsc=>?_
 have hb:=Zif x y
 refine go 2 ?_
 refine Yd (Yg 1) fun bx _=>?_
 refine Yd (Yg 2) fun bx_2 _=>?_
 refine Yd (Zs 3) fun bx_3 _=>?_
 refine go 6 ?_
 refine cl 3 [] (Zpu _ _ O O) fun _ _=>?_
 refine go 3 ?_
 refine Yd (Zs 4) fun bx_4 _=>?_
 refine go 11 ?_
 exact Xj hsc () Tryz.results74 (by rw [Mr O]) trivial Za
theorem Zf7(x y:Int)(hx:bl x.natAbs≤30000)(hy:bl y.natAbs≤30000)(hy0:y≠0):Cal Tryz.prog 173 #[wv x,wv y] [] false (G:=Unit) (fun _=>True) (fun _=>wv (x/y)) (fun _=>[]):=by
 refine Zd Tryz.func173 Tryz.ntmps173 fun w0 sc hw hsc=>?_
 have hb:=Zig x y
 refine go 2 ?_
 refine Yd (Yg 1) fun bx _=>?_
 refine Yd (Yg 2) fun bx_2 _=>?_
 refine Yd (Zs 3) fun bx_3 _=>?_
 refine go 6 ?_
 refine cl 3 [] (Dx _ _ O O hy0) fun _ _=>?_
 refine go 4 ?_
 refine Yd (Zs 4) fun bx_4 _=>?_
 refine Yd (Zs 5) fun bx_5 _=>?_
 refine go 12 ?_
 exact Xj hsc () Tryz.results173 (by rw [Mr O]) trivial Za
theorem Ybj(n:Int)(k:Nat)(hn:bl n.natAbs≤60)(hk:k≤10):Cal Tryz.prog 150 #[.int .i64 n,.int .i64 (k:Int)] [] false (G:=Unit) (fun _=>True) (fun _=>wv (n^k)) (fun _=>[]):=by
 refine Zd Tryz.func150 Tryz.ntmps150 fun w0 sc hw hsc=>?_
 have hb:∀i,i≤10→bl (n^i).natAbs≤1000:=fun i hi=>bl_pw (Nat.le_trans hn O3) hi
 refine go 2 ?_
 refine Yd (Zs 1) fun bx _=>?_
 refine go 4 ?_
 refine cl 1 [] (Zp 1 ⟨O3,O3⟩) fun _ _=>?_
 refine Yd (Zs 2) fun bx_2 _=>?_
 refine go 11 ?_
 refine lp (G:=Nat) [0,4,5,7] [0,1] (fun i=>[(8,.int .i64 (i:Int))]) (fun i=>[(2,box bx_2 93 (wc (n^i)))]) (fun i=>i≤k) (fun i=>k-i) 0 O1 ⟨rfl,trivial⟩ ⟨by rw [Int.pow_zero];rfl,trivial⟩ ?_
 rintro i hi
 refine go 6 ?_
 refine Zc rfl (fun h43=>?_) (fun h43=>?_)
 ·refine go 4 ?_
  refine Xw (fun _=>False) [(0,0),(1,0),(2,1),(3,1),(4,3)] ?_
  refine go 2 ?_
  refine Yx (Zh 2 [] (Zp _ (in_bl O))) fun _ _=>?_
  refine Yx (Zh 2 [] (Cd (n^i) n (Nat.le_trans (hb i O) O) O)) fun _ _=>?_
  refine go 8 ⟨O,?_⟩
  exact Xb (i+1) O1 O1 ⟨rfl,trivial⟩ ⟨by rw [Int.pow_succ];rfl,trivial⟩
 ·obtain rfl:i=k:=O
  refine go 12 ?_
  exact Xj hsc () Tryz.results150 rfl trivial Za
theorem Pv(v:Value)(l:List Int)(hl:∀x∈l,Qx x)(hlen:l.length≤10):Cal Tryz.prog 121 #[v] [Ym 1 Yl v l] false (G:=Unit) (fun _=>True) (fun _=>wv (Xn l)) (fun _=>[]):=by
 refine Zd Tryz.func121 Tryz.ntmps121 fun w0 sc hw hsc=>?_
 have hb:∀i,bl (Xn (l.take i)).natAbs≤1000:=fun i=>Yf2 hl hlen i
 refine go 2 ?_
 refine Yd (Zs 2) fun bx _=>?_
 refine go 4 ?_
 refine cl 2 [] (Zp 1 ⟨O3,O3⟩) fun _ _=>?_
 refine Yd (Zs 3) fun bx_2 _=>?_
 refine go 12 ?_
 refine lp (G:=Nat) [2,3,7,8] [0,1,2] (fun i=>[(9,.int .i64 (i:Int))]) (fun i=>[(3,box bx_2 93 (wc (Xn (l.take i))))]) (fun i=>i≤l.length) (fun i=>l.length-i) 0 O1 ⟨rfl,trivial⟩ ⟨rfl,trivial⟩ ?_
 rintro i hi
 refine go 6 ?_
 refine Zc rfl (fun h29=>?_) (fun h29=>?_)
 ·refine go 11 ⟨O2,O2,?_⟩
  refine Mq [] [] ?_
  refine Zm (n:=7) [(1,0)] ?_
  refine go 2 ?_
  refine Qq (n:=6) 0 2 ?_ ?_
  ·refine Hd rfl (Zav (Zr4 (i:=3) rfl rfl rfl Tryz.isAgg93 Tryz.sizeOf93 rfl rfl) rfl) (fun _ _=>?_)
   refine Zm (n:=0) [(2,1),(3,1),(4,0),(5,0),(6,0),(7,1)] ?_
   refine Yx (Zh 3 [] (Zp (l.getD i 0) (hl _ (Zf)))) fun _ _=>?_
   refine Yx (Zh 3 [] (Zd6 (Xn (l.take i)) (l.getD i 0) (Nat.le_trans (hb i) O) (Nat.le_trans (Lu (hl _ (Zf))) O))) fun _ _=>?_
   refine go 3 ?_
   refine Fm rfl (Zgu (i:=3) rfl rfl rfl rfl rfl rfl Tryz.sizeOf93 rfl rfl ⟨Zn rfl,Zn rfl,trivial⟩ rfl hw.h (fun _ h=>nomatch h)) (fun _ _=>?_)
   refine go 1 ?_
   refine Zy ?_
   refine go 6 ⟨O,?_⟩
   exact Xb (i+1) O1 O1 ⟨rfl,trivial⟩ ⟨by rw [Zae O,Mr (by rw [←Zae O];exact Nat.le_trans (hb _) O)];rfl,trivial⟩
  ·refine Ny (Zh 3 [] (Zp (l.getD i 0) (hl _ (Zf)))) fun _ _=>?_
   refine Zm (n:=0) [(0,1),(3,1),(4,0),(5,0),(6,0),(7,1)] ?_
   refine go 1 ?_
   refine Yx (Zh 3 [] (Zd6 (Xn (l.take i)) (l.getD i 0) (Nat.le_trans (hb i) O) (Nat.le_trans (Lu (hl _ (Zf))) O))) fun _ _=>?_
   refine go 3 ?_
   refine Fm rfl (Zgu (i:=3) rfl rfl rfl rfl rfl rfl Tryz.sizeOf93 rfl rfl ⟨Zn rfl,Zn rfl,trivial⟩ rfl hw.h (fun _ h=>nomatch h)) (fun _ _=>?_)
   refine go 1 ?_
   refine Zy ?_
   refine go 6 ⟨O,?_⟩
   exact Xb (i+1) O1 O1 ⟨rfl,trivial⟩ ⟨by rw [Zae O,Mr (by rw [←Zae O];exact Nat.le_trans (hb _) O)];rfl,trivial⟩
 ·obtain rfl:i=l.length:=O
  refine go 12 ?_
  exact Xj hsc () Tryz.results121 (by rw [List.take_length]) trivial Za
theorem Zd5(x y:Int)(hx:Qx x)(hy:Qx y)(hy0:y≠0):Cal Tryz.prog 174 #[.int .i64 x,.int .i64 y] [] false (G:=Unit) (fun _=>True) (fun _=>Zab x y) (fun _=>[]):=by
 refine Zd Tryz.func174 Tryz.ntmps174 fun w0 sc hw hsc=>?_
 have hbx:=Lu hx
 have hby:=Lu hy
 refine go 2 ?_
 refine Yd (Zs 1) fun bx _=>?_
 refine go 6 ?_
 refine cl 1 [] (Zp _ hx) fun _ _=>?_
 refine go 1 ?_
 refine cl 1 [] (Zp _ hy) fun _ _=>?_
 refine cl 1 [] (Dw _ _ O O hy0) fun _ _=>?_
 refine go 7 ?_
 exact Nz hsc () Tryz.results174 rfl trivial Za
theorem Zs4:Cal Tryz.prog 114 #[] [] false (G:=List Int) (fun r=>Tb r 6 0) (fun r=> .agg (Cp r)) (fun r=>[]):=by
 refine Zd Tryz.func114 Tryz.ntmps114 fun w0 sc hw hsc=>?_
 refine go 2 ?_
 refine tt (Fz (i:=1) rfl rfl Tryz.zeroValue174 rfl rfl hw.h) rfl (fun bx _=>?_)
 refine go 4 ?_
 refine tt (Fz (i:=2) rfl rfl Tryz.zeroValue174 rfl rfl hw.h) rfl (fun bx_2 _=>?_)
 refine go 9 ?_
 refine Ze (Mt 2 (q:=box bx_2 174 (Cp (List.replicate 36 0))) (congrArg (box bx_2 174) zc6_eq) rfl rfl) ?_
 refine lp (G:=Nat×List Int) [0,1] [0,1] (fun q=>[(4,.int .i64 (q.1:Int))]) (fun q=>[(2,box bx_2 174 (Cp q.2))]) (fun q=>(q.1≤6)∧(Tb q.2 q.1 0)) (fun q=>6-q.1) (0,List.replicate 36 0) ⟨O1,Tb.start⟩ ⟨rfl,trivial⟩ ⟨rfl,trivial⟩ ?_
 rintro⟨n,l⟩ ⟨hn,hT⟩
 dsimp only at hn hT
 dsimp only
 have hl:=hT.len
 refine go 6 ?_
 refine Zc rfl (fun h52=>?_) (fun h52=>?_)
 ·refine go 13 ?_
  refine dt (Iq (i:=n) rfl rfl rfl Tryz.underlying174 Tryz.sizeOf173) ?_
  refine dt (Iq (i:=0) rfl rfl rfl Tryz.underlying173 Tryz.sizeOf3 rfl) ?_
  refine tt (Zs0 (i:=2) rfl rfl rfl rfl rfl Tryz.sizeOf3 rfl hw.h trivial) rfl (fun _ _=>?_)
  refine go 8 ?_
  refine lp (G:=Nat×List Int) [0,1,2,4] [0,1] (fun q=>[(3,.int .i64 (q.1:Int))]) (fun q=>[(2,box bx_2 174 (Cp q.2))]) (fun q=>(1≤q.1)∧(q.1≤n+1)∧(Tb q.2 n q.1)) (fun q=>n+1-q.1) (1,l.set (0+n*6+0*1) 1) ⟨O1,O1,hT.step O O (by cases n<;>rfl) O⟩ ⟨rfl,trivial⟩ ⟨rfl,trivial⟩ ?_
  rintro⟨k,l2⟩ ⟨hk1,hk2,hT2⟩
  dsimp only at hk1 hk2 hT2
  dsimp only
  have hl2:=hT2.len
  refine go 8 ?_
  refine Zc rfl (fun h54=>?_) (fun h54=>?_)
  ·refine go 4 ?_
   have hv1:=hT2.get (j:=0+(n-1)*6+(k-1)*1) (r:=n-1) (c:=k-1) O O (.inl O) O
   have hv2:=hT2.get (j:=0+(n-1)*6+k*1) (r:=n-1) (c:=k) O O (.inl O) O
   have hb1:=Zo9 (n:=n-1) (k:=k-1) 
   have hb2:=Zo9 (n:=n-1) (k:=k) 
   refine Mq [] [] ?_
   refine Zm (n:=5) [(0,0),(1,0),(2,0),(3,0),(4,0),(5,0),(6,0),(7,0),(9,0),(10,0),(11,0),(12,0),(13,0),(16,0)] ?_
   refine go 6 ⟨O,O,?_⟩
   refine Qe rfl rfl (stf (Iq (i:=(n-1)) rfl rfl rfl Tryz.underlying174 Tryz.sizeOf173) trivial) ?_
   refine Qe rfl rfl (stf (Iq (i:=(k-1)) rfl rfl rfl Tryz.underlying173 Tryz.sizeOf3) trivial) ?_
   refine go 3 ⟨O,?_⟩
   refine Qe rfl rfl (stf (Iq (i:=(n-1)) rfl rfl rfl Tryz.underlying174 Tryz.sizeOf173) trivial) ?_
   refine Qe rfl rfl (stf (Iq (i:=k) rfl rfl rfl Tryz.underlying173 Tryz.sizeOf3) trivial) ?_
   refine Qe rfl rfl (stf (Iq (i:=n) rfl rfl rfl Tryz.underlying174 Tryz.sizeOf173) trivial) ?_
   refine go 1 ?_
   refine Qq (n:=4) 8 14 ?_ ?_
   ·refine Hd rfl (Zav (Zz8 (i:=2) rfl rfl rfl Tryz.isAgg3) rfl) (fun _ _=>?_)
    refine Zm (n:=0) [(14,1),(15,0),(17,0),(18,1)] ?_
    refine Fm rfl (Zav (Zz8 (i:=2) rfl rfl rfl Tryz.isAgg3) rfl) (fun _ _=>?_)
    refine go 1 ⟨by rw [hv1,hv2];exact⟨O,O⟩,?_⟩
    refine Qe rfl rfl (stf (Iq (i:=k) rfl rfl rfl Tryz.underlying173 Tryz.sizeOf3) trivial) ?_
    refine Fm rfl (Zs0 (i:=2) rfl rfl rfl rfl rfl Tryz.sizeOf3 rfl hw.h (fun _ h=>nomatch h)) (fun _ _=>?_)
    refine go 1 ?_
    refine Zy ?_
    refine go 7 ⟨O,?_⟩
    exact Xb (k+1,_) ⟨O1,O1,hT2.step O O (by rw [hv1,hv2,Zxw (n:=n) (k:=k)];push_cast;rfl) O⟩ O1 ⟨rfl,trivial⟩ ⟨rfl,trivial⟩
   ·refine Hd rfl (Zav (Zz8 (i:=2) rfl rfl rfl Tryz.isAgg3) rfl) (fun _ _=>?_)
    refine Zm (n:=0) [(8,1),(15,0),(17,0),(18,1)] ?_
    refine Fm rfl (Zav (Zz8 (i:=2) rfl rfl rfl Tryz.isAgg3) rfl) (fun _ _=>?_)
    refine go 1 ⟨by rw [hv1,hv2];exact⟨O,O⟩,?_⟩
    refine Qe rfl rfl (stf (Iq (i:=k) rfl rfl rfl Tryz.underlying173 Tryz.sizeOf3) trivial) ?_
    refine Fm rfl (Zs0 (i:=2) rfl rfl rfl rfl rfl Tryz.sizeOf3 rfl hw.h (fun _ h=>nomatch h)) (fun _ _=>?_)
    refine go 1 ?_
    refine Zy ?_
    refine go 7 ⟨O,?_⟩
    exact Xb (k+1,_) ⟨O1,O1,hT2.step O O (by rw [hv1,hv2,Zxw (n:=n) (k:=k)];push_cast;rfl) O⟩ O1 ⟨rfl,trivial⟩ ⟨rfl,trivial⟩
  ·refine go 10 ⟨O,?_⟩
   exact Xb (n+1,l2) ⟨O1,hT2.row O⟩ O1 ⟨rfl,trivial⟩ ⟨rfl,trivial⟩
 ·obtain rfl:n=6:=O
  let r0:=l
  refine go 7 ?_
  refine dt (d_lwa (i:=2) rfl rfl rfl Tryz.isAgg174 Tryz.sizeOf174 hl) ?_
  refine tt (Ya2 (i:=1) rfl rfl rfl rfl rfl Tryz.sizeOf174 hl Zpq rfl hw.h trivial) rfl (fun _ _=>?_)
  refine go 3 ?_
  exact Zli (.inl rfl) hsc l _ (fun a w hs=>Zep hs Tryz.results114 (Kb (i:=1) (vs:=r0.map (Value.int .i64)) rfl rfl Tryz.isAgg174 Tryz.sizeOf174 (by simpa using hl))) rfl hT rfl Za
theorem Ziu(v:Value)(c:List Int)(over:Int)(hc:∀x∈c,Qx x)(hl1:1≤c.length)(hl:c.length≤6)(ho:1≤over)(ho2:over≤4294967296):Cal Tryz.prog 73 #[v,.int .i64 over] [Ym 1 Yl v c] false (G:=Unit) (fun _=>True) (fun _=> .bool (Zkx c over)) (fun _=>[]):=by
 refine Zd Tryz.func73 Tryz.ntmps73 fun w0 sc hw hsc=>?_
 have hbo:bl (62914560*over).natAbs≤90:=(Xo 90 _).2 O
 have hbo2:bl over.natAbs≤40:=(Xo 40 _).2 O
 refine go 7 ?_
 refine cl 1 [] (Zs4) fun g hg=>?_
 refine tt (Fz (i:=2) rfl rfl Tryz.zeroValue174 rfl rfl hw.h) rfl (fun bx _=>?_)
 refine tt (Ya2 (i:=2) rfl rfl rfl rfl rfl Tryz.sizeOf174 hg.len Zpq rfl hw.h trivial) rfl (fun _ _=>?_)
 refine Qn (Mt 2 (q:=box bx 174 (Cp g)) rfl rfl rfl) ?_
 refine go 4 ?_
 refine cl 2 [] (Zp 62914560 ⟨O3,O3⟩) fun _ _=>?_
 refine go 1 ?_
 refine cl 2 [] (Zp over) fun _ _=>?_
 refine cl 2 [] (Cd 62914560 over O3 O) fun _ _=>?_
 refine Yd (Zs 3) fun bx_2 _=>?_
 refine go 20 ⟨O,?_⟩
 refine lp (G:=Nat) [0,5,6,7,20] [0,1,2,3] (fun j=>[(21,.int .i64 (j:Int))]) (fun j=>[]) (fun j=>(j≤c.length)∧(∀i,i<j→((ctl c i (i+1)).natAbs:Int)≤62914560*over)) (fun j=>c.length-j) 0 ⟨O1,fun i hi=>absurd hi (Nat.not_lt_zero i)⟩ ⟨rfl,trivial⟩ trivial ?_
 rintro j ⟨hj,hz⟩
 refine go 6 ?_
 refine Zc rfl (fun h69=>?_) (fun h69=>?_)
 ·refine go 12 ?_
  refine Yd (Zs 4) fun bx_3 _=>?_
  refine go 11 ⟨O,?_⟩
  refine lp (G:=Nat) [0,5,6,7,8,9,20,21,25] [0,1,2,3] (fun k=>[(26,.int .i64 (k:Int))]) (fun k=>[(4,box bx_3 93 (wc (ctl c j k)))]) (fun k=>k≤j+1) (fun k=>j+1-k) 0 O1 ⟨rfl,trivial⟩ ⟨rfl,trivial⟩ ?_
  rintro k hk
  refine go 6 ?_
  refine Zc rfl (fun h71=>?_) (fun h71=>?_)
  ·refine go 10 ?_
   have hw6:=Zsu (n:=(c.length-1)) (j:=j) (k:=k) O
   refine Xw (fun _=>False) [(0,0),(1,0),(2,0),(3,0),(4,0),(6,0),(7,0),(8,0),(9,0),(10,0),(11,0),(12,0),(13,0),(14,0),(15,0),(16,0),(17,0),(5,1),(18,1),(19,1),(20,1),(21,3)] ?_
   refine go 3 ?_
   refine Qe rfl rfl (Qa (Yf (ii:=1) (i:=k) rfl rfl rfl rfl Zo Tryz.underlying22 Tryz.sizeOf3 rfl)) ?_
   refine go 3 ⟨O,?_⟩
   refine Qe rfl rfl (Qa (Iq (i:=(c.length-1)) rfl rfl rfl Tryz.underlying174 Tryz.sizeOf173)) ?_
   refine Qe rfl rfl (Qa (Iq (i:=k) rfl rfl rfl Tryz.underlying173 Tryz.sizeOf3)) ?_
   refine Qe rfl rfl (Qa (Zj (r':= .int .i64 (On (c.length-1) k:Int)) (Zz8 (i:=2) rfl rfl rfl Tryz.isAgg3 (by have:=hg.len;omega)) (congrArg (Value.int .i64) (hg.get O O (.inl O) O)))) ?_
   refine Qe rfl rfl (Qa (Zda rfl rfl rfl O3 O3 (by have:=Zia (n:=(c.length-1)) (k:=k) O;omega))) ?_
   refine go 2 ?_
   refine Qe rfl rfl (Qa (Iq (i:=j) rfl rfl rfl Tryz.underlying174 Tryz.sizeOf173)) ?_
   refine Qe rfl rfl (Qa (Iq (i:=k) rfl rfl rfl Tryz.underlying173 Tryz.sizeOf3)) ?_
   refine Qe rfl rfl (Qa (Zj (r':= .int .i64 (On j k:Int)) (Zz8 (i:=2) rfl rfl rfl Tryz.isAgg3 (by have:=hg.len;omega)) (congrArg (Value.int .i64) (hg.get O O (.inl O) O)))) ?_
   refine go 1 ⟨show Qx (w60 (c.length-1) j k)from⟨O,O⟩,?_⟩
   refine Yx (Zh 4 [] (Zp (c.getD k 0) (Qv hc k))) fun _ _=>?_
   refine Yx (Zh 4 [] (Zp (w60 (c.length-1) j k))) fun _ _=>?_
   refine Yx (Zh 4 [] (Cd (c.getD k 0) (w60 (c.length-1) j k) (Nat.le_trans (Lu (Qv hc k)) O3) (Nat.le_trans (Zky O) O3))) fun _ _=>?_
   refine Yx (Zh 4 [] (Ybm (ctl c j k) (c.getD k 0*(w60 (c.length-1) j k)) (Nat.le_trans (Zb4 hc O O) O3) (Nat.le_trans (Yv _ _) (by have h1:=Lu (Qv hc k);have h2:=Zky (n:=(c.length-1)) (j:=j) (k:=k) O;omega)))) fun _ _=>?_
   refine go 8 ⟨O,?_⟩
   exact Xb (k+1) O1 O1 ⟨rfl,trivial⟩ ⟨by rw [Yfs];rfl,trivial⟩
  ·obtain rfl:k=j+1:=O
   refine go 9 ?_
   refine Qn (Mt 4 (q:=box bx_3 93 (wc ((ctl c j (j+1)).natAbs:Int))) (congrArg (box bx_3 93) (wc_abs _)) rfl rfl) ?_
   refine go 6 ?_
   refine cl 4 [] (Zd9 ((ctl c j (j+1)).natAbs:Int) (62914560*over) (by rw [Int.natAbs_natCast];exact Nat.le_trans (Zb4 hc O O) O3) O) fun _ _=>?_
   refine go 3 ?_
   refine Zc rfl (fun h74=>?_) (fun h74=>?_)
   ·have hgt:=(sgp _).1 h74
    refine go 11 ?_
    exact Xj hsc () Tryz.results73 (by rw [Zux (j:=j) O O]) trivial Za
   ·have hle:((ctl c j (j+1)).natAbs:Int)≤62914560*over:=Int.not_lt.1 fun h9=>h74 ((sgp _).2 O)
    refine go 7 ⟨O,?_⟩
    exact Xb (j+1) ⟨O1,fun i hi=>by rcases Nat.lt_succ_iff_lt_or_eq.1 hi with h9 | h9;exact hz i h9;subst h9;exact hle⟩ O1 ⟨rfl,trivial⟩ trivial
 ·refine go 11 ?_
  exact Xj hsc () Tryz.results73 (by rw [Zuw fun i hi=>hz i O]) trivial Za
theorem _root_.Go.Proofs.Tryz.ti124:Tryz.prog.info? 124=some Tryz.t124:=O6
theorem Zsl{v0 v1 v2:Value}(h0:v0.oneCell'=true)(h1:v1.oneCell'=true)(h2:v2.oneCell'=true):Tryz.prog.built 124 [(0,v0),(1,v1),(2,v2)]=some #[v0,v1,v2]:=by
 refine Zmy _ Tryz.ti124 Tryz.underlying124 rfl Tryz.ti22 ?_
 rw [show Tryz.t22.size=1 from rfl]
 rw [show(Value.agg #[.slice none 0 0,.slice none 0 0,.slice none 0 0]).cells=#[.slice none 0 0,.slice none 0 0,.slice none 0 0]from rfl]
 simp [Instr.fill,Ya h0,Ya h1,Ya h2]
theorem _root_.Go.Proofs.Tryz.ti250:Tryz.prog.info? 250=some Tryz.t250:=O6
theorem _root_.Go.Proofs.Tryz.ti249:Tryz.prog.info? 249=some Tryz.t249:=O6
theorem Ygc{v0 v1 v2:Value}(h0:v0.oneCell'=true)(h1:v1.oneCell'=true)(h2:v2.oneCell'=true):Tryz.prog.built 250 [(0,v0),(1,v1),(2,v2)]=some #[v0,v1,v2]:=by
 refine Zmy _ Tryz.ti250 Tryz.underlying250 rfl Tryz.ti249 ?_
 rw [show Tryz.t249.size=1 from rfl]
 rw [show(Value.agg #[.pointer none,.pointer none,.pointer none]).cells=#[.pointer none,.pointer none,.pointer none]from rfl]
 simp [Instr.fill,Ya h0,Ya h1,Ya h2]
theorem Znb(fr to ov:Int)(vx vy vz:Value)(x y z:List Int):Cal Tryz.prog 72 #[.agg #[.int .i64 fr,.int .i64 to,.int .i64 ov,vx,vy,vz]] [Ym 1 Yl vx x,Ym 1 Yl vy y,Ym 1 Yl vz z] false (G:=Unit) (fun _=>True) (fun _=> .agg #[vx,vy,vz]) (fun _=>[]):=by
 refine Zd Tryz.func72 Tryz.ntmps72 fun w0 sc hw hsc=>?_
 refine go 2 ?_
 refine Yd (Yg 4) fun bx _=>?_
 refine Yd (Zs 5) fun bx_2 _=>?_
 refine go 10 ?_
 refine dt (Xl (ivs:=[(0,_),(1,_),(2,_)]) rfl ⟨rfl,rfl,rfl,rfl,rfl,rfl,trivial⟩ (fun a w hs=>Zsl ((Pt (i:=1) rfl Zo) a w hs) ((Pt (i:=2) rfl Zo) a w hs) ((Pt (i:=3) rfl Zo) a w hs))) ?_
 refine go 4 ?_
 exact Xj hsc () Tryz.results72 rfl trivial Za
theorem Bp(fr to ov:Int)(vx vy vz:Value)(x y z:List Int)(hfr:Qx fr)(hto:Qx to)(hov:Qx ov)(hx:∀a∈x,Qx a)(hy:∀a∈y,Qx a)(hz:∀a∈z,Qx a):Cal Tryz.prog 36 #[.agg #[.int .i64 fr,.int .i64 to,.int .i64 ov,vx,vy,vz]] [Ym 1 Yl vx x,Ym 1 Yl vy y,Ym 1 Yl vz z] false (G:=Unit) (fun _=>True) (fun _=> .bool (El fr to ov x y z)) (fun _=>[]):=by
 refine Zd Tryz.func36 Tryz.ntmps36 fun w0 sc hw hsc=>?_
 have hbo:=Lu hov
 have hfc:=fun i k=>bl_fc hx hy hz hbo i k
 have hfc0:=fun i=>hfc i 0
 simp only [List.take_zero,Nk]at hfc0
 refine go 2 ?_
 refine Yd (Yg 4) fun bx _=>?_
 refine go 10 ?_
 refine Yu (d:=11) rfl (fun s83=>?_) (fun s83=>?_)
 ·refine go 31 ?_
  exact Xj hsc () Tryz.results36 (by rw [Bj O]) trivial Za
 ·refine go 7 ?_
  refine Yu (d:=18) rfl (fun s83_2=>?_) (fun s83_2=>?_)
  ·refine go 24 ?_
   exact Xj hsc () Tryz.results36 (by rw [Bj O]) trivial Za
  ·refine go 5 ?_
   refine Yu (d:=23) rfl (fun s83_3=>?_) (fun s83_3=>?_)
   ·refine go 19 ?_
    exact Xj hsc () Tryz.results36 (by rw [Bj O]) trivial Za
   ·refine go 5 ?_
    refine Yu (d:=28) rfl (fun s83_4=>?_) (fun s83_4=>?_)
    ·refine go 14 ?_
     exact Xj hsc () Tryz.results36 (by rw [Bj O]) trivial Za
    ·refine go 6 ?_
     refine Zc rfl (fun h83=>?_) (fun h83=>?_)
     ·refine go 7 ?_
      exact Xj hsc () Tryz.results36 (by rw [Bj O]) trivial Za
     ·refine go 6 ?_
      refine cl 4 [] (Zp ov hov) fun _ _=>?_
      refine Yd (Zs 5) fun bx_2 _=>?_
      refine go 7 ?_
      refine cl 5 [1,2,3] (Znb _ _ _ _ _ _ _ _ _) fun _ _=>?_
      refine go 4 ?_
      refine lp (G:=Nat) [1,3,37] [0,1,2,3,4] (fun i=>[(38,.int .i64 (i:Int))]) (fun i=>[(5,box bx_2 93 (wc (Nk ov (Ns i x y z))))]) (fun i=>(i≤3)∧(∀k,k<i→axB (Zr k x y z) ov=true)) (fun i=>3-i) 0 ⟨O1,fun k hk=>absurd hk (Nat.not_lt_zero k)⟩ ⟨rfl,trivial⟩ ⟨rfl,trivial⟩ ?_
      rintro i ⟨hi,hax⟩
      refine go 6 ?_
      refine Zc rfl (fun h87=>?_) (fun h87=>?_)
      ·refine go 5 ?_
       refine Ze (Zdh i 1 2 3 50 rfl rfl rfl rfl rfl rfl) ?_
       refine go 1 ?_
       refine dt (Zkn (i:=i) rfl rfl rfl Tryz.underlying124 Tryz.sizeOf22 Tryz.isAgg22 rfl) ?_
       refine go 10 ?_
       refine Yu (d:=44) rfl (fun s88=>?_) (fun s88=>?_)
       ·refine go 40 ?_
        exact Xj hsc () Tryz.results36 (by rw [Zbd (i:=i) (Zk2 fun h1 h2 h3 h4=>by first | omega | simp_all)]) trivial Za
       ·refine go 5 ?_
        refine Yu (d:=49) rfl (fun s88_2=>?_) (fun s88_2=>?_)
        ·refine go 35 ?_
         exact Xj hsc () Tryz.results36 (by rw [Zbd (i:=i) (Zk2 fun h1 h2 h3 h4=>by first | omega | simp_all)]) trivial Za
        ·refine go 4 ?_
         refine Yu (d:=53) rfl (fun s88_3=>?_) (fun s88_3=>?_)
         ·refine go 4 ⟨O,?_⟩
          refine Ly (Yf (ii:=50) (i:=((Zr i x y z).length-1)) rfl rfl rfl rfl Zo Tryz.underlying22 Tryz.sizeOf3) rfl rfl ?_
          refine go 5 ⟨O,?_⟩
          refine Yu (d:=63) rfl (fun s88_4=>?_) (fun s88_4=>?_)
          ·refine go 21 ?_
           exact Xj hsc () Tryz.results36 (by rw [Zbd (i:=i) (Zk2 fun h1 h2 h3 h4=>by first | omega | simp_all)]) trivial Za
          ·refine go 3 ?_
           refine Fl 5 [50] (Ziu _ (Zr i x y z) ov (Li hx hy hz i) O O O O) fun _ _=>?_
           refine go 4 ?_
           refine Nw rfl (fun h88=>?_) (fun h88=>?_)
           ·refine go 12 ?_
            exact Xj hsc () Tryz.results36 (by rw [Zbd (i:=i) (Zk2 fun h1 h2 h3 h4=>by first | omega | simp_all)]) trivial Za
           ·refine go 10 ?_
            refine lp (G:=Nat) [1,3,37,38,45,46,47,50,51,52,53,54,55,56,57,58,59,60,61,64,65,66,67,68,70,71] [0,1,2,3,4,50] (fun k=>[(72,.int .i64 (k:Int))]) (fun k=>[(5,box bx_2 93 (wc (Nk (Nk ov (Ns i x y z)) ((Zr i x y z).take k))))]) (fun k=>k≤(Zr i x y z).length) (fun k=>(Zr i x y z).length-k) 0 O1 ⟨rfl,trivial⟩ ⟨rfl,trivial⟩ ?_
            rintro k hk
            refine go 6 ?_
            refine Zc rfl (fun h91=>?_) (fun h91=>?_)
            ·refine go 11 ⟨O2,O2,?_⟩
             refine Xw (fun _=>False) [(0,0),(1,0),(2,1),(3,1),(4,3)] ?_
             refine go 2 ?_
             refine Yx (Zh 5 [] (Zp ((Zr i x y z).getD k 0) (Qv (Li hx hy hz i) k))) fun _ _=>?_
             refine Yx (Zh 5 [] (Zna (Nk (Nk ov (Ns i x y z)) ((Zr i x y z).take k)) ((Zr i x y z).getD k 0) (Nat.le_trans (hfc i k) O3) (Nat.le_trans (Lu (Qv (Li hx hy hz i) k)) O3))) fun _ _=>?_
             refine go 8 ⟨O,?_⟩
             exact Xb (k+1) O1 O1 ⟨rfl,trivial⟩ ⟨by rw [Ae _ O];rfl,trivial⟩
            ·obtain rfl:k=(Zr i x y z).length:=O
             rw [List.take_length]
             refine go 10 ⟨O,?_⟩
             exact Xb (i+1) ⟨O1,fun k hk=>by rcases Nat.lt_succ_iff_lt_or_eq.1 hk with h9 | h9;exact hax k h9;subst h9;exact Zyj O O (by first | omega | simp_all) (by simp_all)⟩ O1 ⟨rfl,trivial⟩ ⟨by rw [Es x y z O,Im];rfl,trivial⟩
         ·refine go 13 ?_
          refine Fl 5 [50] (Ziu _ (Zr i x y z) ov (Li hx hy hz i) O O O O) fun _ _=>?_
          refine go 4 ?_
          refine Nw rfl (fun h88_2=>?_) (fun h88_2=>?_)
          ·refine go 12 ?_
           exact Xj hsc () Tryz.results36 (by rw [Zbd (i:=i) (Zk2 fun h1 h2 h3 h4=>by first | omega | simp_all)]) trivial Za
          ·refine go 10 ?_
           refine lp (G:=Nat) [1,3,37,38,45,46,47,50,51,52,53,54,55,56,57,58,59,60,61,64,65,66,67,68,70,71] [0,1,2,3,4,50] (fun k=>[(72,.int .i64 (k:Int))]) (fun k=>[(5,box bx_2 93 (wc (Nk (Nk ov (Ns i x y z)) ((Zr i x y z).take k))))]) (fun k=>k≤(Zr i x y z).length) (fun k=>(Zr i x y z).length-k) 0 O1 ⟨rfl,trivial⟩ ⟨rfl,trivial⟩ ?_
           rintro k hk
           refine go 6 ?_
           refine Zc rfl (fun h91_2=>?_) (fun h91_2=>?_)
           ·refine go 11 ⟨O2,O2,?_⟩
            refine Xw (fun _=>False) [(0,0),(1,0),(2,1),(3,1),(4,3)] ?_
            refine go 2 ?_
            refine Yx (Zh 5 [] (Zp ((Zr i x y z).getD k 0) (Qv (Li hx hy hz i) k))) fun _ _=>?_
            refine Yx (Zh 5 [] (Zna (Nk (Nk ov (Ns i x y z)) ((Zr i x y z).take k)) ((Zr i x y z).getD k 0) (Nat.le_trans (hfc i k) O3) (Nat.le_trans (Lu (Qv (Li hx hy hz i) k)) O3))) fun _ _=>?_
            refine go 8 ⟨O,?_⟩
            exact Xb (k+1) O1 O1 ⟨rfl,trivial⟩ ⟨by rw [Ae _ O];rfl,trivial⟩
           ·obtain rfl:k=(Zr i x y z).length:=O
            rw [List.take_length]
            refine go 10 ⟨O,?_⟩
            exact Xb (i+1) ⟨O1,fun k hk=>by rcases Nat.lt_succ_iff_lt_or_eq.1 hk with h9 | h9;exact hax k h9;subst h9;exact Zyj O O (by first | omega | simp_all) (by simp_all)⟩ O1 ⟨rfl,trivial⟩ ⟨by rw [Es x y z O,Im];rfl,trivial⟩
      ·obtain rfl:i=3:=O
       refine go 6 ?_
       refine Xw (fun _=>False) [(0,0),(1,1),(2,0),(3,3)] ?_
       refine go 1 ?_
       refine Yx (Zh 5 [] (Zp 1 ⟨O3,O3⟩)) fun _ _=>?_
       refine Qe rfl rfl (Qa (Zhf rfl rfl rfl eg93 (fun w=>eql93 w _ _ _ _))) ?_
       refine go 4 ?_
       exact Xj hsc () Tryz.results36 (by rw [Zug,Ybz O hax]) trivial Za
theorem Yhc(v:Value)(xs:List Int)(hv:Vp xs):Oo prog 249 #[v] [Ym 2 wv v xs] (.bool (decide (Br xs))):=by
 refine Zd func249 ntmps249 fun w0 sc hw hsc=>?_
 have hlen:=hv.len
 have hmz:=Qz hv.sz
 have q1:(xs.length+2)*(xs.length+2)≤27*27:=Nat.mul_le_mul O O
 have q2:(xs.length+2)*(xs.length+2)*(Qh xs+16)≤27*27*65552:=Nat.mul_le_mul q1 O
 have q3:((xs.length:Int)-1+3)*((xs.length:Int)-1+3)=(((xs.length+2)*(xs.length+2):Nat):Int):=by rw [show(xs.length:Int)-1+3=((xs.length+2:Nat):Int) by omega];push_cast;rfl
 have q4:((xs.length:Int)-1+3)*((xs.length:Int)-1+3)*((Qh xs:Int)+16)=(((xs.length+2)*(xs.length+2)*(Qh xs+16):Nat):Int):=by rw [q3];push_cast;rfl
 refine go 9 ?_
 refine cl 1 [1] (Xc _ _ ‹_›) fun _ _=>go 9 ?_
 refine cl 1 [1] (Zg5 _ _ hv) fun _ _=>go 10 ?_
 refine cl 1 [1] (Zmc _ _ hv) fun _ _=>go 13 ?_
 refine Yu (d:=23) J (fun s24=>?_) (fun s24=>?_)
 ·refine go 14 ?_
  exact Xj hsc () results249 (by first | exact sf_t O | exact sf_i O q4) trivial Za
 ·refine go 14 ⟨O,O,by rw [q3];exact⟨O,O⟩,O,by rw [q4];exact⟨O,O⟩,?_⟩
  exact Xj hsc () results249 (by first | exact sf_t O | exact sf_i O q4) trivial Za
theorem Zyt(v:Value)(xs:List Int)(hv:Vp xs):Oo prog 245 #[v,.slice none 0 0] [Ym 2 wv v xs] (.int .i64 (Zur xs)):=by
 refine Zd func245 ntmps245 fun w0 sc hw hsc=>?_
 refine Ze (Np 999 2 93 wv)<|Ze (Pf 999 J J pV)<|go 8 ?_
 refine cl 1 [1] (Yhc _ _ hv) fun _ _=>go 13 ?_
 refine lp (G:=Unit) [0,1,13,14] [0,1,999] (fun _=>[(15,.int .i64 0),(5,.bool (decide (¬Br xs)))]) (fun _=>[]) (fun _=>True) (fun _=>0) () trivial K2 trivial ?_
 rintro _ -
 refine go 2 ?_
 refine kf O3<|go 13 ?_
 refine cl 1 [1] (Xc _ _ ‹_›) fun _ _=>go 14 ?_
 refine Zc J (fun h39=>?_) (fun h39=>?_)
 ·refine go 7 ?_
  exact Xj hsc () results245 (by unfold Zur;rw [if_pos O]) trivial Za
 ·refine go 7 ?_
  refine kf O3<|go 11 ?_
  refine Nw J (fun h47=>?_) (fun h47=>?_)
  ·refine go 7 ?_
   exact Xj hsc () results245 (by unfold Zur;rw [if_neg O,if_neg (by simpa using h47)]) trivial Za
  ·refine go 8 ?_
   exact Xj hsc () results245 (by unfold Zur;rw [if_neg O,if_pos (by simpa using h47)]) trivial Za
theorem Zp6(v:Value)(xs:List Int)(hv:Vp xs)(h0:xs≠[]):Cal prog 246 #[v] [Ym 2 wv v xs] true (G:=Value) (fun r=>True) (fun r=> .tuple #[r,.int .i64 0]) (fun r=>[Ym 2 wv r (Yt xs)]):=by
 refine Zd func246 ntmps246 fun w0 sc hw hsc=>?_
 have hvp:=Kf hv
 have hl0:=List.length_pos_iff.2 h0
 have hlp:=Zt xs
 have hlen:=hv.len
 refine go 9 ?_
 refine cl 2 [1] (Nq _ _ hv) fun _ _=>go 11 ?_
 refine kt O3<|go 5 ⟨O,?_⟩
 refine Ly (Yf (ii:=2) (i:=((Zu xs).length-1)) J J J J Zo Nn Ke) J J<|go 1 ⟨O2,?_⟩
 refine Fl 2 [] (Kl _ (hvp.sz _)) fun _ _=>go 4 ?_
 refine Zc J (fun h56=>?_) (fun h56=>?_)
 ·refine go 3 ?_
  refine cl 2 [] (Zp _ ⟨O3,O3⟩) fun _ _=>cl 3 [2] (Ic _ _ _ hvp O7 (fun i=>Zau hvp.sz i)) fun _ _=>go 8 ?_
  exact Nz hsc _ results246 J trivial (Mm 3 Za (by rw [Zn5 O ((Pm _).1 ‹_›)]<;>rfl))
 ·refine go 11 ?_
  exact Nz hsc _ results246 J trivial (Mm 2 Za (by rw [Zn4 (fun h=>by have h2:=(Pm _).2 h;exact absurd h2 ‹_›)]<;>rfl))
theorem st_sqf(v:Value)(xs:List Int)(hv:Vp xs)(h0:xs≠[])(hf:Br xs)(F:Nat)(hS:Yhd F xs):Cal prog 227 #[v] [Ym 2 wv v xs] true (G:=Value) (fun r=>True) (fun r=> .tuple #[r,.int .i64 0]) (fun r=>[Ym 2 wv r (sqf F xs)]):=by
 refine Zd func227 ntmps227 fun w0 sc hw hsc=>?_
 obtain⟨hS1,hS2,hS3,hS4,hS5⟩:=hS
 have hvn:=Yar hv
 have hln:=Qr hv.tr
 have hvd:Vp (Yo (Yt xs)):=Zea hvn (fun i hi=>hS1 i O)
 have hvg:=Ygt hvn hvd hS3
 have hc0:=Yj0 h0 hf
 refine Ze (Np 999 2 93 wv)<|Ze (Pf 999 J J pV)<|go 10 ?_
 refine cl 1 [1] (Zyt _ _ hv) fun _ _=>go 9 ?_
 refine Zc J (fun h64=>?_) (fun h64=>?_)
 ·exfalso;omega
 ·refine go 5 ?_
  refine cl 2 [1] (Zp6 _ _ hv h0) fun _ _=>go 11 ?_
  refine kf O3<|go 8 ?_
  refine cl 3 [2] (Ep _ _ hvn (fun i=>by by_cases hi:i<xs.length;exact hS1 i hi;rw [Yj O];simp [Lj])) fun _ _=>go 11 ?_
  refine kf O3<|go 9 ?_
  refine cl 4 [2,3] (Zqt _ _ _ _ hvn hvd F hS2 hS3) fun _ _=>go 11 ?_
  refine kf O3<|go 9 ?_
  refine cl 5 [2,4] (Zbg _ _ _ _ hvn hvg hS4) fun _ _=>go 7 ?_
  exact Nz hsc _ results227 (by rw [if_pos hS5]<;>rfl) trivial (Mm 5 Za (by rw [if_pos hS5]<;>rfl))
end Go.Sky

