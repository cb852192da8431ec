/- Rules, arithmetic and contracts: part 9. No conditions but those that each theorem names. -/
import Derived.Test.YtljmhpopdmadkaaGreatLj07
set_option linter.all false
set_option maxHeartbeats 4000000
namespace Go.Sky
open Go.Proofs.Tryz
open Go.Proofs
set_option synthInstance.maxHeartbeats 0
set_option synthInstance.maxSize 100000
set_option maxRecDepth 20000
set_option maxHeartbeats 4000000
set_option linter.unusedSimpArgs false
theorem rp_to(v:Value)(zs:List (Int×SL))(hs:Sz 1000000 (Gk zs))(hl:zs.length≤1000):Cal prog 20 #[v] [pp v zs] false (G:=Value) (fun r=>True) (fun r=>r) (fun r=>[Yb 2 wv r (Gk zs)]):=by
 refine Zd func20 ntmps20 fun w0 sc hw hsc=>?_
 have hli:=Ek zs
 refine go 17 ?_
 refine Zg (Nc 70 2 93 wv)<|lp (G:=Nat×Value) [0] [0,1] (fun q=>[(4,.int .i64 (q.1:Int)),(3,q.2)]) (fun q=>[(70,Nr 2 93 wv q.2 ((Gk zs).take q.1))]) (fun q=>q.1≤zs.length) (fun q=>zs.length-q.1) (0,.slice none 0 0) O1 K2 K1 ?_
 rintro⟨i,vo⟩ hi
 dsimp only at hi
 dsimp only
 have htl:((Gk zs).take i).length=i:=by rw [List.length_take];omega
 have hci:=Zdi zs i
 refine go 9 ?_
 refine Zc J (fun h50=>?_) (fun h50=>?_)
 ·refine go 9 ⟨O2,?_⟩
  refine dt (Ou (ii:=1) I0 J J J Zs pI O2)<|tt (Np (n:=1) (r_to _ _ (by rw [hci];have:=hs i;omega)) J J J K1 call50 (Zbm 1 J J (Zk) Yk) J hw.h) (fun _ _=>?_)
  refine tt (Qo (i:=2) (ivs:=[(0,_)]) (enc:=wv) [(zs.getD i I0).1] J J K2 Mc ti93 J J J J J pV.cells J J hw.h) (fun v _=>?_)
  refine tt (It (i:=70) (j:=2) (by_:=24) J J J J J J O3 J (Xg pV) Mc ti93 J pV J J J O8 O3 J hw.h) fun v_2 _=>go 9 ⟨O,?_⟩
  exact Xe (i+1,_) O1 O1 K2 ⟨by rw [Pi 0 _ _ O,show(Gk zs).getD i 0=(zs.getD i I0).1 from hci.symm];rfl,trivial⟩
 ·refine go 12 ?_
  exact Xj hsc _ results20 J trivial (gow 70 Za (List.take_of_length_le O))
theorem Ybh(v:Value)(zs:List (Int×SL))(hs:Sz 3000000000 (Gk zs)):Cal prog 92 #[v] [pp v zs] true (G:=Value×List (Int×SL)) (fun r=>Gk r.2=tzl (Gk zs)) (fun r=>r.1) (fun r=>[pp r.1 r.2]):=by
 refine Zd func92 ntmps92 fun w0 sc hw hsc=>?_
 refine Nb (Zn3 (i:=1) J) (fun hself=>?_)
 refine Nb (Hg (i:=1) J Zs) (fun hlen=>?_)
 have hli:=Ek zs
 refine go 7 ?_
 refine lp (G:=Nat) [] [0] (fun k=>[(0,Me v k)]) (fun k=>[(1,pp (Me v k) (zs.take k))]) (fun k=>(k≤zs.length)∧(tzl ((Gk zs).take k)=tzl (Gk zs))) (fun k=>k) zs.length ⟨Nat.le_refl _,by rw [List.take_of_length_le O]⟩ ⟨by rw [hself];rfl,trivial⟩ ⟨by rw [hself,List.take_length];rfl,trivial⟩ ?_
 rintro k ⟨hk,ht⟩
 have hl:(zs.take k).length=k:=by rw [List.length_take];omega
 have hce:((zs.take k).getD (k-1) I0).1=((Gk zs).take k).getD (k-1) 0:=by rw [Zdi,Zdr];rfl
 refine go 7 ?_
 refine Yn (d:=6) J (fun s22=>?_) (fun s22=>?_)
 ·refine go 4 ⟨O,?_⟩
  refine Gt (Yj (ii:=1) (i:=k-1) J J J J Zs Yat sizeOf77) J J<|Gt (Ou (ii:=1) I0 J J J Zs pI) J J<|gtt (Np (n:=1) (Zgk _ _ (by rw [hce];exact(hs.take _).getD _)) J J J K1 call83 (Zbm 1 J J (Zk) Yk) J hw.h) J J J J fun _ _=>go 4 ?_
  refine Zc J (fun h22=>?_) (fun h22=>?_)
  ·rw [hce]at h22
   have hstep:=Zme (xs:=Gk zs) (k:=k) O O (Zf5 (k:=k) O (Int.sign_eq_zero_iff_zero.1 h22))
   refine go 8 ⟨O,?_⟩
   refine dt (Zs2 (ii:=1) (i:=k-1) J J J J Zs Yat sizeOf77)<|go 3 ?_
   exact Yy (Zuc 1 1 (k-1) J J O)<|Xe (k-1) ⟨O1,by rw [←ht,←hstep]⟩ O1 ⟨by rw [←Ij v k (k-1)];rfl,trivial⟩ ⟨by rw [Ij,List.take_take,Nat.min_eq_left O];rfl,trivial⟩
  ·try rw [hce]at h22
   refine go 12 ?_
   exact Xj hsc (_,zs.take k) results92 J (by rw [Zdr,←ht];exact(Zcc O (by first | (left;omega) | (right;exact Zch (k:=k) O ‹_›))).symm) (Ns 1 Za)
 ·refine go 24 ?_
  exact Xj hsc (_,zs.take k) results92 J (by rw [Zdr,←ht];exact(Zcc O (by first | (left;omega) | (right;exact Zch (k:=k) O ‹_›))).symm) (Ns 1 Za)
theorem Ybi(v:Value)(l:List Int)(hl:∀x∈l,Yt x)(hlen:l.length≤1000):Cal prog 69 #[v] [Yb 1 Zy v l] true (G:=Value×List (Int×SL)) (fun r=>Gk r.2=tzl l) (fun r=>r.1) (fun r=>[pp r.1 r.2]):=by
 refine Zd func69 ntmps69 fun w0 sc hw hsc=>?_
 have hsz:=Zjz hl
 refine go 17 ?_
 refine Zg (Nc 70 2 77 Zie)<|Zg (Xn qI 71)<|lp (G:=Nat×Value×List (Int×SL)) [0] [0,1] (fun q=>[(4,.int .i64 (q.1:Int)),(3,q.2.1)]) (fun q=>[(70,Nr 2 77 Zie q.2.1 q.2.2),(71,Zc4 qI q.2.2)]) (fun q=>(q.1≤l.length)∧(Gk q.2.2=mk q.1 (cf l))∧(q.2.2.length=q.1)) (fun q=>l.length-q.1) (0,.slice none 0 0,[]) ⟨O1,rfl,rfl⟩ K2 K2 ?_
 rintro⟨i,vo,ws⟩ ⟨hi,hz,hzl⟩
 dsimp only at hi hz hzl
 dsimp only
 refine go 9 ?_
 refine Zc J (fun h59=>?_) (fun h59=>?_)
 ·refine go 10 ⟨O2,O2,?_⟩
  refine cl 2 [] (Ln _ (hl _ (Zk))) fun v _=>?_
  refine l_ex (Ku 2 J Zi) (fun sl hsl=>?_)
  subst hsl
  refine tt (Qo (i:=3) (ivs:=[(0,_)]) (enc:=Zie) [(l.getD i 0,sl)] J J K2 Yat ti77 J J J J J pI.cells J J hw.h) (fun v_2 _=>?_)
  refine tt (It (i:=70) (j:=3) (by_:=32) J J J J J J O3 J (Xg pI) Yat ti77 J pI J J J O8 O3 J hw.h) fun v_3 _=>go 9 ⟨O,?_⟩
  exact Yy (Zh (q:=qI) (z:=(l.getD i 0,sl)) 71 2 71 J J J J J)<|Xe (i+1,_,ws ++ [(l.getD i 0,sl)]) ⟨O1,by rw [Zjd,Zr9,hz];dsimp only;rfl,by simp [hzl]⟩ O1 K2 K2
 ·refine go 6 ?_
  refine Zg (Qq 70 J J pI)<|Zg (Mz 70 71 72 J J J J)<|go 2 ?_
  refine cl 4 [72] (Ybh _ _ (by rw [hz];exact Zc3 fun t ht=>by have:=hsz t;omega)) fun g hg=>go 4 ?_
  exact Xj hsc _ results69 J (by rw [hg,hz,show i=l.length by omega,Zfo]) (Ns 4 Za)
theorem r_same(v u:Value)(r t:List (Bool×ByteArray)):Pu prog 19 #[v,u] [Yb 2 Zqb v r,Yb 2 Zqb u t] (.bool (decide (r=t))):=by
 refine Zd func19 ntmps19 fun w0 sc hw hsc=>?_
 refine Nb (Hg (i:=1) J Zi) (fun hlr=>?_)
 refine Nb (Hg (i:=2) J Zi) fun hlt=>go 15 ?_
 refine Zc J (fun h78=>?_) (fun h78=>?_)
 ·refine go 7 ?_
  exact Xj hsc () results19 (by rw [decide_eq_false (fun e=>by subst e;exact h78 rfl)]) trivial Za
 ·have hle:r.length=t.length:=O
  refine go 9 ?_
  refine lp (G:=Nat) [0,1] [0,1,2] (fun k=>[(5,.int .i64 (k:Int))]) (fun k=>[]) (fun k=>(k≤r.length)∧(r.take k=t.take k)) (fun k=>r.length-k) 0 ⟨O1,O5⟩ K1 trivial ?_
  rintro k ⟨hk,ht⟩
  refine go 9 ?_
  refine Zc J (fun h81=>?_) (fun h81=>?_)
  ·refine go 5 ?_
   refine Xt (fun _=>False) [(0,0),(1,0),(2,0),(3,0),(4,0),(5,0),(6,0),(7,0),(8,0)]<|go 3 ⟨O2,?_⟩
   refine Qu J J (Pb (Ou (ii:=1) (false,⟨#[]⟩) J J J Zi pW O2))<|go 3 ⟨O2,?_⟩
   refine Qu J J (Pb (Ou (ii:=2) (false,⟨#[]⟩) J J J Zi pW O2))<|Qu J J (Pb (Zhp J J J eg93 (fun w=>neq93 w _ _ _ _)))<|go 2 ?_
   refine Ot J (fun h82=>?_) (fun h82=>?_)
   ·refine go 11 ?_
    exact Xj hsc () results19 (by rw [decide_eq_false (fun e=>by rw [e]at h82;simp [Zy3]at h82)]) trivial Za
   ·refine go 8 ⟨O,?_⟩
    exact Xe (k+1) ⟨O1,by rw [Pi (false,⟨#[]⟩) _ _ O,Pi (false,⟨#[]⟩) _ _ O,ht,Zy4 (x:=r.getD k (false,⟨#[]⟩)) (y:=t.getD k (false,⟨#[]⟩)) (by simpa using h82)]⟩ O1 K1 trivial
  ·refine go 11 ?_
   exact Xj hsc () results19 (by rw [decide_eq_true (by rw [show k=r.length by omega,List.take_length,hle,List.take_length]at ht;exact ht)]) trivial Za
theorem Zug(v u:Value)(xs ys:List Int):Pu prog 19 #[v,u] [Yb 2 wv v xs,Yb 2 wv u ys] (.bool (decide (xs=ys))):=by
 have h:=((r_same v u (xs.map wr) (ys.map wr)).imp (Zpg v xs) (fun _ h=>h)).imp2 (Zpg u ys) (fun _ h=>h)
 rw [decide_eq_decide.2 (Zpy xs ys)]at h;exact h
theorem Zdn(x y x2 y2:Int)(hx:bl x.natAbs≤65536)(hy:bl y.natAbs≤65536)(hx2:bl x2.natAbs≤65536)(hy2:bl y2.natAbs≤65536)(hp:0<y)(hp2:0<y2):Pu prog 240 #[rX x y,rX x2 y2] [] (.bool true):=by
 refine Zd func240 ntmps240 fun w0 sc hw hsc=>go 2 ?_
 refine Zu (Zw 1) fun b _=>Zu (Zw 2) fun b_2 _=>go 6 ?_
 refine cl 2 [] (Nf _ _ ‹_› ‹_› ‹_›) fun _ _=>go 2 ?_
 refine Gu 2 [] (Nf _ _ ‹_› ‹_› ‹_›) fun _ _=>go 5 ?_
 exact Xj hsc () results240 J trivial Za
theorem Zb8(x y x2 y2:Int)(hx:bl x.natAbs≤65536)(hy:bl y.natAbs≤65536)(hx2:bl x2.natAbs≤65536)(hy2:bl y2.natAbs≤65536):Cal prog 241 #[rX x y,rX x2 y2] [] true (G:=Bool×Value×Bool×Value×Bool×Value) (fun r=>sg r.1 (x*y2)∧sg r.2.2.1 (x2*y)∧sg r.2.2.2.2.1 (y*y2)) (fun r=> .tuple #[.agg #[.bool r.1,r.2.1],.agg #[.bool r.2.2.1,r.2.2.2.1],.agg #[.bool r.2.2.2.2.1,r.2.2.2.2.2]]) (fun r=>[Hf r.2.1 (x*y2).natAbs,Hf r.2.2.2.1 (x2*y).natAbs,Hf r.2.2.2.2.2 (y*y2).natAbs]):=by
 refine Zd func241 ntmps241 fun w0 sc hw hsc=>?_
 have b1:=Yp x y2
 have b2:=Yp x2 y
 have b3:=Yp y y2
 have b4:=Yp x x2
 refine go 2 ?_
 refine Zu (Zw 1) fun b _=>Zu (Zw 2) fun b_2 _=>Zu (Zp 3) fun b_3 _=>Zu (Zp 4) fun b_4 _=>Zu (Zp 5) fun b_5 _=>go 3 ?_
 refine Mi [1,2] [23]<|Zq (n:=0) [(0,0),(1,0),(3,0),(4,0),(7,0),(8,0),(10,0),(11,0),(14,0),(15,0),(17,0),(18,0),(2,1),(5,1),(6,1),(9,1),(12,1),(13,1),(16,1),(19,1),(20,1),(21,1),(22,1),(23,3)]<|go 12 ?_
 refine Yo (Ze 6 [] (Xo _ _ (Yr _))) fun g hg=>Yo (Ze 7 [] (Xo _ _ (Yr _))) fun g_2 hg_2=>Yo (Ze 8 [6,7] (Zay _ _ _ _ _ _ ‹_› ‹_›)) fun g_3 hg_3=>Yo (Ze 9 [] (Xo _ _ (Yr _))) fun g_4 hg_4=>Yo (Ze 10 [] (Xo _ _ (Yr _))) fun g_5 hg_5=>Yo (Ze 11 [9,10] (Zay _ _ _ _ _ _ ‹_› ‹_›)) fun g_6 hg_6=>Yo (Ze 12 [] (Xo _ _ (Yr _))) fun g_7 hg_7=>Yo (Ze 13 [] (Xo _ _ (Yr _))) fun g_8 hg_8=>Yo (Ze 14 [12,13] (Zay _ _ _ _ _ _ ‹_› ‹_›)) fun g_9 hg_9=>go 4 ?_
 refine Yf<|go 2 ?_
 exact xe3 hsc (_,_,_,_,_,_) results241 J ⟨by assumption,by assumption,by assumption⟩ (Ns 8 (Ns 11 (Ns 14 Za)))
theorem Zb9(x y x2 y2:Int)(hx:bl x.natAbs≤65536)(hy:bl y.natAbs≤65536)(hx2:bl x2.natAbs≤65536)(hy2:bl y2.natAbs≤65536)(hp:0<y)(hp2:0<y2):Pu prog 223 #[rX x y,rX x2 y2] [] (.tuple #[.int .i64 (x*y2-x2*y).sign,.int .i64 0]):=by
 refine Zd func223 ntmps223 fun w0 sc hw hsc=>?_
 have b1:=Yp x y2
 have b2:=Yp x2 y
 have b3:=Yp y y2
 have b4:=Yp x x2
 have b5:=Zlw (x2*y)
 have b6:=Fe (x*y2) (-(x2*y))
 refine go 2 ?_
 refine Zu (Zw 1) fun b _=>Zu (Zw 2) fun b_2 _=>go 9 ?_
 refine cl 2 [] (Zdn _ _ _ _ ‹_› ‹_› ‹_› ‹_› ‹_› ‹_›) fun _ _=>go 10 ?_
 refine cl 3 [] (Zb8 _ _ _ _ ‹_› ‹_› ‹_› ‹_›) fun g hg=>?_
 obtain⟨hc1,hc2,hc3⟩:=hg
 refine go 4 ?_
 refine Zu (Zp 6) fun b_3 _=>Zu (Zp 7) fun b_4 _=>Zu (Zp 8) fun b_5 _=>go 6 ?_
 refine Xt (fun _=>False) [(0,0),(1,0),(2,1),(3,1),(4,1),(5,3),(6,3)]<|go 2 ?_
 refine Yo (Ze 9 [4] (Zkm _ _ _ ‹_›)) fun g_2 hg_2=>Yo (Ze 10 [3,9] (Zcz _ _ _ _ _ _ ‹_› ‹_›)) fun g_3 hg_3=>Yo (Ze 10 [10] (Zgt _ _ _ ‹_›)) fun _ _=>go 5 ?_
 exact Nn hsc () results223 (by rw [Int.sub_eq_add_neg]<;>rfl) trivial Za
theorem Zh2(x y x2 y2:Int)(hx:bl x.natAbs≤65536)(hy:bl y.natAbs≤65536)(hx2:bl x2.natAbs≤65536)(hy2:bl y2.natAbs≤65536)(hp:0<y)(hp2:0<y2):Pu prog 231 #[rX x y,rX x2 y2] [] (Cr (x*y2+x2*y) (y*y2)):=by
 refine Zd func231 ntmps231 fun w0 sc hw hsc=>?_
 have b1:=Yp x y2
 have b2:=Yp x2 y
 have b3:=Yp y y2
 have b4:=Yp x x2
 have b6:=Fe (x*y2) (x2*y)
 refine go 2 ?_
 refine Zu (Zw 1) fun b _=>Zu (Zw 2) fun b_2 _=>Zu (Zp 3) fun b_3 _=>go 8 ?_
 refine cl 3 [] (Zdn _ _ _ _ ‹_› ‹_› ‹_› ‹_› ‹_› ‹_›) fun _ _=>go 10 ?_
 refine cl 4 [] (Zb8 _ _ _ _ ‹_› ‹_› ‹_› ‹_›) fun g hg=>?_
 obtain⟨hc1,hc2,hc3⟩:=hg
 refine go 4 ?_
 refine Zu (Zp 7) fun b_4 _=>Zu (Zp 8) fun b_5 _=>Zu (Zp 9) fun b_6 _=>go 6 ?_
 refine Xt (fun _=>False) [(0,0),(1,0),(3,0),(2,1),(4,1),(5,0),(6,0),(7,3),(8,3)]<|go 3 ?_
 refine Yo (Ze 10 [4,5] (Zcz _ _ _ _ _ _ ‹_› ‹_›)) fun g_2 hg_2=>Yo (Ze 10 [10,6] (Bu _ _ _ _ _ _ ‹_› ‹_› (Int.mul_ne_zero O O))) fun _ _=>go 7 ?_
 exact Nn hsc () results231 J trivial Za
theorem Hu(x y x2 y2:Int)(hx:bl x.natAbs≤65536)(hy:bl y.natAbs≤65536)(hx2:bl x2.natAbs≤65536)(hy2:bl y2.natAbs≤65536)(hp:0<y)(hp2:0<y2:=by decide):Pu prog 232 #[rX x y,rX x2 y2] [] (Cr (x*x2) (y*y2)):=by
 refine Zd func232 ntmps232 fun w0 sc hw hsc=>?_
 have b1:=Yp x y2
 have b2:=Yp x2 y
 have b3:=Yp y y2
 have b4:=Yp x x2
 refine go 2 ?_
 refine Zu (Zw 1) fun b _=>Zu (Zw 2) fun b_2 _=>Zu (Zp 3) fun b_3 _=>go 8 ?_
 refine cl 3 [] (Zdn _ _ _ _ ‹_› ‹_› ‹_› ‹_› ‹_› ‹_›) fun _ _=>go 7 ?_
 refine Xt (fun _=>False) [(0,0),(1,0),(3,0),(4,0),(7,0),(8,0),(10,0),(11,0),(2,1),(5,1),(6,1),(9,1),(12,1),(13,1),(14,1),(15,0),(16,0),(17,3),(18,3)]<|go 8 ?_
 refine Yo (Ze 4 [] (Xo _ _ (Yr _))) fun g hg=>Yo (Ze 5 [] (Xo _ _ (Yr _))) fun g_2 hg_2=>Yo (Ze 6 [4,5] (Zay _ _ _ _ _ _ ‹_› ‹_›)) fun g_3 hg_3=>Yo (Ze 7 [] (Xo _ _ (Yr _))) fun g_4 hg_4=>Yo (Ze 8 [] (Xo _ _ (Yr _))) fun g_5 hg_5=>Yo (Ze 9 [7,8] (Zay _ _ _ _ _ _ ‹_› ‹_›)) fun g_6 hg_6=>Yo (Ze 9 [6,9] (Bu _ _ _ _ _ _ ‹_› ‹_› (Int.mul_ne_zero O O))) fun _ _=>go 7 ?_
 exact Nn hsc () results232 J trivial Za
theorem Zjt(x y:Int)(hx:bl x.natAbs≤65536)(hy:bl y.natAbs≤65536):Pu prog 117 #[wv x,wv y] [] (.int .i64 (x-y).sign):=by
 refine Zd func117 ntmps117 fun w0 sc hw hsc=>?_
 have b5:=Zlw y
 have b6:=Fe x (-y)
 refine go 2 ?_
 refine Zu (Zw 1) fun b _=>Zu (Zw 2) fun b_2 _=>go 8 ?_
 refine cl 2 [] (Ms _ _ ‹_› ‹_›) fun _ _=>go 7 ?_
 refine Xt (fun _=>False) [(0,0),(2,0),(1,1),(3,1),(4,1),(5,1),(6,1),(7,3)]<|go 2 ?_
 refine Yo (Ze 3 [] (Xo _ _ (Yr _))) fun g hg=>Yo (Ze 4 [] (Xo _ _ (Yr _))) fun g_2 hg_2=>Yo (Ze 5 [4] (Zkm _ _ _ ‹_›)) fun g_3 hg_3=>Yo (Ze 6 [3,5] (Zcz _ _ _ _ _ _ ‹_› ‹_›)) fun g_4 hg_4=>Yo (Ze 6 [6] (Zgt _ _ _ ‹_›)) fun _ _=>go 4 ?_
 exact Xj hsc () results117 (by rw [Int.sub_eq_add_neg]<;>rfl) trivial Za
theorem Lj{x:Int}(h:Yt x):bl x.natAbs≤64:=(Xh 64 _).2 (by obtain⟨h1,h2⟩:=h;omega)
theorem in_bl{x:Int}(h:bl x.natAbs≤63):Yt x:=by
 have:=(Xh 63 x.natAbs).1 h
 exact⟨O,O⟩
theorem bl_pw{n:Int}{i:Nat}(h:bl n.natAbs≤100)(hi:i≤10):bl (n^i).natAbs≤1000:=by
 rcases Nat.eq_zero_or_pos i with h0 | h0
 ·subst h0;rw [Int.pow_zero];decide
 ·exact Nat.le_trans (Bk n h i h0) (by have:=Nat.mul_le_mul_right 100 hi;omega)
def Xq:List Int→Int
 | []=>1
 | x :: r=>x*Xq r
theorem Zi2:∀a b:List Int,Xq (a ++ b)=Xq a*Xq b
 | [],b=>by simp [Xq]
 | x :: a,b=>by simp [Xq,Zi2 a b,Int.mul_assoc]
theorem Cx{l:List Int}{i:Nat}(h:i<l.length):Xq (l.take (i+1))=Xq (l.take i)*l.getD i 0:=by
 rw [Pi 0 _ _ h,Zi2];simp [Xq]
theorem Zjo:∀{l:List Int},(∀x∈l,Yt x)→bl (Xq l).natAbs≤64*l.length+1
 | [],_=>O3
 | x :: l,h=>by
  have h1:=Lj (h x (List.mem_cons_self ..))
  have h2:=Zjo (l:=l) fun y hy=>h y (List.mem_cons_of_mem _ hy)
  have:=Yp x (Xq l)
  simp only [Xq,List.length_cons];omega
theorem Zz0{l:List Int}(h:∀x∈l,Yt x)(hl:l.length≤10)(i:Nat):bl (Xq (l.take i)).natAbs≤1000:=by
 have h1:=Zjo (l:=l.take i) fun x hx=>h x (List.mem_of_mem_take hx)
 have h2:(l.take i).length≤l.length:=by rw [List.length_take];omega
 omega
theorem Zwi(x y:Int)(hx:bl x.natAbs≤30000)(hy:bl y.natAbs≤30000):Cal Tryz.prog 116 #[wv x,wv y] [] false (G:=Unit) (fun _=>True) (fun _=>wv (x+y)) (fun _=>[]):=by
 refine Zd Tryz.func116 Tryz.ntmps116 fun w0 sc hw hsc=>?_
 have hb:=Fe x y
 refine go 2 ?_
 refine Zu (Zw 1) fun bx _=>?_
 refine Zu (Zw 2) fun bx_2 _=>?_
 refine Zu (Zp 3) fun bx_3 _=>?_
 refine go 6 ?_
 refine cl 3 [] (Gg _ _ O O) fun _ _=>?_
 refine go 3 ?_
 refine Zu (Zp 4) fun bx_4 _=>?_
 refine go 11 ?_
 exact Xj hsc () Tryz.results116 (by rw [Nk O]) trivial Za
theorem Zdz(x y:Int)(hx:bl x.natAbs≤30000)(hy:bl y.natAbs≤30000):Cal Tryz.prog 115 #[wv x,wv y] [] false (G:=Unit) (fun _=>True) (fun _=>wv (x*y)) (fun _=>[]):=by
 refine Zd Tryz.func115 Tryz.ntmps115 fun w0 sc hw hsc=>?_
 have hb:=Yp x y
 refine go 2 ?_
 refine Zu (Zw 1) fun bx _=>?_
 refine Zu (Zw 2) fun bx_2 _=>?_
 refine Zu (Zp 3) fun bx_3 _=>?_
 refine go 6 ?_
 refine cl 3 [] (Zb7 _ _ O O) fun _ _=>?_
 refine go 3 ?_
 refine Zu (Zp 4) fun bx_4 _=>?_
 refine go 11 ?_
 exact Xj hsc () Tryz.results115 (by rw [Nk O]) trivial Za
theorem Zpe(x y:Int)(hx:bl x.natAbs≤30000)(hy:bl y.natAbs≤30000):Cal Tryz.prog 74 #[wv x,wv y] [] false (G:=Unit) (fun _=>True) (fun _=>wv ((Int.gcd x y:Int))) (fun _=>[]):=by
 refine Zd Tryz.func74 Tryz.ntmps74 fun w0 sc hw hsc=>?_
 have hb:=Zfv x y
 refine go 2 ?_
 refine Zu (Zw 1) fun bx _=>?_
 refine Zu (Zw 2) fun bx_2 _=>?_
 refine Zu (Zp 3) fun bx_3 _=>?_
 refine go 6 ?_
 refine cl 3 [] (Zma _ _ O O) fun _ _=>?_
 refine go 3 ?_
 refine Zu (Zp 4) fun bx_4 _=>?_
 refine go 11 ?_
 exact Xj hsc () Tryz.results74 (by rw [Nk O]) trivial Za
theorem Zj1(x y:Int)(hx:bl x.natAbs≤30000)(hy:bl y.natAbs≤30000)(hy0:y≠0):Cal Tryz.prog 173 #[wv x,wv y] [] false (G:=Unit) (fun _=>True) (fun _=>wv (x/y)) (fun _=>[]):=by
 refine Zd Tryz.func173 Tryz.ntmps173 fun w0 sc hw hsc=>?_
 have hb:=Zfw x y
 refine go 2 ?_
 refine Zu (Zw 1) fun bx _=>?_
 refine Zu (Zw 2) fun bx_2 _=>?_
 refine Zu (Zp 3) fun bx_3 _=>?_
 refine go 6 ?_
 refine cl 3 [] (Fj _ _ O O hy0) fun _ _=>?_
 refine go 4 ?_
 refine Zu (Zp 4) fun bx_4 _=>?_
 refine Zu (Zp 5) fun bx_5 _=>?_
 refine go 12 ?_
 exact Xj hsc () Tryz.results173 (by rw [Nk O]) trivial Za
theorem Zwg(n:Int)(k:Nat)(hn:bl n.natAbs≤60)(hk:k≤10):Cal Tryz.prog 150 #[.int .i64 n,.int .i64 (k:Int)] [] false (G:=Unit) (fun _=>True) (fun _=>wv (n^k)) (fun _=>[]):=by
 refine Zd Tryz.func150 Tryz.ntmps150 fun w0 sc hw hsc=>?_
 have hb:∀i,i≤10→bl (n^i).natAbs≤1000:=fun i hi=>bl_pw (Nat.le_trans hn O3) hi
 refine go 2 ?_
 refine Zu (Zp 1) fun bx _=>?_
 refine go 4 ?_
 refine cl 1 [] (Zv 1 ⟨O3,O3⟩) fun _ _=>?_
 refine Zu (Zp 2) fun bx_2 _=>?_
 refine go 11 ?_
 refine lp (G:=Nat) [0,4,5,7] [0,1] (fun i=>[(8,.int .i64 (i:Int))]) (fun i=>[(2,box bx_2 93 (wc (n^i)))]) (fun i=>i≤k) (fun i=>k-i) 0 O1 ⟨rfl,trivial⟩ ⟨by rw [Int.pow_zero];rfl,trivial⟩ ?_
 rintro i hi
 refine go 6 ?_
 refine Zc rfl (fun h43=>?_) (fun h43=>?_)
 ·refine go 4 ?_
  refine Xt (fun _=>False) [(0,0),(1,0),(2,1),(3,1),(4,3)] ?_
  refine go 2 ?_
  refine Yo (Ze 2 [] (Zv _ (in_bl O))) fun _ _=>?_
  refine Yo (Ze 2 [] (Zdz (n^i) n (Nat.le_trans (hb i O) O) O)) fun _ _=>?_
  refine go 8 ⟨O,?_⟩
  exact Xe (i+1) O1 O1 ⟨rfl,trivial⟩ ⟨by rw [Int.pow_succ];rfl,trivial⟩
 ·obtain rfl:i=k:=O
  refine go 12 ?_
  exact Xj hsc () Tryz.results150 rfl trivial Za
theorem Ph(v:Value)(l:List Int)(hl:∀x∈l,Yt x)(hlen:l.length≤10):Cal Tryz.prog 121 #[v] [Yb 1 Zy v l] false (G:=Unit) (fun _=>True) (fun _=>wv (Xq l)) (fun _=>[]):=by
 refine Zd Tryz.func121 Tryz.ntmps121 fun w0 sc hw hsc=>?_
 have hb:∀i,bl (Xq (l.take i)).natAbs≤1000:=fun i=>Zz0 hl hlen i
 refine go 2 ?_
 refine Zu (Zp 2) fun bx _=>?_
 refine go 4 ?_
 refine cl 2 [] (Zv 1 ⟨O3,O3⟩) fun _ _=>?_
 refine Zu (Zp 3) fun bx_2 _=>?_
 refine go 12 ?_
 refine lp (G:=Nat) [2,3,7,8] [0,1,2] (fun i=>[(9,.int .i64 (i:Int))]) (fun i=>[(3,box bx_2 93 (wc (Xq (l.take i))))]) (fun i=>i≤l.length) (fun i=>l.length-i) 0 O1 ⟨rfl,trivial⟩ ⟨rfl,trivial⟩ ?_
 rintro i hi
 refine go 6 ?_
 refine Zc rfl (fun h29=>?_) (fun h29=>?_)
 ·refine go 11 ⟨O2,O2,?_⟩
  refine Mi [] [] ?_
  refine Zq (n:=7) [(1,0)] ?_
  refine go 2 ?_
  refine Pw (n:=6) 0 2 ?_ ?_
  ·refine Fx rfl (Bl (Zoj (i:=3) rfl rfl rfl Tryz.isAgg93 Tryz.sizeOf93 rfl rfl) rfl) (fun _ _=>?_)
   refine Zq (n:=0) [(2,1),(3,1),(4,0),(5,0),(6,0),(7,1)] ?_
   refine Yo (Ze 3 [] (Zv (l.getD i 0) (hl _ (Zk)))) fun _ _=>?_
   refine Yo (Ze 3 [] (Zb7 (Xq (l.take i)) (l.getD i 0) (Nat.le_trans (hb i) O) (Nat.le_trans (Lj (hl _ (Zk))) O))) fun _ _=>?_
   refine go 3 ?_
   refine Db rfl (Zek (i:=3) rfl rfl rfl rfl rfl rfl Tryz.sizeOf93 rfl rfl ⟨Zl rfl,Zl rfl,trivial⟩ rfl hw.h (fun _ h=>nomatch h)) (fun _ _=>?_)
   refine go 1 ?_
   refine Yf ?_
   refine go 6 ⟨O,?_⟩
   exact Xe (i+1) O1 O1 ⟨rfl,trivial⟩ ⟨by rw [Cx O,Nk (by rw [←Cx O];exact Nat.le_trans (hb _) O)];rfl,trivial⟩
  ·refine Lc (Ze 3 [] (Zv (l.getD i 0) (hl _ (Zk)))) fun _ _=>?_
   refine Zq (n:=0) [(0,1),(3,1),(4,0),(5,0),(6,0),(7,1)] ?_
   refine go 1 ?_
   refine Yo (Ze 3 [] (Zb7 (Xq (l.take i)) (l.getD i 0) (Nat.le_trans (hb i) O) (Nat.le_trans (Lj (hl _ (Zk))) O))) fun _ _=>?_
   refine go 3 ?_
   refine Db rfl (Zek (i:=3) rfl rfl rfl rfl rfl rfl Tryz.sizeOf93 rfl rfl ⟨Zl rfl,Zl rfl,trivial⟩ rfl hw.h (fun _ h=>nomatch h)) (fun _ _=>?_)
   refine go 1 ?_
   refine Yf ?_
   refine go 6 ⟨O,?_⟩
   exact Xe (i+1) O1 O1 ⟨rfl,trivial⟩ ⟨by rw [Cx O,Nk (by rw [←Cx O];exact Nat.le_trans (hb _) O)];rfl,trivial⟩
 ·obtain rfl:i=l.length:=O
  refine go 12 ?_
  exact Xj hsc () Tryz.results121 (by rw [List.take_length]) trivial Za
theorem Zb6(x y:Int)(hx:Yt x)(hy:Yt y)(hy0:y≠0):Cal Tryz.prog 174 #[.int .i64 x,.int .i64 y] [] false (G:=Unit) (fun _=>True) (fun _=>Cr x y) (fun _=>[]):=by
 refine Zd Tryz.func174 Tryz.ntmps174 fun w0 sc hw hsc=>?_
 have hbx:=Lj hx
 have hby:=Lj hy
 refine go 2 ?_
 refine Zu (Zp 1) fun bx _=>?_
 refine go 6 ?_
 refine cl 1 [] (Zv _ hx) fun _ _=>?_
 refine go 1 ?_
 refine cl 1 [] (Zv _ hy) fun _ _=>?_
 refine cl 1 [] (Fi _ _ O O hy0) fun _ _=>?_
 refine go 7 ?_
 exact Nn hsc () Tryz.results174 rfl trivial Za
theorem zc6_eq:(Value.agg (List.replicate 36 (Value.int .i64 0)).toArray).cells=Fy (List.replicate 36 0):=rfl
theorem Zl6:(Value.agg (List.replicate 36 (Value.int .i64 0)).toArray).cells.size=36:=rfl
theorem Zpf:Cal Tryz.prog 114 #[] [] false (G:=List Int) (fun r=>Tb r 6 0) (fun r=> .agg (Fy r)) (fun r=>[]):=by
 refine Zd Tryz.func114 Tryz.ntmps114 fun w0 sc hw hsc=>?_
 refine go 2 ?_
 refine tt (Hy (i:=1) rfl rfl Tryz.zeroValue174 rfl rfl hw.h) (fun bx _=>?_)
 refine go 4 ?_
 refine tt (Hy (i:=2) rfl rfl Tryz.zeroValue174 rfl rfl hw.h) (fun bx_2 _=>?_)
 refine go 9 ?_
 refine Zg (Kn 2 (q:=box bx_2 174 (Fy (List.replicate 36 0))) (congrArg (box bx_2 174) zc6_eq) rfl rfl) ?_
 refine lp (G:=Nat×List Int) [0,1] [0,1] (fun q=>[(4,.int .i64 (q.1:Int))]) (fun q=>[(2,box bx_2 174 (Fy q.2))]) (fun q=>(q.1≤6)∧(Tb q.2 q.1 0)) (fun q=>6-q.1) (0,List.replicate 36 0) ⟨O1,Tb.start⟩ ⟨rfl,trivial⟩ ⟨rfl,trivial⟩ ?_
 rintro⟨n,l⟩ ⟨hn,hT⟩
 dsimp only at hn hT
 dsimp only
 have hl:=hT.len
 refine go 6 ?_
 refine Zc rfl (fun h52=>?_) (fun h52=>?_)
 ·refine go 13 ?_
  refine dt (Kp (i:=n) rfl rfl rfl Tryz.underlying174 Tryz.sizeOf173) ?_
  refine dt (Kp (i:=0) rfl rfl rfl Tryz.underlying173 Tryz.sizeOf3 rfl) ?_
  refine tt (Zpa (i:=2) rfl rfl rfl rfl rfl Tryz.sizeOf3 rfl hw.h trivial) (fun _ _=>?_)
  refine go 8 ?_
  refine lp (G:=Nat×List Int) [0,1,2,4] [0,1] (fun q=>[(3,.int .i64 (q.1:Int))]) (fun q=>[(2,box bx_2 174 (Fy q.2))]) (fun q=>(1≤q.1)∧(q.1≤n+1)∧(Tb q.2 n q.1)) (fun q=>n+1-q.1) (1,l.set (0+n*6+0*1) 1) ⟨O1,O1,hT.step O O (by cases n<;>rfl) O⟩ ⟨rfl,trivial⟩ ⟨rfl,trivial⟩ ?_
  rintro⟨k,l2⟩ ⟨hk1,hk2,hT2⟩
  dsimp only at hk1 hk2 hT2
  dsimp only
  have hl2:=hT2.len
  refine go 8 ?_
  refine Zc rfl (fun h54=>?_) (fun h54=>?_)
  ·refine go 4 ?_
   have hv1:=hT2.get (j:=0+(n-1)*6+(k-1)*1) (r:=n-1) (c:=k-1) O O (.inl O) O
   have hv2:=hT2.get (j:=0+(n-1)*6+k*1) (r:=n-1) (c:=k) O O (.inl O) O
   have hb1:=Zlo (n:=n-1) (k:=k-1) 
   have hb2:=Zlo (n:=n-1) (k:=k) 
   refine Mi [] [] ?_
   refine Zq (n:=5) [(0,0),(1,0),(2,0),(3,0),(4,0),(5,0),(6,0),(7,0),(9,0),(10,0),(11,0),(12,0),(13,0),(16,0)] ?_
   refine go 6 ⟨O,O,?_⟩
   refine Qu rfl rfl (stf (Kp (i:=(n-1)) rfl rfl rfl Tryz.underlying174 Tryz.sizeOf173) trivial) ?_
   refine Qu rfl rfl (stf (Kp (i:=(k-1)) rfl rfl rfl Tryz.underlying173 Tryz.sizeOf3) trivial) ?_
   refine go 3 ⟨O,?_⟩
   refine Qu rfl rfl (stf (Kp (i:=(n-1)) rfl rfl rfl Tryz.underlying174 Tryz.sizeOf173) trivial) ?_
   refine Qu rfl rfl (stf (Kp (i:=k) rfl rfl rfl Tryz.underlying173 Tryz.sizeOf3) trivial) ?_
   refine Qu rfl rfl (stf (Kp (i:=n) rfl rfl rfl Tryz.underlying174 Tryz.sizeOf173) trivial) ?_
   refine go 1 ?_
   refine Pw (n:=4) 8 14 ?_ ?_
   ·refine Fx rfl (Bl (Zvi (i:=2) rfl rfl rfl Tryz.isAgg3) rfl) (fun _ _=>?_)
    refine Zq (n:=0) [(14,1),(15,0),(17,0),(18,1)] ?_
    refine Db rfl (Bl (Zvi (i:=2) rfl rfl rfl Tryz.isAgg3) rfl) (fun _ _=>?_)
    refine go 1 ⟨by rw [hv1,hv2];exact⟨O,O⟩,?_⟩
    refine Qu rfl rfl (stf (Kp (i:=k) rfl rfl rfl Tryz.underlying173 Tryz.sizeOf3) trivial) ?_
    refine Db rfl (Zpa (i:=2) rfl rfl rfl rfl rfl Tryz.sizeOf3 rfl hw.h (fun _ h=>nomatch h)) (fun _ _=>?_)
    refine go 1 ?_
    refine Yf ?_
    refine go 7 ⟨O,?_⟩
    exact Xe (k+1,_) ⟨O1,O1,hT2.step O O (by rw [hv1,hv2,Ztg (n:=n) (k:=k)];push_cast;rfl) O⟩ O1 ⟨rfl,trivial⟩ ⟨rfl,trivial⟩
   ·refine Fx rfl (Bl (Zvi (i:=2) rfl rfl rfl Tryz.isAgg3) rfl) (fun _ _=>?_)
    refine Zq (n:=0) [(8,1),(15,0),(17,0),(18,1)] ?_
    refine Db rfl (Bl (Zvi (i:=2) rfl rfl rfl Tryz.isAgg3) rfl) (fun _ _=>?_)
    refine go 1 ⟨by rw [hv1,hv2];exact⟨O,O⟩,?_⟩
    refine Qu rfl rfl (stf (Kp (i:=k) rfl rfl rfl Tryz.underlying173 Tryz.sizeOf3) trivial) ?_
    refine Db rfl (Zpa (i:=2) rfl rfl rfl rfl rfl Tryz.sizeOf3 rfl hw.h (fun _ h=>nomatch h)) (fun _ _=>?_)
    refine go 1 ?_
    refine Yf ?_
    refine go 7 ⟨O,?_⟩
    exact Xe (k+1,_) ⟨O1,O1,hT2.step O O (by rw [hv1,hv2,Ztg (n:=n) (k:=k)];push_cast;rfl) O⟩ O1 ⟨rfl,trivial⟩ ⟨rfl,trivial⟩
  ·refine go 10 ⟨O,?_⟩
   exact Xe (n+1,l2) ⟨O1,hT2.row O⟩ O1 ⟨rfl,trivial⟩ ⟨rfl,trivial⟩
 ·obtain rfl:n=6:=O
  let r0:=l
  refine go 7 ?_
  refine dt (d_lwa (i:=2) rfl rfl rfl Tryz.isAgg174 Tryz.sizeOf174 hl) ?_
  refine tt (Zv1 (i:=1) rfl rfl rfl rfl rfl Tryz.sizeOf174 hl Zl6 rfl hw.h trivial) (fun _ _=>?_)
  refine go 3 ?_
  exact Zl7 (.inl rfl) hsc l _ (fun a w hs=>Zd1 hs Tryz.results114 (Kr (i:=1) (vs:=r0.map (Value.int .i64)) rfl rfl Tryz.isAgg174 Tryz.sizeOf174 (by simpa using hl))) rfl hT rfl Za
def w60(n j k:Nat):Int:=60/(Bq n k:Int)*(Bq j k:Int)
def ctl(c:List Int)(j m:Nat):Int:=Yq (fun k=>c.getD k 0*w60 (c.length-1) j k) m
theorem Zzp(c:List Int)(j m:Nat):ctl c j (m+1)=ctl c j m+c.getD m 0*w60 (c.length-1) j m:=rfl
theorem Zlm:∀{n k:Nat},k≤n→0<Bq n k
 | n,0,_=>by cases n<;>exact Nat.one_pos
 | n+1,k+1,h=>by
  have:=Zlm (n:=n) (k:=k) O
  show 0<Bq n k+Bq n (k+1);omega
theorem Zo5{n j k:Nat}(hj:j≤5):0≤w60 n j k∧w60 n j k≤1920:=by
 have h1:=Zlo (k:=k) hj
 unfold w60
 have h2:(0:Int)≤60/(Bq n k:Int):=Int.ediv_nonneg O3 O
 have h3:(60:Int)/(Bq n k:Int)≤60:=Int.ediv_le_self _ O3
 refine⟨Int.mul_nonneg h2 O,?_⟩
 have:=Int.mul_le_mul h3 (show(Bq j k:Int)≤32 by omega) O O3
 omega
theorem Zhv{n j k:Nat}(hj:j≤5):bl (w60 n j k).natAbs≤11:=by
 have:=Zo5 (n:=n) (k:=k) hj
 exact(Xh 11 _).2 O
theorem Xv{c:List Int}(h:∀x∈c,Yt x)(k:Nat):Yt (c.getD k 0):=by
 by_cases hk:k<c.length
 ·exact h _ (Zk hk)
 ·rw [List.getD_eq_getElem?_getD,List.getElem?_eq_none O];exact⟨O3,O3⟩
theorem Zak{c:List Int}(h:∀x∈c,Yt x){j m:Nat}(hj:j≤5)(hm:m≤31):bl (ctl c j m).natAbs≤80:=
 Zfu (K:=75) (fun k _=>by
  have h1:=Lj (Xv h k)
  have h2:=Zhv (n:=c.length-1) (k:=k) hj
  have:=Yp (c.getD k 0) (w60 (c.length-1) j k)
  omega) hm
def Zlu(c:List Int)(over:Int):Bool:=(List.range c.length).all fun j=>decide ((ctl c j (j+1)).natAbs≤62914560*over)
theorem Zzx{c:List Int}{over:Int}(h:∀j,j<c.length→((ctl c j (j+1)).natAbs:Int)≤62914560*over):Zlu c over=true:=by
 unfold Zlu
 rw [List.all_eq_true]
 intro j hj
 exact decide_eq_true (h j (List.mem_range.1 hj))
theorem Zqn{c:List Int}{over:Int}{j:Nat}(hj:j<c.length)(h:¬((ctl c j (j+1)).natAbs:Int)≤62914560*over):Zlu c over=false:=by
 cases hb:Zlu c over with
 | false=>rfl
 | true=>
  unfold Zlu at hb
  rw [List.all_eq_true]at hb
  exact absurd (of_decide_eq_true (hb j (List.mem_range.2 hj))) h
theorem wc_abs(s:Int):(#[.bool false,.string (Xi s.natAbs)]:Array Value)=wc (s.natAbs:Int):=by
 have:decide (((s.natAbs:Nat):Int)<0)=false:=decide_eq_false O
 rw [show wc (s.natAbs:Int)=#[.bool (decide (((s.natAbs:Nat):Int)<0)),.string (Xi ((s.natAbs:Nat):Int).natAbs)]from rfl,this,Int.natAbs_natCast]
theorem sgp(z:Int):0<z.sign↔0<z:=by simpa using Gx z
theorem Zf8(v:Value)(c:List Int)(over:Int)(hc:∀x∈c,Yt x)(hl1:1≤c.length)(hl:c.length≤6)(ho:1≤over)(ho2:over≤4294967296):Cal Tryz.prog 73 #[v,.int .i64 over] [Yb 1 Zy v c] false (G:=Unit) (fun _=>True) (fun _=> .bool (Zlu c over)) (fun _=>[]):=by
 refine Zd Tryz.func73 Tryz.ntmps73 fun w0 sc hw hsc=>?_
 have hbo:bl (62914560*over).natAbs≤90:=(Xh 90 _).2 O
 have hbo2:bl over.natAbs≤40:=(Xh 40 _).2 O
 refine go 7 ?_
 refine cl 1 [] (Zpf) fun g hg=>?_
 refine tt (Hy (i:=2) rfl rfl Tryz.zeroValue174 rfl rfl hw.h) (fun bx _=>?_)
 refine tt (Zv1 (i:=2) rfl rfl rfl rfl rfl Tryz.sizeOf174 hg.len Zl6 rfl hw.h trivial) (fun _ _=>?_)
 refine Zr (Kn 2 (q:=box bx 174 (Fy g)) rfl rfl rfl) ?_
 refine go 4 ?_
 refine cl 2 [] (Zv 62914560 ⟨O3,O3⟩) fun _ _=>?_
 refine go 1 ?_
 refine cl 2 [] (Zv over ⟨O,O⟩) fun _ _=>?_
 refine cl 2 [] (Zdz 62914560 over O3 O) fun _ _=>?_
 refine Zu (Zp 3) fun bx_2 _=>?_
 refine go 20 ⟨O,?_⟩
 refine lp (G:=Nat) [0,5,6,7,20] [0,1,2,3] (fun j=>[(21,.int .i64 (j:Int))]) (fun j=>[]) (fun j=>(j≤c.length)∧(∀i,i<j→((ctl c i (i+1)).natAbs:Int)≤62914560*over)) (fun j=>c.length-j) 0 ⟨O1,fun i hi=>absurd hi (Nat.not_lt_zero i)⟩ ⟨rfl,trivial⟩ trivial ?_
 rintro j ⟨hj,hz⟩
 refine go 6 ?_
 refine Zc rfl (fun h69=>?_) (fun h69=>?_)
 ·refine go 12 ?_
  refine Zu (Zp 4) fun bx_3 _=>?_
  refine go 11 ⟨O,?_⟩
  refine lp (G:=Nat) [0,5,6,7,8,9,20,21,25] [0,1,2,3] (fun k=>[(26,.int .i64 (k:Int))]) (fun k=>[(4,box bx_3 93 (wc (ctl c j k)))]) (fun k=>k≤j+1) (fun k=>j+1-k) 0 O1 ⟨rfl,trivial⟩ ⟨rfl,trivial⟩ ?_
  rintro k hk
  refine go 6 ?_
  refine Zc rfl (fun h71=>?_) (fun h71=>?_)
  ·refine go 10 ?_
   have hw6:=Zo5 (n:=(c.length-1)) (j:=j) (k:=k) O
   refine Xt (fun _=>False) [(0,0),(1,0),(2,0),(3,0),(4,0),(6,0),(7,0),(8,0),(9,0),(10,0),(11,0),(12,0),(13,0),(14,0),(15,0),(16,0),(17,0),(5,1),(18,1),(19,1),(20,1),(21,3)] ?_
   refine go 3 ?_
   refine Qu rfl rfl (Pb (Yj (ii:=1) (i:=k) rfl rfl rfl rfl Zi Tryz.underlying22 Tryz.sizeOf3 rfl)) ?_
   refine go 3 ⟨O,?_⟩
   refine Qu rfl rfl (Pb (Kp (i:=(c.length-1)) rfl rfl rfl Tryz.underlying174 Tryz.sizeOf173)) ?_
   refine Qu rfl rfl (Pb (Kp (i:=k) rfl rfl rfl Tryz.underlying173 Tryz.sizeOf3)) ?_
   refine Qu rfl rfl (Pb (Zx (r':= .int .i64 (Bq (c.length-1) k:Int)) (Zvi (i:=2) rfl rfl rfl Tryz.isAgg3 (by have:=hg.len;omega)) (congrArg (Value.int .i64) (hg.get O O (.inl O) O)))) ?_
   refine Qu rfl rfl (Pb (Zbf rfl rfl rfl O3 O3 (by have:=Zlm (n:=(c.length-1)) (k:=k) O;omega))) ?_
   refine go 2 ?_
   refine Qu rfl rfl (Pb (Kp (i:=j) rfl rfl rfl Tryz.underlying174 Tryz.sizeOf173)) ?_
   refine Qu rfl rfl (Pb (Kp (i:=k) rfl rfl rfl Tryz.underlying173 Tryz.sizeOf3)) ?_
   refine Qu rfl rfl (Pb (Zx (r':= .int .i64 (Bq j k:Int)) (Zvi (i:=2) rfl rfl rfl Tryz.isAgg3 (by have:=hg.len;omega)) (congrArg (Value.int .i64) (hg.get O O (.inl O) O)))) ?_
   refine go 1 ⟨show Yt (w60 (c.length-1) j k)from⟨O,O⟩,?_⟩
   refine Yo (Ze 4 [] (Zv (c.getD k 0) (Xv hc k))) fun _ _=>?_
   refine Yo (Ze 4 [] (Zv (w60 (c.length-1) j k) ⟨O,O⟩)) fun _ _=>?_
   refine Yo (Ze 4 [] (Zdz (c.getD k 0) (w60 (c.length-1) j k) (Nat.le_trans (Lj (Xv hc k)) O3) (Nat.le_trans (Zhv O) O3))) fun _ _=>?_
   refine Yo (Ze 4 [] (Zwi (ctl c j k) (c.getD k 0*(w60 (c.length-1) j k)) (Nat.le_trans (Zak hc O O) O3) (Nat.le_trans (Yp _ _) (by have h1:=Lj (Xv hc k);have h2:=Zhv (n:=(c.length-1)) (j:=j) (k:=k) O;omega)))) fun _ _=>?_
   refine go 8 ⟨O,?_⟩
   exact Xe (k+1) O1 O1 ⟨rfl,trivial⟩ ⟨by rw [Zzp];rfl,trivial⟩
  ·obtain rfl:k=j+1:=O
   refine go 9 ?_
   refine Zr (Kn 4 (q:=box bx_3 93 (wc ((ctl c j (j+1)).natAbs:Int))) (congrArg (box bx_3 93) (wc_abs _)) rfl rfl) ?_
   refine go 6 ?_
   refine cl 4 [] (Zjt ((ctl c j (j+1)).natAbs:Int) (62914560*over) (by rw [Int.natAbs_natCast];exact Nat.le_trans (Zak hc O O) O3) O) fun _ _=>?_
   refine go 3 ?_
   refine Zc rfl (fun h74=>?_) (fun h74=>?_)
   ·have hgt:=(sgp _).1 h74
    refine go 11 ?_
    exact Xj hsc () Tryz.results73 (by rw [Zqn (j:=j) O O]) trivial Za
   ·have hle:((ctl c j (j+1)).natAbs:Int)≤62914560*over:=Int.not_lt.1 fun h9=>h74 ((sgp _).2 O)
    refine go 7 ⟨O,?_⟩
    exact Xe (j+1) ⟨O1,fun i hi=>by rcases Nat.lt_succ_iff_lt_or_eq.1 hi with h9 | h9;exact hz i h9;subst h9;exact hle⟩ O1 ⟨rfl,trivial⟩ trivial
 ·refine go 11 ?_
  exact Xj hsc () Tryz.results73 (by rw [Zzx fun i hi=>hz i O]) trivial Za
def axB(c:List Int)(over:Int):Bool:=decide (1≤c.length) && decide (c.length≤6) && !(decide (1<c.length) && decide (c.getD (c.length-1) 0=0)) && Zlu c over
def Ie(g:Int):List Int→Int
 | []=>g
 | x :: r=>Ie (Int.gcd g x) r
theorem Dx:∀(a b:List Int) (g:Int),Ie g (a ++ b)=Ie (Ie g a) b
 | [],_,_=>rfl
 | x :: a,b,g=>Dx a b _
theorem Za5{l:List Int}{i:Nat}(g:Int)(h:i<l.length):Ie g (l.take (i+1))=(Int.gcd (Ie g (l.take i)) (l.getD i 0):Int):=by
 rw [Pi 0 _ _ h,Dx];rfl
theorem Zlx:∀{l:List Int} {g:Int} {m:Nat},(∀x∈l,bl x.natAbs≤m)→bl g.natAbs≤m→bl (Ie g l).natAbs≤m
 | [],_,_,_,h=>h
 | x :: l,g,m,h,hg=>Zlx (l:=l) (fun y hy=>h y (List.mem_cons_of_mem _ hy)) (Nat.le_trans (Zfv g x) (by have:=h x (List.mem_cons_self ..);omega))
abbrev Cs:=List Int×List Int×List Int
def Ya1(fr to ov:Int):Bool:=decide (0≤fr) && decide (fr<to) && decide (to≤3600000) && decide (1≤ov) && decide (ov≤4294967296)
def Lm(fr to ov:Int)(x y z:List Int):Bool:=Ya1 fr to ov && axB x ov && axB y ov && axB z ov && decide (Ie ov (x ++ y ++ z)=1)
def Kk(i:Nat)(x y z:List Int):List Int:=match i with
 | 0=>[]
 | 1=>x
 | 2=>x ++ y
 | _=>x ++ y ++ z
theorem Es{i:Nat}(x y z:List Int)(h:i<3):Kk (i+1) x y z=Kk i x y z ++ Yh i x y z:=by
 match i,h with
 | 0,_=>rfl
 | 1,_=>rfl
 | 2,_=>rfl
theorem Af{fr to ov:Int}{x y z:List Int}{i:Nat}(h:axB (Yh i x y z) ov=false):Lm fr to ov x y z=false:=by
 unfold Lm
 revert h
 unfold Yh
 split<;>intro h<;>simp [h]
theorem Da{fr to ov:Int}{x y z:List Int}(h:¬(0≤fr∧fr<to∧to≤3600000∧1≤ov∧ov≤4294967296)):Lm fr to ov x y z=false:=by
 cases hb:Lm fr to ov x y z with
 | false=>rfl
 | true=>
  unfold Lm Ya1 at hb
  simp only [Bool.and_eq_true,decide_eq_true_eq]at hb
  exact absurd O h
theorem Zhz{c:List Int}{ov:Int}(h:1≤c.length→c.length≤6→¬(1<c.length∧c.getD (c.length-1) 0=0)→Zlu c ov=true→False):axB c ov=false:=by
 cases hb:axB c ov with
 | false=>rfl
 | true=>
  unfold axB at hb
  simp only [Bool.and_eq_true,Bool.not_eq_true',Bool.and_eq_false_iff,decide_eq_true_eq,decide_eq_false_iff_not]at hb
  exact(h hb.1.1.1 hb.1.1.2 (fun h9=>by rcases hb.1.2 with h8 | h8;exact h8 h9.1;exact h8 h9.2) hb.2).elim
theorem Zz9{c:List Int}{ov:Int}(h1:1≤c.length)(h2:c.length≤6)(h3:¬(1<c.length∧c.getD (c.length-1) 0=0))(h4:Zlu c ov=true):axB c ov=true:=by
 unfold axB
 simp only [Bool.and_eq_true,Bool.not_eq_true',Bool.and_eq_false_iff,decide_eq_true_eq,decide_eq_false_iff_not]
 refine⟨⟨⟨h1,h2⟩,?_⟩,h4⟩
 by_cases h5:1<c.length
 ·exact .inr fun h6=>h3 ⟨h5,h6⟩
 ·exact .inl h5
theorem Zwu{fr to ov:Int}{x y z:List Int}(h1:0≤fr∧fr<to∧to≤3600000∧1≤ov∧ov≤4294967296)(h2:∀k,k<3→axB (Yh k x y z) ov=true):Lm fr to ov x y z=decide (Ie ov (Kk 3 x y z)=1):=by
 have a0:axB x ov=true:=h2 0 O3
 have a1:axB y ov=true:=h2 1 O3
 have a2:axB z ov=true:=h2 2 O3
 unfold Lm Ya1
 rw [decide_eq_true h1.1,decide_eq_true h1.2.1,decide_eq_true h1.2.2.1,decide_eq_true h1.2.2.2.1,decide_eq_true h1.2.2.2.2,a0,a1,a2]
 rfl
theorem Mh{x y z:List Int}(hx:∀a∈x,Yt a)(hy:∀a∈y,Yt a)(hz:∀a∈z,Yt a)(i:Nat):∀a∈Yh i x y z,Yt a:=Zmx (p:=fun l=>∀a∈l,Yt a) hx hy hz
theorem bl_fc{x y z:List Int}(hx:∀a∈x,Yt a)(hy:∀a∈y,Yt a)(hz:∀a∈z,Yt a){ov:Int}(ho:bl ov.natAbs≤64)(i k:Nat):bl (Ie (Ie ov (Kk i x y z)) ((Yh i x y z).take k)).natAbs≤64:=by
 refine Zlx (fun a ha=>Lj (Mh hx hy hz i a (List.mem_of_mem_take ha))) (Zlx (fun a ha=>Lj ?_) ho)
 unfold Kk at ha
 split at ha
 ·cases ha
 ·exact hx a ha
 ·rcases List.mem_append.1 ha with h | h
  ·exact hx a h
  ·exact hy a h
 ·rcases List.mem_append.1 ha with h | h
  ·rcases List.mem_append.1 h with h | h
   ·exact hx a h
   ·exact hy a h
  ·exact hz a h
theorem _root_.Go.Proofs.Tryz.ti124:Tryz.prog.info? 124=some Tryz.t124:=O6
theorem Zow{v0 v1 v2:Value}(h0:v0.oneCell'=true)(h1:v1.oneCell'=true)(h2:v2.oneCell'=true):Tryz.prog.built 124 [(0,v0),(1,v1),(2,v2)]=some #[v0,v1,v2]:=by
 refine Zvl _ Tryz.ti124 Tryz.underlying124 rfl Tryz.ti22 ?_
 rw [show Tryz.t22.size=1 from rfl]
 rw [show(Value.agg #[.slice none 0 0,.slice none 0 0,.slice none 0 0]).cells=#[.slice none 0 0,.slice none 0 0,.slice none 0 0]from rfl]
 simp [Instr.fill,Yd h0,Yd h1,Yd h2]
theorem Zq7(fr to ov:Int)(vx vy vz:Value)(x y z:List Int):Cal Tryz.prog 72 #[.agg #[.int .i64 fr,.int .i64 to,.int .i64 ov,vx,vy,vz]] [Yb 1 Zy vx x,Yb 1 Zy vy y,Yb 1 Zy vz z] false (G:=Unit) (fun _=>True) (fun _=> .agg #[vx,vy,vz]) (fun _=>[]):=by
 refine Zd Tryz.func72 Tryz.ntmps72 fun w0 sc hw hsc=>?_
 refine go 2 ?_
 refine Zu (Zw 4) fun bx _=>?_
 refine Zu (Zp 5) fun bx_2 _=>?_
 refine go 10 ?_
 refine dt (Xl (ivs:=[(0,_),(1,_),(2,_)]) rfl ⟨rfl,rfl,rfl,rfl,rfl,rfl,trivial⟩ (fun a w hs=>Zow ((Pn (i:=1) rfl Zi) a w hs) ((Pn (i:=2) rfl Zi) a w hs) ((Pn (i:=3) rfl Zi) a w hs))) ?_
 refine go 4 ?_
 exact Xj hsc () Tryz.results72 rfl trivial Za
theorem Km(fr to ov:Int)(vx vy vz:Value)(x y z:List Int)(hfr:Yt fr)(hto:Yt to)(hov:Yt ov)(hx:∀a∈x,Yt a)(hy:∀a∈y,Yt a)(hz:∀a∈z,Yt a):Cal Tryz.prog 36 #[.agg #[.int .i64 fr,.int .i64 to,.int .i64 ov,vx,vy,vz]] [Yb 1 Zy vx x,Yb 1 Zy vy y,Yb 1 Zy vz z] false (G:=Unit) (fun _=>True) (fun _=> .bool (Lm fr to ov x y z)) (fun _=>[]):=by
 refine Zd Tryz.func36 Tryz.ntmps36 fun w0 sc hw hsc=>?_
 have hbo:=Lj hov
 have hfc:=fun i k=>bl_fc hx hy hz hbo i k
 have hfc0:=fun i=>hfc i 0
 simp only [List.take_zero,Ie]at hfc0
 refine go 2 ?_
 refine Zu (Zw 4) fun bx _=>?_
 refine go 10 ?_
 refine Yn (d:=11) rfl (fun s83=>?_) (fun s83=>?_)
 ·refine go 31 ?_
  exact Xj hsc () Tryz.results36 (by rw [Da O]) trivial Za
 ·refine go 7 ?_
  refine Yn (d:=18) rfl (fun s83_2=>?_) (fun s83_2=>?_)
  ·refine go 24 ?_
   exact Xj hsc () Tryz.results36 (by rw [Da O]) trivial Za
  ·refine go 5 ?_
   refine Yn (d:=23) rfl (fun s83_3=>?_) (fun s83_3=>?_)
   ·refine go 19 ?_
    exact Xj hsc () Tryz.results36 (by rw [Da O]) trivial Za
   ·refine go 5 ?_
    refine Yn (d:=28) rfl (fun s83_4=>?_) (fun s83_4=>?_)
    ·refine go 14 ?_
     exact Xj hsc () Tryz.results36 (by rw [Da O]) trivial Za
    ·refine go 6 ?_
     refine Zc rfl (fun h83=>?_) (fun h83=>?_)
     ·refine go 7 ?_
      exact Xj hsc () Tryz.results36 (by rw [Da O]) trivial Za
     ·refine go 6 ?_
      refine cl 4 [] (Zv ov hov) fun _ _=>?_
      refine Zu (Zp 5) fun bx_2 _=>?_
      refine go 7 ?_
      refine cl 5 [1,2,3] (Zq7 _ _ _ _ _ _ _ _ _) fun _ _=>?_
      refine go 4 ?_
      refine lp (G:=Nat) [1,3,37] [0,1,2,3,4] (fun i=>[(38,.int .i64 (i:Int))]) (fun i=>[(5,box bx_2 93 (wc (Ie ov (Kk i x y z))))]) (fun i=>(i≤3)∧(∀k,k<i→axB (Yh k x y z) ov=true)) (fun i=>3-i) 0 ⟨O1,fun k hk=>absurd hk (Nat.not_lt_zero k)⟩ ⟨rfl,trivial⟩ ⟨rfl,trivial⟩ ?_
      rintro i ⟨hi,hax⟩
      refine go 6 ?_
      refine Zc rfl (fun h87=>?_) (fun h87=>?_)
      ·refine go 5 ?_
       refine Zg (Zj2 i 1 2 3 50 rfl rfl rfl rfl rfl rfl) ?_
       refine go 1 ?_
       refine dt (Zs6 (i:=i) rfl rfl rfl Tryz.underlying124 Tryz.sizeOf22 Tryz.isAgg22 rfl) ?_
       refine go 10 ?_
       refine Yn (d:=44) rfl (fun s88=>?_) (fun s88=>?_)
       ·refine go 40 ?_
        exact Xj hsc () Tryz.results36 (by rw [Af (i:=i) (Zhz fun h1 h2 h3 h4=>by first | omega | simp_all)]) trivial Za
       ·refine go 5 ?_
        refine Yn (d:=49) rfl (fun s88_2=>?_) (fun s88_2=>?_)
        ·refine go 35 ?_
         exact Xj hsc () Tryz.results36 (by rw [Af (i:=i) (Zhz fun h1 h2 h3 h4=>by first | omega | simp_all)]) trivial Za
        ·refine go 4 ?_
         refine Yn (d:=53) rfl (fun s88_3=>?_) (fun s88_3=>?_)
         ·refine go 4 ⟨O,?_⟩
          refine Gt (Yj (ii:=50) (i:=((Yh i x y z).length-1)) rfl rfl rfl rfl Zi Tryz.underlying22 Tryz.sizeOf3) rfl rfl ?_
          refine go 5 ⟨O,?_⟩
          refine Yn (d:=63) rfl (fun s88_4=>?_) (fun s88_4=>?_)
          ·refine go 21 ?_
           exact Xj hsc () Tryz.results36 (by rw [Af (i:=i) (Zhz fun h1 h2 h3 h4=>by first | omega | simp_all)]) trivial Za
          ·refine go 3 ?_
           refine Gu 5 [50] (Zf8 _ (Yh i x y z) ov (Mh hx hy hz i) O O O O) fun _ _=>?_
           refine go 4 ?_
           refine Ot rfl (fun h88=>?_) (fun h88=>?_)
           ·refine go 12 ?_
            exact Xj hsc () Tryz.results36 (by rw [Af (i:=i) (Zhz fun h1 h2 h3 h4=>by first | omega | simp_all)]) trivial Za
           ·refine go 10 ?_
            refine lp (G:=Nat) [1,3,37,38,45,46,47,50,51,52,53,54,55,56,57,58,59,60,61,64,65,66,67,68,70,71] [0,1,2,3,4,50] (fun k=>[(72,.int .i64 (k:Int))]) (fun k=>[(5,box bx_2 93 (wc (Ie (Ie ov (Kk i x y z)) ((Yh i x y z).take k))))]) (fun k=>k≤(Yh i x y z).length) (fun k=>(Yh i x y z).length-k) 0 O1 ⟨rfl,trivial⟩ ⟨rfl,trivial⟩ ?_
            rintro k hk
            refine go 6 ?_
            refine Zc rfl (fun h91=>?_) (fun h91=>?_)
            ·refine go 11 ⟨O2,O2,?_⟩
             refine Xt (fun _=>False) [(0,0),(1,0),(2,1),(3,1),(4,3)] ?_
             refine go 2 ?_
             refine Yo (Ze 5 [] (Zv ((Yh i x y z).getD k 0) (Xv (Mh hx hy hz i) k))) fun _ _=>?_
             refine Yo (Ze 5 [] (Zpe (Ie (Ie ov (Kk i x y z)) ((Yh i x y z).take k)) ((Yh i x y z).getD k 0) (Nat.le_trans (hfc i k) O3) (Nat.le_trans (Lj (Xv (Mh hx hy hz i) k)) O3))) fun _ _=>?_
             refine go 8 ⟨O,?_⟩
             exact Xe (k+1) O1 O1 ⟨rfl,trivial⟩ ⟨by rw [Za5 _ O];rfl,trivial⟩
            ·obtain rfl:k=(Yh i x y z).length:=O
             rw [List.take_length]
             refine go 10 ⟨O,?_⟩
             exact Xe (i+1) ⟨O1,fun k hk=>by rcases Nat.lt_succ_iff_lt_or_eq.1 hk with h9 | h9;exact hax k h9;subst h9;exact Zz9 O O (by first | omega | simp_all) (by simp_all)⟩ O1 ⟨rfl,trivial⟩ ⟨by rw [Es x y z O,Dx];rfl,trivial⟩
         ·refine go 13 ?_
          refine Gu 5 [50] (Zf8 _ (Yh i x y z) ov (Mh hx hy hz i) O O O O) fun _ _=>?_
          refine go 4 ?_
          refine Ot rfl (fun h88_2=>?_) (fun h88_2=>?_)
          ·refine go 12 ?_
           exact Xj hsc () Tryz.results36 (by rw [Af (i:=i) (Zhz fun h1 h2 h3 h4=>by first | omega | simp_all)]) trivial Za
          ·refine go 10 ?_
           refine lp (G:=Nat) [1,3,37,38,45,46,47,50,51,52,53,54,55,56,57,58,59,60,61,64,65,66,67,68,70,71] [0,1,2,3,4,50] (fun k=>[(72,.int .i64 (k:Int))]) (fun k=>[(5,box bx_2 93 (wc (Ie (Ie ov (Kk i x y z)) ((Yh i x y z).take k))))]) (fun k=>k≤(Yh i x y z).length) (fun k=>(Yh i x y z).length-k) 0 O1 ⟨rfl,trivial⟩ ⟨rfl,trivial⟩ ?_
           rintro k hk
           refine go 6 ?_
           refine Zc rfl (fun h91_2=>?_) (fun h91_2=>?_)
           ·refine go 11 ⟨O2,O2,?_⟩
            refine Xt (fun _=>False) [(0,0),(1,0),(2,1),(3,1),(4,3)] ?_
            refine go 2 ?_
            refine Yo (Ze 5 [] (Zv ((Yh i x y z).getD k 0) (Xv (Mh hx hy hz i) k))) fun _ _=>?_
            refine Yo (Ze 5 [] (Zpe (Ie (Ie ov (Kk i x y z)) ((Yh i x y z).take k)) ((Yh i x y z).getD k 0) (Nat.le_trans (hfc i k) O3) (Nat.le_trans (Lj (Xv (Mh hx hy hz i) k)) O3))) fun _ _=>?_
            refine go 8 ⟨O,?_⟩
            exact Xe (k+1) O1 O1 ⟨rfl,trivial⟩ ⟨by rw [Za5 _ O];rfl,trivial⟩
           ·obtain rfl:k=(Yh i x y z).length:=O
            rw [List.take_length]
            refine go 10 ⟨O,?_⟩
            exact Xe (i+1) ⟨O1,fun k hk=>by rcases Nat.lt_succ_iff_lt_or_eq.1 hk with h9 | h9;exact hax k h9;subst h9;exact Zz9 O O (by first | omega | simp_all) (by simp_all)⟩ O1 ⟨rfl,trivial⟩ ⟨by rw [Es x y z O,Dx];rfl,trivial⟩
      ·obtain rfl:i=3:=O
       refine go 6 ?_
       refine Xt (fun _=>False) [(0,0),(1,1),(2,0),(3,3)] ?_
       refine go 1 ?_
       refine Yo (Ze 5 [] (Zv 1 ⟨O3,O3⟩)) fun _ _=>?_
       refine Qu rfl rfl (Pb (Zhp rfl rfl rfl eg93 (fun w=>eql93 w _ _ _ _))) ?_
       refine go 4 ?_
       exact Xj hsc () Tryz.results36 (by rw [Zqa,Zwu O hax]) trivial Za
end Go.Sky

