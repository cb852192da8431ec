/- Rules, arithmetic and contracts: part 12. No conditions but those that each theorem names. -/
import Derived.Test.YteikicbnfbgpnaaGreatDb10
set_option linter.all false
set_option maxHeartbeats 4000000
namespace Go.Sky
open Go.Proofs.Tryz
open Go.Proofs
set_option synthInstance.maxHeartbeats 0
set_option synthInstance.maxSize 100000
set_option maxRecDepth 20000
set_option maxHeartbeats 4000000
set_option linter.unusedSimpArgs false
theorem rp_to(v:Value)(zs:List (Int×SL))(hs:Sz 1000000 (Yf zs))(hl:zs.length≤1000):Cal prog 24 #[v] [pp v zs] false (G:=Value) (fun r=>True) (fun r=>r) (fun r=>[Yh 2 wv r (Yf zs)]):=by
 refine Zd func24 ntmps24 fun w0 sc hw hsc=>?_
 have hli:=Qt zs
 refine go 17 ?_
 refine Zf (Pm 70 2 80 wv)<|lp (G:=Nat×Value) [0] [0,1] (fun q=>[(4,.int .i64 (q.1:Int)),(3,q.2)]) (fun q=>[(70,Oa 2 80 wv q.2 ((Yf zs).take q.1))]) (fun q=>q.1≤zs.length) (fun q=>zs.length-q.1) (0,.slice none 0 0) O1 K2 K1 ?_
 rintro⟨i,vo⟩ hi
 dsimp only at hi
 dsimp only
 have htl:((Yf zs).take i).length=i:=by rw [List.length_take];omega
 have hci:=Hf zs i
 refine go 9 ?_
 refine Zc J (fun h50=>?_) (fun h50=>?_)
 ·refine go 9 ⟨O2,?_⟩
  refine dt (Oi (ii:=1) I0 J J J Zn pI O2)<|tt (Ov (n:=1) (r_to _ _ (by rw [hci];have:=hs i;omega)) J J J K1 call76 (Gj 1 J J (Zj) Ya) J hw.h) (fun _ _=>?_)
  refine tt (Qh (i:=2) (ivs:=[(0,_)]) (enc:=wv) [(zs.getD i I0).1] J J K2 Nf ti80 J J J J J pV.cells J J hw.h) (fun v _=>?_)
  refine tt (Nz (i:=70) (j:=2) (by_:=24) J J J J J J O3 J (Ys pV) Nf ti80 J pV J J J O8 O3 J hw.h) fun v_2 _=>go 9 ⟨O,?_⟩
  exact Xf (i+1,_) O1 O1 K2 ⟨by rw [Po 0 _ _ O,show(Yf zs).getD i 0=(zs.getD i I0).1 from hci.symm];rfl,trivial⟩
 ·refine go 12 ?_
  exact Xn hsc _ results24 J trivial (gow 70 Za (List.take_of_length_le O))
theorem Zbl(v:Value)(zs:List (Int×SL))(hs:Sz 3000000000 (Yf zs)):Cal prog 82 #[v] [pp v zs] true (G:=Value×List (Int×SL)) (fun r=>Yf r.2=tzl (Yf zs)) (fun r=>r.1) (fun r=>[pp r.1 r.2]):=by
 refine Zd func82 ntmps82 fun w0 sc hw hsc=>?_
 refine Nw (Zqg (i:=1) J) (fun hself=>?_)
 refine Nw (Gp (i:=1) J Zn) (fun hlen=>?_)
 have hli:=Qt zs
 refine go 7 ?_
 refine lp (G:=Nat) [] [0] (fun k=>[(0,Le v k)]) (fun k=>[(1,pp (Le v k) (zs.take k))]) (fun k=>(k≤zs.length)∧(tzl ((Yf zs).take k)=tzl (Yf zs))) (fun k=>k) zs.length ⟨Nat.le_refl _,by rw [List.take_of_length_le O]⟩ ⟨by rw [hself];rfl,trivial⟩ ⟨by rw [hself,List.take_length];rfl,trivial⟩ ?_
 rintro k ⟨hk,ht⟩
 have hl:(zs.take k).length=k:=by rw [List.length_take];omega
 have hce:((zs.take k).getD (k-1) I0).1=((Yf zs).take k).getD (k-1) 0:=by rw [Hf,Ze4];rfl
 refine go 7 ?_
 refine Yt (d:=6) J (fun s22=>?_) (fun s22=>?_)
 ·refine go 4 ⟨O,?_⟩
  refine Ej (Yn (ii:=1) (i:=k-1) J J J J Zn Ze2 zT89) J J<|Ej (Oi (ii:=1) I0 J J J Zn pI) J J<|gtt (Ov (n:=1) (Zl0 _ _ (by rw [hce];exact(hs.take _).getD _)) J J J K1 call130 (Gj 1 J J (Zj) Ya) J hw.h) J J J J fun _ _=>go 4 ?_
  refine Zc J (fun h22=>?_) (fun h22=>?_)
  ·rw [hce]at h22
   have hstep:=Zoh (xs:=Yf zs) (k:=k) O O (Zhk (k:=k) O (Int.sign_eq_zero_iff_zero.1 h22))
   refine go 8 ⟨O,?_⟩
   refine dt (Zv2 (ii:=1) (i:=k-1) J J J J Zn Ze2 zT89)<|go 3 ?_
   exact Yg (Zxl 1 1 (k-1) J J O)<|Xf (k-1) ⟨O1,by rw [←ht,←hstep]⟩ O1 ⟨by rw [←Hr v k (k-1)];rfl,trivial⟩ ⟨by rw [Hr,List.take_take,Nat.min_eq_left O];rfl,trivial⟩
  ·try rw [hce]at h22
   refine go 12 ?_
   exact Xn hsc (_,zs.take k) results82 J (by rw [Ze4,←ht];exact(Zdh O (by first | (left;omega) | (right;exact Zdm (k:=k) O ‹_›))).symm) (Ot 1 Za)
 ·refine go 24 ?_
  exact Xn hsc (_,zs.take k) results82 J (by rw [Ze4,←ht];exact(Zdh O (by first | (left;omega) | (right;exact Zdm (k:=k) O ‹_›))).symm) (Ot 1 Za)
theorem Ygc(v:Value)(l:List Int)(hl:∀x∈l,Xx x)(hlen:l.length≤1000):Cal prog 67 #[v] [Yh 1 Zx v l] true (G:=Value×List (Int×SL)) (fun r=>Yf r.2=tzl l) (fun r=>r.1) (fun r=>[pp r.1 r.2]):=by
 refine Zd func67 ntmps67 fun w0 sc hw hsc=>?_
 have hsz:=Zgo hl
 refine go 17 ?_
 refine Zf (Pm 70 2 89 Fl)<|Zf (Yw qI 71)<|lp (G:=Nat×Value×List (Int×SL)) [0] [0,1] (fun q=>[(4,.int .i64 (q.1:Int)),(3,q.2.1)]) (fun q=>[(70,Oa 2 89 Fl q.2.1 q.2.2),(71,Ia qI q.2.2)]) (fun q=>(q.1≤l.length)∧(Yf q.2.2=mk q.1 (cf l))∧(q.2.2.length=q.1)) (fun q=>l.length-q.1) (0,.slice none 0 0,[]) ⟨O1,rfl,rfl⟩ K2 K2 ?_
 rintro⟨i,vo,ws⟩ ⟨hi,hz,hzl⟩
 dsimp only at hi hz hzl
 dsimp only
 refine go 9 ?_
 refine Zc J (fun h59=>?_) (fun h59=>?_)
 ·refine go 10 ⟨O2,O2,?_⟩
  refine cl 2 [] (Ny _ (hl _ (Zj))) fun v _=>?_
  refine Zya (Px 2 J Zk) (fun sl hsl=>?_)
  subst hsl
  refine tt (Qh (i:=3) (ivs:=[(0,_)]) (enc:=Fl) [(l.getD i 0,sl)] J J K2 Ze2 ti89 J J J J J pI.cells J J hw.h) (fun v_2 _=>?_)
  refine tt (Nz (i:=70) (j:=3) (by_:=32) J J J J J J O3 J (Ys pI) Ze2 ti89 J pI J J J O8 O3 J hw.h) fun v_3 _=>go 9 ⟨O,?_⟩
  exact Yg (Zi (q:=qI) (z:=(l.getD i 0,sl)) 71 2 71 J J J J J)<|Xf (i+1,_,ws ++ [(l.getD i 0,sl)]) ⟨O1,by rw [Fj,Cm,hz];dsimp only;rfl,by simp [hzl]⟩ O1 K2 K2
 ·refine go 6 ?_
  refine Zf (Qd 70 J J pI)<|Zf (Pi 70 71 72 J J J J)<|go 2 ?_
  refine cl 4 [72] (Zbl _ _ (by rw [hz];exact Cl fun t ht=>by have:=hsz t;omega)) fun g hg=>go 4 ?_
  exact Xn hsc _ results67 J (by rw [hg,hz,show i=l.length by omega,Zbw]) (Ot 4 Za)
theorem Zum(v:Value)(zs:List (Int×SL))(j:Int)(i:Nat)(hj:j=(i:Int):=by omega)(hi:i≤1000000:=by omega):Cal prog 147 #[v,.int .i64 j] [pp v zs] true (G:=Value) (fun r=>True) (fun r=> .agg #[.bool (decide (cf (Yf zs) i<0)),r]) (fun r=>[Iu r (cf (Yf zs) i).natAbs]):=by
 refine Zd func147 ntmps147 fun w0 sc hw hsc=>?_
 have hli:=Qt zs
 refine Nw (Gp (i:=1) J Zn) (fun hlen=>?_)
 refine Zf (Pm 60 1 3 Ks)<|Zf (Qd 60 J J pN)<|go 2 ?_
 refine Yk (Zz 2) fun b _=>go 8 ?_
 refine Yt (d:=7) J (fun s91=>?_) (fun s91=>?_)
 ·exfalso;omega
 ·refine go 7 ?_
  refine Zc J (fun h91=>?_) (fun h91=>?_)
  ·refine go 2 ?_
   refine dt (Qi (ivs:=[]) J trivial (fun a w hs=>Yes))<|go 5 ?_
   have hz0:cf (Yf zs) i=0:=Yl O
   exact Xn hsc (.slice none 0 0) results147 (by rw [hz0]<;>rfl) trivial (Ns (by rw [hz0];rfl) Za)
  ·refine go 6 ?_
   refine dt (Yn (ii:=1) (i:=i) J J J J Zn Ze2 zT89 hj)<|dt (Oi (ii:=1) I0 J J J Zn pI)<|go 4 ?_
   exact Xn hsc _ results147 (by rw [←Hf]<;>rfl) trivial (Yhj 1 J J (Zj (i:=i)) (by rw [←Hf]<;>rfl) Za)
theorem Zaq(v w:Value)(zs:List (Int×SL))(y:Int)(hs:Sz 1000000 (Yf zs))(hy:bl y.natAbs≤1000000)(hl:zs.length≤1000:=by omega):Cal prog 79 #[v,.agg #[.bool (decide (y<0)),w]] [pp v zs,Iu w y.natAbs] true (G:=Value×List (Int×SL)) (fun r=>Yf r.2=Zm (Yf zs) y) (fun r=>r.1) (fun r=>[pp r.1 r.2]):=by
 refine Zd func79 ntmps79 fun w0 sc hw hsc=>?_
 have hli:=Qt zs
 refine go 2 ?_
 refine Yk (Yj 3) fun b _=>go 15 ?_
 refine Zf (Pm 70 2 89 Fl)<|Zf (Yw qI 71)<|lp (G:=Nat×Value×List (Int×SL)) [0,3] [0,1,2,3] (fun q=>[(6,.int .i64 (q.1:Int)),(5,q.2.1)]) (fun q=>[(70,Oa 2 89 Fl q.2.1 q.2.2),(71,Ia qI q.2.2)]) (fun q=>(q.1≤zs.length)∧(Yf q.2.2=mk q.1 (fun t=>cf (Yf zs) t*y))∧(q.2.2.length=q.1)) (fun q=>zs.length-q.1) (0,.slice none 0 0,[]) ⟨O1,rfl,rfl⟩ K2 K2 ?_
 rintro⟨i,vo,ws⟩ ⟨hi,hz,hzl⟩
 dsimp only at hi hz hzl
 dsimp only
 have hci:=Hf zs i
 refine go 9 ?_
 refine Zc J (fun h109=>?_) (fun h109=>?_)
 ·refine go 4 ?_
  refine Ln [1,3] [9]<|Zh (n:=3) [(0,0),(1,0),(2,0),(3,0),(4,0),(5,0),(6,1)]<|go 4 ⟨O2,?_⟩
  refine Qc J J (stf (Oi (ii:=1) I0 J J J Zn pI O2) K2)<|go 1 ?_
  refine Ev J (Ov (n:=4) (El _ _ _ _ (by rw [hci];have:=hs i;omega)) J J J K2 call69 (Gj 1 J J (Zj) (Yd 2 J J J Ya)) J hw.h) fun v _=>go 1 ?_
  refine a_ex (Px 4 J Zk) (fun sl hsl=>?_)
  subst hsl
  refine Zh (n:=0) [(7,1),(8,1),(9,3)]<|Ev J (Qh (i:=73) (ivs:=[(0,_)]) (enc:=Fl) [((zs.getD i I0).1*y,sl)] J J K2 Ze2 ti89 J J J J J pI.cells J J hw.h) (fun v_2 _=>?_)
  refine Ev J (Zzi 70 J J J K2 (fun hoffr=>(Zt5 (xs:=ws) (ys:=[_]) (i:=70) (j:=73) (by_:=32) J J J J J J O3 J (Ys pI) Ze2 ti89 J pI J J J O8 O3 J hw.h hoffr))) fun v_3 _=>go 2 ?_
  refine Zs<|go 7 ⟨O,?_⟩
  exact Yg (Zi (q:=qI) (z:=((zs.getD i I0).1*y,sl)) 71 4 71 J J J J J)<|Xf (i+1,_,ws ++ [((zs.getD i I0).1*y,sl)]) ⟨O1,by rw [Fj,Cm,hz];dsimp only;rw [Hf],by simp [hzl]⟩ O1 K2 K2
 ·refine go 6 ?_
  refine Zf (Qd 70 J J pI)<|Zf (Pi 70 71 72 J J J J)<|go 2 ?_
  refine cl 5 [72] (Zbl _ _ (by rw [hz];exact Cl fun t ht=>by have:=Xa (cf (Yf zs) t) y;have:=hs t;omega)) fun g hg=>go 4 ?_
  exact Xn hsc _ results79 J (by rw [hg,hz,show i=(Yf zs).length by omega,Zr7]) (Ot 5 Za)
theorem rp_neg(v:Value)(zs:List (Int×SL))(hs:Sz 1000000 (Yf zs))(hl:zs.length≤1000:=by omega):Cal prog 149 #[v] [pp v zs] true (G:=Value×List (Int×SL)) (fun r=>Yf r.2=Zm (Yf zs) (-1)) (fun r=>r.1) (fun r=>[pp r.1 r.2]):=by
 refine Zd func149 ntmps149 fun w0 sc hw hsc=>go 8 ?_
 refine cl 2 [] (Ny (-1)) fun v _=>cl 3 [1,2] (Zaq _ _ _ _ hs O3 hl) fun g hg=>go 4 ?_
 exact Xn hsc _ results149 J hg (Ot 3 Za)
theorem Zr2(v u:Value)(zs ys:List (Int×SL))(hs:Sz 1000000 (Yf zs))(hl:zs.length≤1000)(ht:Sz 1000000 (Yf ys))(hk:ys.length≤1000):Cal prog 78 #[v,u] [pp v zs,pp u ys] true (G:=Value×List (Int×SL)) (fun r=>Yf r.2=Ei (Yf zs) (Yf ys)) (fun r=>r.1) (fun r=>[pp r.1 r.2]):=by
 refine Zd func78 ntmps78 fun w0 sc hw hsc=>?_
 have hli:=Qt zs
 have hli2:=Qt ys
 refine Nw (Gp (i:=1) J Zn) (fun hlen=>?_)
 refine Nw (Gp (i:=2) J Zn) fun hlen2=>go 17 ?_
 refine Zf (Pm 70 2 89 Fl)<|Zf (Yw qI 71)<|lp (G:=Nat×Value×List (Int×SL)) [0,1] [0,1,2] (fun q=>[(6,.int .i64 (q.1:Int)),(5,q.2.1)]) (fun q=>[(70,Oa 2 89 Fl q.2.1 q.2.2),(71,Ia qI q.2.2)]) (fun q=>(q.1≤(max zs.length ys.length))∧(Yf q.2.2=mk q.1 (fun t=>cf (Yf zs) t+cf (Yf ys) t))∧(q.2.2.length=q.1)) (fun q=>(max zs.length ys.length)-q.1) (0,.slice none 0 0,[]) ⟨O1,rfl,rfl⟩ K2 K2 ?_
 rintro⟨i,vo,ws⟩ ⟨hi,hz,hzl⟩
 dsimp only at hi hz hzl
 dsimp only
 refine go 1 ?_
 refine jn (G:=Unit) [0,1,5,6] [0,70,71,1,2] (fun _=>[(16,.bool (decide (i<max zs.length ys.length)))]) (fun _=>[]) (fun _=>True) ?_ ?_
 ·refine go 6 ?_
  refine Yt (d:=11) J (fun s100=>?_) (fun s100=>?_)
  ·refine go 6 ?_
   exact Pr () trivial ⟨by first | exact congrArg some (vB (decide_eq_decide.2 O)) | exact congrArg some (vB (decide_eq_true O).symm),trivial⟩ trivial
  ·refine go 6 ?_
   exact Pr () trivial ⟨by first | exact congrArg some (vB (decide_eq_decide.2 O)) | exact congrArg some (vB (decide_eq_true O).symm),trivial⟩ trivial
 ·rintro _ -
  refine Zc J (fun h100=>?_) (fun h100=>?_)
  ·refine go 8 ?_
   refine cl 3 [1] (Zum _ _ _ i J) fun v _=>go 2 ?_
   refine cl 4 [2] (Zum _ _ _ i J) fun v_2 _=>cl 5 [3,4] (Zpb _ _ _ _ (by have:=hs i;omega) (by have:=ht i;omega)) fun v_3 _=>?_
   refine Zya (Px 5 J Zk) (fun sl hsl=>?_)
   subst hsl
   refine tt (Qh (i:=6) (ivs:=[(0,_)]) (enc:=Fl) [(cf (Yf zs) i+cf (Yf ys) i,sl)] J J K2 Ze2 ti89 J J J J J pI.cells J J hw.h) (fun v_4 _=>?_)
   refine tt (Nz (i:=70) (j:=6) (by_:=32) J J J J J J O3 J (Ys pI) Ze2 ti89 J pI J J J O8 O3 J hw.h) fun v_5 _=>go 9 ⟨O,?_⟩
   exact Yg (Zi (q:=qI) (z:=(cf (Yf zs) i+cf (Yf ys) i,sl)) 71 5 71 J J J J J)<|Xf (i+1,_,ws ++ [(cf (Yf zs) i+cf (Yf ys) i,sl)]) ⟨O1,by rw [Fj,Cm,hz],by simp [hzl]⟩ O1 K2 K2
  ·refine go 6 ?_
   refine Zf (Qd 70 J J pI)<|Zf (Pi 70 71 72 J J J J)<|go 2 ?_
   refine cl 7 [72] (Zbl _ _ (by rw [hz];exact Cl fun t h=>by have:=It (cf (Yf zs) t) (cf (Yf ys) t);have:=hs t;have:=ht t;omega)) fun g hg=>go 4 ?_
   exact Xn hsc _ results78 J (by rw [hg,hz,show i=max (Yf zs).length (Yf ys).length by omega,Ygs]) (Ot 7 Za)
theorem Yaq(v u:Value)(zs ys:List (Int×SL))(hs:Sz 1000000 (Yf zs))(ht:Sz 1000000 (Yf ys))(hl:zs.length≤1000:=by omega)(hk:ys.length≤1000:=by omega):Cal prog 81 #[v,u] [pp v zs,pp u ys] true (G:=Value×List (Int×SL)) (fun r=>Yf r.2=Bb (Yf zs) (Yf ys)) (fun r=>r.1) (fun r=>[pp r.1 r.2]):=by
 refine Zd func81 ntmps81 fun w0 sc hw hsc=>go 9 ?_
 refine cl 3 [2] (rp_neg _ _ ht hk) fun g hg=>cl 4 [1,3] (Zr2 _ _ _ _ hs hl (by rw [hg];intro t;rw [Yr];have h1:=ht t;rw [Int.mul_neg,Int.mul_one,Zjm];exact h1) (by rw [←Qt,hg];have:=Pt (Yf ys) (-1);rw [Qt]at this;omega)) fun g_2 hg_2=>go 4 ?_
 exact Xn hsc _ results81 J (by rw [hg_2,hg,Ygo]) (Ot 4 Za)
theorem Zr1(v:Value)(zs:List (Int×SL))(hs:Sz 1000000 (Yf zs))(hl:zs.length≤1000):Cal prog 201 #[v] [pp v zs] true (G:=Value) (fun r=>True) (fun r=> .agg #[.bool (decide (Ym (Yf zs)<0)),r]) (fun r=>[Iu r (Ym (Yf zs)).natAbs]):=by
 refine Zd func201 ntmps201 fun w0 sc hw hsc=>?_
 have hli:=Qt zs
 have hcb:∀k,bl (Ym ((Yf zs).take k)).natAbs≤1000000:=fun k=>Zd4 _ (hs.take k)
 refine go 2 ?_
 refine Yk (Zz 2) fun b _=>go 4 ?_
 refine dt (Qi (ivs:=[]) J trivial (fun a w hs=>Yes))<|Yk (Zz 97) fun b_2 _=>go 10 ?_
 refine Zf (Pm 98 1 3 Ks)<|Zf (Qd 98 J J pN)<|lp (G:=Nat×Value) [0,2,3] [0,1,2] (fun q=>[(4,.int .i64 (q.1:Int))]) (fun q=>[(97,box b_2 89 #[.bool (decide (Ym ((Yf zs).take q.1)<0)),q.2]),(98,Iu q.2 (Ym ((Yf zs).take q.1)).natAbs)]) (fun q=>q.1≤zs.length) (fun q=>zs.length-q.1) (0,.slice none 0 0) O1 K1 K2 ?_
 rintro⟨i,vs⟩ hi
 dsimp only at hi
 dsimp only
 have hci:=Hf zs i
 have hgc:=fun h=>Mt (p:=Yf zs) (k:=i) h
 have h1:=hcb i
 have h2:=hs i
 refine go 9 ?_
 refine Zc J (fun h186=>?_) (fun h186=>?_)
 ·refine go 4 ?_
  refine Qe (fun _=>False) [(0,0),(1,0),(2,0),(3,0),(4,0),(5,1),(6,3)]<|go 4 ⟨O2,?_⟩
  refine Qc J J (Qy (Oi (ii:=1) I0 J J J Zn pI O2))<|Ev J (Ov (n:=3) (r_gcd _ _ _ _ (by rw [hci];omega)) J J J K2 call143 (Yd 98 J J J (Gj 1 J J (Zj) Ya)) J hw.h) fun v _=>go 9 ⟨O,?_⟩
  exact Yg (Pj 3 98 J J J)<|Xf (i+1,v) O1 O1 K1 ⟨by rw [hgc O,show(Yf zs).getD i 0=(zs.getD i I0).1 from hci.symm];rfl,by rw [hgc O,show(Yf zs).getD i 0=(zs.getD i I0).1 from hci.symm];rfl,trivial⟩
 ·refine go 6 ?_
  obtain rfl:i=zs.length:=O
  rw [List.take_of_length_le (by omega:(Yf zs).length≤zs.length)]
  refine go 6 ?_
  exact Xn hsc _ results201 J trivial (Ot 98 Za)
theorem Zlt(v:Value)(zs:List (Int×SL))(hs:Sz 1000000 (Yf zs))(hc:zs.length≠0→Ym (Yf zs)≠0)(hl:zs.length≤1000:=by omega):Cal prog 148 #[v] [pp v zs] true (G:=Value×List (Int×SL)) (fun r=>Yf r.2=Zt (Yf zs)) (fun r=>r.1) (fun r=>[pp r.1 r.2]):=by
 refine Zd func148 ntmps148 fun w0 sc hw hsc=>?_
 have hli:=Qt zs
 have hcb:bl (Ym (Yf zs)).natAbs≤1000000:=Zd4 _ hs
 refine go 8 ?_
 refine cl 2 [1] (Zr1 _ _ hs hl) fun v _=>Yk (Zz 3) fun b _=>go 15 ?_
 refine Zf (Pm 70 2 89 Fl)<|Zf (Yw qI 71)<|lp (G:=Nat×Value×List (Int×SL)) [0,3] [0,1,2,3] (fun q=>[(5,.int .i64 (q.1:Int)),(4,q.2.1)]) (fun q=>[(70,Oa 2 89 Fl q.2.1 q.2.2),(71,Ia qI q.2.2)]) (fun q=>(q.1≤zs.length)∧(Yf q.2.2=mk q.1 (fun t=>cf (Yf zs) t/Ym (Yf zs)))∧(q.2.2.length=q.1)) (fun q=>zs.length-q.1) (0,.slice none 0 0,[]) ⟨O1,rfl,rfl⟩ K2 K2 ?_
 rintro⟨i,vo,ws⟩ ⟨hi,hz,hzl⟩
 dsimp only at hi hz hzl
 dsimp only
 have hci:=Hf zs i
 refine go 9 ?_
 refine Zc J (fun h196=>?_) (fun h196=>?_)
 ·refine go 4 ?_
  refine jn (G:=Value×Nat) [0,3,4,5] [0,70,71,1,2,3] (fun q=>[(6,.pointer (some ⟨q.2,0,none⟩))]) (fun q=>[(83,Iu q.1 ((zs.getD i I0).1/Ym (Yf zs)).natAbs),(97,box q.2 89 #[.bool (decide ((zs.getD i I0).1/Ym (Yf zs)<0)),q.1])]) (fun q=>True) ?_ ?_
  ·refine Ln [1,3] [12]<|Zh (n:=8) [(0,0),(1,0),(2,0),(3,0),(4,0)]<|go 3 ⟨O2,?_⟩
   refine Qc J J (stf (Oi (ii:=1) I0 J J J Zn pI O2) K2)<|go 2 ?_
   refine Zey (n:=7) 5 9 10 ?_ ?_ ?_
   ·refine Cw J (Ov (n:=83) (Zpa _ _ _ _ (by rw [hci];have:=hs i;omega) (hc O)) J J J K2 Zq8 (Gj 1 J J (Zj) (Yd 2 J J J Ya)) J hw.h) (fun g _=>?_)
    refine Zh (n:=4) [(6,0),(7,0),(8,0)]<|go 4 ?_
    refine Qp (n:=3) 9 10 ?_ ?_
    ·refine Ol (Qr 97) fun b_2 ho=>?_
     refine Zh (n:=0) [(10,1),(11,1),(12,3)]<|Yz (Qr 99) fun b_3 ho2=>go 3 ?_
     exact Zs<|Pr (_,_) trivial K1 K2
    ·refine Ol (Qr 99) fun b_4 ho3=>?_
     refine Zh (n:=0) [(9,1),(11,1),(12,3)]<|Yz (Qr 97) fun b_5 ho4=>go 3 ?_
     exact Zs<|Pr (_,_) trivial K1 K2
   ·refine Ol (Qr 97) fun b_6 ho5=>?_
    refine Qp (n:=6) 5 10 ?_ ?_
    ·refine Cw J (Ov (n:=83) (Zpa _ _ _ _ (by rw [hci];have:=hs i;omega) (hc O)) J J J K2 Zq8 (Gj 1 J J (Zj) (Yd 2 J J J Ya)) J hw.h) (fun g_2 _=>?_)
     refine Zh (n:=0) [(6,0),(7,0),(8,0),(10,1),(11,1),(12,3)]<|go 3 ?_
     refine Yz (Qr 99) fun b_7 ho6=>go 3 ?_
     exact Zs<|Pr (_,_) trivial K1 K2
    ·refine Ol (Qr 99) fun b_8 ho7=>?_
     refine Zh (n:=0) [(5,1),(6,0),(7,0),(8,0),(11,1),(12,3)]<|Ev J (Ov (n:=83) (Zpa _ _ _ _ (by rw [hci];have:=hs i;omega) (hc O)) J J J K2 Zq8 (Gj 1 J J (Zj) (Yd 2 J J J Ya)) J hw.h) fun g_3 _=>go 6 ?_
     exact Zs<|Pr (_,_) trivial K1 K2
   ·refine Ol (Qr 99) fun b_9 ho8=>?_
    refine Qp (n:=6) 5 9 ?_ ?_
    ·refine Cw J (Ov (n:=83) (Zpa _ _ _ _ (by rw [hci];have:=hs i;omega) (hc O)) J J J K2 Zq8 (Gj 1 J J (Zj) (Yd 2 J J J Ya)) J hw.h) (fun g_4 _=>?_)
     refine Zh (n:=0) [(6,0),(7,0),(8,0),(9,1),(11,1),(12,3)]<|go 3 ?_
     refine Yz (Qr 97) fun b_10 ho9=>go 3 ?_
     exact Zs<|Pr (_,_) trivial K1 K2
    ·refine Ol (Qr 97) fun b_11 ho10=>?_
     refine Zh (n:=0) [(5,1),(6,0),(7,0),(8,0),(11,1),(12,3)]<|Ev J (Ov (n:=83) (Zpa _ _ _ _ (by rw [hci];have:=hs i;omega) (hc O)) J J J K2 Zq8 (Gj 1 J J (Zj) (Yd 2 J J J Ya)) J hw.h) fun g_5 _=>go 6 ?_
     exact Zs<|Pr (_,_) trivial K1 K2
  ·rintro⟨qv,b6⟩ -
   dsimp only
   refine Znh (Px 83 J Zk) (fun sl hsl=>?_)
   subst hsl
   refine go 3 ?_
   refine tt (Qh (i:=4) (ivs:=[(0,_)]) (enc:=Fl) [((zs.getD i I0).1/Ym (Yf zs),sl)] J J K2 Ze2 ti89 J J J J J pI.cells J J hw.h) (fun v_2 _=>?_)
   refine tt (Nz (i:=70) (j:=4) (by_:=32) J J J J J J O3 J (Ys pI) Ze2 ti89 J pI J J J O8 O3 J hw.h) fun v_3 _=>go 9 ⟨O,?_⟩
   exact Yg (Zi (q:=qI) (z:=((zs.getD i I0).1/Ym (Yf zs),sl)) 71 83 71 J J J J J)<|Xf (i+1,_,ws ++ [((zs.getD i I0).1/Ym (Yf zs),sl)]) ⟨O1,by rw [Fj,Cm,hz];dsimp only;rw [Hf],by simp [hzl]⟩ O1 K2 K2
 ·refine go 6 ?_
  refine Zf (Qd 70 J J pI)<|Zf (Pi 70 71 72 J J J J)<|go 6 ?_
  exact Xn hsc (_,ws) results148 J (by rw [hz,show i=(Yf zs).length by omega,Zmp (Yf zs) (· / Ym (Yf zs))]<;>rfl) (Ot 72 Za)
theorem rp_mul(v u:Value)(zs ys:List (Int×SL))(hs:Sz 1000000 (Yf zs))(hl:zs.length≤60)(ht:Sz 1000000 (Yf ys))(hk:ys.length≤60):Cal prog 146 #[v,u] [pp v zs,pp u ys] true (G:=Value×List (Int×SL)) (fun r=>Yf r.2=Xs (Yf zs) (Yf ys)) (fun r=>r.1) (fun r=>[pp r.1 r.2]):=by
 refine Zd func146 ntmps146 fun w0 sc hw hsc=>?_
 have hli:=Qt zs
 have hli2:=Qt ys
 have htb:∀i k,bl (cf (Yf zs) k*cf (Yf ys) (i-k)).natAbs≤2000000:=fun i k=>by have:=Xa (cf (Yf zs) k) (cf (Yf ys) (i-k));have:=hs k;have:=ht (i-k);omega
 have hsb:∀i n,n≤1000→bl (Zy (fun k=>cf (Yf zs) k*cf (Yf ys) (i-k)) n).natAbs≤2000010:=fun i n hn=>Yi0 (fun t _=>htb i t) O
 refine go 17 ?_
 refine Zf (Pm 70 2 89 Fl)<|Zf (Yw qI 71)<|lp (G:=Nat×Value×List (Int×SL)) [0,1] [0,1,2] (fun q=>[(6,.int .i64 (q.1:Int)),(5,q.2.1)]) (fun q=>[(70,Oa 2 89 Fl q.2.1 q.2.2),(71,Ia qI q.2.2)]) (fun q=>(q.1≤(zs.length+ys.length-1))∧(Yf q.2.2=mk q.1 (fun t=>Zy (fun a9=>cf (Yf zs) a9*cf (Yf ys) (t-a9)) (t+1)))∧(q.2.2.length=q.1)) (fun q=>(zs.length+ys.length-1)-q.1) (0,.slice none 0 0,[]) ⟨O1,rfl,rfl⟩ K2 K2 ?_
 rintro⟨i,vo,ws⟩ ⟨hi,hz,hzl⟩
 dsimp only at hi hz hzl
 dsimp only
 refine go 13 ⟨O,O,?_⟩
 refine Zc J (fun h124=>?_) (fun h124=>?_)
 ·refine go 6 ?_
  refine dt (Qi (ivs:=[]) J trivial (fun a w hs=>Yes))<|Yk (Zz 97) fun b _=>go 10 ?_
  refine Zf (Pm 98 1 3 Ks)<|Zf (Qd 98 J J pN)<|lp (G:=Nat×Value) [0,1,5,6,7] [0,70,71,1,2] (fun q=>[(8,.int .i64 (q.1:Int))]) (fun q=>[(97,box b 89 #[.bool (decide (Zy (fun a9=>cf (Yf zs) a9*cf (Yf ys) (i-a9)) q.1<0)),q.2]),(98,Iu q.2 (Zy (fun a9=>cf (Yf zs) a9*cf (Yf ys) (i-a9)) q.1).natAbs)]) (fun q=>q.1≤i+1) (fun q=>i+1-q.1) (0,.slice none 0 0) O1 K1 K2 ?_
  rintro⟨k,vs⟩ hk1
  dsimp only at hk1
  dsimp only
  have h1:=hsb i k
  have h2:=htb i k
  have h3:=hs k
  have h4:=ht (i-k)
  refine go 8 ?_
  refine Zc J (fun h126=>?_) (fun h126=>?_)
  ·refine go 4 ?_
   refine Qe (fun _=>False) [(0,0),(1,0),(2,0),(4,0),(5,0),(6,0),(7,0),(3,1),(8,1),(9,1),(10,1),(11,3)]<|go 7 ⟨O,?_⟩
   refine Yz (Zg 3 [1] (Zum _ _ _ k J)) fun v _=>Yz (Zg 4 [2] (Zum _ _ _ (i-k))) fun v_2 _=>Yz (Zg 5 [3,4] (El _ _ _ _)) fun v_3 _=>Yz (Zg 6 [98,5] (Zpb _ _ _ _)) fun v_4 _=>go 9 ⟨O,?_⟩
   exact Yg (Pj 6 98 J J J)<|Xf (k+1,v_4) O1 O1 K1 ⟨by rw [Yi];rfl,by rw [Yi];rfl,trivial⟩
  ·refine go 5 ?_
   obtain rfl:k=i+1:=O
   refine Znh (Px 98 J Zk) (fun sl hsl=>?_)
   subst hsl
   refine go 3 ?_
   refine tt (Qh (i:=7) (ivs:=[(0,_)]) (enc:=Fl) [(Zy (fun a9=>cf (Yf zs) a9*cf (Yf ys) (i-a9)) (i+1),sl)] J J K2 Ze2 ti89 J J J J J pI.cells J J hw.h) (fun v_5 _=>?_)
   refine tt (Nz (i:=70) (j:=7) (by_:=32) J J J J J J O3 J (Ys pI) Ze2 ti89 J pI J J J O8 O3 J hw.h) fun v_6 _=>go 9 ⟨O,?_⟩
   exact Yg (Zi (q:=qI) (z:=(Zy (fun a9=>cf (Yf zs) a9*cf (Yf ys) (i-a9)) (i+1),sl)) 71 98 71 J J J J J)<|Xf (i+1,_,ws ++ [(Zy (fun a9=>cf (Yf zs) a9*cf (Yf ys) (i-a9)) (i+1),sl)]) ⟨O1,by rw [Fj,Cm,hz],by simp [hzl]⟩ O1 K2 K2
 ·refine go 12 ?_
  refine Yt (d:=43) J (fun s131=>?_) (fun s131=>?_)
  ·refine go 14 ?_
   refine Yg (Zcu 62) ?_
   have hp0:Xs (Yf zs) (Yf ys)=[]:=Bm (by first | (left;omega) | (right;omega))
   exact Xn hsc (.slice none 0 0,[]) results146 J (by rw [hp0]<;>rfl) (Ot 62 Za)
  ·refine go 6 ?_
   refine Zc J (fun h131=>?_) (fun h131=>?_)
   ·refine go 7 ?_
    refine Yg (Zcu 62) ?_
    have hp0:Xs (Yf zs) (Yf ys)=[]:=Bm (by first | (left;omega) | (right;omega))
    exact Xn hsc (.slice none 0 0,[]) results146 J (by rw [hp0]<;>rfl) (Ot 62 Za)
   ·refine go 3 ?_
    refine Zf (Qd 70 J J pI)<|Zf (Pi 70 71 72 J J J J)<|go 2 ?_
    refine cl 8 [72] (Zbl _ _ (by rw [hz];exact Cl fun t h=>by have:=hsb t (t+1) O;omega)) fun g hg=>go 4 ?_
    exact Xn hsc _ results146 J (by rw [hg,hz,show i=(Yf zs).length+(Yf ys).length-1 by omega,Ygp]) (Ot 8 Za)
theorem r_same(v u:Value)(r t:List (Bool×ByteArray)):Om prog 23 #[v,u] [Yh 2 Zs1 v r,Yh 2 Zs1 u t] (.bool (decide (r=t))):=by
 refine Zd func23 ntmps23 fun w0 sc hw hsc=>?_
 refine Nw (Gp (i:=1) J Zk) (fun hlr=>?_)
 refine Nw (Gp (i:=2) J Zk) fun hlt=>go 15 ?_
 refine Zc J (fun h78=>?_) (fun h78=>?_)
 ·refine go 7 ?_
  exact Xn hsc () results23 (by rw [decide_eq_false (fun e=>by subst e;exact h78 rfl)]) trivial Za
 ·have hle:r.length=t.length:=O
  refine go 9 ?_
  refine lp (G:=Nat) [0,1] [0,1,2] (fun k=>[(5,.int .i64 (k:Int))]) (fun k=>[]) (fun k=>(k≤r.length)∧(r.take k=t.take k)) (fun k=>r.length-k) 0 ⟨O1,O7⟩ K1 trivial ?_
  rintro k ⟨hk,ht⟩
  refine go 9 ?_
  refine Zc J (fun h81=>?_) (fun h81=>?_)
  ·refine go 5 ?_
   refine Qe (fun _=>False) [(0,0),(1,0),(2,0),(3,0),(4,0),(5,0),(6,0),(7,0),(8,0)]<|go 3 ⟨O2,?_⟩
   refine Qc J J (Qy (Oi (ii:=1) (false,⟨#[]⟩) J J J Zk pW O2))<|go 3 ⟨O2,?_⟩
   refine Qc J J (Qy (Oi (ii:=2) (false,⟨#[]⟩) J J J Zk pW O2))<|Qc J J (Qy (Ydv J J J eg80 (fun w=>neq80 w _ _ _ _)))<|go 2 ?_
   refine Lb J (fun h82=>?_) (fun h82=>?_)
   ·refine go 11 ?_
    exact Xn hsc () results23 (by rw [decide_eq_false (fun e=>by rw [e]at h82;simp [Yc9]at h82)]) trivial Za
   ·refine go 8 ⟨O,?_⟩
    exact Xf (k+1) ⟨O1,by rw [Po (false,⟨#[]⟩) _ _ O,Po (false,⟨#[]⟩) _ _ O,ht,Yda (x:=r.getD k (false,⟨#[]⟩)) (y:=t.getD k (false,⟨#[]⟩)) (by simpa using h82)]⟩ O1 K1 trivial
  ·refine go 11 ?_
   exact Xn hsc () results23 (by rw [decide_eq_true (by rw [show k=r.length by omega,List.take_length,hle,List.take_length]at ht;exact ht)]) trivial Za
theorem Zkr(v u:Value)(xs ys:List Int):Om prog 23 #[v,u] [Yh 2 wv v xs,Yh 2 wv u ys] (.bool (decide (xs=ys))):=by
 have h:=((r_same v u (xs.map wr) (ys.map wr)).imp (Zru v xs) (fun _ h=>fpm h)).imp2 (Zru u ys) (fun _ h=>fpm h)
 rw [decide_eq_decide.2 (Zsn xs ys)]at h;exact h
theorem Zez(x y x2 y2:Int)(hx:bl x.natAbs≤65536)(hy:bl y.natAbs≤65536)(hx2:bl x2.natAbs≤65536)(hy2:bl y2.natAbs≤65536)(hp:0<y)(hp2:0<y2):Om prog 164 #[rX x y,rX x2 y2] [] (.bool true):=by
 refine Zd func164 ntmps164 fun w0 sc hw hsc=>go 2 ?_
 refine Yk (Yj 1) fun b _=>Yk (Yj 2) fun b_2 _=>go 6 ?_
 refine cl 2 [] (Ml _ _ ‹_› ‹_› ‹_›) fun _ _=>go 2 ?_
 refine Gy 2 [] (Ml _ _ ‹_› ‹_› ‹_›) fun _ _=>go 5 ?_
 exact Xn hsc () results164 J trivial Za
theorem Zdb(x y x2 y2:Int)(hx:bl x.natAbs≤65536)(hy:bl y.natAbs≤65536)(hx2:bl x2.natAbs≤65536)(hy2:bl y2.natAbs≤65536):Cal prog 169 #[rX x y,rX x2 y2] [] true (G:=Bool×Value×Bool×Value×Bool×Value) (fun r=>sg r.1 (x*y2)∧sg r.2.2.1 (x2*y)∧sg r.2.2.2.2.1 (y*y2)) (fun r=> .tuple #[.agg #[.bool r.1,r.2.1],.agg #[.bool r.2.2.1,r.2.2.2.1],.agg #[.bool r.2.2.2.2.1,r.2.2.2.2.2]]) (fun r=>[Fa r.2.1 (x*y2).natAbs,Fa r.2.2.2.1 (x2*y).natAbs,Fa r.2.2.2.2.2 (y*y2).natAbs]):=by
 refine Zd func169 ntmps169 fun w0 sc hw hsc=>?_
 have b1:=Xa x y2
 have b2:=Xa x2 y
 have b3:=Xa y y2
 have b4:=Xa x x2
 refine go 2 ?_
 refine Yk (Yj 1) fun b _=>Yk (Yj 2) fun b_2 _=>Yk (Zz 3) fun b_3 _=>Yk (Zz 4) fun b_4 _=>Yk (Zz 5) fun b_5 _=>go 3 ?_
 refine Ln [1,2] [23]<|Zh (n:=0) [(0,0),(1,0),(3,0),(4,0),(7,0),(8,0),(10,0),(11,0),(14,0),(15,0),(17,0),(18,0),(2,1),(5,1),(6,1),(9,1),(12,1),(13,1),(16,1),(19,1),(20,1),(21,1),(22,1),(23,3)]<|go 12 ?_
 refine Yz (Zg 6 [] (Xt _ _ (Xc _))) fun g hg=>Yz (Zg 7 [] (Xt _ _ (Xc _))) fun g_2 hg_2=>Yz (Zg 8 [6,7] (Zbs _ _ _ _ _ _ ‹_› ‹_›)) fun g_3 hg_3=>Yz (Zg 9 [] (Xt _ _ (Xc _))) fun g_4 hg_4=>Yz (Zg 10 [] (Xt _ _ (Xc _))) fun g_5 hg_5=>Yz (Zg 11 [9,10] (Zbs _ _ _ _ _ _ ‹_› ‹_›)) fun g_6 hg_6=>Yz (Zg 12 [] (Xt _ _ (Xc _))) fun g_7 hg_7=>Yz (Zg 13 [] (Xt _ _ (Xc _))) fun g_8 hg_8=>Yz (Zg 14 [12,13] (Zbs _ _ _ _ _ _ ‹_› ‹_›)) fun g_9 hg_9=>go 4 ?_
 refine Zs<|go 2 ?_
 exact xe3 hsc (_,_,_,_,_,_) results169 J ⟨by assumption,by assumption,by assumption⟩ (Ot 8 (Ot 11 (Ot 14 Za)))
theorem Zdc(x y x2 y2:Int)(hx:bl x.natAbs≤65536)(hy:bl y.natAbs≤65536)(hx2:bl x2.natAbs≤65536)(hy2:bl y2.natAbs≤65536)(hp:0<y)(hp2:0<y2):Om prog 284 #[rX x y,rX x2 y2] [] (.tuple #[.int .i64 (x*y2-x2*y).sign,.int .i64 0]):=by
 refine Zd func284 ntmps284 fun w0 sc hw hsc=>?_
 have b1:=Xa x y2
 have b2:=Xa x2 y
 have b3:=Xa y y2
 have b4:=Xa x x2
 have b5:=Zjm (x2*y)
 have b6:=It (x*y2) (-(x2*y))
 refine go 2 ?_
 refine Yk (Yj 1) fun b _=>Yk (Yj 2) fun b_2 _=>go 9 ?_
 refine cl 2 [] (Zez _ _ _ _ ‹_› ‹_› ‹_› ‹_› ‹_› ‹_›) fun _ _=>go 10 ?_
 refine cl 3 [] (Zdb _ _ _ _ ‹_› ‹_› ‹_› ‹_›) fun g hg=>?_
 obtain⟨hc1,hc2,hc3⟩:=hg
 refine go 4 ?_
 refine Yk (Zz 6) fun b_3 _=>Yk (Zz 7) fun b_4 _=>Yk (Zz 8) fun b_5 _=>go 6 ?_
 refine Qe (fun _=>False) [(0,0),(1,0),(2,1),(3,1),(4,1),(5,3),(6,3)]<|go 2 ?_
 refine Yz (Zg 9 [4] (Zmj _ _ _ ‹_›)) fun g_2 hg_2=>Yz (Zg 10 [3,9] (Zd8 _ _ _ _ _ _ ‹_› ‹_›)) fun g_3 hg_3=>Yz (Zg 10 [10] (Zib _ _ _ ‹_›)) fun _ _=>go 5 ?_
 exact Mi hsc () results284 (by rw [Int.sub_eq_add_neg]<;>rfl) trivial Za
theorem Zjv(x y x2 y2:Int)(hx:bl x.natAbs≤65536)(hy:bl y.natAbs≤65536)(hx2:bl x2.natAbs≤65536)(hy2:bl y2.natAbs≤65536)(hp:0<y)(hp2:0<y2):Om prog 99 #[rX x y,rX x2 y2] [] (An (x*y2+x2*y) (y*y2)):=by
 refine Zd func99 ntmps99 fun w0 sc hw hsc=>?_
 have b1:=Xa x y2
 have b2:=Xa x2 y
 have b3:=Xa y y2
 have b4:=Xa x x2
 have b6:=It (x*y2) (x2*y)
 refine go 2 ?_
 refine Yk (Yj 1) fun b _=>Yk (Yj 2) fun b_2 _=>Yk (Zz 3) fun b_3 _=>go 8 ?_
 refine cl 3 [] (Zez _ _ _ _ ‹_› ‹_› ‹_› ‹_› ‹_› ‹_›) fun _ _=>go 10 ?_
 refine cl 4 [] (Zdb _ _ _ _ ‹_› ‹_› ‹_› ‹_›) fun g hg=>?_
 obtain⟨hc1,hc2,hc3⟩:=hg
 refine go 4 ?_
 refine Yk (Zz 7) fun b_4 _=>Yk (Zz 8) fun b_5 _=>Yk (Zz 9) fun b_6 _=>go 6 ?_
 refine Qe (fun _=>False) [(0,0),(1,0),(3,0),(2,1),(4,1),(5,0),(6,0),(7,3),(8,3)]<|go 3 ?_
 refine Yz (Zg 10 [4,5] (Zd8 _ _ _ _ _ _ ‹_› ‹_›)) fun g_2 hg_2=>Yz (Zg 10 [10,6] (Zag _ _ _ _ _ _ ‹_› ‹_› (Int.mul_ne_zero O O))) fun _ _=>go 7 ?_
 exact Mi hsc () results99 J trivial Za
theorem Fq(x y x2 y2:Int)(hx:bl x.natAbs≤65536)(hy:bl y.natAbs≤65536)(hx2:bl x2.natAbs≤65536)(hy2:bl y2.natAbs≤65536)(hp:0<y)(hp2:0<y2:=by decide):Om prog 97 #[rX x y,rX x2 y2] [] (An (x*x2) (y*y2)):=by
 refine Zd func97 ntmps97 fun w0 sc hw hsc=>?_
 have b1:=Xa x y2
 have b2:=Xa x2 y
 have b3:=Xa y y2
 have b4:=Xa x x2
 refine go 2 ?_
 refine Yk (Yj 1) fun b _=>Yk (Yj 2) fun b_2 _=>Yk (Zz 3) fun b_3 _=>go 8 ?_
 refine cl 3 [] (Zez _ _ _ _ ‹_› ‹_› ‹_› ‹_› ‹_› ‹_›) fun _ _=>go 7 ?_
 refine Qe (fun _=>False) [(0,0),(1,0),(3,0),(4,0),(7,0),(8,0),(10,0),(11,0),(2,1),(5,1),(6,1),(9,1),(12,1),(13,1),(14,1),(15,0),(16,0),(17,3),(18,3)]<|go 8 ?_
 refine Yz (Zg 4 [] (Xt _ _ (Xc _))) fun g hg=>Yz (Zg 5 [] (Xt _ _ (Xc _))) fun g_2 hg_2=>Yz (Zg 6 [4,5] (Zbs _ _ _ _ _ _ ‹_› ‹_›)) fun g_3 hg_3=>Yz (Zg 7 [] (Xt _ _ (Xc _))) fun g_4 hg_4=>Yz (Zg 8 [] (Xt _ _ (Xc _))) fun g_5 hg_5=>Yz (Zg 9 [7,8] (Zbs _ _ _ _ _ _ ‹_› ‹_›)) fun g_6 hg_6=>Yz (Zg 9 [6,9] (Zag _ _ _ _ _ _ ‹_› ‹_› (Int.mul_ne_zero O O))) fun _ _=>go 7 ?_
 exact Mi hsc () results97 J trivial Za
theorem Zdd(x y:Int)(hx:bl x.natAbs≤65536)(hy:bl y.natAbs≤65536):Om prog 187 #[wv x,wv y] [] (.int .i64 (x-y).sign):=by
 refine Zd func187 ntmps187 fun w0 sc hw hsc=>?_
 have b5:=Zjm y
 have b6:=It x (-y)
 refine go 2 ?_
 refine Yk (Yj 1) fun b _=>Yk (Yj 2) fun b_2 _=>go 8 ?_
 refine cl 2 [] (Kd _ _ ‹_› ‹_›) fun _ _=>go 7 ?_
 refine Qe (fun _=>False) [(0,0),(2,0),(1,1),(3,1),(4,1),(5,1),(6,1),(7,3)]<|go 2 ?_
 refine Yz (Zg 3 [] (Xt _ _ (Xc _))) fun g hg=>Yz (Zg 4 [] (Xt _ _ (Xc _))) fun g_2 hg_2=>Yz (Zg 5 [4] (Zmj _ _ _ ‹_›)) fun g_3 hg_3=>Yz (Zg 6 [3,5] (Zd8 _ _ _ _ _ _ ‹_› ‹_›)) fun g_4 hg_4=>Yz (Zg 6 [6] (Zib _ _ _ ‹_›)) fun _ _=>go 4 ?_
 exact Xn hsc () results187 (by rw [Int.sub_eq_add_neg]<;>rfl) trivial Za
theorem Zz4(x y:Int)(hx:bl x.natAbs≤30000)(hy:bl y.natAbs≤30000):Cal Tryz.prog 115 #[wv x,wv y] [] false (G:=Unit) (fun _=>True) (fun _=>wv (x+y)) (fun _=>[]):=by
 refine Zd Tryz.func115 Tryz.ntmps115 fun w0 sc hw hsc=>?_
 have hb:=It x y
 refine go 2 ?_
 refine Yk (Yj 1) fun bx _=>?_
 refine Yk (Yj 2) fun bx_2 _=>?_
 refine Yk (Zz 3) fun bx_3 _=>?_
 refine go 6 ?_
 refine cl 3 [] (Zod _ _ O O) fun _ _=>?_
 refine go 3 ?_
 refine Yk (Zz 4) fun bx_4 _=>?_
 refine go 11 ?_
 exact Xn hsc () Tryz.results115 (by rw [Kh O]) trivial Za
theorem Dq(x y:Int)(hx:bl x.natAbs≤30000)(hy:bl y.natAbs≤30000):Cal Tryz.prog 186 #[wv x,wv y] [] false (G:=Unit) (fun _=>True) (fun _=>wv (x*y)) (fun _=>[]):=by
 refine Zd Tryz.func186 Tryz.ntmps186 fun w0 sc hw hsc=>?_
 have hb:=Xa x y
 refine go 2 ?_
 refine Yk (Yj 1) fun bx _=>?_
 refine Yk (Yj 2) fun bx_2 _=>?_
 refine Yk (Zz 3) fun bx_3 _=>?_
 refine go 6 ?_
 refine cl 3 [] (Zoa _ _ O O) fun _ _=>?_
 refine go 3 ?_
 refine Yk (Zz 4) fun bx_4 _=>?_
 refine go 11 ?_
 exact Xn hsc () Tryz.results186 (by rw [Kh O]) trivial Za
theorem Zlp(x y:Int)(hx:bl x.natAbs≤30000)(hy:bl y.natAbs≤30000):Cal Tryz.prog 134 #[wv x,wv y] [] false (G:=Unit) (fun _=>True) (fun _=>wv ((Int.gcd x y:Int))) (fun _=>[]):=by
 refine Zd Tryz.func134 Tryz.ntmps134 fun w0 sc hw hsc=>?_
 have hb:=Zny x y
 refine go 2 ?_
 refine Yk (Yj 1) fun bx _=>?_
 refine Yk (Yj 2) fun bx_2 _=>?_
 refine Yk (Zz 3) fun bx_3 _=>?_
 refine go 6 ?_
 refine cl 3 [] (Zoc _ _ O O) fun _ _=>?_
 refine go 3 ?_
 refine Yk (Zz 4) fun bx_4 _=>?_
 refine go 11 ?_
 exact Xn hsc () Tryz.results134 (by rw [Kh O]) trivial Za
theorem Zfb(x y:Int)(hx:bl x.natAbs≤30000)(hy:bl y.natAbs≤30000)(hy0:y≠0):Cal Tryz.prog 114 #[wv x,wv y] [] false (G:=Unit) (fun _=>True) (fun _=>wv (x/y)) (fun _=>[]):=by
 refine Zd Tryz.func114 Tryz.ntmps114 fun w0 sc hw hsc=>?_
 have hb:=Zha x y
 refine go 2 ?_
 refine Yk (Yj 1) fun bx _=>?_
 refine Yk (Yj 2) fun bx_2 _=>?_
 refine Yk (Zz 3) fun bx_3 _=>?_
 refine go 6 ?_
 refine cl 3 [] (Dl _ _ O O hy0) fun _ _=>?_
 refine go 4 ?_
 refine Yk (Zz 4) fun bx_4 _=>?_
 refine Yk (Zz 5) fun bx_5 _=>?_
 refine go 12 ?_
 exact Xn hsc () Tryz.results114 (by rw [Kh O]) trivial Za
theorem Zz0(n:Int)(k:Nat)(hn:bl n.natAbs≤60)(hk:k≤10):Cal Tryz.prog 227 #[.int .i64 n,.int .i64 (k:Int)] [] false (G:=Unit) (fun _=>True) (fun _=>wv (n^k)) (fun _=>[]):=by
 refine Zd Tryz.func227 Tryz.ntmps227 fun w0 sc hw hsc=>?_
 have hb:∀i,i≤10→bl (n^i).natAbs≤1000:=fun i hi=>bl_pw (Nat.le_trans hn O3) hi
 refine go 2 ?_
 refine Yk (Zz 1) fun bx _=>?_
 refine go 4 ?_
 refine cl 1 [] (Zo 1 ⟨O3,O3⟩) fun _ _=>?_
 refine Yk (Zz 2) fun bx_2 _=>?_
 refine go 11 ?_
 refine lp (G:=Nat) [0,4,5,7] [0,1] (fun i=>[(8,.int .i64 (i:Int))]) (fun i=>[(2,box bx_2 80 (wc (n^i)))]) (fun i=>i≤k) (fun i=>k-i) 0 O1 ⟨rfl,trivial⟩ ⟨by rw [Int.pow_zero];rfl,trivial⟩ ?_
 rintro i hi
 refine go 6 ?_
 refine Zc rfl (fun h43=>?_) (fun h43=>?_)
 ·refine go 4 ?_
  refine Qe (fun _=>False) [(0,0),(1,0),(2,1),(3,1),(4,3)] ?_
  refine go 2 ?_
  refine Yz (Zg 2 [] (Zo _ (in_bl O))) fun _ _=>?_
  refine Yz (Zg 2 [] (Dq (n^i) n (Nat.le_trans (hb i O) O) O)) fun _ _=>?_
  refine go 8 ⟨O,?_⟩
  exact Xf (i+1) O1 O1 ⟨rfl,trivial⟩ ⟨by rw [Int.pow_succ];rfl,trivial⟩
 ·obtain rfl:i=k:=O
  refine go 12 ?_
  exact Xn hsc () Tryz.results227 rfl trivial Za
theorem Ep(x y:Int)(hx:Xx x)(hy:Xx y)(hy0:y≠0):Cal Tryz.prog 168 #[.int .i64 x,.int .i64 y] [] false (G:=Unit) (fun _=>True) (fun _=>An x y) (fun _=>[]):=by
 refine Zd Tryz.func168 Tryz.ntmps168 fun w0 sc hw hsc=>?_
 have hbx:=Iz hx
 have hby:=Iz hy
 refine go 2 ?_
 refine Yk (Zz 1) fun bx _=>?_
 refine go 6 ?_
 refine cl 1 [] (Zo _ hx) fun _ _=>?_
 refine go 1 ?_
 refine cl 1 [] (Zo _ hy) fun _ _=>?_
 refine cl 1 [] (Zcm _ _ O O hy0) fun _ _=>?_
 refine go 7 ?_
 exact Mi hsc () Tryz.results168 rfl trivial Za
theorem Zrt:Cal Tryz.prog 185 #[] [] false (G:=List Int) (fun r=>Tb r 6 0) (fun r=> .agg (Cb r)) (fun r=>[]):=by
 refine Zd Tryz.func185 Tryz.ntmps185 fun w0 sc hw hsc=>?_
 refine go 2 ?_
 refine tt (Zgn (i:=1) rfl rfl rfl Tryz.zeroValue243 rfl rfl hw.h) (fun bx _=>?_)
 refine go 4 ?_
 refine tt (Zgn (i:=2) rfl rfl rfl Tryz.zeroValue243 rfl rfl hw.h) (fun bx_2 _=>?_)
 refine go 9 ?_
 refine Zf (Me 2 (q:=box bx_2 243 (Cb (List.replicate 36 0))) (congrArg (box bx_2 243) zc6_eq) rfl rfl) ?_
 refine lp (G:=Nat×List Int) [0,1] [0,1] (fun q=>[(4,.int .i64 (q.1:Int))]) (fun q=>[(2,box bx_2 243 (Cb q.2))]) (fun q=>(q.1≤6)∧(Tb q.2 q.1 0)) (fun q=>6-q.1) (0,List.replicate 36 0) ⟨O1,Tb.start⟩ ⟨rfl,trivial⟩ ⟨rfl,trivial⟩ ?_
 rintro⟨n,l⟩ ⟨hn,hT⟩
 dsimp only at hn hT
 dsimp only
 have hl:=hT.len
 refine go 6 ?_
 refine Zc rfl (fun h52=>?_) (fun h52=>?_)
 ·refine go 13 ?_
  refine dt (Iy (i:=n) rfl rfl rfl Tryz.underlying243 Tryz.sizeOf242) ?_
  refine dt (Iy (i:=0) rfl rfl rfl Tryz.underlying242 Tryz.sizeOf3 rfl) ?_
  refine tt (Zrq (i:=2) rfl rfl rfl rfl rfl Tryz.sizeOf3 rfl hw.h trivial) (fun _ _=>?_)
  refine go 8 ?_
  refine lp (G:=Nat×List Int) [0,1,2,4] [0,1] (fun q=>[(3,.int .i64 (q.1:Int))]) (fun q=>[(2,box bx_2 243 (Cb q.2))]) (fun q=>(1≤q.1)∧(q.1≤n+1)∧(Tb q.2 n q.1)) (fun q=>n+1-q.1) (1,l.set (0+n*6+0*1) 1) ⟨O1,O1,hT.step O O (by cases n<;>rfl) O⟩ ⟨rfl,trivial⟩ ⟨rfl,trivial⟩ ?_
  rintro⟨k,l2⟩ ⟨hk1,hk2,hT2⟩
  dsimp only at hk1 hk2 hT2
  dsimp only
  have hl2:=hT2.len
  refine go 8 ?_
  refine Zc rfl (fun h54=>?_) (fun h54=>?_)
  ·refine go 4 ?_
   have hv1:=hT2.get (j:=0+(n-1)*6+(k-1)*1) (r:=n-1) (c:=k-1) O O (.inl O) O
   have hv2:=hT2.get (j:=0+(n-1)*6+k*1) (r:=n-1) (c:=k) O O (.inl O) O
   have hb1:=Znr (n:=n-1) (k:=k-1) 
   have hb2:=Znr (n:=n-1) (k:=k) 
   refine Ln [] [] ?_
   refine Zh (n:=5) [(0,0),(1,0),(2,0),(3,0),(4,0),(5,0),(6,0),(7,0),(9,0),(10,0),(11,0),(12,0),(13,0),(16,0)] ?_
   refine go 6 ⟨O,O,?_⟩
   refine Qc rfl rfl (stf (Iy (i:=(n-1)) rfl rfl rfl Tryz.underlying243 Tryz.sizeOf242) trivial) ?_
   refine Qc rfl rfl (stf (Iy (i:=(k-1)) rfl rfl rfl Tryz.underlying242 Tryz.sizeOf3) trivial) ?_
   refine go 3 ⟨O,?_⟩
   refine Qc rfl rfl (stf (Iy (i:=(n-1)) rfl rfl rfl Tryz.underlying243 Tryz.sizeOf242) trivial) ?_
   refine Qc rfl rfl (stf (Iy (i:=k) rfl rfl rfl Tryz.underlying242 Tryz.sizeOf3) trivial) ?_
   refine Qc rfl rfl (stf (Iy (i:=n) rfl rfl rfl Tryz.underlying243 Tryz.sizeOf242) trivial) ?_
   refine go 1 ?_
   refine Qp (n:=4) 8 14 ?_ ?_
   ·refine Cw rfl (Zcc (Zyp (i:=2) rfl rfl rfl Tryz.isAgg3) rfl rfl) (fun _ _=>?_)
    refine Zh (n:=0) [(14,1),(15,0),(17,0),(18,1)] ?_
    refine Ev rfl (Zcc (Zyp (i:=2) rfl rfl rfl Tryz.isAgg3) rfl rfl) (fun _ _=>?_)
    refine go 1 ⟨by rw [hv1,hv2];exact⟨O,O⟩,?_⟩
    refine Qc rfl rfl (stf (Iy (i:=k) rfl rfl rfl Tryz.underlying242 Tryz.sizeOf3) trivial) ?_
    refine Ev rfl (Zrq (i:=2) rfl rfl rfl rfl rfl Tryz.sizeOf3 rfl hw.h (fun _ h=>nomatch h)) (fun _ _=>?_)
    refine go 1 ?_
    refine Zs ?_
    refine go 7 ⟨O,?_⟩
    exact Xf (k+1,_) ⟨O1,O1,hT2.step O O (by rw [hv1,hv2,Zwg (n:=n) (k:=k)];push_cast;rfl) O⟩ O1 ⟨rfl,trivial⟩ ⟨rfl,trivial⟩
   ·refine Cw rfl (Zcc (Zyp (i:=2) rfl rfl rfl Tryz.isAgg3) rfl rfl) (fun _ _=>?_)
    refine Zh (n:=0) [(8,1),(15,0),(17,0),(18,1)] ?_
    refine Ev rfl (Zcc (Zyp (i:=2) rfl rfl rfl Tryz.isAgg3) rfl rfl) (fun _ _=>?_)
    refine go 1 ⟨by rw [hv1,hv2];exact⟨O,O⟩,?_⟩
    refine Qc rfl rfl (stf (Iy (i:=k) rfl rfl rfl Tryz.underlying242 Tryz.sizeOf3) trivial) ?_
    refine Ev rfl (Zrq (i:=2) rfl rfl rfl rfl rfl Tryz.sizeOf3 rfl hw.h (fun _ h=>nomatch h)) (fun _ _=>?_)
    refine go 1 ?_
    refine Zs ?_
    refine go 7 ⟨O,?_⟩
    exact Xf (k+1,_) ⟨O1,O1,hT2.step O O (by rw [hv1,hv2,Zwg (n:=n) (k:=k)];push_cast;rfl) O⟩ O1 ⟨rfl,trivial⟩ ⟨rfl,trivial⟩
  ·refine go 10 ⟨O,?_⟩
   exact Xf (n+1,l2) ⟨O1,hT2.row O⟩ O1 ⟨rfl,trivial⟩ ⟨rfl,trivial⟩
 ·obtain rfl:n=6:=O
  let r0:=l
  refine go 7 ?_
  refine dt (d_lwa (i:=2) rfl rfl rfl Tryz.isAgg243 Tryz.sizeOf243 hl) ?_
  refine tt (Zzg (i:=1) rfl rfl rfl rfl rfl Tryz.sizeOf243 hl Zn6 rfl hw.h trivial) (fun _ _=>?_)
  refine go 3 ?_
  exact Zn7 (.inl rfl) hsc l _ (fun a w hs=>Zb6 hs Tryz.results185 (Gf (i:=1) (vs:=r0.map (Value.int .i64)) rfl rfl Tryz.isAgg243 Tryz.sizeOf243 (by simpa using hl))) rfl hT rfl Za
theorem Zhp(v:Value)(c:List Int)(over:Int)(hc:∀x∈c,Xx x)(hl1:1≤c.length)(hl:c.length≤6)(ho:1≤over)(ho2:over≤4294967296):Cal Tryz.prog 133 #[v,.int .i64 over] [Yh 1 Zx v c] false (G:=Unit) (fun _=>True) (fun _=> .bool (Zjk c over)) (fun _=>[]):=by
 refine Zd Tryz.func133 Tryz.ntmps133 fun w0 sc hw hsc=>?_
 have hbo:bl (62914560*over).natAbs≤90:=(Xw 90 _).2 O
 have hbo2:bl over.natAbs≤40:=(Xw 40 _).2 O
 refine go 7 ?_
 refine cl 1 [] (Zrt) fun g hg=>?_
 refine tt (Zgn (i:=2) rfl rfl rfl Tryz.zeroValue243 rfl rfl hw.h) (fun bx _=>?_)
 refine tt (Zzg (i:=2) rfl rfl rfl rfl rfl Tryz.sizeOf243 hg.len Zn6 rfl hw.h trivial) (fun _ _=>?_)
 refine Yp (Me 2 (q:=box bx 243 (Cb g)) rfl rfl rfl) ?_
 refine go 4 ?_
 refine cl 2 [] (Zo 62914560 ⟨O3,O3⟩) fun _ _=>?_
 refine go 1 ?_
 refine cl 2 [] (Zo over) fun _ _=>?_
 refine cl 2 [] (Dq 62914560 over O3 O) fun _ _=>?_
 refine Yk (Zz 3) fun bx_2 _=>?_
 refine go 20 ⟨O,?_⟩
 refine lp (G:=Nat) [0,5,6,7,20] [0,1,2,3] (fun j=>[(21,.int .i64 (j:Int))]) (fun j=>[]) (fun j=>(j≤c.length)∧(∀i,i<j→((ctl c i (i+1)).natAbs:Int)≤62914560*over)) (fun j=>c.length-j) 0 ⟨O1,fun i hi=>absurd hi (Nat.not_lt_zero i)⟩ ⟨rfl,trivial⟩ trivial ?_
 rintro j ⟨hj,hz⟩
 refine go 6 ?_
 refine Zc rfl (fun h69=>?_) (fun h69=>?_)
 ·refine go 12 ?_
  refine Yk (Zz 4) fun bx_3 _=>?_
  refine go 11 ⟨O,?_⟩
  refine lp (G:=Nat) [0,5,6,7,8,9,20,21,25] [0,1,2,3] (fun k=>[(26,.int .i64 (k:Int))]) (fun k=>[(4,box bx_3 80 (wc (ctl c j k)))]) (fun k=>k≤j+1) (fun k=>j+1-k) 0 O1 ⟨rfl,trivial⟩ ⟨rfl,trivial⟩ ?_
  rintro k hk
  refine go 6 ?_
  refine Zc rfl (fun h71=>?_) (fun h71=>?_)
  ·refine go 10 ?_
   have hw6:=Zrm (n:=(c.length-1)) (j:=j) (k:=k) O
   refine Qe (fun _=>False) [(0,0),(1,0),(2,0),(3,0),(4,0),(6,0),(7,0),(8,0),(9,0),(10,0),(11,0),(12,0),(13,0),(14,0),(15,0),(16,0),(17,0),(5,1),(18,1),(19,1),(20,1),(21,3)] ?_
   refine go 3 ?_
   refine Qc rfl rfl (Qy (Yn (ii:=1) (i:=k) rfl rfl rfl rfl Zk Tryz.underlying33 Tryz.sizeOf3 rfl)) ?_
   refine go 3 ⟨O,?_⟩
   refine Qc rfl rfl (Qy (Iy (i:=(c.length-1)) rfl rfl rfl Tryz.underlying243 Tryz.sizeOf242)) ?_
   refine Qc rfl rfl (Qy (Iy (i:=k) rfl rfl rfl Tryz.underlying242 Tryz.sizeOf3)) ?_
   refine Qc rfl rfl (Qy (Zw (r':= .int .i64 (Pk (c.length-1) k:Int)) (Zyp (i:=2) rfl rfl rfl Tryz.isAgg3 (by have:=hg.len;omega)) (congrArg (Value.int .i64) (hg.get O O (.inl O) O)))) ?_
   refine Qc rfl rfl (Qy (Zcj rfl rfl rfl O3 O3 (by have:=Zg5 (n:=(c.length-1)) (k:=k) O;omega))) ?_
   refine go 2 ?_
   refine Qc rfl rfl (Qy (Iy (i:=j) rfl rfl rfl Tryz.underlying243 Tryz.sizeOf242)) ?_
   refine Qc rfl rfl (Qy (Iy (i:=k) rfl rfl rfl Tryz.underlying242 Tryz.sizeOf3)) ?_
   refine Qc rfl rfl (Qy (Zw (r':= .int .i64 (Pk j k:Int)) (Zyp (i:=2) rfl rfl rfl Tryz.isAgg3 (by have:=hg.len;omega)) (congrArg (Value.int .i64) (hg.get O O (.inl O) O)))) ?_
   refine go 1 ⟨show Xx (w60 (c.length-1) j k)from⟨O,O⟩,?_⟩
   refine Yz (Zg 4 [] (Zo (c.getD k 0) (La hc k))) fun _ _=>?_
   refine Yz (Zg 4 [] (Zo (w60 (c.length-1) j k))) fun _ _=>?_
   refine Yz (Zg 4 [] (Dq (c.getD k 0) (w60 (c.length-1) j k) (Nat.le_trans (Iz (La hc k)) O3) (Nat.le_trans (Zjl O) O3))) fun _ _=>?_
   refine Yz (Zg 4 [] (Zz4 (ctl c j k) (c.getD k 0*(w60 (c.length-1) j k)) (Nat.le_trans (Zbe hc O O) O3) (Nat.le_trans (Xa _ _) (by have h1:=Iz (La hc k);have h2:=Zjl (n:=(c.length-1)) (j:=j) (k:=k) O;omega)))) fun _ _=>?_
   refine go 8 ⟨O,?_⟩
   exact Xf (k+1) O1 O1 ⟨rfl,trivial⟩ ⟨by rw [Yd3];rfl,trivial⟩
  ·obtain rfl:k=j+1:=O
   refine go 9 ?_
   refine Yp (Me 4 (q:=box bx_3 80 (wc ((ctl c j (j+1)).natAbs:Int))) (congrArg (box bx_3 80) (wc_abs _)) rfl rfl) ?_
   refine go 6 ?_
   refine cl 4 [] (Zdd ((ctl c j (j+1)).natAbs:Int) (62914560*over) (by rw [Int.natAbs_natCast];exact Nat.le_trans (Zbe hc O O) O3) O) fun _ _=>?_
   refine go 3 ?_
   refine Zc rfl (fun h74=>?_) (fun h74=>?_)
   ·have hgt:=(sgp _).1 h74
    refine go 11 ?_
    exact Xn hsc () Tryz.results133 (by rw [Ztl (j:=j) O O]) trivial Za
   ·have hle:((ctl c j (j+1)).natAbs:Int)≤62914560*over:=Int.not_lt.1 fun h9=>h74 ((sgp _).2 O)
    refine go 7 ⟨O,?_⟩
    exact Xf (j+1) ⟨O1,fun i hi=>by rcases Nat.lt_succ_iff_lt_or_eq.1 hi with h9 | h9;exact hz i h9;subst h9;exact hle⟩ O1 ⟨rfl,trivial⟩ trivial
 ·refine go 11 ?_
  exact Xn hsc () Tryz.results133 (by rw [Ztk fun i hi=>hz i O]) trivial Za
theorem _root_.Go.Proofs.Tryz.ti182:Tryz.prog.info? 182=some Tryz.t182:=O6
theorem Yew{v0 v1 v2:Value}(h0:v0.oneCell'=true)(h1:v1.oneCell'=true)(h2:v2.oneCell'=true):Tryz.prog.built 182 [(0,v0),(1,v1),(2,v2)]=some #[v0,v1,v2]:=by
 refine Zb5 _ Tryz.ti182 Tryz.underlying182 rfl Tryz.ti33 ?_
 rw [show Tryz.t33.size=1 from rfl]
 rw [show(Value.agg #[.slice none 0 0,.slice none 0 0,.slice none 0 0]).cells=#[.slice none 0 0,.slice none 0 0,.slice none 0 0]from rfl]
 simp [Instr.fill,Zu h0,Zu h1,Zu h2]
theorem _root_.Go.Proofs.Tryz.ti186:Tryz.prog.info? 186=some Tryz.t186:=O6
theorem Zyw{v0 v1 v2 v3:Value}(h0:v0.oneCell'=true)(h1:v1.oneCell'=true)(h2:v2.oneCell'=true)(h3:v3.oneCell'=true):Tryz.prog.built 186 [(0,v0),(1,v1),(2,v2),(3,v3)]=some #[v0,v1,v2,v3]:=by
 refine Zb5 _ Tryz.ti186 Tryz.underlying186 rfl Tryz.ti3 ?_
 rw [show Tryz.t3.size=1 from rfl]
 rw [show(Value.agg #[.int .i64 0,.int .i64 0,.int .i64 0,.int .i64 0]).cells=#[.int .i64 0,.int .i64 0,.int .i64 0,.int .i64 0]from rfl]
 simp [Instr.fill,Zu h0,Zu h1,Zu h2,Zu h3]
theorem _root_.Go.Proofs.Tryz.ti331:Tryz.prog.info? 331=some Tryz.t331:=O6
theorem _root_.Go.Proofs.Tryz.ti330:Tryz.prog.info? 330=some Tryz.t330:=O6
theorem Yeu{v0 v1 v2:Value}(h0:v0.oneCell'=true)(h1:v1.oneCell'=true)(h2:v2.oneCell'=true):Tryz.prog.built 331 [(0,v0),(1,v1),(2,v2)]=some #[v0,v1,v2]:=by
 refine Zb5 _ Tryz.ti331 Tryz.underlying331 rfl Tryz.ti330 ?_
 rw [show Tryz.t330.size=1 from rfl]
 rw [show(Value.agg #[.pointer none,.pointer none,.pointer none]).cells=#[.pointer none,.pointer none,.pointer none]from rfl]
 simp [Instr.fill,Zu h0,Zu h1,Zu h2]
theorem Zlq(fr to ov:Int)(vx vy vz:Value)(x y z:List Int):Cal Tryz.prog 132 #[.agg #[.int .i64 fr,.int .i64 to,.int .i64 ov,vx,vy,vz]] [Yh 1 Zx vx x,Yh 1 Zx vy y,Yh 1 Zx vz z] false (G:=Unit) (fun _=>True) (fun _=> .agg #[vx,vy,vz]) (fun _=>[]):=by
 refine Zd Tryz.func132 Tryz.ntmps132 fun w0 sc hw hsc=>?_
 refine go 2 ?_
 refine Yk (Yj 4) fun bx _=>?_
 refine Yk (Zz 5) fun bx_2 _=>?_
 refine go 10 ?_
 refine dt (Qi (ivs:=[(0,_),(1,_),(2,_)]) rfl ⟨rfl,rfl,rfl,rfl,rfl,rfl,trivial⟩ (fun a w hs=>Yew ((Pl (i:=1) rfl Zk) a w hs) ((Pl (i:=2) rfl Zk) a w hs) ((Pl (i:=3) rfl Zk) a w hs))) ?_
 refine go 4 ?_
 exact Xn hsc () Tryz.results132 rfl trivial Za
theorem Mx(fr to ov:Int)(vx vy vz:Value)(x y z:List Int)(hfr:Xx fr)(hto:Xx to)(hov:Xx ov)(hx:∀a∈x,Xx a)(hy:∀a∈y,Xx a)(hz:∀a∈z,Xx a):Cal Tryz.prog 73 #[.agg #[.int .i64 fr,.int .i64 to,.int .i64 ov,vx,vy,vz]] [Yh 1 Zx vx x,Yh 1 Zx vy y,Yh 1 Zx vz z] false (G:=Unit) (fun _=>True) (fun _=> .bool (Kr fr to ov x y z)) (fun _=>[]):=by
 refine Zd Tryz.func73 Tryz.ntmps73 fun w0 sc hw hsc=>?_
 have hbo:=Iz hov
 have hfc:=fun i k=>bl_fc hx hy hz hbo i k
 have hfc0:=fun i=>hfc i 0
 simp only [List.take_zero,Nc]at hfc0
 refine go 2 ?_
 refine Yk (Yj 4) fun bx _=>?_
 refine go 10 ?_
 refine Yt (d:=11) rfl (fun s83=>?_) (fun s83=>?_)
 ·refine go 31 ?_
  exact Xn hsc () Tryz.results73 (by rw [Cy O]) trivial Za
 ·refine go 7 ?_
  refine Yt (d:=18) rfl (fun s83_2=>?_) (fun s83_2=>?_)
  ·refine go 24 ?_
   exact Xn hsc () Tryz.results73 (by rw [Cy O]) trivial Za
  ·refine go 5 ?_
   refine Yt (d:=23) rfl (fun s83_3=>?_) (fun s83_3=>?_)
   ·refine go 19 ?_
    exact Xn hsc () Tryz.results73 (by rw [Cy O]) trivial Za
   ·refine go 5 ?_
    refine Yt (d:=28) rfl (fun s83_4=>?_) (fun s83_4=>?_)
    ·refine go 14 ?_
     exact Xn hsc () Tryz.results73 (by rw [Cy O]) trivial Za
    ·refine go 6 ?_
     refine Zc rfl (fun h83=>?_) (fun h83=>?_)
     ·refine go 7 ?_
      exact Xn hsc () Tryz.results73 (by rw [Cy O]) trivial Za
     ·refine go 6 ?_
      refine cl 4 [] (Zo ov hov) fun _ _=>?_
      refine Yk (Zz 5) fun bx_2 _=>?_
      refine go 7 ?_
      refine cl 5 [1,2,3] (Zlq _ _ _ _ _ _ _ _ _) fun _ _=>?_
      refine go 4 ?_
      refine lp (G:=Nat) [1,3,37] [0,1,2,3,4] (fun i=>[(38,.int .i64 (i:Int))]) (fun i=>[(5,box bx_2 80 (wc (Nc ov (Nk i x y z))))]) (fun i=>(i≤3)∧(∀k,k<i→axB (Zp k x y z) ov=true)) (fun i=>3-i) 0 ⟨O1,fun k hk=>absurd hk (Nat.not_lt_zero k)⟩ ⟨rfl,trivial⟩ ⟨rfl,trivial⟩ ?_
      rintro i ⟨hi,hax⟩
      refine go 6 ?_
      refine Zc rfl (fun h87=>?_) (fun h87=>?_)
      ·refine go 5 ?_
       refine Zf (Zcs i 1 2 3 50 rfl rfl rfl rfl rfl rfl) ?_
       refine go 1 ?_
       refine dt (Zqw (i:=i) rfl rfl rfl Tryz.underlying182 Tryz.sizeOf33 Tryz.isAgg33 rfl) ?_
       refine go 10 ?_
       refine Yt (d:=44) rfl (fun s88=>?_) (fun s88=>?_)
       ·refine go 40 ?_
        exact Xn hsc () Tryz.results73 (by rw [Zao (i:=i) (Zjs fun h1 h2 h3 h4=>by first | omega | simp_all)]) trivial Za
       ·refine go 5 ?_
        refine Yt (d:=49) rfl (fun s88_2=>?_) (fun s88_2=>?_)
        ·refine go 35 ?_
         exact Xn hsc () Tryz.results73 (by rw [Zao (i:=i) (Zjs fun h1 h2 h3 h4=>by first | omega | simp_all)]) trivial Za
        ·refine go 4 ?_
         refine Yt (d:=53) rfl (fun s88_3=>?_) (fun s88_3=>?_)
         ·refine go 4 ⟨O,?_⟩
          refine Ej (Yn (ii:=50) (i:=((Zp i x y z).length-1)) rfl rfl rfl rfl Zk Tryz.underlying33 Tryz.sizeOf3) rfl rfl ?_
          refine go 5 ⟨O,?_⟩
          refine Yt (d:=63) rfl (fun s88_4=>?_) (fun s88_4=>?_)
          ·refine go 21 ?_
           exact Xn hsc () Tryz.results73 (by rw [Zao (i:=i) (Zjs fun h1 h2 h3 h4=>by first | omega | simp_all)]) trivial Za
          ·refine go 3 ?_
           refine Gy 5 [50] (Zhp _ (Zp i x y z) ov (Lm hx hy hz i) O O O O) fun _ _=>?_
           refine go 4 ?_
           refine Lb rfl (fun h88=>?_) (fun h88=>?_)
           ·refine go 12 ?_
            exact Xn hsc () Tryz.results73 (by rw [Zao (i:=i) (Zjs fun h1 h2 h3 h4=>by first | omega | simp_all)]) trivial Za
           ·refine go 10 ?_
            refine lp (G:=Nat) [1,3,37,38,45,46,47,50,51,52,53,54,55,56,57,58,59,60,61,64,65,66,67,68,70,71] [0,1,2,3,4,50] (fun k=>[(72,.int .i64 (k:Int))]) (fun k=>[(5,box bx_2 80 (wc (Nc (Nc ov (Nk i x y z)) ((Zp i x y z).take k))))]) (fun k=>k≤(Zp i x y z).length) (fun k=>(Zp i x y z).length-k) 0 O1 ⟨rfl,trivial⟩ ⟨rfl,trivial⟩ ?_
            rintro k hk
            refine go 6 ?_
            refine Zc rfl (fun h91=>?_) (fun h91=>?_)
            ·refine go 11 ⟨O2,O2,?_⟩
             refine Qe (fun _=>False) [(0,0),(1,0),(2,1),(3,1),(4,3)] ?_
             refine go 2 ?_
             refine Yz (Zg 5 [] (Zo ((Zp i x y z).getD k 0) (La (Lm hx hy hz i) k))) fun _ _=>?_
             refine Yz (Zg 5 [] (Zlp (Nc (Nc ov (Nk i x y z)) ((Zp i x y z).take k)) ((Zp i x y z).getD k 0) (Nat.le_trans (hfc i k) O3) (Nat.le_trans (Iz (La (Lm hx hy hz i) k)) O3))) fun _ _=>?_
             refine go 8 ⟨O,?_⟩
             exact Xf (k+1) O1 O1 ⟨rfl,trivial⟩ ⟨by rw [Bs _ O];rfl,trivial⟩
            ·obtain rfl:k=(Zp i x y z).length:=O
             rw [List.take_length]
             refine go 10 ⟨O,?_⟩
             exact Xf (i+1) ⟨O1,fun k hk=>by rcases Nat.lt_succ_iff_lt_or_eq.1 hk with h9 | h9;exact hax k h9;subst h9;exact Zwy O O (by first | omega | simp_all) (by simp_all)⟩ O1 ⟨rfl,trivial⟩ ⟨by rw [Eb x y z O,Ig];rfl,trivial⟩
         ·refine go 13 ?_
          refine Gy 5 [50] (Zhp _ (Zp i x y z) ov (Lm hx hy hz i) O O O O) fun _ _=>?_
          refine go 4 ?_
          refine Lb rfl (fun h88_2=>?_) (fun h88_2=>?_)
          ·refine go 12 ?_
           exact Xn hsc () Tryz.results73 (by rw [Zao (i:=i) (Zjs fun h1 h2 h3 h4=>by first | omega | simp_all)]) trivial Za
          ·refine go 10 ?_
           refine lp (G:=Nat) [1,3,37,38,45,46,47,50,51,52,53,54,55,56,57,58,59,60,61,64,65,66,67,68,70,71] [0,1,2,3,4,50] (fun k=>[(72,.int .i64 (k:Int))]) (fun k=>[(5,box bx_2 80 (wc (Nc (Nc ov (Nk i x y z)) ((Zp i x y z).take k))))]) (fun k=>k≤(Zp i x y z).length) (fun k=>(Zp i x y z).length-k) 0 O1 ⟨rfl,trivial⟩ ⟨rfl,trivial⟩ ?_
           rintro k hk
           refine go 6 ?_
           refine Zc rfl (fun h91_2=>?_) (fun h91_2=>?_)
           ·refine go 11 ⟨O2,O2,?_⟩
            refine Qe (fun _=>False) [(0,0),(1,0),(2,1),(3,1),(4,3)] ?_
            refine go 2 ?_
            refine Yz (Zg 5 [] (Zo ((Zp i x y z).getD k 0) (La (Lm hx hy hz i) k))) fun _ _=>?_
            refine Yz (Zg 5 [] (Zlp (Nc (Nc ov (Nk i x y z)) ((Zp i x y z).take k)) ((Zp i x y z).getD k 0) (Nat.le_trans (hfc i k) O3) (Nat.le_trans (Iz (La (Lm hx hy hz i) k)) O3))) fun _ _=>?_
            refine go 8 ⟨O,?_⟩
            exact Xf (k+1) O1 O1 ⟨rfl,trivial⟩ ⟨by rw [Bs _ O];rfl,trivial⟩
           ·obtain rfl:k=(Zp i x y z).length:=O
            rw [List.take_length]
            refine go 10 ⟨O,?_⟩
            exact Xf (i+1) ⟨O1,fun k hk=>by rcases Nat.lt_succ_iff_lt_or_eq.1 hk with h9 | h9;exact hax k h9;subst h9;exact Zwy O O (by first | omega | simp_all) (by simp_all)⟩ O1 ⟨rfl,trivial⟩ ⟨by rw [Eb x y z O,Ig];rfl,trivial⟩
      ·obtain rfl:i=3:=O
       refine go 6 ?_
       refine Qe (fun _=>False) [(0,0),(1,1),(2,0),(3,3)] ?_
       refine go 1 ?_
       refine Yz (Zg 5 [] (Zo 1 ⟨O3,O3⟩)) fun _ _=>?_
       refine Qc rfl rfl (Qy (Ydv rfl rfl rfl eg80 (fun w=>eql80 w _ _ _ _))) ?_
       refine go 4 ?_
       exact Xn hsc () Tryz.results73 (by rw [Yc8,Yai O hax]) trivial Za
theorem pG:Enc Tryz.prog 35 6 Mo:=Enc.agg O3 Tryz.sizeOf35 Tryz.isAgg35 (fun x=>⟨[.int .i64 x.1.1,.int .i64 x.1.2.1,.int .i64 x.1.2.2,Xb x.2.1.1,Xb x.2.2.1.1,Xb x.2.2.2.1],rfl,rfl,O10⟩)
theorem Ho(n k:Int)(hn:bl n.natAbs≤60)(h0:0≤k)(hk:k≤10):Cal Tryz.prog 227 #[.int .i64 n,.int .i64 k] [] false (G:=Unit) (fun _=>True) (fun _=>wv (n^k.toNat)) (fun _=>[]):=by
 have h:=Zz0 n k.toNat hn O
 rw [Int.toNat_of_nonneg h0]at h
 exact h
end Go.Sky

