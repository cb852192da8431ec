/- Rules, arithmetic and contracts: part 12. No conditions but those that each theorem names. -/
import Derived.Test.YtljmhpopdmadkaaGreatLv10
set_option linter.all false
set_option maxHeartbeats 4000000
namespace Go.Sky
open Go.Proofs.Tryz
open Go.Proofs
set_option synthInstance.maxHeartbeats 0
set_option synthInstance.maxSize 100000
set_option maxRecDepth 20000
set_option maxHeartbeats 4000000
set_option linter.unusedSimpArgs false
theorem rp_to(v:Value)(zs:List (Int×SL))(hs:Sz 1000000 (Zb zs))(hl:zs.length≤1000):Cal prog 20 #[v] [pp v zs] false (G:=Value) (fun r=>True) (fun r=>r) (fun r=>[Xc 2 wv r (Zb zs)]):=by
 refine Zh func20 ntmps20 fun w0 sc hw hsc=>?_
 have hli:=Zd zs
 refine go 17 ?_
 refine Zg (Px 70 2 93 wv)<|lp (G:=Nat×Value) [0] [0,1] (fun q=>[(4,.int .i64 (q.1:Int)),(3,q.2)]) (fun q=>[(70,Ns 2 93 wv q.2 ((Zb zs).take q.1))]) (fun q=>q.1≤zs.length) (fun q=>zs.length-q.1) (0,.slice none 0 0) O1 K2 K1 ?_
 rintro⟨i,vo⟩ hi
 dsimp only at hi
 dsimp only
 have htl:((Zb zs).take i).length=i:=by rw [List.length_take];omega
 have hci:=Qt zs i
 refine go 9 ?_
 refine Zc J (fun h50=>?_) (fun h50=>?_)
 ·refine go 9 ⟨O2,?_⟩
  refine dt (Xy (ii:=1) I0 J J J Zi pI O2)<|tt (Yz (n:=1) (Ycd _ _ (by rw [hci];have:=hs i;omega)) J J J K1 call50 (Xu 1 J J (Zf) Zo) J hw.h) (fun _ _=>?_)
  refine tt (Qg (i:=2) (ivs:=[(0,_)]) (enc:=wv) [(zs.getD i I0).1] J J K2 Lq ti93 J J J J J pV.cells J J hw.h) (fun v _=>?_)
  refine tt (Lk (i:=70) (j:=2) (by_:=24) J J J J J J O3 J (Yw pV) Lq ti93 J pV J J J O9 O3 J hw.h) fun v_2 _=>go 9 ⟨O,?_⟩
  exact Yq (i+1,_) O1 O1 K2 ⟨by rw [Pz 0 _ _ O,show(Zb zs).getD i 0=(zs.getD i I0).1 from hci.symm];rfl,trivial⟩
 ·refine go 12 ?_
  exact Xa hsc _ results20 J trivial (gow 70 Za (List.take_of_length_le O))
theorem Ip(v:Value)(zs:List (Int×SL))(hs:Sz 3000000000 (Zb zs)):Cal prog 92 #[v] [pp v zs] true (G:=Value×List (Int×SL)) (fun r=>Zb r.2=tzl (Zb zs)) (fun r=>r.1) (fun r=>[pp r.1 r.2]):=by
 refine Zh func92 ntmps92 fun w0 sc hw hsc=>?_
 refine Oc (Zrl (i:=1) J) (fun hself=>?_)
 refine Oc (Lp (i:=1) J Zi) (fun hlen=>?_)
 have hli:=Zd zs
 refine go 7 ?_
 refine lp (G:=Nat) [] [0] (fun k=>[(0,Ll v k)]) (fun k=>[(1,pp (Ll v k) (zs.take k))]) (fun k=>(k≤zs.length)∧(tzl ((Zb zs).take k)=tzl (Zb zs))) (fun k=>k) zs.length ⟨Nat.le_refl _,by rw [List.take_of_length_le O]⟩ ⟨by rw [hself];rfl,trivial⟩ ⟨by rw [hself,List.take_length];rfl,trivial⟩ ?_
 rintro k ⟨hk,ht⟩
 have hl:(zs.take k).length=k:=by rw [List.length_take];omega
 have hce:((zs.take k).getD (k-1) I0).1=((Zb zs).take k).getD (k-1) 0:=by rw [Qt,Zf9];rfl
 refine go 7 ?_
 refine Ys (d:=6) J (fun s22=>?_) (fun s22=>?_)
 ·refine go 4 ⟨O,?_⟩
  refine Dc (Zy (ii:=1) (i:=k-1) J J J J Zi Kr Zhp) J J<|Dc (Xy (ii:=1) I0 J J J Zi pI) J J<|gtt (Yz (n:=1) (Es _ _ (by rw [hce];exact(hs.take _).getD _)) J J J K1 call83 (Xu 1 J J (Zf) Zo) J hw.h) J J J J fun _ _=>go 4 ?_
  refine Zc J (fun h22=>?_) (fun h22=>?_)
  ·rw [hce]at h22
   have hstep:=Zps (xs:=Zb zs) (k:=k) O O (Ziy (k:=k) O (Int.sign_eq_zero_iff_zero.1 h22))
   refine go 8 ⟨O,?_⟩
   refine dt (Zxd (ii:=1) (i:=k-1) J J J J Zi Kr Zhp)<|go 3 ?_
   exact Zw (Zyw 1 1 (k-1) J J O)<|Yq (k-1) ⟨O1,by rw [←ht,←hstep]⟩ O1 ⟨by rw [←Ge v k (k-1)];rfl,trivial⟩ ⟨by rw [Ge,List.take_take,Nat.min_eq_left O];rfl,trivial⟩
  ·try rw [hce]at h22
   refine go 12 ?_
   exact Xa hsc (_,zs.take k) results92 J (by rw [Zf9,←ht];exact(Zeo O (by first | (left;omega) | (right;exact Zeq (k:=k) O ‹_›))).symm) (Oe 1 Za)
 ·refine go 24 ?_
  exact Xa hsc (_,zs.take k) results92 J (by rw [Zf9,←ht];exact(Zeo O (by first | (left;omega) | (right;exact Zeq (k:=k) O ‹_›))).symm) (Oe 1 Za)
theorem Ygz(v:Value)(l:List Int)(hl:∀x∈l,Pu x)(hlen:l.length≤1000):Cal prog 69 #[v] [Xc 1 Xg v l] true (G:=Value×List (Int×SL)) (fun r=>Zb r.2=tzl l) (fun r=>r.1) (fun r=>[pp r.1 r.2]):=by
 refine Zh func69 ntmps69 fun w0 sc hw hsc=>?_
 have hsz:=Zh4 hl
 refine go 17 ?_
 refine Zg (Px 70 2 77 Nr)<|Zg (Qi qI 71)<|lp (G:=Nat×Value×List (Int×SL)) [0] [0,1] (fun q=>[(4,.int .i64 (q.1:Int)),(3,q.2.1)]) (fun q=>[(70,Ns 2 77 Nr q.2.1 q.2.2),(71,Hy qI q.2.2)]) (fun q=>(q.1≤l.length)∧(Zb q.2.2=mk q.1 (cf l))∧(q.2.2.length=q.1)) (fun q=>l.length-q.1) (0,.slice none 0 0,[]) ⟨O1,rfl,rfl⟩ K2 K2 ?_
 rintro⟨i,vo,ws⟩ ⟨hi,hz,hzl⟩
 dsimp only at hi hz hzl
 dsimp only
 refine go 9 ?_
 refine Zc J (fun h59=>?_) (fun h59=>?_)
 ·refine go 10 ⟨O2,O2,?_⟩
  refine cl 2 [] (Nm _ (hl _ (Zf))) fun v _=>?_
  refine Yd9 (Pi 2 J Zn) (fun sl hsl=>?_)
  subst hsl
  refine tt (Qg (i:=3) (ivs:=[(0,_)]) (enc:=Nr) [(l.getD i 0,sl)] J J K2 Kr ti77 J J J J J pI.cells J J hw.h) (fun v_2 _=>?_)
  refine tt (Lk (i:=70) (j:=3) (by_:=32) J J J J J J O3 J (Yw pI) Kr ti77 J pI J J J O9 O3 J hw.h) fun v_3 _=>go 9 ⟨O,?_⟩
  exact Zw (Yp (q:=qI) (z:=(l.getD i 0,sl)) 71 2 71 J J J J J)<|Yq (i+1,_,ws ++ [(l.getD i 0,sl)]) ⟨O1,by rw [Mg,Gr,hz];dsimp only;rfl,by simp [hzl]⟩ O1 K2 K2
 ·refine go 6 ?_
  refine Zg (Qa 70 J J pI)<|Zg (Pd 70 71 72 J J J J)<|go 2 ?_
  refine cl 4 [72] (Ip _ _ (by rw [hz];exact Cp fun t ht=>by have:=hsz t;omega)) fun g hg=>go 4 ?_
  exact Xa hsc _ results69 J (by rw [hg,hz,show i=l.length by omega,Zfg]) (Oe 4 Za)
theorem Zez(v:Value)(zs:List (Int×SL))(j:Int)(i:Nat)(hj:j=(i:Int):=by omega)(hi:i≤1000000:=by omega):Cal prog 135 #[v,.int .i64 j] [pp v zs] true (G:=Value) (fun r=>True) (fun r=> .agg #[.bool (decide (cf (Zb zs) i<0)),r]) (fun r=>[Om r (cf (Zb zs) i).natAbs]):=by
 refine Zh func135 ntmps135 fun w0 sc hw hsc=>?_
 have hli:=Zd zs
 refine Oc (Lp (i:=1) J Zi) (fun hlen=>?_)
 refine Zg (Px 60 1 3 Kc)<|Zg (Qa 60 J J pN)<|go 2 ?_
 refine Ya (Zs 2) fun b _=>go 8 ?_
 refine Ys (d:=7) J (fun s91=>?_) (fun s91=>?_)
 ·exfalso;omega
 ·refine go 7 ?_
  refine Zc J (fun h91=>?_) (fun h91=>?_)
  ·refine go 2 ?_
   refine dt (Xh (ivs:=[]) J trivial (fun a w hs=>Zpg))<|go 5 ?_
   have hz0:cf (Zb zs) i=0:=Yb O
   exact Xa hsc (.slice none 0 0) results135 (by rw [hz0]<;>rfl) trivial (Kq (by rw [hz0];rfl) Za)
  ·refine go 6 ?_
   refine dt (Zy (ii:=1) (i:=i) J J J J Zi Kr Zhp hj)<|dt (Xy (ii:=1) I0 J J J Zi pI)<|go 4 ?_
   exact Xa hsc _ results135 (by rw [←Qt]<;>rfl) trivial (Yia 1 J J (Zf (i:=i)) (by rw [←Qt]<;>rfl) Za)
theorem Ib(v w:Value)(zs:List (Int×SL))(y:Int)(hs:Sz 1000000 (Zb zs))(hl:zs.length≤1000:=by omega)(hy:bl y.natAbs≤1000000:=by omega):Cal prog 93 #[v,.agg #[.bool (decide (y<0)),w]] [pp v zs,Om w y.natAbs] true (G:=Value×List (Int×SL)) (fun r=>Zb r.2=Zv (Zb zs) y) (fun r=>r.1) (fun r=>[pp r.1 r.2]):=by
 refine Zh func93 ntmps93 fun w0 sc hw hsc=>?_
 have hli:=Zd zs
 refine go 2 ?_
 refine Ya (Yl 3) fun b _=>go 15 ?_
 refine Zg (Px 70 2 77 Nr)<|Zg (Qi qI 71)<|lp (G:=Nat×Value×List (Int×SL)) [0,3] [0,1,2,3] (fun q=>[(6,.int .i64 (q.1:Int)),(5,q.2.1)]) (fun q=>[(70,Ns 2 77 Nr q.2.1 q.2.2),(71,Hy qI q.2.2)]) (fun q=>(q.1≤zs.length)∧(Zb q.2.2=mk q.1 (fun t=>cf (Zb zs) t*y))∧(q.2.2.length=q.1)) (fun q=>zs.length-q.1) (0,.slice none 0 0,[]) ⟨O1,rfl,rfl⟩ K2 K2 ?_
 rintro⟨i,vo,ws⟩ ⟨hi,hz,hzl⟩
 dsimp only at hi hz hzl
 dsimp only
 have hci:=Qt zs i
 refine go 9 ?_
 refine Zc J (fun h109=>?_) (fun h109=>?_)
 ·refine go 4 ?_
  refine Pm [1,3] [9]<|Zl (n:=3) [(0,0),(1,0),(2,0),(3,0),(4,0),(5,0),(6,1)]<|go 4 ⟨O2,?_⟩
  refine Qo J J (stf (Xy (ii:=1) I0 J J J Zi pI O2) K2)<|go 1 ?_
  refine Kg J (Yz (n:=4) (Ot _ _ _ _ (by rw [hci];have:=hs i;omega)) J J J K2 call39 (Xu 1 J J (Zf) (Zk 2 J J J Zo)) J hw.h) fun v _=>go 1 ?_
  refine Yak (Pi 4 J Zn) (fun sl hsl=>?_)
  subst hsl
  refine Zl (n:=0) [(7,1),(8,1),(9,3)]<|Kg J (Qg (i:=73) (ivs:=[(0,_)]) (enc:=Nr) [((zs.getD i I0).1*y,sl)] J J K2 Kr ti77 J J J J J pI.cells J J hw.h) (fun v_2 _=>?_)
  refine Kg J (Zdw 70 J J J K2 (fun hoffr=>(Zae (xs:=ws) (ys:=[_]) (i:=70) (j:=73) (by_:=32) J J J J J J O3 J (Yw pI) Kr ti77 J pI J J J O9 O3 J hw.h hoffr))) fun v_3 _=>go 2 ?_
  refine Zp<|go 7 ⟨O,?_⟩
  exact Zw (Yp (q:=qI) (z:=((zs.getD i I0).1*y,sl)) 71 4 71 J J J J J)<|Yq (i+1,_,ws ++ [((zs.getD i I0).1*y,sl)]) ⟨O1,by rw [Mg,Gr,hz];dsimp only;rw [Qt],by simp [hzl]⟩ O1 K2 K2
 ·refine go 6 ?_
  refine Zg (Qa 70 J J pI)<|Zg (Pd 70 71 72 J J J J)<|go 2 ?_
  refine cl 5 [72] (Ip _ _ (by rw [hz];exact Cp fun t ht=>by have:=Yd (cf (Zb zs) t) y;have:=hs t;omega)) fun g hg=>go 4 ?_
  exact Xa hsc _ results93 J (by rw [hg,hz,show i=(Zb zs).length by omega,Zte]) (Oe 5 Za)
theorem Znb(v:Value)(zs:List (Int×SL))(hs:Sz 1000000 (Zb zs))(hl:zs.length≤1000:=by omega):Cal prog 136 #[v] [pp v zs] true (G:=Value×List (Int×SL)) (fun r=>Zb r.2=Zv (Zb zs) (-1)) (fun r=>r.1) (fun r=>[pp r.1 r.2]):=by
 refine Zh func136 ntmps136 fun w0 sc hw hsc=>go 8 ?_
 refine cl 2 [] (Nm (-1)) fun v _=>cl 3 [1,2] (Ib _ _ _ _ hs hl O3) fun g hg=>go 4 ?_
 exact Xa hsc _ results136 J hg (Oe 3 Za)
theorem Yb1(v u:Value)(zs ys:List (Int×SL))(hs:Sz 1000000 (Zb zs))(hl:zs.length≤1000)(ht:Sz 1000000 (Zb ys))(hk:ys.length≤1000):Cal prog 88 #[v,u] [pp v zs,pp u ys] true (G:=Value×List (Int×SL)) (fun r=>Zb r.2=Bq (Zb zs) (Zb ys)) (fun r=>r.1) (fun r=>[pp r.1 r.2]):=by
 refine Zh func88 ntmps88 fun w0 sc hw hsc=>?_
 have hli:=Zd zs
 have hli2:=Zd ys
 refine Oc (Lp (i:=1) J Zi) (fun hlen=>?_)
 refine Oc (Lp (i:=2) J Zi) fun hlen2=>go 17 ?_
 refine Zg (Px 70 2 77 Nr)<|Zg (Qi qI 71)<|lp (G:=Nat×Value×List (Int×SL)) [0,1] [0,1,2] (fun q=>[(6,.int .i64 (q.1:Int)),(5,q.2.1)]) (fun q=>[(70,Ns 2 77 Nr q.2.1 q.2.2),(71,Hy qI q.2.2)]) (fun q=>(q.1≤(max zs.length ys.length))∧(Zb q.2.2=mk q.1 (fun t=>cf (Zb zs) t+cf (Zb ys) t))∧(q.2.2.length=q.1)) (fun q=>(max zs.length ys.length)-q.1) (0,.slice none 0 0,[]) ⟨O1,rfl,rfl⟩ K2 K2 ?_
 rintro⟨i,vo,ws⟩ ⟨hi,hz,hzl⟩
 dsimp only at hi hz hzl
 dsimp only
 refine go 1 ?_
 refine jn (G:=Unit) [0,1,5,6] [0,70,71,1,2] (fun _=>[(16,.bool (decide (i<max zs.length ys.length)))]) (fun _=>[]) (fun _=>True) ?_ ?_
 ·refine go 6 ?_
  refine Ys (d:=11) J (fun s100=>?_) (fun s100=>?_)
  ·refine go 6 ?_
   exact Pw () trivial ⟨by first | exact congrArg some (vB (decide_eq_decide.2 O)) | exact congrArg some (vB (decide_eq_true O).symm),trivial⟩ trivial
  ·refine go 6 ?_
   exact Pw () trivial ⟨by first | exact congrArg some (vB (decide_eq_decide.2 O)) | exact congrArg some (vB (decide_eq_true O).symm),trivial⟩ trivial
 ·rintro _ -
  refine Zc J (fun h100=>?_) (fun h100=>?_)
  ·refine go 8 ?_
   refine cl 3 [1] (Zez _ _ _ i J) fun v _=>go 2 ?_
   refine cl 4 [2] (Zez _ _ _ i J) fun v_2 _=>cl 5 [3,4] (Zdj _ _ _ _ (by have:=ht i;omega) (by have:=hs i;omega)) fun v_3 _=>?_
   refine Yd9 (Pi 5 J Zn) (fun sl hsl=>?_)
   subst hsl
   refine tt (Qg (i:=6) (ivs:=[(0,_)]) (enc:=Nr) [(cf (Zb zs) i+cf (Zb ys) i,sl)] J J K2 Kr ti77 J J J J J pI.cells J J hw.h) (fun v_4 _=>?_)
   refine tt (Lk (i:=70) (j:=6) (by_:=32) J J J J J J O3 J (Yw pI) Kr ti77 J pI J J J O9 O3 J hw.h) fun v_5 _=>go 9 ⟨O,?_⟩
   exact Zw (Yp (q:=qI) (z:=(cf (Zb zs) i+cf (Zb ys) i,sl)) 71 5 71 J J J J J)<|Yq (i+1,_,ws ++ [(cf (Zb zs) i+cf (Zb ys) i,sl)]) ⟨O1,by rw [Mg,Gr,hz],by simp [hzl]⟩ O1 K2 K2
  ·refine go 6 ?_
   refine Zg (Qa 70 J J pI)<|Zg (Pd 70 71 72 J J J J)<|go 2 ?_
   refine cl 7 [72] (Ip _ _ (by rw [hz];exact Cp fun t h=>by have:=Ea (cf (Zb zs) t) (cf (Zb ys) t);have:=hs t;have:=ht t;omega)) fun g hg=>go 4 ?_
   exact Xa hsc _ results88 J (by rw [hg,hz,show i=max (Zb zs).length (Zb ys).length by omega,Yhh]) (Oe 7 Za)
theorem Bp(v u:Value)(zs ys:List (Int×SL))(hs:Sz 1000000 (Zb zs))(ht:Sz 1000000 (Zb ys))(hl:zs.length≤1000:=by omega)(hk:ys.length≤1000:=by omega):Cal prog 91 #[v,u] [pp v zs,pp u ys] true (G:=Value×List (Int×SL)) (fun r=>Zb r.2=Gj (Zb zs) (Zb ys)) (fun r=>r.1) (fun r=>[pp r.1 r.2]):=by
 refine Zh func91 ntmps91 fun w0 sc hw hsc=>go 9 ?_
 refine cl 3 [2] (Znb _ _ ht hk) fun g hg=>cl 4 [1,3] (Yb1 _ _ _ _ hs hl (by rw [hg];intro t;rw [Yj];have h1:=ht t;rw [Int.mul_neg,Int.mul_one,Zks];exact h1) (by rw [←Zd,hg];have:=Of (Zb ys) (-1);rw [Zd]at this;omega)) fun g_2 hg_2=>go 4 ?_
 exact Xa hsc _ results91 J (by rw [hg_2,hg,Yhb]) (Oe 4 Za)
theorem Zcp(v:Value)(zs:List (Int×SL))(hs:Sz 1000000 (Zb zs))(hl:zs.length≤1000:=by omega):Cal prog 87 #[v] [pp v zs] true (G:=Value×List (Int×SL)) (fun r=>Zb r.2=Yi (Zb zs)) (fun r=>r.1) (fun r=>[pp r.1 r.2]):=by
 refine Zh func87 ntmps87 fun w0 sc hw hsc=>?_
 have hli:=Zd zs
 refine go 17 ?_
 refine Zg (Px 70 2 77 Nr)<|Zg (Qi qI 71)<|lp (G:=Nat×Value×List (Int×SL)) [0] [0,1] (fun q=>[(4,.int .i64 ((q.1:Int)+1)),(3,q.2.1)]) (fun q=>[(70,Ns 2 77 Nr q.2.1 q.2.2),(71,Hy qI q.2.2)]) (fun q=>(q.1≤(zs.length-1))∧(Zb q.2.2=mk q.1 (fun t=>cf (Zb zs) (t+1)*((t:Int)+1)))∧(q.2.2.length=q.1)) (fun q=>(zs.length-1)-q.1) (0,.slice none 0 0,[]) ⟨O1,rfl,rfl⟩ K2 K2 ?_
 rintro⟨i,vo,ws⟩ ⟨hi,hz,hzl⟩
 dsimp only at hi hz hzl
 dsimp only
 have hci:=Qt zs (i+1)
 refine go 9 ?_
 refine Zc J (fun h140=>?_) (fun h140=>?_)
 ·refine go 4 ?_
  refine Pm [1] [10]<|Zl (n:=3) [(0,0),(1,0),(2,0),(3,0),(4,0),(5,0),(6,1),(7,1)]<|go 3 ?_
  refine Qo J J (stf (Zy (ii:=1) (i:=(i+1)) J J J J Zi Kr Zhp) K1)<|Qo J J (stf (Xy (ii:=1) I0 J J J Zi pI) K1)<|go 1 ?_
  refine Yh (Zj 2 [] (Nm ((i:Int)+1))) fun v _=>?_
  refine Kg J (Yz (n:=3) (Ot _ _ _ _ (by rw [hci];have:=hs (i+1);omega) (bl_i1 O)) J J J K2 call39 (Xu 1 J J (Zf (i:=i+1)) (Zk 2 J J J Zo)) J hw.h) fun v_2 _=>go 1 ?_
  refine Yak (Pi 3 J Zn) (fun sl hsl=>?_)
  subst hsl
  refine Zl (n:=0) [(8,1),(9,1),(10,3)]<|Kg J (Qg (i:=73) (ivs:=[(0,_)]) (enc:=Nr) [((zs.getD (i+1) I0).1*((i:Int)+1),sl)] J J K2 Kr ti77 J J J J J pI.cells J J hw.h) (fun v_3 _=>?_)
  refine Kg J (Zdw 70 J J J K1 (fun hoffr=>(Zae (xs:=ws) (ys:=[_]) (i:=70) (j:=73) (by_:=32) J J J J J J O3 J (Yw pI) Kr ti77 J pI J J J O9 O3 J hw.h hoffr))) fun v_4 _=>go 2 ?_
  refine Zp<|go 7 ⟨O,?_⟩
  exact Zw (Yp (q:=qI) (z:=((zs.getD (i+1) I0).1*((i:Int)+1),sl)) 71 3 71 J J J J J)<|Yq (i+1,_,ws ++ [((zs.getD (i+1) I0).1*((i:Int)+1),sl)]) ⟨O1,by rw [Mg,Gr,hz];dsimp only;rw [Qt],by simp [hzl]⟩ O1 K2 K2
 ·refine go 6 ?_
  refine Zg (Qa 70 J J pI)<|Zg (Pd 70 71 72 J J J J)<|go 6 ?_
  exact Xa hsc (_,ws) results87 J (by rw [hz,show i=(Zb zs).length-1 by omega]<;>rfl) (Oe 72 Za)
theorem Zi8(v:Value)(x:Int)(j:Int)(n:Nat)(hx:bl x.natAbs≤1000000)(hj:j=(n:Int):=by omega)(hn:n≤100:=by omega):Cal prog 209 #[.agg #[.bool (decide (x<0)),v],.int .i64 j] [Om v x.natAbs] true (G:=Value) (fun r=>True) (fun r=> .agg #[.bool (decide (x^n<0)),r]) (fun r=>[Om r (x^n).natAbs]):=by
 refine Zh func209 ntmps209 fun w0 sc hw hsc=>?_
 have hpb:=fun k=>Dg hx k
 refine go 2 ?_
 refine Ya (Yl 2) fun b _=>Ya (Zs 3) fun b_2 _=>go 4 ?_
 refine cl 98 [] (Nm 1) fun v _=>Ya (Zs 97) fun b_3 _=>go 10 ?_
 refine lp (G:=Nat×Value) [1,2,4,5] [0,1,2,3] (fun q=>[(6,.int .i64 (q.1:Int))]) (fun q=>[(97,box b_3 77 #[.bool (decide (x^q.1<0)),q.2]),(98,Om q.2 (x^q.1).natAbs)]) (fun q=>q.1≤n) (fun q=>n-q.1) (0,_) O1 K1 ⟨by rw [Int.pow_zero];rfl,by rw [Int.pow_zero];rfl,trivial⟩ ?_
 rintro⟨i,vs⟩ hi
 dsimp only at hi
 dsimp only
 have hp1:=hpb i
 have hp2:i*1000000≤100*1000000:=Nat.mul_le_mul_right _ O
 refine go 8 ?_
 refine Zc J (fun h149=>?_) (fun h149=>?_)
 ·refine go 7 ?_
  refine cl 4 [98,1] (Ot _ _ _ _) fun v_2 _=>go 9 ⟨O,?_⟩
  exact Zw (Xe 4 98 J J J)<|Yq (i+1,v_2) O1 O1 K1 ⟨by rw [Int.pow_succ];rfl,by rw [Int.pow_succ];rfl,trivial⟩
 ·refine go 6 ?_
  obtain rfl:i=n:=O
  refine go 6 ?_
  exact Xa hsc _ results209 J trivial (Oe 98 Za)
theorem Zvj(v w u:Value)(zs:List (Int×SL))(x y:Int)(hs:Sz 1000000 (Zb zs))(hx:bl x.natAbs≤1000000)(hy:bl y.natAbs≤1000000)(hl:zs.length≤30:=by omega):Cal prog 182 #[v,.agg #[.bool (decide (x<0)),w,.bool (decide (y<0)),u]] [pp v zs,Om w x.natAbs,Om u y.natAbs] true (G:=Value) (fun r=>True) (fun r=> .agg #[.bool (decide (pev (Zb zs) x y<0)),r]) (fun r=>[Om r (pev (Zb zs) x y).natAbs]):=by
 refine Zh func182 ntmps182 fun w0 sc hw hsc=>?_
 have hli:=Zd zs
 have hpx:=fun k=>Dg hx k
 have hpy:=fun k=>Dg hy k
 have htb:=ev_tb hs hpx hpy (by omega:(Zb zs).length≤30)
 have hsb:=fun i (h:i≤30)=>Zo8 (n:=i) (fun t _=>htb t) O
 refine go 2 ?_
 refine Ya (Yl 4) fun b _=>Ya (Zs 5) fun b_2 _=>go 4 ?_
 refine dt (Xh (ivs:=[]) J trivial (fun a w hs=>Zpg))<|Ya (Zs 97) fun b_3 _=>go 10 ?_
 refine Zg (Px 98 1 3 Kc)<|Zg (Qa 98 J J pN)<|lp (G:=Nat×Value) [0,3,4,5] [0,1,2,3,4,5] (fun q=>[(6,.int .i64 (q.1:Int))]) (fun q=>[(97,box b_3 77 #[.bool (decide (Yv (fun t=>cf (Zb zs) t*(x^t*y^((Zb zs).length-1-t))) q.1<0)),q.2]),(98,Om q.2 (Yv (fun t=>cf (Zb zs) t*(x^t*y^((Zb zs).length-1-t))) q.1).natAbs)]) (fun q=>q.1≤zs.length) (fun q=>zs.length-q.1) (0,.slice none 0 0) O1 K1 K2 ?_
 rintro⟨i,vs⟩ hi
 dsimp only at hi
 dsimp only
 have hci:=Qt zs i
 have h1:=hpx i
 have h2:=hpy ((Zb zs).length-1-i)
 have h3:i*1000000≤30*1000000:=Nat.mul_le_mul_right _ O
 have h4:((Zb zs).length-1-i)*1000000≤30*1000000:=Nat.mul_le_mul_right _ O
 have h5:=Yd (x^i) (y^((Zb zs).length-1-i))
 have h6:=hs i
 have h7:=hsb i O
 refine go 9 ?_
 refine Zc J (fun h158=>?_) (fun h158=>?_)
 ·refine go 4 ?_
  refine Xx (fun _=>False) [(0,0),(1,0),(2,0),(3,0),(4,0),(5,0),(6,0),(7,0),(9,0),(10,0),(11,0),(12,0),(13,0),(14,0),(15,0),(8,1),(16,1),(17,1),(18,1),(19,1),(20,3)]<|go 4 ⟨O2,?_⟩
  refine Qo J J (Qq (Xy (ii:=1) I0 J J J Zi pI O2))<|go 10 ⟨O,O,?_⟩
  refine Yh (Zj 6 [2] (Zi8 _ _ _ i hx J)) fun v _=>Yh (Zj 7 [3] (Zi8 _ _ _ ((Zb zs).length-1-i) hy)) fun v_2 _=>Yh (Zj 8 [6,7] (Ot _ _ _ _ (by first | omega | (rw [hci];omega)))) fun v_3 _=>?_
  refine Kg J (Yz (n:=9) (Ot _ _ _ _ (by first | omega | (rw [hci];omega))) J J J K2 call39 (Xu 1 J J (Zf) (Zk 8 J J J Zo)) J hw.h) fun v_4 _=>Yh (Zj 10 [98,9] (Zdj _ _ _ _ (by rw [hci];have:=htb i;omega))) fun v_5 _=>go 9 ⟨O,?_⟩
  exact Zw (Xe 10 98 J J J)<|Yq (i+1,v_5) O1 O1 K1 ⟨by rw [hci,Yy];rfl,by rw [hci,Yy];rfl,trivial⟩
 ·refine go 6 ?_
  obtain rfl:i=zs.length:=O
  refine go 6 ?_
  exact Xa hsc _ results182 (by unfold pev;rw [hli]<;>rfl) trivial (Oe 98 Za (by unfold pev;rw [hli]<;>rfl))
theorem Zs7(v:Value)(zs:List (Int×SL))(hs:Sz 1000000 (Zb zs))(hl:zs.length≤1000):Cal prog 137 #[v] [pp v zs] true (G:=Value) (fun r=>True) (fun r=> .agg #[.bool (decide (Yk (Zb zs)<0)),r]) (fun r=>[Om r (Yk (Zb zs)).natAbs]):=by
 refine Zh func137 ntmps137 fun w0 sc hw hsc=>?_
 have hli:=Zd zs
 have hcb:∀k,bl (Yk ((Zb zs).take k)).natAbs≤1000000:=fun k=>Ze7 _ (hs.take k)
 refine go 2 ?_
 refine Ya (Zs 2) fun b _=>go 4 ?_
 refine dt (Xh (ivs:=[]) J trivial (fun a w hs=>Zpg))<|Ya (Zs 97) fun b_2 _=>go 10 ?_
 refine Zg (Px 98 1 3 Kc)<|Zg (Qa 98 J J pN)<|lp (G:=Nat×Value) [0,2,3] [0,1,2] (fun q=>[(4,.int .i64 (q.1:Int))]) (fun q=>[(97,box b_2 77 #[.bool (decide (Yk ((Zb zs).take q.1)<0)),q.2]),(98,Om q.2 (Yk ((Zb zs).take q.1)).natAbs)]) (fun q=>q.1≤zs.length) (fun q=>zs.length-q.1) (0,.slice none 0 0) O1 K1 K2 ?_
 rintro⟨i,vs⟩ hi
 dsimp only at hi
 dsimp only
 have hci:=Qt zs i
 have hgc:=fun h=>Lc (p:=Zb zs) (k:=i) h
 have h1:=hcb i
 have h2:=hs i
 refine go 9 ?_
 refine Zc J (fun h186=>?_) (fun h186=>?_)
 ·refine go 4 ?_
  refine Xx (fun _=>False) [(0,0),(1,0),(2,0),(3,0),(4,0),(5,1),(6,3)]<|go 4 ⟨O2,?_⟩
  refine Qo J J (Qq (Xy (ii:=1) I0 J J J Zi pI O2))<|Kg J (Yz (n:=3) (Zvr _ _ _ _ (by rw [hci];omega)) J J J K2 call42 (Zk 98 J J J (Xu 1 J J (Zf) Zo)) J hw.h) fun v _=>go 9 ⟨O,?_⟩
  exact Zw (Xe 3 98 J J J)<|Yq (i+1,v) O1 O1 K1 ⟨by rw [hgc O,show(Zb zs).getD i 0=(zs.getD i I0).1 from hci.symm];rfl,by rw [hgc O,show(Zb zs).getD i 0=(zs.getD i I0).1 from hci.symm];rfl,trivial⟩
 ·refine go 6 ?_
  obtain rfl:i=zs.length:=O
  rw [List.take_of_length_le (by omega:(Zb zs).length≤zs.length)]
  refine go 6 ?_
  exact Xa hsc _ results137 J trivial (Oe 98 Za)
theorem Oj(v:Value)(zs:List (Int×SL))(hs:Sz 1000000 (Zb zs))(hc:zs.length≠0→Yk (Zb zs)≠0)(hl:zs.length≤1000:=by omega):Cal prog 94 #[v] [pp v zs] true (G:=Value×List (Int×SL)) (fun r=>Zb r.2=Zr (Zb zs)) (fun r=>r.1) (fun r=>[pp r.1 r.2]):=by
 refine Zh func94 ntmps94 fun w0 sc hw hsc=>?_
 have hli:=Zd zs
 have hcb:bl (Yk (Zb zs)).natAbs≤1000000:=Ze7 _ hs
 refine go 8 ?_
 refine cl 2 [1] (Zs7 _ _ hs hl) fun v _=>Ya (Zs 3) fun b _=>go 15 ?_
 refine Zg (Px 70 2 77 Nr)<|Zg (Qi qI 71)<|lp (G:=Nat×Value×List (Int×SL)) [0,3] [0,1,2,3] (fun q=>[(5,.int .i64 (q.1:Int)),(4,q.2.1)]) (fun q=>[(70,Ns 2 77 Nr q.2.1 q.2.2),(71,Hy qI q.2.2)]) (fun q=>(q.1≤zs.length)∧(Zb q.2.2=mk q.1 (fun t=>cf (Zb zs) t/Yk (Zb zs)))∧(q.2.2.length=q.1)) (fun q=>zs.length-q.1) (0,.slice none 0 0,[]) ⟨O1,rfl,rfl⟩ K2 K2 ?_
 rintro⟨i,vo,ws⟩ ⟨hi,hz,hzl⟩
 dsimp only at hi hz hzl
 dsimp only
 have hci:=Qt zs i
 refine go 9 ?_
 refine Zc J (fun h196=>?_) (fun h196=>?_)
 ·refine go 4 ?_
  refine jn (G:=Value×Nat) [0,3,4,5] [0,70,71,1,2,3] (fun q=>[(6,.pointer (some ⟨q.2,0,none⟩))]) (fun q=>[(83,Om q.1 ((zs.getD i I0).1/Yk (Zb zs)).natAbs),(97,box q.2 77 #[.bool (decide ((zs.getD i I0).1/Yk (Zb zs)<0)),q.1])]) (fun q=>True) ?_ ?_
  ·refine Pm [1,3] [12]<|Zl (n:=8) [(0,0),(1,0),(2,0),(3,0),(4,0)]<|go 3 ⟨O2,?_⟩
   refine Qo J J (stf (Xy (ii:=1) I0 J J J Zi pI O2) K2)<|go 2 ?_
   refine Zdt (n:=7) 5 9 10 ?_ ?_ ?_
   ·refine Lj J (Yz (n:=83) (Lh _ _ _ _ (by rw [hci];have:=hs i;omega) (hc O)) J J J K2 Hg (Xu 1 J J (Zf) (Zk 2 J J J Zo)) J hw.h) (fun g _=>?_)
    refine Zl (n:=4) [(6,0),(7,0),(8,0)]<|go 4 ?_
    refine Qp (n:=3) 9 10 ?_ ?_
    ·refine Nb (Ql 97) fun b_2 ho=>?_
     refine Zl (n:=0) [(10,1),(11,1),(12,3)]<|Yh (Ql 99) fun b_3 ho2=>go 3 ?_
     exact Zp<|Pw (_,_) trivial K1 K2
    ·refine Nb (Ql 99) fun b_4 ho3=>?_
     refine Zl (n:=0) [(9,1),(11,1),(12,3)]<|Yh (Ql 97) fun b_5 ho4=>go 3 ?_
     exact Zp<|Pw (_,_) trivial K1 K2
   ·refine Nb (Ql 97) fun b_6 ho5=>?_
    refine Qp (n:=6) 5 10 ?_ ?_
    ·refine Lj J (Yz (n:=83) (Lh _ _ _ _ (by rw [hci];have:=hs i;omega) (hc O)) J J J K2 Hg (Xu 1 J J (Zf) (Zk 2 J J J Zo)) J hw.h) (fun g_2 _=>?_)
     refine Zl (n:=0) [(6,0),(7,0),(8,0),(10,1),(11,1),(12,3)]<|go 3 ?_
     refine Yh (Ql 99) fun b_7 ho6=>go 3 ?_
     exact Zp<|Pw (_,_) trivial K1 K2
    ·refine Nb (Ql 99) fun b_8 ho7=>?_
     refine Zl (n:=0) [(5,1),(6,0),(7,0),(8,0),(11,1),(12,3)]<|Kg J (Yz (n:=83) (Lh _ _ _ _ (by rw [hci];have:=hs i;omega) (hc O)) J J J K2 Hg (Xu 1 J J (Zf) (Zk 2 J J J Zo)) J hw.h) fun g_3 _=>go 6 ?_
     exact Zp<|Pw (_,_) trivial K1 K2
   ·refine Nb (Ql 99) fun b_9 ho8=>?_
    refine Qp (n:=6) 5 9 ?_ ?_
    ·refine Lj J (Yz (n:=83) (Lh _ _ _ _ (by rw [hci];have:=hs i;omega) (hc O)) J J J K2 Hg (Xu 1 J J (Zf) (Zk 2 J J J Zo)) J hw.h) (fun g_4 _=>?_)
     refine Zl (n:=0) [(6,0),(7,0),(8,0),(9,1),(11,1),(12,3)]<|go 3 ?_
     refine Yh (Ql 97) fun b_10 ho9=>go 3 ?_
     exact Zp<|Pw (_,_) trivial K1 K2
    ·refine Nb (Ql 97) fun b_11 ho10=>?_
     refine Zl (n:=0) [(5,1),(6,0),(7,0),(8,0),(11,1),(12,3)]<|Kg J (Yz (n:=83) (Lh _ _ _ _ (by rw [hci];have:=hs i;omega) (hc O)) J J J K2 Hg (Xu 1 J J (Zf) (Zk 2 J J J Zo)) J hw.h) fun g_5 _=>go 6 ?_
     exact Zp<|Pw (_,_) trivial K1 K2
  ·rintro⟨qv,b6⟩ -
   dsimp only
   refine Zde (Pi 83 J Zn) (fun sl hsl=>?_)
   subst hsl
   refine go 3 ?_
   refine tt (Qg (i:=4) (ivs:=[(0,_)]) (enc:=Nr) [((zs.getD i I0).1/Yk (Zb zs),sl)] J J K2 Kr ti77 J J J J J pI.cells J J hw.h) (fun v_2 _=>?_)
   refine tt (Lk (i:=70) (j:=4) (by_:=32) J J J J J J O3 J (Yw pI) Kr ti77 J pI J J J O9 O3 J hw.h) fun v_3 _=>go 9 ⟨O,?_⟩
   exact Zw (Yp (q:=qI) (z:=((zs.getD i I0).1/Yk (Zb zs),sl)) 71 83 71 J J J J J)<|Yq (i+1,_,ws ++ [((zs.getD i I0).1/Yk (Zb zs),sl)]) ⟨O1,by rw [Mg,Gr,hz];dsimp only;rw [Qt],by simp [hzl]⟩ O1 K2 K2
 ·refine go 6 ?_
  refine Zg (Qa 70 J J pI)<|Zg (Pd 70 71 72 J J J J)<|go 6 ?_
  exact Xa hsc (_,ws) results94 J (by rw [hz,show i=(Zb zs).length by omega,Zn4 (Zb zs) (· / Yk (Zb zs))]<;>rfl) (Oe 72 Za)
theorem Yb0(v u:Value)(zs ys:List (Int×SL))(hs:Sz 1000000 (Zb zs))(ht:Sz 1000000 (Zb ys))(hl:zs.length≤60:=by omega)(hk:ys.length≤60:=by omega):Cal prog 89 #[v,u] [pp v zs,pp u ys] true (G:=Value×List (Int×SL)) (fun r=>Zb r.2=Xq (Zb zs) (Zb ys)) (fun r=>r.1) (fun r=>[pp r.1 r.2]):=by
 refine Zh func89 ntmps89 fun w0 sc hw hsc=>?_
 have hli:=Zd zs
 have hli2:=Zd ys
 have htb:∀i k,bl (cf (Zb zs) k*cf (Zb ys) (i-k)).natAbs≤2000000:=fun i k=>by have:=Yd (cf (Zb zs) k) (cf (Zb ys) (i-k));have:=hs k;have:=ht (i-k);omega
 have hsb:∀i n,n≤1000→bl (Yv (fun k=>cf (Zb zs) k*cf (Zb ys) (i-k)) n).natAbs≤2000010:=fun i n hn=>Zo8 (fun t _=>htb i t) O
 refine go 17 ?_
 refine Zg (Px 70 2 77 Nr)<|Zg (Qi qI 71)<|lp (G:=Nat×Value×List (Int×SL)) [0,1] [0,1,2] (fun q=>[(6,.int .i64 (q.1:Int)),(5,q.2.1)]) (fun q=>[(70,Ns 2 77 Nr q.2.1 q.2.2),(71,Hy qI q.2.2)]) (fun q=>(q.1≤(zs.length+ys.length-1))∧(Zb q.2.2=mk q.1 (fun t=>Yv (fun a9=>cf (Zb zs) a9*cf (Zb ys) (t-a9)) (t+1)))∧(q.2.2.length=q.1)) (fun q=>(zs.length+ys.length-1)-q.1) (0,.slice none 0 0,[]) ⟨O1,rfl,rfl⟩ K2 K2 ?_
 rintro⟨i,vo,ws⟩ ⟨hi,hz,hzl⟩
 dsimp only at hi hz hzl
 dsimp only
 refine go 13 ⟨O,O,?_⟩
 refine Zc J (fun h124=>?_) (fun h124=>?_)
 ·refine go 6 ?_
  refine dt (Xh (ivs:=[]) J trivial (fun a w hs=>Zpg))<|Ya (Zs 97) fun b _=>go 10 ?_
  refine Zg (Px 98 1 3 Kc)<|Zg (Qa 98 J J pN)<|lp (G:=Nat×Value) [0,1,5,6,7] [0,70,71,1,2] (fun q=>[(8,.int .i64 (q.1:Int))]) (fun q=>[(97,box b 77 #[.bool (decide (Yv (fun a9=>cf (Zb zs) a9*cf (Zb ys) (i-a9)) q.1<0)),q.2]),(98,Om q.2 (Yv (fun a9=>cf (Zb zs) a9*cf (Zb ys) (i-a9)) q.1).natAbs)]) (fun q=>q.1≤i+1) (fun q=>i+1-q.1) (0,.slice none 0 0) O1 K1 K2 ?_
  rintro⟨k,vs⟩ hk1
  dsimp only at hk1
  dsimp only
  have h1:=hsb i k
  have h2:=htb i k
  have h3:=hs k
  have h4:=ht (i-k)
  refine go 8 ?_
  refine Zc J (fun h126=>?_) (fun h126=>?_)
  ·refine go 4 ?_
   refine Xx (fun _=>False) [(0,0),(1,0),(2,0),(4,0),(5,0),(6,0),(7,0),(3,1),(8,1),(9,1),(10,1),(11,3)]<|go 7 ⟨O,?_⟩
   refine Yh (Zj 3 [1] (Zez _ _ _ k J)) fun v _=>Yh (Zj 4 [2] (Zez _ _ _ (i-k))) fun v_2 _=>Yh (Zj 5 [3,4] (Ot _ _ _ _)) fun v_3 _=>Yh (Zj 6 [98,5] (Zdj _ _ _ _ O)) fun v_4 _=>go 9 ⟨O,?_⟩
   exact Zw (Xe 6 98 J J J)<|Yq (k+1,v_4) O1 O1 K1 ⟨by rw [Yy];rfl,by rw [Yy];rfl,trivial⟩
  ·refine go 5 ?_
   obtain rfl:k=i+1:=O
   refine Zde (Pi 98 J Zn) (fun sl hsl=>?_)
   subst hsl
   refine go 3 ?_
   refine tt (Qg (i:=7) (ivs:=[(0,_)]) (enc:=Nr) [(Yv (fun a9=>cf (Zb zs) a9*cf (Zb ys) (i-a9)) (i+1),sl)] J J K2 Kr ti77 J J J J J pI.cells J J hw.h) (fun v_5 _=>?_)
   refine tt (Lk (i:=70) (j:=7) (by_:=32) J J J J J J O3 J (Yw pI) Kr ti77 J pI J J J O9 O3 J hw.h) fun v_6 _=>go 9 ⟨O,?_⟩
   exact Zw (Yp (q:=qI) (z:=(Yv (fun a9=>cf (Zb zs) a9*cf (Zb ys) (i-a9)) (i+1),sl)) 71 98 71 J J J J J)<|Yq (i+1,_,ws ++ [(Yv (fun a9=>cf (Zb zs) a9*cf (Zb ys) (i-a9)) (i+1),sl)]) ⟨O1,by rw [Mg,Gr,hz],by simp [hzl]⟩ O1 K2 K2
 ·refine go 12 ?_
  refine Ys (d:=43) J (fun s131=>?_) (fun s131=>?_)
  ·refine go 14 ?_
   refine Zw (Mh 62) ?_
   have hp0:Xq (Zb zs) (Zb ys)=[]:=Ai (by first | (left;omega) | (right;omega))
   exact Xa hsc (.slice none 0 0,[]) results89 J (by rw [hp0]<;>rfl) (Oe 62 Za)
  ·refine go 6 ?_
   refine Zc J (fun h131=>?_) (fun h131=>?_)
   ·refine go 7 ?_
    refine Zw (Mh 62) ?_
    have hp0:Xq (Zb zs) (Zb ys)=[]:=Ai (by first | (left;omega) | (right;omega))
    exact Xa hsc (.slice none 0 0,[]) results89 J (by rw [hp0]<;>rfl) (Oe 62 Za)
   ·refine go 3 ?_
    refine Zg (Qa 70 J J pI)<|Zg (Pd 70 71 72 J J J J)<|go 2 ?_
    refine cl 8 [72] (Ip _ _ (by rw [hz];exact Cp fun t h=>by have:=hsb t (t+1) O;omega)) fun g hg=>go 4 ?_
    exact Xa hsc _ results89 J (by rw [hg,hz,show i=(Zb zs).length+(Zb ys).length-1 by omega,Yhc]) (Oe 8 Za)
theorem r_same(v u:Value)(r t:List (Bool×ByteArray)):Ok prog 19 #[v,u] [Xc 2 Zt6 v r,Xc 2 Zt6 u t] (.bool (decide (r=t))):=by
 refine Zh func19 ntmps19 fun w0 sc hw hsc=>?_
 refine Oc (Lp (i:=1) J Zn) (fun hlr=>?_)
 refine Oc (Lp (i:=2) J Zn) fun hlt=>go 15 ?_
 refine Zc J (fun h78=>?_) (fun h78=>?_)
 ·refine go 7 ?_
  exact Xa hsc () results19 (by rw [decide_eq_false (fun e=>by subst e;exact h78 rfl)]) trivial Za
 ·have hle:r.length=t.length:=O
  refine go 9 ?_
  refine lp (G:=Nat) [0,1] [0,1,2] (fun k=>[(5,.int .i64 (k:Int))]) (fun k=>[]) (fun k=>(k≤r.length)∧(r.take k=t.take k)) (fun k=>r.length-k) 0 ⟨O1,O5⟩ K1 trivial ?_
  rintro k ⟨hk,ht⟩
  refine go 9 ?_
  refine Zc J (fun h81=>?_) (fun h81=>?_)
  ·refine go 5 ?_
   refine Xx (fun _=>False) [(0,0),(1,0),(2,0),(3,0),(4,0),(5,0),(6,0),(7,0),(8,0)]<|go 3 ⟨O2,?_⟩
   refine Qo J J (Qq (Xy (ii:=1) (false,⟨#[]⟩) J J J Zn pW O2))<|go 3 ⟨O2,?_⟩
   refine Qo J J (Qq (Xy (ii:=2) (false,⟨#[]⟩) J J J Zn pW O2))<|Qo J J (Qq (Zdr J J J eg93 (fun w=>neq93 w _ _ _ _)))<|go 2 ?_
   refine Oy J (fun h82=>?_) (fun h82=>?_)
   ·refine go 11 ?_
    exact Xa hsc () results19 (by rw [decide_eq_false (fun e=>by rw [e]at h82;simp [Yer]at h82)]) trivial Za
   ·refine go 8 ⟨O,?_⟩
    exact Yq (k+1) ⟨O1,by rw [Pz (false,⟨#[]⟩) _ _ O,Pz (false,⟨#[]⟩) _ _ O,ht,Yes (x:=r.getD k (false,⟨#[]⟩)) (y:=t.getD k (false,⟨#[]⟩)) (by simpa using h82)]⟩ O1 K1 trivial
  ·refine go 11 ?_
   exact Xa hsc () results19 (by rw [decide_eq_true (by rw [show k=r.length by omega,List.take_length,hle,List.take_length]at ht;exact ht)]) trivial Za
theorem Zy3(v u:Value)(xs ys:List Int):Ok prog 19 #[v,u] [Xc 2 wv v xs,Xc 2 wv u ys] (.bool (decide (xs=ys))):=by
 have h:=((r_same v u (xs.map wr) (ys.map wr)).imp (Zs1 v xs) (fun _ h=>fpm h)).imp2 (Zs1 u ys) (fun _ h=>fpm h)
 rw [decide_eq_decide.2 (Zto xs ys)]at h;exact h
theorem Ygy(v u:Value)(zs ys:List (Int×SL))(hl:zs.length≤30)(hk:ys.length≤30)(hy0:0<ys.length)(ht:Tr (Zb ys))(hF:ys.length≤zs.length→Xw (Zb zs)+(zs.length-ys.length+1)*(Xw (Zb ys)+1)≤900000):Cal prog 248 #[v,u] [pp v zs,pp u ys] true (G:=Value×List (Int×SL)) (fun r=>Zb r.2=Xm (Zb zs) (Zb ys)) (fun r=>r.1) (fun r=>[pp r.1 r.2]):=by
 refine Zh func248 ntmps248 fun w0 sc hw hsc=>?_
 have hli:=Zd zs
 have hli2:=Zd ys
 have hlead:(cf (Zb ys) ((Zb ys).length-1))≠0:=ht.mem (fun e=>by rw [←hli2,e]at hy0;simp at hy0)
 refine Oc (Lp (i:=1) J Zi) (fun hlen=>?_)
 refine Oc (Lp (i:=2) J Zi) fun hlen2=>go 15 ?_
 refine Zc J (fun h205=>?_) (fun h205=>?_)
 ·refine go 8 ?_
  exact Xa hsc (_,zs) results248 J (by unfold Xm;rw [if_pos O]) (Oe 1 Za)
 ·have hF2:=hF O
  have hF3:Xw (Zb zs)+((Zb zs).length-(Zb ys).length+1)*(Xw (Zb ys)+1)≤900000:=by rw [hli,hli2];exact hF2
  have hN:1≤zs.length-ys.length+1:=O
  have hB:=Nat.mul_le_mul_right (Xw (Zb ys)+1) hN
  rw [Nat.one_mul]at hB
  have hcl:=Qt ys (ys.length-1)
  have hci2:(ys.getD (ys.length-1) I0).1=(cf (Zb ys) ((Zb ys).length-1)):=by rw [hcl,hli2]
  have hsy:=Pf (Zb ys)
  have hlq:=hsy ((Zb ys).length-1)
  have hpw:=Dg hlq (zs.length-ys.length+1)
  have hpw2:(zs.length-ys.length+1)*Xw (Zb ys)≤(zs.length-ys.length+1)*(Xw (Zb ys)+1):=Nat.mul_le_mul_left _ O
  refine go 8 ⟨O,?_⟩
  refine dt (Zy (ii:=2) (i:=(ys.length-1)) J J J J Zi Kr Zhp)<|dt (Xy (ii:=2) I0 J J J Zi pI)<|Ya (Zs 96) fun b _=>go 13 ⟨O,O,?_⟩
  refine tt (Yz (n:=3) (Zi8 _ _ _ (zs.length-ys.length+1) (by rw [hci2];omega)) J J J K2 call209 (Xu 2 J J (Zf (i:=ys.length-1)) Zo) J hw.h) fun v _=>cl 80 [1,3] (Ib _ _ _ _ ((Pf _).mono O) O (by rw [hci2];omega)) fun g hg=>go 5 ?_
  refine lp (G:=Nat×List (Int×SL)×Value) [1,5] [0,1,2,96,3] (fun q=>[(6,q.2.2)]) (fun q=>[(80,pp q.2.2 q.2.1)]) (fun q=>(q.1≤zs.length-ys.length+1)∧(Eb (Zb zs) (Zb ys) (Zb q.2.1) q.1)) (fun q=>zs.length-ys.length+1-q.1) (0,_,_) ⟨Nat.zero_le _,by dsimp only;rw [hg,hci2,←hli,←hli2];exact Zne⟩ K1 K1 ?_
  rintro⟨j,ws,vr⟩ ⟨hj,hI⟩
  dsimp only at hj hI
  dsimp only
  have hlw:=Zd ws
  have hwl:=Zqi hI
  refine go 10 ?_
  refine Zc J (fun h210=>?_) (fun h210=>?_)
  ·have hR0:(Zb ys).length≤(Zb ws).length:=O
   obtain⟨g1,g2,g3,hI2⟩:=Zs8 O O hlead O hI hR0
   have hst:=Znf hlead hI2 O hR0 g3
   have hqe:=Zhc hlead hI2 O hR0 g3
   have hsR:=Zs9 O hI
   have hsw:Sz 1000000 (Zb ws):=hsR.mono O
   have hcw:=Qt ws (ws.length-1)
   have hcqb:bl (cf (Zb ws) ((Zb ws).length-1)/(cf (Zb ys) ((Zb ys).length-1))).natAbs≤900001:=by have:=Zx7 hqe (Dw (Zb zs) (Zb ys) _ _) hlq;have h7:=Yg4 (p:=Zb zs) (q:=Zb ys) (R:=Zb ws) O O g3;omega
   have hcqa:(ws.getD (ws.length-1) I0).1/(ys.getD (ys.length-1) I0).1=(cf (Zb ws) ((Zb ws).length-1)/(cf (Zb ys) ((Zb ys).length-1))):=by rw [hci2,hcw,hlw]
   refine go 3 ?_
   refine jn (G:=Value×Nat) [1,5,6] [0,80,1,2,96,3] (fun q=>[(7,.pointer (some ⟨q.2,0,none⟩))]) (fun q=>[(83,Om q.1 (cf (Zb ws) ((Zb ws).length-1)/(cf (Zb ys) ((Zb ys).length-1))).natAbs),(97,box q.2 77 #[.bool (decide ((cf (Zb ws) ((Zb ws).length-1)/(cf (Zb ys) ((Zb ys).length-1)))<0)),q.1])]) (fun q=>True) ?_ ?_
   ·refine Pm [80,96] [14]<|Zl (n:=8) [(0,0),(1,0),(2,0),(3,0),(4,0),(5,0),(6,0)]<|go 4 ⟨O,?_⟩
    refine Qo J J (stf (Zy (ii:=80) (i:=(ws.length-1)) J J J J Zi Kr Zhp) K2)<|Qo J J (stf (Xy (ii:=80) I0 J J J Zi pI) K2)<|go 2 ?_
    refine Zdt (n:=7) 7 11 12 ?_ ?_ ?_
    ·refine Lj J (Yz (n:=83) (Lh _ _ _ _ (by rw [hcw];have:=hsw (ws.length-1);omega) (by rw [hci2];exact hlead) (by rw [hci2];omega)) J J J K2 Hg (Xu 80 J J (Zf (zs:=ws) (i:=ws.length-1) (d:=I0)) (Xu 2 J J (Zf (zs:=ys) (i:=ys.length-1) (d:=I0)) Zo)) J hw.h) (fun g_2 _=>?_)
     refine Zl (n:=4) [(8,0),(9,0),(10,0)]<|go 4 ?_
     refine Qp (n:=3) 11 12 ?_ ?_
     ·refine Nb (Ql 97) fun b_2 ho=>?_
      refine Zl (n:=0) [(12,1),(13,1),(14,3)]<|Yh (Ql 99) fun b_3 ho2=>go 3 ?_
      exact Zp<|Pw (_,_) trivial K1 ⟨by rw [←hcqa];rfl,by rw [←hcqa];rfl,trivial⟩
     ·refine Nb (Ql 99) fun b_4 ho3=>?_
      refine Zl (n:=0) [(11,1),(13,1),(14,3)]<|Yh (Ql 97) fun b_5 ho4=>go 3 ?_
      exact Zp<|Pw (_,_) trivial K1 ⟨by rw [←hcqa];rfl,by rw [←hcqa];rfl,trivial⟩
    ·refine Nb (Ql 97) fun b_6 ho5=>?_
     refine Qp (n:=6) 7 12 ?_ ?_
     ·refine Lj J (Yz (n:=83) (Lh _ _ _ _ (by rw [hcw];have:=hsw (ws.length-1);omega) (by rw [hci2];exact hlead) (by rw [hci2];omega)) J J J K2 Hg (Xu 80 J J (Zf (zs:=ws) (i:=ws.length-1) (d:=I0)) (Xu 2 J J (Zf (zs:=ys) (i:=ys.length-1) (d:=I0)) Zo)) J hw.h) (fun g_3 _=>?_)
      refine Zl (n:=0) [(8,0),(9,0),(10,0),(12,1),(13,1),(14,3)]<|go 3 ?_
      refine Yh (Ql 99) fun b_7 ho6=>go 3 ?_
      exact Zp<|Pw (_,_) trivial K1 ⟨by rw [←hcqa];rfl,by rw [←hcqa];rfl,trivial⟩
     ·refine Nb (Ql 99) fun b_8 ho7=>?_
      refine Zl (n:=0) [(7,1),(8,0),(9,0),(10,0),(13,1),(14,3)]<|Kg J (Yz (n:=83) (Lh _ _ _ _ (by rw [hcw];have:=hsw (ws.length-1);omega) (by rw [hci2];exact hlead) (by rw [hci2];omega)) J J J K2 Hg (Xu 80 J J (Zf (zs:=ws) (i:=ws.length-1) (d:=I0)) (Xu 2 J J (Zf (zs:=ys) (i:=ys.length-1) (d:=I0)) Zo)) J hw.h) fun g_4 _=>go 6 ?_
      exact Zp<|Pw (_,_) trivial K1 ⟨by rw [←hcqa];rfl,by rw [←hcqa];rfl,trivial⟩
    ·refine Nb (Ql 99) fun b_9 ho8=>?_
     refine Qp (n:=6) 7 11 ?_ ?_
     ·refine Lj J (Yz (n:=83) (Lh _ _ _ _ (by rw [hcw];have:=hsw (ws.length-1);omega) (by rw [hci2];exact hlead) (by rw [hci2];omega)) J J J K2 Hg (Xu 80 J J (Zf (zs:=ws) (i:=ws.length-1) (d:=I0)) (Xu 2 J J (Zf (zs:=ys) (i:=ys.length-1) (d:=I0)) Zo)) J hw.h) (fun g_5 _=>?_)
      refine Zl (n:=0) [(8,0),(9,0),(10,0),(11,1),(13,1),(14,3)]<|go 3 ?_
      refine Yh (Ql 97) fun b_10 ho9=>go 3 ?_
      exact Zp<|Pw (_,_) trivial K1 ⟨by rw [←hcqa];rfl,by rw [←hcqa];rfl,trivial⟩
     ·refine Nb (Ql 97) fun b_11 ho10=>?_
      refine Zl (n:=0) [(7,1),(8,0),(9,0),(10,0),(13,1),(14,3)]<|Kg J (Yz (n:=83) (Lh _ _ _ _ (by rw [hcw];have:=hsw (ws.length-1);omega) (by rw [hci2];exact hlead) (by rw [hci2];omega)) J J J K2 Hg (Xu 80 J J (Zf (zs:=ws) (i:=ws.length-1) (d:=I0)) (Xu 2 J J (Zf (zs:=ys) (i:=ys.length-1) (d:=I0)) Zo)) J hw.h) fun g_6 _=>go 6 ?_
      exact Zp<|Pw (_,_) trivial K1 ⟨by rw [←hcqa];rfl,by rw [←hcqa];rfl,trivial⟩
   ·rintro⟨qv,b7⟩ -
    dsimp only
    refine go 7 ⟨O,?_⟩
    refine tt (Kt (i:=70) (n:=(ws.length-ys.length)) (by_:=32) (enc:=Nr) I0 J J J J Kr ti77 J pI.cells pI.pos J J J hw.h) fun v_2 _=>go 10 ?_
    refine Zg (Ch 71 (ws.length-ys.length))<|lp (G:=Nat×Value×List (Int×SL)) [1,5,6,7] [0,83,97,80,1,2,96,3] (fun q=>[(10,.int .i64 (q.1:Int)),(9,q.2.1)]) (fun q=>[(70,Ns 2 77 Nr q.2.1 q.2.2),(71,Hy qI q.2.2)]) (fun q=>(q.1≤ys.length)∧(Zb q.2.2=shm (Zb ys) (cf (Zb ws) ((Zb ws).length-1)/(cf (Zb ys) ((Zb ys).length-1))) ((Zb ws).length-(Zb ys).length) q.1)∧(q.2.2.length=((Zb ws).length-(Zb ys).length)+q.1)) (fun q=>ys.length-q.1) (0,_,List.replicate (ws.length-ys.length) I0) ⟨O1,by rw [←Zev,←hlw,←hli2];simp [Zb],by simp<;>omega⟩ K2 K2 ?_
    rintro⟨i,vo,ms⟩ ⟨hi,hms,hml⟩
    dsimp only at hi hms hml
    dsimp only
    have hci:=Qt ys i
    refine go 9 ?_
    refine Zc J (fun h214=>?_) (fun h214=>?_)
    ·refine go 4 ?_
     refine Pm [2,97] [9]<|Zl (n:=3) [(0,0),(1,0),(2,0),(3,0),(4,0),(5,0),(6,1)]<|go 5 ⟨O2,?_⟩
     refine Qo J J (stf (Xy (ii:=2) I0 J J J Zi pI O2) K2)<|Kg J (Yz (n:=86) (Ot _ _ _ _ O (by rw [hci];have:=hsy i;omega)) J J J K2 call39 (Zk 83 J J J (Xu 2 J J (Zf (i:=i)) Zo)) J hw.h) fun v_3 _=>go 1 ?_
     refine Yak (Pi 86 J Zn) (fun sl hsl=>?_)
     subst hsl
     refine Zl (n:=0) [(7,1),(8,1),(9,3)]<|Kg J (Qg (i:=87) (ivs:=[(0,_)]) (enc:=Nr) [((cf (Zb ws) ((Zb ws).length-1)/(cf (Zb ys) ((Zb ys).length-1)))*(ys.getD i I0).1,sl)] J J K2 Kr ti77 J J J J J pI.cells J J hw.h) (fun v_4 _=>?_)
     refine Kg J (Zdw 70 J J J K2 (fun hoffr=>(Zae (xs:=ms) (ys:=[_]) (i:=70) (j:=87) (by_:=32) J J J J J J O3 J (Yw pI) Kr ti77 J pI J J J O9 O3 J hw.h hoffr))) fun v_5 _=>go 2 ?_
     refine Zp<|go 7 ⟨O,?_⟩
     exact Zw (Yp (q:=qI) (z:=((cf (Zb ws) ((Zb ws).length-1)/(cf (Zb ys) ((Zb ys).length-1)))*(ys.getD i I0).1,sl)) 71 86 71 J J J J J)<|Yq (i+1,_,ms ++ [((cf (Zb ws) ((Zb ws).length-1)/(cf (Zb ys) ((Zb ys).length-1)))*(ys.getD i I0).1,sl)]) ⟨O1,by rw [Mg,hms,←Zew];dsimp only;rw [hci],O9⟩ O1 K2 K2
    ·refine go 5 ?_
     refine Zg (Qa 70 J J pI)<|Zg (Pd 70 71 72 J J J J)<|go 3 ?_
     refine cl 4 [80,72] (Bp _ _ _ _ hsw (by rw [hms];exact Zm6 (fun t=>by have h8:=Yd (cf (Zb ws) ((Zb ws).length-1)/(cf (Zb ys) ((Zb ys).length-1))) (cf (Zb ys) t);have h9:=hsy t;have h10:=Yb7 (p:=Zb zs) (q:=Zb ys) (R:=Zb ws) hqe (Dw (Zb zs) (Zb ys) _ _) hsy O O g3 t;omega))) fun g_7 hg_2=>go 3 ?_
     exact Zw (Xe 4 80 J J J)<|Yq ((Zb zs).length-(Zb ws).length+1,_,_) ⟨O6,by dsimp only;rw [hg_2,hms,show i=(Zb ys).length by omega];exact hst⟩ O6 K1 K1
  ·refine go 12 ?_
   exact Xa hsc (_,ws) results248 J (Zqj (R:=Zb ws) O O hlead O hI (by have:=Zd ws;omega)) (Oe 80 Za)
theorem Zco(v u:Value)(zs ys:List (Int×SL))(htz:Tr (Zb zs))(ht:Tr (Zb ys))(hF:ys.length≤zs.length→Xw (Zb zs)+(zs.length-ys.length+1)*(Xw (Zb ys)+1)≤900000)(hl:zs.length≤30:=by omega)(hk:ys.length≤30:=by omega)(hy0:0<ys.length:=by omega):Cal prog 211 #[v,u] [pp v zs,pp u ys] true (G:=Value×List (Int×SL)) (fun r=>pdv (Zb zs) (Zb ys)→Zb r.2=Ms (Zb zs) (Zb ys)) (fun r=> .tuple #[r.1,.bool (decide (pdv (Zb zs) (Zb ys)))]) (fun r=>[pp r.1 r.2]):=by
 refine Zh func211 ntmps211 fun w0 sc hw hsc=>?_
 have hli:=Zd zs
 have hli2:=Zd ys
 have hlead:(cf (Zb ys) ((Zb ys).length-1))≠0:=ht.mem (fun e=>by rw [←hli2,e]at hy0;simp at hy0)
 refine Oc (Lp (i:=1) J Zi) (fun hlen=>?_)
 refine Oc (Lp (i:=2) J Zi) fun hlen2=>go 14 ?_
 refine Zc J (fun h224=>?_) (fun h224=>?_)
 ·refine go 8 ?_
  refine Zw (Mh 62) ?_
  have hzn:Zb zs=[]:=List.eq_nil_of_length_eq_zero O
  exact Mi hsc (.slice none 0 0,[]) results211 (by rw [Yhd hzn]) (fun _=>by unfold Ms;rw [if_pos hzn];rfl) (Oe 62 Za)
 ·have hnz:Zb zs≠[]:=fun e=>by have h7:=congrArg List.length e;simp only [List.length_nil]at h7;omega
  refine go 12 ?_
  refine Zc J (fun h227=>?_) (fun h227=>?_)
  ·refine go 8 ?_
   refine Zw (Mh 62) ?_
   have hno:=Yhe (p:=Zb zs) (q:=Zb ys) (fun e=>by have h7:=congrArg List.length e;simp only [List.length_nil]at h7;omega) O
   exact Mi hsc (.slice none 0 0,[]) results211 (by rw [hno]) (fun h=>absurd h (of_decide_eq_false hno)) (Oe 62 Za)
  ·have hF2:=hF O
   have hF3:Xw (Zb zs)+((Zb zs).length-(Zb ys).length+1)*(Xw (Zb ys)+1)≤900000:=by rw [hli,hli2];exact hF2
   have hcl:=Qt ys (ys.length-1)
   have hci2:(ys.getD (ys.length-1) I0).1=(cf (Zb ys) ((Zb ys).length-1)):=by rw [hcl,hli2]
   have hsy:=Pf (Zb ys)
   have hlq:=hsy ((Zb ys).length-1)
   have hmy:Xw (Zb ys)≤900000:=by have h7:=Nat.mul_le_mul_right (Xw (Zb ys)+1) (show 1≤(Zb zs).length-(Zb ys).length+1 by omega);omega
   refine go 10 ⟨O,O,?_⟩
   refine tt (Kt (i:=60) (n:=(zs.length-ys.length+1)) (by_:=32) (enc:=Nr) I0 J J J J Kr ti77 J pI.cells pI.pos J J J hw.h) fun v _=>go 19 ⟨⟨by simp only [List.length_replicate];omega,by simp only [List.length_replicate];omega⟩,?_⟩
   refine Zg (Ch 61 (zs.length-ys.length+1))<|Zg (Xe 1 80 J J J)<|lp (G:=Nat×List (Int×SL)×List (Int×SL)×Value) [1,6] [0,1,2] (fun q=>[(7,q.2.2.2),(8,.int .i64 ((zs.length:Int)-(ys.length:Int)-(q.1:Int)))]) (fun q=>[(60,Ns 2 77 Nr v q.2.1),(61,Hy qI q.2.1),(80,pp q.2.2.2 q.2.2.1)]) (fun q=>(q.1≤(Zb zs).length-(Zb ys).length+1)∧(∀k,((Zb zs).length-(Zb ys).length)<k+q.1→k≤((Zb zs).length-(Zb ys).length)→Nu (Zb zs) (Zb ys) k)∧(Zb q.2.1=Zb2 (Zb zs) (Zb ys) q.1)∧(Zb q.2.2.1=tzl (Xb (Zb zs) (Zb ys) q.1))) (fun q=>(Zb zs).length-(Zb ys).length+1-q.1) (0,List.replicate (zs.length-ys.length+1) I0,zs,_) ⟨Nat.zero_le _,fun k h1 h2=>O,by rw [←Zmn,hli,hli2];simp [Zb],(Zac htz).symm⟩ ⟨J,by simp only [List.length_replicate];exact congrArg some (Zaz O),trivial⟩ K3 ?_
   rintro⟨j,os,ws,vr⟩ ⟨hj,hx,hos,hws⟩
   dsimp only at hj hx hos hws
   dsimp only
   have hlw:=Zd ws
   have hlo:=Zd os
   have hlo2:=congrArg List.length hos
   rw [Bd]at hlo2
   have hwl:ws.length≤zs.length:=by rw [←hlw,hws];exact Nat.le_trans (La _) (by rw [He];omega)
   refine go 7 ?_
   refine Zc J (fun h232=>?_) (fun h232=>?_)
   ·have hj2:j≤(Zb zs).length-(Zb ys).length:=O
    have hcw:cf (Zb ws) (((Zb zs).length-(Zb ys).length-j)+(Zb ys).length-1)=(cf (Xb (Zb zs) (Zb ys) j) (((Zb zs).length-(Zb ys).length-j)+(Zb ys).length-1)):=by rw [hws,Lb]
    have hb1:=Yin hj2 hx hF3
    have hb2:=hb1 (((Zb zs).length-(Zb ys).length-j)+(Zb ys).length-1)
    refine go 4 ?_
    refine jn (G:=Value×Value×Nat×Nat) [1,6,7,8] [0,60,61,80,1,2] (fun q=>[(9,.pointer (some ⟨q.2.2.1,0,none⟩)),(10,.pointer (some ⟨q.2.2.2,0,none⟩))]) (fun q=>[(83,Om q.1 ((cf (Xb (Zb zs) (Zb ys) j) (((Zb zs).length-(Zb ys).length-j)+(Zb ys).length-1))/(cf (Zb ys) ((Zb ys).length-1))).natAbs),(84,Om q.2.1 ((cf (Xb (Zb zs) (Zb ys) j) (((Zb zs).length-(Zb ys).length-j)+(Zb ys).length-1))%(cf (Zb ys) ((Zb ys).length-1))).natAbs),(97,box q.2.2.1 77 #[.bool (decide (((cf (Xb (Zb zs) (Zb ys) j) (((Zb zs).length-(Zb ys).length-j)+(Zb ys).length-1))/(cf (Zb ys) ((Zb ys).length-1)))<0)),q.1]),(98,box q.2.2.2 77 #[.bool (decide (((cf (Xb (Zb zs) (Zb ys) j) (((Zb zs).length-(Zb ys).length-j)+(Zb ys).length-1))%(cf (Zb ys) ((Zb ys).length-1)))<0)),q.2.1])]) (fun q=>True) ?_ ?_
    ·refine Pm [2] [20]<|Zl (n:=9) [(0,0),(1,0),(2,0),(3,0),(4,0),(5,0),(7,0),(8,0),(9,0),(10,0),(11,0),(12,0)]<|go 10 ⟨O,O,O,?_⟩
     refine Qo J J (stf (Zy (ii:=2) (i:=(ys.length-1)) J J J J Zi Kr Zhp) K1)<|Qo J J (stf (Xy (ii:=2) I0 J J J Zi pI) K1)<|go 1 ?_
     refine Zdt (n:=8) 6 17 18 ?_ ?_ ?_
     ·refine Nb (Zj 3 [80] (Zez _ _ _ (((Zb zs).length-(Zb ys).length-j)+(Zb ys).length-1))) fun v_2 _=>?_
      refine Zdt (n:=7) 13 17 18 ?_ ?_ ?_
      ·refine Lj J (Yz (n:=83) (Lh _ _ _ _ (by rw [hcw];omega) (by rw [hci2];exact hlead) (by rw [hci2];omega)) J J J K2 Hg (Zk 3 J J J (Xu 2 J J (Zf (zs:=ys) (i:=ys.length-1) (d:=I0)) Zo)) J hw.h) (fun g _=>?_)
       refine Zl (n:=4) [(14,0),(15,0),(16,0)]<|go 4 ?_
       refine Qp (n:=3) 17 18 ?_ ?_
       ·refine Nb (Ql 97) fun b ho=>?_
        refine Zl (n:=0) [(18,1),(19,1),(20,3)]<|Yh (Ql 98) fun b_2 ho2=>go 3 ?_
        exact Zp<|Pw (_,_,_,_) trivial K2 ⟨by rw [←hcw,←hci2];rfl,by rw [←hcw,←hci2];rfl,by rw [←hcw,←hci2];rfl,by rw [←hcw,←hci2];rfl,trivial⟩
       ·refine Nb (Ql 98) fun b_3 ho3=>?_
        refine Zl (n:=0) [(17,1),(19,1),(20,3)]<|Yh (Ql 97) fun b_4 ho4=>go 3 ?_
        exact Zp<|Pw (_,_,_,_) trivial K2 ⟨by rw [←hcw,←hci2];rfl,by rw [←hcw,←hci2];rfl,by rw [←hcw,←hci2];rfl,by rw [←hcw,←hci2];rfl,trivial⟩
      ·refine Nb (Ql 97) fun b_5 ho5=>?_
       refine Qp (n:=6) 13 18 ?_ ?_
       ·refine Lj J (Yz (n:=83) (Lh _ _ _ _ (by rw [hcw];omega) (by rw [hci2];exact hlead) (by rw [hci2];omega)) J J J K2 Hg (Zk 3 J J J (Xu 2 J J (Zf (zs:=ys) (i:=ys.length-1) (d:=I0)) Zo)) J hw.h) (fun g_2 _=>?_)
        refine Zl (n:=0) [(14,0),(15,0),(16,0),(18,1),(19,1),(20,3)]<|go 3 ?_
        refine Yh (Ql 98) fun b_6 ho6=>go 3 ?_
        exact Zp<|Pw (_,_,_,_) trivial K2 ⟨by rw [←hcw,←hci2];rfl,by rw [←hcw,←hci2];rfl,by rw [←hcw,←hci2];rfl,by rw [←hcw,←hci2];rfl,trivial⟩
       ·refine Nb (Ql 98) fun b_7 ho7=>?_
        refine Zl (n:=0) [(13,1),(14,0),(15,0),(16,0),(19,1),(20,3)]<|Kg J (Yz (n:=83) (Lh _ _ _ _ (by rw [hcw];omega) (by rw [hci2];exact hlead) (by rw [hci2];omega)) J J J K2 Hg (Zk 3 J J J (Xu 2 J J (Zf (zs:=ys) (i:=ys.length-1) (d:=I0)) Zo)) J hw.h) fun g_3 _=>go 6 ?_
        exact Zp<|Pw (_,_,_,_) trivial K2 ⟨by rw [←hcw,←hci2];rfl,by rw [←hcw,←hci2];rfl,by rw [←hcw,←hci2];rfl,by rw [←hcw,←hci2];rfl,trivial⟩
      ·refine Nb (Ql 98) fun b_8 ho8=>?_
       refine Qp (n:=6) 13 17 ?_ ?_
       ·refine Lj J (Yz (n:=83) (Lh _ _ _ _ (by rw [hcw];omega) (by rw [hci2];exact hlead) (by rw [hci2];omega)) J J J K2 Hg (Zk 3 J J J (Xu 2 J J (Zf (zs:=ys) (i:=ys.length-1) (d:=I0)) Zo)) J hw.h) (fun g_4 _=>?_)
        refine Zl (n:=0) [(14,0),(15,0),(16,0),(17,1),(19,1),(20,3)]<|go 3 ?_
        refine Yh (Ql 97) fun b_9 ho9=>go 3 ?_
        exact Zp<|Pw (_,_,_,_) trivial K2 ⟨by rw [←hcw,←hci2];rfl,by rw [←hcw,←hci2];rfl,by rw [←hcw,←hci2];rfl,by rw [←hcw,←hci2];rfl,trivial⟩
       ·refine Nb (Ql 97) fun b_10 ho10=>?_
        refine Zl (n:=0) [(13,1),(14,0),(15,0),(16,0),(19,1),(20,3)]<|Kg J (Yz (n:=83) (Lh _ _ _ _ (by rw [hcw];omega) (by rw [hci2];exact hlead) (by rw [hci2];omega)) J J J K2 Hg (Zk 3 J J J (Xu 2 J J (Zf (zs:=ys) (i:=ys.length-1) (d:=I0)) Zo)) J hw.h) fun g_5 _=>go 6 ?_
        exact Zp<|Pw (_,_,_,_) trivial K2 ⟨by rw [←hcw,←hci2];rfl,by rw [←hcw,←hci2];rfl,by rw [←hcw,←hci2];rfl,by rw [←hcw,←hci2];rfl,trivial⟩
     ·refine Nb (Ql 97) fun b_11 ho11=>?_
      refine Qp (n:=7) 6 18 ?_ ?_
      ·refine Nb (Zj 4 [80] (Zez _ _ _ (((Zb zs).length-(Zb ys).length-j)+(Zb ys).length-1))) fun v_3 _=>?_
       refine Qp (n:=6) 13 18 ?_ ?_
       ·refine Lj J (Yz (n:=83) (Lh _ _ _ _ (by rw [hcw];omega) (by rw [hci2];exact hlead) (by rw [hci2];omega)) J J J K2 Hg (Zk 4 J J J (Xu 2 J J (Zf (zs:=ys) (i:=ys.length-1) (d:=I0)) Zo)) J hw.h) (fun g_6 _=>?_)
        refine Zl (n:=0) [(14,0),(15,0),(16,0),(18,1),(19,1),(20,3)]<|go 3 ?_
        refine Yh (Ql 98) fun b_12 ho12=>go 3 ?_
        exact Zp<|Pw (_,_,_,_) trivial K2 ⟨by rw [←hcw,←hci2];rfl,by rw [←hcw,←hci2];rfl,by rw [←hcw,←hci2];rfl,by rw [←hcw,←hci2];rfl,trivial⟩
       ·refine Nb (Ql 98) fun b_13 ho13=>?_
        refine Zl (n:=0) [(13,1),(14,0),(15,0),(16,0),(19,1),(20,3)]<|Kg J (Yz (n:=83) (Lh _ _ _ _ (by rw [hcw];omega) (by rw [hci2];exact hlead) (by rw [hci2];omega)) J J J K2 Hg (Zk 4 J J J (Xu 2 J J (Zf (zs:=ys) (i:=ys.length-1) (d:=I0)) Zo)) J hw.h) fun g_7 _=>go 6 ?_
        exact Zp<|Pw (_,_,_,_) trivial K2 ⟨by rw [←hcw,←hci2];rfl,by rw [←hcw,←hci2];rfl,by rw [←hcw,←hci2];rfl,by rw [←hcw,←hci2];rfl,trivial⟩
      ·refine Nb (Ql 98) fun b_14 ho14=>?_
       refine Zl (n:=0) [(6,1),(13,1),(14,0),(15,0),(16,0),(19,1),(20,3)]<|Yh (Zj 5 [80] (Zez _ _ _ (((Zb zs).length-(Zb ys).length-j)+(Zb ys).length-1))) fun v_4 _=>?_
       refine Kg J (Yz (n:=83) (Lh _ _ _ _ (by rw [hcw];omega) (by rw [hci2];exact hlead) (by rw [hci2];omega)) J J J K2 Hg (Zk 5 J J J (Xu 2 J J (Zf (zs:=ys) (i:=ys.length-1) (d:=I0)) Zo)) J hw.h) fun g_8 _=>go 6 ?_
       exact Zp<|Pw (_,_,_,_) trivial K2 ⟨by rw [←hcw,←hci2];rfl,by rw [←hcw,←hci2];rfl,by rw [←hcw,←hci2];rfl,by rw [←hcw,←hci2];rfl,trivial⟩
     ·refine Nb (Ql 98) fun b_15 ho15=>?_
      refine Qp (n:=7) 6 17 ?_ ?_
      ·refine Nb (Zj 6 [80] (Zez _ _ _ (((Zb zs).length-(Zb ys).length-j)+(Zb ys).length-1))) fun v_5 _=>?_
       refine Qp (n:=6) 13 17 ?_ ?_
       ·refine Lj J (Yz (n:=83) (Lh _ _ _ _ (by rw [hcw];omega) (by rw [hci2];exact hlead) (by rw [hci2];omega)) J J J K2 Hg (Zk 6 J J J (Xu 2 J J (Zf (zs:=ys) (i:=ys.length-1) (d:=I0)) Zo)) J hw.h) (fun g_9 _=>?_)
        refine Zl (n:=0) [(14,0),(15,0),(16,0),(17,1),(19,1),(20,3)]<|go 3 ?_
        refine Yh (Ql 97) fun b_16 ho16=>go 3 ?_
        exact Zp<|Pw (_,_,_,_) trivial K2 ⟨by rw [←hcw,←hci2];rfl,by rw [←hcw,←hci2];rfl,by rw [←hcw,←hci2];rfl,by rw [←hcw,←hci2];rfl,trivial⟩
       ·refine Nb (Ql 97) fun b_17 ho17=>?_
        refine Zl (n:=0) [(13,1),(14,0),(15,0),(16,0),(19,1),(20,3)]<|Kg J (Yz (n:=83) (Lh _ _ _ _ (by rw [hcw];omega) (by rw [hci2];exact hlead) (by rw [hci2];omega)) J J J K2 Hg (Zk 6 J J J (Xu 2 J J (Zf (zs:=ys) (i:=ys.length-1) (d:=I0)) Zo)) J hw.h) fun g_10 _=>go 6 ?_
        exact Zp<|Pw (_,_,_,_) trivial K2 ⟨by rw [←hcw,←hci2];rfl,by rw [←hcw,←hci2];rfl,by rw [←hcw,←hci2];rfl,by rw [←hcw,←hci2];rfl,trivial⟩
      ·refine Nb (Ql 97) fun b_18 ho18=>?_
       refine Zl (n:=0) [(6,1),(13,1),(14,0),(15,0),(16,0),(19,1),(20,3)]<|Yh (Zj 7 [80] (Zez _ _ _ (((Zb zs).length-(Zb ys).length-j)+(Zb ys).length-1))) fun v_6 _=>?_
       refine Kg J (Yz (n:=83) (Lh _ _ _ _ (by rw [hcw];omega) (by rw [hci2];exact hlead) (by rw [hci2];omega)) J J J K2 Hg (Zk 7 J J J (Xu 2 J J (Zf (zs:=ys) (i:=ys.length-1) (d:=I0)) Zo)) J hw.h) fun g_11 _=>go 6 ?_
       exact Zp<|Pw (_,_,_,_) trivial K2 ⟨by rw [←hcw,←hci2];rfl,by rw [←hcw,←hci2];rfl,by rw [←hcw,←hci2];rfl,by rw [←hcw,←hci2];rfl,trivial⟩
    ·rintro⟨qv,rv,b7,b8⟩ -
     dsimp only
     refine go 4 ?_
     refine cl 7 [84] (Es _ _ (by have:=Zpb (cf (Xb (Zb zs) (Zb ys) j) (((Zb zs).length-(Zb ys).length-j)+(Zb ys).length-1)) (cf (Zb ys) ((Zb ys).length-1)) hlead;omega)) fun _ _=>go 3 ?_
     refine Zc J (fun h234=>?_) (fun h234=>?_)
     ·have hne:¬Nu (Zb zs) (Zb ys) ((Zb zs).length-(Zb ys).length-j):=fun he=>h234 (by rw [(Zfu hj2).1 he];rfl)
      refine go 13 ?_
      refine Zw (Mh 62) ?_
      have hno:=pdv_no (p:=Zb zs) (q:=Zb ys) hnz O hne
      exact Mi hsc (.slice none 0 0,[]) results211 (by rw [hno]) (fun h=>absurd h (of_decide_eq_false hno)) (Oe 62 Za)
     ·have hr0:((cf (Xb (Zb zs) (Zb ys) j) (((Zb zs).length-(Zb ys).length-j)+(Zb ys).length-1))%(cf (Zb ys) ((Zb ys).length-1)))=0:=Int.sign_eq_zero_iff_zero.1 (Decidable.byContradiction h234)
      have hde:Nu (Zb zs) (Zb ys) ((Zb zs).length-(Zb ys).length-j):=(Zfu hj2).2 hr0
      have hcb:=fun t=>Nat.le_trans (div_c hlead hr0 (Nat.le_refl _) t) hb2
      have hcc:=Gc (Int.dvd_of_emod_eq_zero hr0) (Nat.le_trans (Nat.le_add_right _ _) hb2)
      refine go 3 ?_
      refine Zde (Pi 83 J Zn) (fun sl hsl=>?_)
      subst hsl
      refine go 4 ?_
      refine dt (Zy (ii:=60) (i:=((Zb zs).length-(Zb ys).length-j)) J J J J (Yw pI) Kr Zhp)<|tt (Lz (i:=60) (enc:=Nr) (((cf (Xb (Zb zs) (Zb ys) j) (((Zb zs).length-(Zb ys).length-j)+(Zb ys).length-1))/(cf (Zb ys) ((Zb ys).length-1))),sl) J J J J J J pI J hw.h) fun _ _=>go 3 ?_
      refine Zg (Yp (q:=qI) (z:=(((cf (Xb (Zb zs) (Zb ys) j) (((Zb zs).length-(Zb ys).length-j)+(Zb ys).length-1))/(cf (Zb ys) ((Zb ys).length-1))),sl)) 61 83 62 J J J J J)<|Zg (Zs5 (ys:=os.set ((Zb zs).length-(Zb ys).length-j) (((cf (Xb (Zb zs) (Zb ys) j) (((Zb zs).length-(Zb ys).length-j)+(Zb ys).length-1))/(cf (Zb ys) ((Zb ys).length-1))),sl)) 62 61 J J (fun y hy=>by rcases List.mem_or_eq_of_mem_set hy with h | h;exact List.mem_append_left _ h;rw [h];exact List.mem_append_right _ (List.mem_singleton.2 rfl)))<|go 2 ?_
      refine tt (Kt (i:=70) (n:=((Zb zs).length-(Zb ys).length-j)) (by_:=32) (enc:=Nr) I0 J J J J Kr ti77 J pI.cells pI.pos J J J hw.h) fun v_7 _=>go 10 ?_
      refine Zg (Ch 71 ((Zb zs).length-(Zb ys).length-j))<|lp (G:=Nat×Value×List (Int×SL)) [1,6,7,8,9] [0,83,84,97,98,60,61,80,1,2] (fun q=>[(12,.int .i64 (q.1:Int)),(11,q.2.1)]) (fun q=>[(70,Ns 2 77 Nr q.2.1 q.2.2),(71,Hy qI q.2.2)]) (fun q=>(q.1≤ys.length)∧(Zb q.2.2=shm (Zb ys) ((cf (Xb (Zb zs) (Zb ys) j) (((Zb zs).length-(Zb ys).length-j)+(Zb ys).length-1))/(cf (Zb ys) ((Zb ys).length-1))) ((Zb zs).length-(Zb ys).length-j) q.1)∧(q.2.2.length=((Zb zs).length-(Zb ys).length-j)+q.1)) (fun q=>ys.length-q.1) (0,_,List.replicate ((Zb zs).length-(Zb ys).length-j) I0) ⟨O1,by rw [←Zev];simp [Zb],O5⟩ K2 K2 ?_
      rintro⟨i,vo,ms⟩ ⟨hi,hms,hml⟩
      dsimp only at hi hms hml
      dsimp only
      have hci:=Qt ys i
      refine go 9 ?_
      refine Zc J (fun h239=>?_) (fun h239=>?_)
      ·refine go 4 ?_
       refine Pm [2,97] [9]<|Zl (n:=3) [(0,0),(1,0),(2,0),(3,0),(4,0),(5,0),(6,1)]<|go 5 ⟨O2,?_⟩
       refine Qo J J (stf (Xy (ii:=2) I0 J J J Zi pI O2) K2)<|Kg J (Yz (n:=86) (Ot _ _ _ _ O (by rw [hci];have:=hsy i;omega)) J J J K2 call39 (Zk 83 J J J (Xu 2 J J (Zf (i:=i)) Zo)) J hw.h) fun v_8 _=>go 1 ?_
       refine Yak (Pi 86 J Zn) (fun sl_2 hsl=>?_)
       subst hsl
       refine Zl (n:=0) [(7,1),(8,1),(9,3)]<|Kg J (Qg (i:=87) (ivs:=[(0,_)]) (enc:=Nr) [(((cf (Xb (Zb zs) (Zb ys) j) (((Zb zs).length-(Zb ys).length-j)+(Zb ys).length-1))/(cf (Zb ys) ((Zb ys).length-1)))*(ys.getD i I0).1,sl_2)] J J K2 Kr ti77 J J J J J pI.cells J J hw.h) (fun v_9 _=>?_)
       refine Kg J (Zdw 70 J J J K2 (fun hoffr=>(Zae (xs:=ms) (ys:=[_]) (i:=70) (j:=87) (by_:=32) J J J J J J O3 J (Yw pI) Kr ti77 J pI J J J O9 O3 J hw.h hoffr))) fun v_10 _=>go 2 ?_
       refine Zp<|go 7 ⟨O,?_⟩
       exact Zw (Yp (q:=qI) (z:=(((cf (Xb (Zb zs) (Zb ys) j) (((Zb zs).length-(Zb ys).length-j)+(Zb ys).length-1))/(cf (Zb ys) ((Zb ys).length-1)))*(ys.getD i I0).1,sl_2)) 71 86 71 J J J J J)<|Yq (i+1,_,ms ++ [(((cf (Xb (Zb zs) (Zb ys) j) (((Zb zs).length-(Zb ys).length-j)+(Zb ys).length-1))/(cf (Zb ys) ((Zb ys).length-1)))*(ys.getD i I0).1,sl_2)]) ⟨O1,by rw [Mg,hms,←Zew];dsimp only;rw [hci],O9⟩ O1 K2 K2
      ·refine go 5 ?_
       refine Zg (Qa 70 J J pI)<|Zg (Pd 70 71 72 J J J J)<|go 3 ?_
       refine cl 8 [72] (Ip _ _ (by rw [hms];exact Zm6 fun t=>by have:=hcb t;omega)) fun g_12 hg=>cl 9 [80,8] (Bp _ _ _ _ (by rw [hws];exact Sz.tzl fun t=>by have:=hb1 t;omega) (by rw [hg,hms];exact Sz.tzl (Zm6 fun t=>by have:=hcb t;omega)) O (by have h7:=congrArg List.length hg;have h8:=La (Zb ms);have h9:=Zd ms;have h10:=Zd g_12.2;omega)) fun g_13 hg_2=>go 9 ⟨O,?_⟩
       obtain rfl:i=(Zb ys).length:=O
       exact Zw (Xe 9 80 J J J)<|Yq (j+1,os.set ((Zb zs).length-(Zb ys).length-j) (((cf (Xb (Zb zs) (Zb ys) j) (((Zb zs).length-(Zb ys).length-j)+(Zb ys).length-1))/(cf (Zb ys) ((Zb ys).length-1))),sl),_,_) ⟨O6,fun k h1 h2=>by dsimp only at h1 h2;rcases Nat.lt_or_ge ((Zb zs).length-(Zb ys).length) (k+j)with h3 | h3;(exact hx k h3 h2);(rw [show k=((Zb zs).length-(Zb ys).length-j) by omega];exact hde),by dsimp only;rw [Yee,hos];exact Yab O,by dsimp only;rw [hg_2,hg,hws,hms];exact Ye0 O hj2⟩ O1 ⟨J,by dsimp only;rw [show(zs.length:Int)-(ys.length:Int)-((j+1:Nat):Int)=(zs.length:Int)-(ys.length:Int)-(j:Int)-1 by omega];rfl,trivial⟩ K3
   ·refine go 6 ?_
    have hall:∀k,k≤(Zb zs).length-(Zb ys).length→Nu (Zb zs) (Zb ys) k:=fun k hk=>hx k O hk
    refine Zg (Qa 60 J J pI)<|Zg (Pd 60 61 72 J J J J)<|go 2 ?_
    refine cl 10 [72] (Ip _ _ (by rw [hos];exact(Yil hF3 hall _).mono O)) fun g_14 hg_3=>go 8 ?_
    exact Mi hsc _ results211 (by rw [←Yhf hnz O hall (show ws.length=_ by rw [←hlw,hws,show j=(Zb zs).length-(Zb ys).length+1 by omega]),show decide ((ws.length:Int)=0)=decide (ws.length=0)from decide_eq_decide.2 O]<;>rfl) (fun _=>by rw [hg_3,hos,show j=(Zb zs).length-(Zb ys).length+1 by omega,Zb1,Zji hnz]) (Oe 10 Za)
theorem rp_gcd(v u:Value)(zs ys:List (Int×SL))(F:Nat)(hv:Vp (Zb zs))(hu:Vp (Zb ys))(hok:eok F (Zb zs) (Zb ys)):Cal prog 234 #[v,u] [pp v zs,pp u ys] true (G:=Value×List (Int×SL)) (fun r=>Zb r.2=Mm (Zr (eu F (Zb zs) (Zb ys)))) (fun r=>r.1) (fun r=>[pp r.1 r.2]):=by
 refine Zh func234 ntmps234 fun w0 sc hw hsc=>go 15 ?_
 refine Zg (Xe 1 80 J J J)<|Zg (Xe 2 81 J J J)<|lp (G:=Value×Value×List (Int×SL)×List (Int×SL)×Nat) [] [0,1,2] (fun q=>[(5,q.1),(6,q.2.1)]) (fun q=>[(80,pp q.1 q.2.2.1),(81,pp q.2.1 q.2.2.2.1)]) (fun q=>(Vp (Zb q.2.2.1))∧(Vp (Zb q.2.2.2.1))∧(eok q.2.2.2.2 (Zb q.2.2.1) (Zb q.2.2.2.1))∧(eu q.2.2.2.2 (Zb q.2.2.1) (Zb q.2.2.2.1)=eu F (Zb zs) (Zb ys))) (fun q=>q.2.2.2.2) (_,_,zs,ys,F) ⟨hv,hu,hok,J⟩ K2 K2 ?_
 rintro⟨va,vb,aa,bb,f⟩ ⟨hva,hvb,hok0,heu⟩
 dsimp only at hva hvb hok0 heu
 dsimp only
 have hla:=Zd aa
 have hlb:=Zd bb
 have hna:=hva.len
 have hnb:=hvb.len
 refine go 8 ?_
 refine Zc J (fun h250=>?_) (fun h250=>?_)
 ·have hbn:Zb bb≠[]:=fun e=>by have h7:=congrArg List.length e;simp only [List.length_nil]at h7;omega
  obtain⟨f1,rfl,hde,hok1,heu1⟩:=Zrn hok0 hbn
  have hdo:=(Za2 hde).2
  have hvp:=Bu hva hde
  refine go 7 ?_
  refine cl 3 [80,81] (Ygy _ _ _ _ O O O hvb.tr (fun h=>by have h7:=hdo O;rw [hla,hlb]at h7;omega)) fun g hg=>cl 4 [3] (Oj _ _ (by rw [hg];exact hvp.sz.mono O) (fun h=>by rw [hg];exact hvp.ne (fun e=>by have h7:=congrArg List.length hg;rw [e,Zd]at h7;exact h h7)) (by have h7:=congrArg List.length hg;have h8:=hvp.len;have h9:=Zd g.2;omega)) fun g_2 hg_2=>go 4 ?_
  exact Zw (Xe 81 80 J J J)<|Zw (Xe 4 81 J J J)<|Yq (_,_,bb,g_2.2,f1) ⟨hvb,by dsimp only;rw [hg_2,hg];exact Mr hvp,by dsimp only;rw [hg_2,hg];exact hok1,by dsimp only;rw [hg_2,hg,←heu1];exact heu⟩ (Nat.lt_succ_self f1) K2 K2
 ·have hbn:Zb bb=[]:=List.eq_nil_of_length_eq_zero O
  rw [hbn,Fm]at heu
  have hpb:=Kx hva.sz
  have hpl:=Zq (Zb aa)
  refine go 8 ?_
  refine cl 5 [80] (Oj _ _ (hva.sz.mono O) (fun h=>hva.ne (fun e=>by have h7:=congrArg List.length e;simp only [List.length_nil]at h7;omega))) fun g_3 hg_3=>go 5 ?_
  have hpz:g_3.2.length=aa.length:=by rw [←Zd g_3.2,hg_3,hpl];exact hla
  refine go 5 ?_
  refine Ys (d:=22) J (fun s254=>?_) (fun s254=>?_)
  ·refine go 4 ⟨O,?_⟩
   refine Dc (Zy (ii:=5) (i:=(g_3.2.length-1)) J J J J Zi Kr Zhp) J J<|Dc (Xy (ii:=5) I0 J J J Zi pI) J J<|gtt (Yz (n:=5) (Es _ _ (by rw [Qt,hg_3];have:=hpb (g_3.2.length-1);omega)) J J J K1 call83 (Xu 5 J J (Zf (zs:=g_3.2) (i:=g_3.2.length-1) (d:=I0)) Zo) J hw.h) J J J J fun _ _=>go 4 ?_
   refine Zc J (fun h254=>?_) (fun h254=>?_)
   ·have hlc:=Qt g_3.2 (g_3.2.length-1)
    have hneg:(Mm (Zr (Zb aa)))=Zv (Zr (Zb aa)) (-1):=by unfold Mm;rw [if_pos ⟨O,by rw [←hg_3,Zd,←hlc];exact(Qe _).1 h254⟩]
    refine go 3 ?_
    refine cl 6 [5] (Znb _ _ (by rw [hg_3];exact hpb.mono O)) fun g_4 hg_4=>go 5 ?_
    exact Xa hsc _ results234 J (by rw [hg_4,hg_3,←heu,hneg]) (Oe 6 Za)
   ·refine go 9 ?_
    have hneg:(Mm (Zr (Zb aa)))=Zr (Zb aa):=by unfold Mm;rw [if_neg (fun h=>by rw [←hg_3,Zd,←Qt]at h;first | omega | exact absurd ((Qe _).2 h.2) ‹_›)]
    exact Xa hsc (_,g_3.2) results234 J (by rw [hg_3,←heu,hneg]) (Oe 5 Za)
  ·refine go 21 ?_
   have hneg:(Mm (Zr (Zb aa)))=Zr (Zb aa):=by unfold Mm;rw [if_neg (fun h=>by rw [←hg_3,Zd,←Qt]at h;first | omega | exact absurd ((Qe _).2 h.2) ‹_›)]
   exact Xa hsc (_,g_3.2) results234 J (by rw [hg_3,←heu,hneg]) (Oe 5 Za)
theorem Zf6(x y x2 y2:Int)(hx:bl x.natAbs≤65536)(hy:bl y.natAbs≤65536)(hx2:bl x2.natAbs≤65536)(hy2:bl y2.natAbs≤65536)(hp:0<y)(hp2:0<y2):Ok prog 240 #[rX x y,rX x2 y2] [] (.bool true):=by
 refine Zh func240 ntmps240 fun w0 sc hw hsc=>go 2 ?_
 refine Ya (Yl 1) fun b _=>Ya (Yl 2) fun b_2 _=>go 6 ?_
 refine cl 2 [] (Mq _ _ ‹_› ‹_› ‹_›) fun _ _=>go 2 ?_
 refine Bl 2 [] (Mq _ _ ‹_› ‹_› ‹_›) fun _ _=>go 5 ?_
 exact Xa hsc () results240 J trivial Za
theorem Zek(x y x2 y2:Int)(hx:bl x.natAbs≤65536)(hy:bl y.natAbs≤65536)(hx2:bl x2.natAbs≤65536)(hy2:bl y2.natAbs≤65536):Cal prog 241 #[rX x y,rX x2 y2] [] true (G:=Bool×Value×Bool×Value×Bool×Value) (fun r=>sg r.1 (x*y2)∧sg r.2.2.1 (x2*y)∧sg r.2.2.2.2.1 (y*y2)) (fun r=> .tuple #[.agg #[.bool r.1,r.2.1],.agg #[.bool r.2.2.1,r.2.2.2.1],.agg #[.bool r.2.2.2.2.1,r.2.2.2.2.2]]) (fun r=>[Fb r.2.1 (x*y2).natAbs,Fb r.2.2.2.1 (x2*y).natAbs,Fb r.2.2.2.2.2 (y*y2).natAbs]):=by
 refine Zh func241 ntmps241 fun w0 sc hw hsc=>?_
 have b1:=Yd x y2
 have b2:=Yd x2 y
 have b3:=Yd y y2
 have b4:=Yd x x2
 refine go 2 ?_
 refine Ya (Yl 1) fun b _=>Ya (Yl 2) fun b_2 _=>Ya (Zs 3) fun b_3 _=>Ya (Zs 4) fun b_4 _=>Ya (Zs 5) fun b_5 _=>go 3 ?_
 refine Pm [1,2] [23]<|Zl (n:=0) [(0,0),(1,0),(3,0),(4,0),(7,0),(8,0),(10,0),(11,0),(14,0),(15,0),(17,0),(18,0),(2,1),(5,1),(6,1),(9,1),(12,1),(13,1),(16,1),(19,1),(20,1),(21,1),(22,1),(23,3)]<|go 12 ?_
 refine Yh (Zj 6 [] (Qk _ _ (Xd _))) fun g hg=>Yh (Zj 7 [] (Qk _ _ (Xd _))) fun g_2 hg_2=>Yh (Zj 8 [6,7] (Zcy _ _ _ _ _ _ ‹_› ‹_›)) fun g_3 hg_3=>Yh (Zj 9 [] (Qk _ _ (Xd _))) fun g_4 hg_4=>Yh (Zj 10 [] (Qk _ _ (Xd _))) fun g_5 hg_5=>Yh (Zj 11 [9,10] (Zcy _ _ _ _ _ _ ‹_› ‹_›)) fun g_6 hg_6=>Yh (Zj 12 [] (Qk _ _ (Xd _))) fun g_7 hg_7=>Yh (Zj 13 [] (Qk _ _ (Xd _))) fun g_8 hg_8=>Yh (Zj 14 [12,13] (Zcy _ _ _ _ _ _ ‹_› ‹_›)) fun g_9 hg_9=>go 4 ?_
 refine Zp<|go 2 ?_
 exact xe3 hsc (_,_,_,_,_,_) results241 J ⟨by assumption,by assumption,by assumption⟩ (Oe 8 (Oe 11 (Oe 14 Za)))
theorem Zel(x y x2 y2:Int)(hx:bl x.natAbs≤65536)(hy:bl y.natAbs≤65536)(hx2:bl x2.natAbs≤65536)(hy2:bl y2.natAbs≤65536)(hp:0<y)(hp2:0<y2):Ok prog 223 #[rX x y,rX x2 y2] [] (.tuple #[.int .i64 (x*y2-x2*y).sign,.int .i64 0]):=by
 refine Zh func223 ntmps223 fun w0 sc hw hsc=>?_
 have b1:=Yd x y2
 have b2:=Yd x2 y
 have b3:=Yd y y2
 have b4:=Yd x x2
 have b5:=Zks (x2*y)
 have b6:=Ea (x*y2) (-(x2*y))
 refine go 2 ?_
 refine Ya (Yl 1) fun b _=>Ya (Yl 2) fun b_2 _=>go 9 ?_
 refine cl 2 [] (Zf6 _ _ _ _ ‹_› ‹_› ‹_› ‹_› ‹_› ‹_›) fun _ _=>go 10 ?_
 refine cl 3 [] (Zek _ _ _ _ ‹_› ‹_› ‹_› ‹_›) fun g hg=>?_
 obtain⟨hc1,hc2,hc3⟩:=hg
 refine go 4 ?_
 refine Ya (Zs 6) fun b_3 _=>Ya (Zs 7) fun b_4 _=>Ya (Zs 8) fun b_5 _=>go 6 ?_
 refine Xx (fun _=>False) [(0,0),(1,0),(2,1),(3,1),(4,1),(5,3),(6,3)]<|go 2 ?_
 refine Yh (Zj 9 [4] (Znz _ _ _ ‹_›)) fun g_2 hg_2=>Yh (Zj 10 [3,9] (Zfb _ _ _ _ _ _ ‹_› ‹_›)) fun g_3 hg_3=>Yh (Zj 10 [10] (Zjr _ _ _ ‹_›)) fun _ _=>go 5 ?_
 exact Mi hsc () results223 (by rw [Int.sub_eq_add_neg]<;>rfl) trivial Za
theorem Zk0(x y x2 y2:Int)(hx:bl x.natAbs≤65536)(hy:bl y.natAbs≤65536)(hx2:bl x2.natAbs≤65536)(hy2:bl y2.natAbs≤65536)(hp:0<y)(hp2:0<y2):Ok prog 231 #[rX x y,rX x2 y2] [] (Zap (x*y2+x2*y) (y*y2)):=by
 refine Zh func231 ntmps231 fun w0 sc hw hsc=>?_
 have b1:=Yd x y2
 have b2:=Yd x2 y
 have b3:=Yd y y2
 have b4:=Yd x x2
 have b6:=Ea (x*y2) (x2*y)
 refine go 2 ?_
 refine Ya (Yl 1) fun b _=>Ya (Yl 2) fun b_2 _=>Ya (Zs 3) fun b_3 _=>go 8 ?_
 refine cl 3 [] (Zf6 _ _ _ _ ‹_› ‹_› ‹_› ‹_› ‹_› ‹_›) fun _ _=>go 10 ?_
 refine cl 4 [] (Zek _ _ _ _ ‹_› ‹_› ‹_› ‹_›) fun g hg=>?_
 obtain⟨hc1,hc2,hc3⟩:=hg
 refine go 4 ?_
 refine Ya (Zs 7) fun b_4 _=>Ya (Zs 8) fun b_5 _=>Ya (Zs 9) fun b_6 _=>go 6 ?_
 refine Xx (fun _=>False) [(0,0),(1,0),(3,0),(2,1),(4,1),(5,0),(6,0),(7,3),(8,3)]<|go 3 ?_
 refine Yh (Zj 10 [4,5] (Zfb _ _ _ _ _ _ ‹_› ‹_›)) fun g_2 hg_2=>Yh (Zj 10 [10,6] (Zbd _ _ _ _ _ _ ‹_› ‹_› (Int.mul_ne_zero O O))) fun _ _=>go 7 ?_
 exact Mi hsc () results231 J trivial Za
theorem Fp(x y x2 y2:Int)(hx:bl x.natAbs≤65536)(hy:bl y.natAbs≤65536)(hx2:bl x2.natAbs≤65536)(hy2:bl y2.natAbs≤65536)(hp:0<y)(hp2:0<y2:=by decide):Ok prog 232 #[rX x y,rX x2 y2] [] (Zap (x*x2) (y*y2)):=by
 refine Zh func232 ntmps232 fun w0 sc hw hsc=>?_
 have b1:=Yd x y2
 have b2:=Yd x2 y
 have b3:=Yd y y2
 have b4:=Yd x x2
 refine go 2 ?_
 refine Ya (Yl 1) fun b _=>Ya (Yl 2) fun b_2 _=>Ya (Zs 3) fun b_3 _=>go 8 ?_
 refine cl 3 [] (Zf6 _ _ _ _ ‹_› ‹_› ‹_› ‹_› ‹_› ‹_›) fun _ _=>go 7 ?_
 refine Xx (fun _=>False) [(0,0),(1,0),(3,0),(4,0),(7,0),(8,0),(10,0),(11,0),(2,1),(5,1),(6,1),(9,1),(12,1),(13,1),(14,1),(15,0),(16,0),(17,3),(18,3)]<|go 8 ?_
 refine Yh (Zj 4 [] (Qk _ _ (Xd _))) fun g hg=>Yh (Zj 5 [] (Qk _ _ (Xd _))) fun g_2 hg_2=>Yh (Zj 6 [4,5] (Zcy _ _ _ _ _ _ ‹_› ‹_›)) fun g_3 hg_3=>Yh (Zj 7 [] (Qk _ _ (Xd _))) fun g_4 hg_4=>Yh (Zj 8 [] (Qk _ _ (Xd _))) fun g_5 hg_5=>Yh (Zj 9 [7,8] (Zcy _ _ _ _ _ _ ‹_› ‹_›)) fun g_6 hg_6=>Yh (Zj 9 [6,9] (Zbd _ _ _ _ _ _ ‹_› ‹_› (Int.mul_ne_zero O O))) fun _ _=>go 7 ?_
 exact Mi hsc () results232 J trivial Za
theorem Zmy(x y:Int)(hx:bl x.natAbs≤65536)(hy:bl y.natAbs≤65536):Ok prog 117 #[wv x,wv y] [] (.int .i64 (x-y).sign):=by
 refine Zh func117 ntmps117 fun w0 sc hw hsc=>?_
 have b5:=Zks y
 have b6:=Ea x (-y)
 refine go 2 ?_
 refine Ya (Yl 1) fun b _=>Ya (Yl 2) fun b_2 _=>go 8 ?_
 refine cl 2 [] (Kj _ _ ‹_› ‹_›) fun _ _=>go 7 ?_
 refine Xx (fun _=>False) [(0,0),(2,0),(1,1),(3,1),(4,1),(5,1),(6,1),(7,3)]<|go 2 ?_
 refine Yh (Zj 3 [] (Qk _ _ (Xd _))) fun g hg=>Yh (Zj 4 [] (Qk _ _ (Xd _))) fun g_2 hg_2=>Yh (Zj 5 [4] (Znz _ _ _ ‹_›)) fun g_3 hg_3=>Yh (Zj 6 [3,5] (Zfb _ _ _ _ _ _ ‹_› ‹_›)) fun g_4 hg_4=>Yh (Zj 6 [6] (Zjr _ _ _ ‹_›)) fun _ _=>go 4 ?_
 exact Xa hsc () results117 (by rw [Int.sub_eq_add_neg]<;>rfl) trivial Za
theorem Ybh(x y:Int)(hx:bl x.natAbs≤30000)(hy:bl y.natAbs≤30000):Cal Tryz.prog 116 #[wv x,wv y] [] false (G:=Unit) (fun _=>True) (fun _=>wv (x+y)) (fun _=>[]):=by
 refine Zh Tryz.func116 Tryz.ntmps116 fun w0 sc hw hsc=>?_
 have hb:=Ea x y
 refine go 2 ?_
 refine Ya (Yl 1) fun bx _=>?_
 refine Ya (Yl 2) fun bx_2 _=>?_
 refine Ya (Zs 3) fun bx_3 _=>?_
 refine go 6 ?_
 refine cl 3 [] (Ec _ _ O O) fun _ _=>?_
 refine go 3 ?_
 refine Ya (Zs 4) fun bx_4 _=>?_
 refine go 11 ?_
 exact Xa hsc () Tryz.results116 (by rw [Mw O]) trivial Za
theorem Zgf(x y:Int)(hx:bl x.natAbs≤30000)(hy:bl y.natAbs≤30000):Cal Tryz.prog 115 #[wv x,wv y] [] false (G:=Unit) (fun _=>True) (fun _=>wv (x*y)) (fun _=>[]):=by
 refine Zh Tryz.func115 Tryz.ntmps115 fun w0 sc hw hsc=>?_
 have hb:=Yd x y
 refine go 2 ?_
 refine Ya (Yl 1) fun bx _=>?_
 refine Ya (Yl 2) fun bx_2 _=>?_
 refine Ya (Zs 3) fun bx_3 _=>?_
 refine go 6 ?_
 refine cl 3 [] (Zej _ _ O O) fun _ _=>?_
 refine go 3 ?_
 refine Ya (Zs 4) fun bx_4 _=>?_
 refine go 11 ?_
 exact Xa hsc () Tryz.results115 (by rw [Mw O]) trivial Za
theorem Zsz(x y:Int)(hx:bl x.natAbs≤30000)(hy:bl y.natAbs≤30000):Cal Tryz.prog 74 #[wv x,wv y] [] false (G:=Unit) (fun _=>True) (fun _=>wv ((Int.gcd x y:Int))) (fun _=>[]):=by
 refine Zh Tryz.func74 Tryz.ntmps74 fun w0 sc hw hsc=>?_
 have hb:=Zf1 x y
 refine go 2 ?_
 refine Ya (Yl 1) fun bx _=>?_
 refine Ya (Yl 2) fun bx_2 _=>?_
 refine Ya (Zs 3) fun bx_3 _=>?_
 refine go 6 ?_
 refine cl 3 [] (Zpp _ _ O O) fun _ _=>?_
 refine go 3 ?_
 refine Ya (Zs 4) fun bx_4 _=>?_
 refine go 11 ?_
 exact Xa hsc () Tryz.results74 (by rw [Mw O]) trivial Za
theorem Zm5(x y:Int)(hx:bl x.natAbs≤30000)(hy:bl y.natAbs≤30000)(hy0:y≠0):Cal Tryz.prog 173 #[wv x,wv y] [] false (G:=Unit) (fun _=>True) (fun _=>wv (x/y)) (fun _=>[]):=by
 refine Zh Tryz.func173 Tryz.ntmps173 fun w0 sc hw hsc=>?_
 have hb:=Zio x y
 refine go 2 ?_
 refine Ya (Yl 1) fun bx _=>?_
 refine Ya (Yl 2) fun bx_2 _=>?_
 refine Ya (Zs 3) fun bx_3 _=>?_
 refine go 6 ?_
 refine cl 3 [] (Cc _ _ O O hy0) fun _ _=>?_
 refine go 4 ?_
 refine Ya (Zs 4) fun bx_4 _=>?_
 refine Ya (Zs 5) fun bx_5 _=>?_
 refine go 12 ?_
 exact Xa hsc () Tryz.results173 (by rw [Mw O]) trivial Za
theorem Ybf(n:Int)(k:Nat)(hn:bl n.natAbs≤60)(hk:k≤10):Cal Tryz.prog 150 #[.int .i64 n,.int .i64 (k:Int)] [] false (G:=Unit) (fun _=>True) (fun _=>wv (n^k)) (fun _=>[]):=by
 refine Zh Tryz.func150 Tryz.ntmps150 fun w0 sc hw hsc=>?_
 have hb:∀i,i≤10→bl (n^i).natAbs≤1000:=fun i hi=>bl_pw (Nat.le_trans hn O3) hi
 refine go 2 ?_
 refine Ya (Zs 1) fun bx _=>?_
 refine go 4 ?_
 refine cl 1 [] (Ye 1 ⟨O3,O3⟩) fun _ _=>?_
 refine Ya (Zs 2) fun bx_2 _=>?_
 refine go 11 ?_
 refine lp (G:=Nat) [0,4,5,7] [0,1] (fun i=>[(8,.int .i64 (i:Int))]) (fun i=>[(2,box bx_2 93 (wc (n^i)))]) (fun i=>i≤k) (fun i=>k-i) 0 O1 ⟨rfl,trivial⟩ ⟨by rw [Int.pow_zero];rfl,trivial⟩ ?_
 rintro i hi
 refine go 6 ?_
 refine Zc rfl (fun h43=>?_) (fun h43=>?_)
 ·refine go 4 ?_
  refine Xx (fun _=>False) [(0,0),(1,0),(2,1),(3,1),(4,3)] ?_
  refine go 2 ?_
  refine Yh (Zj 2 [] (Ye _ (in_bl O))) fun _ _=>?_
  refine Yh (Zj 2 [] (Zgf (n^i) n (Nat.le_trans (hb i O) O) O)) fun _ _=>?_
  refine go 8 ⟨O,?_⟩
  exact Yq (i+1) O1 O1 ⟨rfl,trivial⟩ ⟨by rw [Int.pow_succ];rfl,trivial⟩
 ·obtain rfl:i=k:=O
  refine go 12 ?_
  exact Xa hsc () Tryz.results150 rfl trivial Za
theorem Ol(v:Value)(l:List Int)(hl:∀x∈l,Pu x)(hlen:l.length≤10):Cal Tryz.prog 121 #[v] [Xc 1 Xg v l] false (G:=Unit) (fun _=>True) (fun _=>wv (Qh l)) (fun _=>[]):=by
 refine Zh Tryz.func121 Tryz.ntmps121 fun w0 sc hw hsc=>?_
 have hb:∀i,bl (Qh (l.take i)).natAbs≤1000:=fun i=>Yfk hl hlen i
 refine go 2 ?_
 refine Ya (Zs 2) fun bx _=>?_
 refine go 4 ?_
 refine cl 2 [] (Ye 1 ⟨O3,O3⟩) fun _ _=>?_
 refine Ya (Zs 3) fun bx_2 _=>?_
 refine go 12 ?_
 refine lp (G:=Nat) [2,3,7,8] [0,1,2] (fun i=>[(9,.int .i64 (i:Int))]) (fun i=>[(3,box bx_2 93 (wc (Qh (l.take i))))]) (fun i=>i≤l.length) (fun i=>l.length-i) 0 O1 ⟨rfl,trivial⟩ ⟨rfl,trivial⟩ ?_
 rintro i hi
 refine go 6 ?_
 refine Zc rfl (fun h29=>?_) (fun h29=>?_)
 ·refine go 11 ⟨O2,O2,?_⟩
  refine Pm [] [] ?_
  refine Zl (n:=7) [(1,0)] ?_
  refine go 2 ?_
  refine Qp (n:=6) 0 2 ?_ ?_
  ·refine Lj rfl (Za7 (Zr2 (i:=3) rfl rfl rfl Tryz.isAgg93 Tryz.sizeOf93 rfl rfl) rfl) (fun _ _=>?_)
   refine Zl (n:=0) [(2,1),(3,1),(4,0),(5,0),(6,0),(7,1)] ?_
   refine Yh (Zj 3 [] (Ye (l.getD i 0) (hl _ (Zf)))) fun _ _=>?_
   refine Yh (Zj 3 [] (Zej (Qh (l.take i)) (l.getD i 0) (Nat.le_trans (hb i) O) (Nat.le_trans (Kf (hl _ (Zf))) O))) fun _ _=>?_
   refine go 3 ?_
   refine Kg rfl (Zg4 (i:=3) rfl rfl rfl rfl rfl rfl Tryz.sizeOf93 rfl rfl ⟨Zu rfl,Zu rfl,trivial⟩ rfl hw.h (fun _ h=>nomatch h)) (fun _ _=>?_)
   refine go 1 ?_
   refine Zp ?_
   refine go 6 ⟨O,?_⟩
   exact Yq (i+1) O1 O1 ⟨rfl,trivial⟩ ⟨by rw [Zar O,Mw (by rw [←Zar O];exact Nat.le_trans (hb _) O)];rfl,trivial⟩
  ·refine Nb (Zj 3 [] (Ye (l.getD i 0) (hl _ (Zf)))) fun _ _=>?_
   refine Zl (n:=0) [(0,1),(3,1),(4,0),(5,0),(6,0),(7,1)] ?_
   refine go 1 ?_
   refine Yh (Zj 3 [] (Zej (Qh (l.take i)) (l.getD i 0) (Nat.le_trans (hb i) O) (Nat.le_trans (Kf (hl _ (Zf))) O))) fun _ _=>?_
   refine go 3 ?_
   refine Kg rfl (Zg4 (i:=3) rfl rfl rfl rfl rfl rfl Tryz.sizeOf93 rfl rfl ⟨Zu rfl,Zu rfl,trivial⟩ rfl hw.h (fun _ h=>nomatch h)) (fun _ _=>?_)
   refine go 1 ?_
   refine Zp ?_
   refine go 6 ⟨O,?_⟩
   exact Yq (i+1) O1 O1 ⟨rfl,trivial⟩ ⟨by rw [Zar O,Mw (by rw [←Zar O];exact Nat.le_trans (hb _) O)];rfl,trivial⟩
 ·obtain rfl:i=l.length:=O
  refine go 12 ?_
  exact Xa hsc () Tryz.results121 (by rw [List.take_length]) trivial Za
theorem Zei(x y:Int)(hx:Pu x)(hy:Pu y)(hy0:y≠0):Cal Tryz.prog 174 #[.int .i64 x,.int .i64 y] [] false (G:=Unit) (fun _=>True) (fun _=>Zap x y) (fun _=>[]):=by
 refine Zh Tryz.func174 Tryz.ntmps174 fun w0 sc hw hsc=>?_
 have hbx:=Kf hx
 have hby:=Kf hy
 refine go 2 ?_
 refine Ya (Zs 1) fun bx _=>?_
 refine go 6 ?_
 refine cl 1 [] (Ye _ hx) fun _ _=>?_
 refine go 1 ?_
 refine cl 1 [] (Ye _ hy) fun _ _=>?_
 refine cl 1 [] (Cb _ _ O O hy0) fun _ _=>?_
 refine go 7 ?_
 exact Mi hsc () Tryz.results174 rfl trivial Za
theorem Zs0:Cal Tryz.prog 114 #[] [] false (G:=List Int) (fun r=>Tb r 6 0) (fun r=> .agg (Cv r)) (fun r=>[]):=by
 refine Zh Tryz.func114 Tryz.ntmps114 fun w0 sc hw hsc=>?_
 refine go 2 ?_
 refine tt (Fq (i:=1) rfl rfl Tryz.zeroValue174 rfl rfl hw.h) (fun bx _=>?_)
 refine go 4 ?_
 refine tt (Fq (i:=2) rfl rfl Tryz.zeroValue174 rfl rfl hw.h) (fun bx_2 _=>?_)
 refine go 9 ?_
 refine Zg (Ia 2 (q:=box bx_2 174 (Cv (List.replicate 36 0))) (congrArg (box bx_2 174) zc6_eq) rfl rfl) ?_
 refine lp (G:=Nat×List Int) [0,1] [0,1] (fun q=>[(4,.int .i64 (q.1:Int))]) (fun q=>[(2,box bx_2 174 (Cv q.2))]) (fun q=>(q.1≤6)∧(Tb q.2 q.1 0)) (fun q=>6-q.1) (0,List.replicate 36 0) ⟨O1,Tb.start⟩ ⟨rfl,trivial⟩ ⟨rfl,trivial⟩ ?_
 rintro⟨n,l⟩ ⟨hn,hT⟩
 dsimp only at hn hT
 dsimp only
 have hl:=hT.len
 refine go 6 ?_
 refine Zc rfl (fun h52=>?_) (fun h52=>?_)
 ·refine go 13 ?_
  refine dt (Hf (i:=n) rfl rfl rfl Tryz.underlying174 Tryz.sizeOf173) ?_
  refine dt (Hf (i:=0) rfl rfl rfl Tryz.underlying173 Tryz.sizeOf3 rfl) ?_
  refine tt (Zsu (i:=2) rfl rfl rfl rfl rfl Tryz.sizeOf3 rfl hw.h trivial) (fun _ _=>?_)
  refine go 8 ?_
  refine lp (G:=Nat×List Int) [0,1,2,4] [0,1] (fun q=>[(3,.int .i64 (q.1:Int))]) (fun q=>[(2,box bx_2 174 (Cv q.2))]) (fun q=>(1≤q.1)∧(q.1≤n+1)∧(Tb q.2 n q.1)) (fun q=>n+1-q.1) (1,l.set (0+n*6+0*1) 1) ⟨O1,O1,hT.step O O (by cases n<;>rfl) O⟩ ⟨rfl,trivial⟩ ⟨rfl,trivial⟩ ?_
  rintro⟨k,l2⟩ ⟨hk1,hk2,hT2⟩
  dsimp only at hk1 hk2 hT2
  dsimp only
  have hl2:=hT2.len
  refine go 8 ?_
  refine Zc rfl (fun h54=>?_) (fun h54=>?_)
  ·refine go 4 ?_
   have hv1:=hT2.get (j:=0+(n-1)*6+(k-1)*1) (r:=n-1) (c:=k-1) O O (.inl O) O
   have hv2:=hT2.get (j:=0+(n-1)*6+k*1) (r:=n-1) (c:=k) O O (.inl O) O
   have hb1:=Zo0 (n:=n-1) (k:=k-1) 
   have hb2:=Zo0 (n:=n-1) (k:=k) 
   refine Pm [] [] ?_
   refine Zl (n:=5) [(0,0),(1,0),(2,0),(3,0),(4,0),(5,0),(6,0),(7,0),(9,0),(10,0),(11,0),(12,0),(13,0),(16,0)] ?_
   refine go 6 ⟨O,O,?_⟩
   refine Qo rfl rfl (stf (Hf (i:=(n-1)) rfl rfl rfl Tryz.underlying174 Tryz.sizeOf173) trivial) ?_
   refine Qo rfl rfl (stf (Hf (i:=(k-1)) rfl rfl rfl Tryz.underlying173 Tryz.sizeOf3) trivial) ?_
   refine go 3 ⟨O,?_⟩
   refine Qo rfl rfl (stf (Hf (i:=(n-1)) rfl rfl rfl Tryz.underlying174 Tryz.sizeOf173) trivial) ?_
   refine Qo rfl rfl (stf (Hf (i:=k) rfl rfl rfl Tryz.underlying173 Tryz.sizeOf3) trivial) ?_
   refine Qo rfl rfl (stf (Hf (i:=n) rfl rfl rfl Tryz.underlying174 Tryz.sizeOf173) trivial) ?_
   refine go 1 ?_
   refine Qp (n:=4) 8 14 ?_ ?_
   ·refine Lj rfl (Za7 (Yac (i:=2) rfl rfl rfl Tryz.isAgg3) rfl) (fun _ _=>?_)
    refine Zl (n:=0) [(14,1),(15,0),(17,0),(18,1)] ?_
    refine Kg rfl (Za7 (Yac (i:=2) rfl rfl rfl Tryz.isAgg3) rfl) (fun _ _=>?_)
    refine go 1 ⟨by rw [hv1,hv2];exact⟨O,O⟩,?_⟩
    refine Qo rfl rfl (stf (Hf (i:=k) rfl rfl rfl Tryz.underlying173 Tryz.sizeOf3) trivial) ?_
    refine Kg rfl (Zsu (i:=2) rfl rfl rfl rfl rfl Tryz.sizeOf3 rfl hw.h (fun _ h=>nomatch h)) (fun _ _=>?_)
    refine go 1 ?_
    refine Zp ?_
    refine go 7 ⟨O,?_⟩
    exact Yq (k+1,_) ⟨O1,O1,hT2.step O O (by rw [hv1,hv2,Zxu (n:=n) (k:=k)];push_cast;rfl) O⟩ O1 ⟨rfl,trivial⟩ ⟨rfl,trivial⟩
   ·refine Lj rfl (Za7 (Yac (i:=2) rfl rfl rfl Tryz.isAgg3) rfl) (fun _ _=>?_)
    refine Zl (n:=0) [(8,1),(15,0),(17,0),(18,1)] ?_
    refine Kg rfl (Za7 (Yac (i:=2) rfl rfl rfl Tryz.isAgg3) rfl) (fun _ _=>?_)
    refine go 1 ⟨by rw [hv1,hv2];exact⟨O,O⟩,?_⟩
    refine Qo rfl rfl (stf (Hf (i:=k) rfl rfl rfl Tryz.underlying173 Tryz.sizeOf3) trivial) ?_
    refine Kg rfl (Zsu (i:=2) rfl rfl rfl rfl rfl Tryz.sizeOf3 rfl hw.h (fun _ h=>nomatch h)) (fun _ _=>?_)
    refine go 1 ?_
    refine Zp ?_
    refine go 7 ⟨O,?_⟩
    exact Yq (k+1,_) ⟨O1,O1,hT2.step O O (by rw [hv1,hv2,Zxu (n:=n) (k:=k)];push_cast;rfl) O⟩ O1 ⟨rfl,trivial⟩ ⟨rfl,trivial⟩
  ·refine go 10 ⟨O,?_⟩
   exact Yq (n+1,l2) ⟨O1,hT2.row O⟩ O1 ⟨rfl,trivial⟩ ⟨rfl,trivial⟩
 ·obtain rfl:n=6:=O
  let r0:=l
  refine go 7 ?_
  refine dt (d_lwa (i:=2) rfl rfl rfl Tryz.isAgg174 Tryz.sizeOf174 hl) ?_
  refine tt (Yax (i:=1) rfl rfl rfl rfl rfl Tryz.sizeOf174 hl Zpl rfl hw.h trivial) (fun _ _=>?_)
  refine go 3 ?_
  exact Zpm (.inl rfl) hsc l _ (fun a w hs=>Zgh hs Tryz.results114 (Hi (i:=1) (vs:=r0.map (Value.int .i64)) rfl rfl Tryz.isAgg174 Tryz.sizeOf174 (by simpa using hl))) rfl hT rfl Za
theorem Zi1(v:Value)(c:List Int)(over:Int)(hc:∀x∈c,Pu x)(hl1:1≤c.length)(hl:c.length≤6)(ho:1≤over)(ho2:over≤4294967296):Cal Tryz.prog 73 #[v,.int .i64 over] [Xc 1 Xg v c] false (G:=Unit) (fun _=>True) (fun _=> .bool (Zo7 c over)) (fun _=>[]):=by
 refine Zh Tryz.func73 Tryz.ntmps73 fun w0 sc hw hsc=>?_
 have hbo:bl (62914560*over).natAbs≤90:=(Xn 90 _).2 O
 have hbo2:bl over.natAbs≤40:=(Xn 40 _).2 O
 refine go 7 ?_
 refine cl 1 [] (Zs0) fun g hg=>?_
 refine tt (Fq (i:=2) rfl rfl Tryz.zeroValue174 rfl rfl hw.h) (fun bx _=>?_)
 refine tt (Yax (i:=2) rfl rfl rfl rfl rfl Tryz.sizeOf174 hg.len Zpl rfl hw.h trivial) (fun _ _=>?_)
 refine Xr (Ia 2 (q:=box bx 174 (Cv g)) rfl rfl rfl) ?_
 refine go 4 ?_
 refine cl 2 [] (Ye 62914560 ⟨O3,O3⟩) fun _ _=>?_
 refine go 1 ?_
 refine cl 2 [] (Ye over ⟨O,O⟩) fun _ _=>?_
 refine cl 2 [] (Zgf 62914560 over O3 O) fun _ _=>?_
 refine Ya (Zs 3) fun bx_2 _=>?_
 refine go 20 ⟨O,?_⟩
 refine lp (G:=Nat) [0,5,6,7,20] [0,1,2,3] (fun j=>[(21,.int .i64 (j:Int))]) (fun j=>[]) (fun j=>(j≤c.length)∧(∀i,i<j→((ctl c i (i+1)).natAbs:Int)≤62914560*over)) (fun j=>c.length-j) 0 ⟨O1,fun i hi=>absurd hi (Nat.not_lt_zero i)⟩ ⟨rfl,trivial⟩ trivial ?_
 rintro j ⟨hj,hz⟩
 refine go 6 ?_
 refine Zc rfl (fun h69=>?_) (fun h69=>?_)
 ·refine go 12 ?_
  refine Ya (Zs 4) fun bx_3 _=>?_
  refine go 11 ⟨O,?_⟩
  refine lp (G:=Nat) [0,5,6,7,8,9,20,21,25] [0,1,2,3] (fun k=>[(26,.int .i64 (k:Int))]) (fun k=>[(4,box bx_3 93 (wc (ctl c j k)))]) (fun k=>k≤j+1) (fun k=>j+1-k) 0 O1 ⟨rfl,trivial⟩ ⟨rfl,trivial⟩ ?_
  rintro k hk
  refine go 6 ?_
  refine Zc rfl (fun h71=>?_) (fun h71=>?_)
  ·refine go 10 ?_
   have hw6:=Zso (n:=(c.length-1)) (j:=j) (k:=k) O
   refine Xx (fun _=>False) [(0,0),(1,0),(2,0),(3,0),(4,0),(6,0),(7,0),(8,0),(9,0),(10,0),(11,0),(12,0),(13,0),(14,0),(15,0),(16,0),(17,0),(5,1),(18,1),(19,1),(20,1),(21,3)] ?_
   refine go 3 ?_
   refine Qo rfl rfl (Qq (Zy (ii:=1) (i:=k) rfl rfl rfl rfl Zn Tryz.underlying22 Tryz.sizeOf3 rfl)) ?_
   refine go 3 ⟨O,?_⟩
   refine Qo rfl rfl (Qq (Hf (i:=(c.length-1)) rfl rfl rfl Tryz.underlying174 Tryz.sizeOf173)) ?_
   refine Qo rfl rfl (Qq (Hf (i:=k) rfl rfl rfl Tryz.underlying173 Tryz.sizeOf3)) ?_
   refine Qo rfl rfl (Qq (Yg (r':= .int .i64 (chz (c.length-1) k:Int)) (Yac (i:=2) rfl rfl rfl Tryz.isAgg3 (by have:=hg.len;omega)) (congrArg (Value.int .i64) (hg.get O O (.inl O) O)))) ?_
   refine Qo rfl rfl (Qq (Zdq rfl rfl rfl O3 O3 (by have:=Zoy (n:=(c.length-1)) (k:=k) O;omega))) ?_
   refine go 2 ?_
   refine Qo rfl rfl (Qq (Hf (i:=j) rfl rfl rfl Tryz.underlying174 Tryz.sizeOf173)) ?_
   refine Qo rfl rfl (Qq (Hf (i:=k) rfl rfl rfl Tryz.underlying173 Tryz.sizeOf3)) ?_
   refine Qo rfl rfl (Qq (Yg (r':= .int .i64 (chz j k:Int)) (Yac (i:=2) rfl rfl rfl Tryz.isAgg3 (by have:=hg.len;omega)) (congrArg (Value.int .i64) (hg.get O O (.inl O) O)))) ?_
   refine go 1 ⟨show Pu (w60 (c.length-1) j k)from⟨O,O⟩,?_⟩
   refine Yh (Zj 4 [] (Ye (c.getD k 0) (Qm hc k))) fun _ _=>?_
   refine Yh (Zj 4 [] (Ye (w60 (c.length-1) j k) ⟨O,O⟩)) fun _ _=>?_
   refine Yh (Zj 4 [] (Zgf (c.getD k 0) (w60 (c.length-1) j k) (Nat.le_trans (Kf (Qm hc k)) O3) (Nat.le_trans (Zkr O) O3))) fun _ _=>?_
   refine Yh (Zj 4 [] (Ybh (ctl c j k) (c.getD k 0*(w60 (c.length-1) j k)) (Nat.le_trans (Zcc hc O O) O3) (Nat.le_trans (Yd _ _) (by have h1:=Kf (Qm hc k);have h2:=Zkr (n:=(c.length-1)) (j:=j) (k:=k) O;omega)))) fun _ _=>?_
   refine go 8 ⟨O,?_⟩
   exact Yq (k+1) O1 O1 ⟨rfl,trivial⟩ ⟨by rw [Ye9];rfl,trivial⟩
  ·obtain rfl:k=j+1:=O
   refine go 9 ?_
   refine Xr (Ia 4 (q:=box bx_3 93 (wc ((ctl c j (j+1)).natAbs:Int))) (congrArg (box bx_3 93) (wc_abs _)) rfl rfl) ?_
   refine go 6 ?_
   refine cl 4 [] (Zmy ((ctl c j (j+1)).natAbs:Int) (62914560*over) (by rw [Int.natAbs_natCast];exact Nat.le_trans (Zcc hc O O) O3) O) fun _ _=>?_
   refine go 3 ?_
   refine Zc rfl (fun h74=>?_) (fun h74=>?_)
   ·have hgt:=(sgp _).1 h74
    refine go 11 ?_
    exact Xa hsc () Tryz.results73 (by rw [Zui (j:=j) O O]) trivial Za
   ·have hle:((ctl c j (j+1)).natAbs:Int)≤62914560*over:=Int.not_lt.1 fun h9=>h74 ((sgp _).2 O)
    refine go 7 ⟨O,?_⟩
    exact Yq (j+1) ⟨O1,fun i hi=>by rcases Nat.lt_succ_iff_lt_or_eq.1 hi with h9 | h9;exact hz i h9;subst h9;exact hle⟩ O1 ⟨rfl,trivial⟩ trivial
 ·refine go 11 ?_
  exact Xa hsc () Tryz.results73 (by rw [Yfi fun i hi=>hz i O]) trivial Za
theorem _root_.Go.Proofs.Tryz.ti124:Tryz.prog.info? 124=some Tryz.t124:=O7
theorem Zsf{v0 v1 v2:Value}(h0:v0.oneCell'=true)(h1:v1.oneCell'=true)(h2:v2.oneCell'=true):Tryz.prog.built 124 [(0,v0),(1,v1),(2,v2)]=some #[v0,v1,v2]:=by
 refine Yag _ Tryz.ti124 Tryz.underlying124 rfl Tryz.ti22 ?_
 rw [show Tryz.t22.size=1 from rfl]
 rw [show(Value.agg #[.slice none 0 0,.slice none 0 0,.slice none 0 0]).cells=#[.slice none 0 0,.slice none 0 0,.slice none 0 0]from rfl]
 simp [Instr.fill,Yt h0,Yt h1,Yt h2]
theorem Zu6(fr to ov:Int)(vx vy vz:Value)(x y z:List Int):Cal Tryz.prog 72 #[.agg #[.int .i64 fr,.int .i64 to,.int .i64 ov,vx,vy,vz]] [Xc 1 Xg vx x,Xc 1 Xg vy y,Xc 1 Xg vz z] false (G:=Unit) (fun _=>True) (fun _=> .agg #[vx,vy,vz]) (fun _=>[]):=by
 refine Zh Tryz.func72 Tryz.ntmps72 fun w0 sc hw hsc=>?_
 refine go 2 ?_
 refine Ya (Yl 4) fun bx _=>?_
 refine Ya (Zs 5) fun bx_2 _=>?_
 refine go 10 ?_
 refine dt (Xh (ivs:=[(0,_),(1,_),(2,_)]) rfl ⟨rfl,rfl,rfl,rfl,rfl,rfl,trivial⟩ (fun a w hs=>Zsf ((Na (i:=1) rfl Zn) a w hs) ((Na (i:=2) rfl Zn) a w hs) ((Na (i:=3) rfl Zn) a w hs))) ?_
 refine go 4 ?_
 exact Xa hsc () Tryz.results72 rfl trivial Za
theorem Aa(fr to ov:Int)(vx vy vz:Value)(x y z:List Int)(hfr:Pu fr)(hto:Pu to)(hov:Pu ov)(hx:∀a∈x,Pu a)(hy:∀a∈y,Pu a)(hz:∀a∈z,Pu a):Cal Tryz.prog 36 #[.agg #[.int .i64 fr,.int .i64 to,.int .i64 ov,vx,vy,vz]] [Xc 1 Xg vx x,Xc 1 Xg vy y,Xc 1 Xg vz z] false (G:=Unit) (fun _=>True) (fun _=> .bool (Cw fr to ov x y z)) (fun _=>[]):=by
 refine Zh Tryz.func36 Tryz.ntmps36 fun w0 sc hw hsc=>?_
 have hbo:=Kf hov
 have hfc:=fun i k=>bl_fc hx hy hz hbo i k
 have hfc0:=fun i=>hfc i 0
 simp only [List.take_zero,Ga]at hfc0
 refine go 2 ?_
 refine Ya (Yl 4) fun bx _=>?_
 refine go 10 ?_
 refine Ys (d:=11) rfl (fun s83=>?_) (fun s83=>?_)
 ·refine go 31 ?_
  exact Xa hsc () Tryz.results36 (by rw [Bo O]) trivial Za
 ·refine go 7 ?_
  refine Ys (d:=18) rfl (fun s83_2=>?_) (fun s83_2=>?_)
  ·refine go 24 ?_
   exact Xa hsc () Tryz.results36 (by rw [Bo O]) trivial Za
  ·refine go 5 ?_
   refine Ys (d:=23) rfl (fun s83_3=>?_) (fun s83_3=>?_)
   ·refine go 19 ?_
    exact Xa hsc () Tryz.results36 (by rw [Bo O]) trivial Za
   ·refine go 5 ?_
    refine Ys (d:=28) rfl (fun s83_4=>?_) (fun s83_4=>?_)
    ·refine go 14 ?_
     exact Xa hsc () Tryz.results36 (by rw [Bo O]) trivial Za
    ·refine go 6 ?_
     refine Zc rfl (fun h83=>?_) (fun h83=>?_)
     ·refine go 7 ?_
      exact Xa hsc () Tryz.results36 (by rw [Bo O]) trivial Za
     ·refine go 6 ?_
      refine cl 4 [] (Ye ov hov) fun _ _=>?_
      refine Ya (Zs 5) fun bx_2 _=>?_
      refine go 7 ?_
      refine cl 5 [1,2,3] (Zu6 _ _ _ _ _ _ _ _ _) fun _ _=>?_
      refine go 4 ?_
      refine lp (G:=Nat) [1,3,37] [0,1,2,3,4] (fun i=>[(38,.int .i64 (i:Int))]) (fun i=>[(5,box bx_2 93 (wc (Ga ov (Iz i x y z))))]) (fun i=>(i≤3)∧(∀k,k<i→axB (Ym k x y z) ov=true)) (fun i=>3-i) 0 ⟨O1,fun k hk=>absurd hk (Nat.not_lt_zero k)⟩ ⟨rfl,trivial⟩ ⟨rfl,trivial⟩ ?_
      rintro i ⟨hi,hax⟩
      refine go 6 ?_
      refine Zc rfl (fun h87=>?_) (fun h87=>?_)
      ·refine go 5 ?_
       refine Zg (Zm7 i 1 2 3 50 rfl rfl rfl rfl rfl rfl) ?_
       refine go 1 ?_
       refine dt (Zxh (i:=i) rfl rfl rfl Tryz.underlying124 Tryz.sizeOf22 Tryz.isAgg22 rfl) ?_
       refine go 10 ?_
       refine Ys (d:=44) rfl (fun s88=>?_) (fun s88=>?_)
       ·refine go 40 ?_
        exact Xa hsc () Tryz.results36 (by rw [Zbk (i:=i) (Zkx fun h1 h2 h3 h4=>by first | omega | simp_all)]) trivial Za
       ·refine go 5 ?_
        refine Ys (d:=49) rfl (fun s88_2=>?_) (fun s88_2=>?_)
        ·refine go 35 ?_
         exact Xa hsc () Tryz.results36 (by rw [Zbk (i:=i) (Zkx fun h1 h2 h3 h4=>by first | omega | simp_all)]) trivial Za
        ·refine go 4 ?_
         refine Ys (d:=53) rfl (fun s88_3=>?_) (fun s88_3=>?_)
         ·refine go 4 ⟨O,?_⟩
          refine Dc (Zy (ii:=50) (i:=((Ym i x y z).length-1)) rfl rfl rfl rfl Zn Tryz.underlying22 Tryz.sizeOf3) rfl rfl ?_
          refine go 5 ⟨O,?_⟩
          refine Ys (d:=63) rfl (fun s88_4=>?_) (fun s88_4=>?_)
          ·refine go 21 ?_
           exact Xa hsc () Tryz.results36 (by rw [Zbk (i:=i) (Zkx fun h1 h2 h3 h4=>by first | omega | simp_all)]) trivial Za
          ·refine go 3 ?_
           refine Bl 5 [50] (Zi1 _ (Ym i x y z) ov (Lt hx hy hz i) O O O O) fun _ _=>?_
           refine go 4 ?_
           refine Oy rfl (fun h88=>?_) (fun h88=>?_)
           ·refine go 12 ?_
            exact Xa hsc () Tryz.results36 (by rw [Zbk (i:=i) (Zkx fun h1 h2 h3 h4=>by first | omega | simp_all)]) trivial Za
           ·refine go 10 ?_
            refine lp (G:=Nat) [1,3,37,38,45,46,47,50,51,52,53,54,55,56,57,58,59,60,61,64,65,66,67,68,70,71] [0,1,2,3,4,50] (fun k=>[(72,.int .i64 (k:Int))]) (fun k=>[(5,box bx_2 93 (wc (Ga (Ga ov (Iz i x y z)) ((Ym i x y z).take k))))]) (fun k=>k≤(Ym i x y z).length) (fun k=>(Ym i x y z).length-k) 0 O1 ⟨rfl,trivial⟩ ⟨rfl,trivial⟩ ?_
            rintro k hk
            refine go 6 ?_
            refine Zc rfl (fun h91=>?_) (fun h91=>?_)
            ·refine go 11 ⟨O2,O2,?_⟩
             refine Xx (fun _=>False) [(0,0),(1,0),(2,1),(3,1),(4,3)] ?_
             refine go 2 ?_
             refine Yh (Zj 5 [] (Ye ((Ym i x y z).getD k 0) (Qm (Lt hx hy hz i) k))) fun _ _=>?_
             refine Yh (Zj 5 [] (Zsz (Ga (Ga ov (Iz i x y z)) ((Ym i x y z).take k)) ((Ym i x y z).getD k 0) (Nat.le_trans (hfc i k) O3) (Nat.le_trans (Kf (Qm (Lt hx hy hz i) k)) O3))) fun _ _=>?_
             refine go 8 ⟨O,?_⟩
             exact Yq (k+1) O1 O1 ⟨rfl,trivial⟩ ⟨by rw [Zc5 _ O];rfl,trivial⟩
            ·obtain rfl:k=(Ym i x y z).length:=O
             rw [List.take_length]
             refine go 10 ⟨O,?_⟩
             exact Yq (i+1) ⟨O1,fun k hk=>by rcases Nat.lt_succ_iff_lt_or_eq.1 hk with h9 | h9;exact hax k h9;subst h9;exact Yfs O O (by first | omega | simp_all) (by simp_all)⟩ O1 ⟨rfl,trivial⟩ ⟨by rw [Bj x y z O,Ao];rfl,trivial⟩
         ·refine go 13 ?_
          refine Bl 5 [50] (Zi1 _ (Ym i x y z) ov (Lt hx hy hz i) O O O O) fun _ _=>?_
          refine go 4 ?_
          refine Oy rfl (fun h88_2=>?_) (fun h88_2=>?_)
          ·refine go 12 ?_
           exact Xa hsc () Tryz.results36 (by rw [Zbk (i:=i) (Zkx fun h1 h2 h3 h4=>by first | omega | simp_all)]) trivial Za
          ·refine go 10 ?_
           refine lp (G:=Nat) [1,3,37,38,45,46,47,50,51,52,53,54,55,56,57,58,59,60,61,64,65,66,67,68,70,71] [0,1,2,3,4,50] (fun k=>[(72,.int .i64 (k:Int))]) (fun k=>[(5,box bx_2 93 (wc (Ga (Ga ov (Iz i x y z)) ((Ym i x y z).take k))))]) (fun k=>k≤(Ym i x y z).length) (fun k=>(Ym i x y z).length-k) 0 O1 ⟨rfl,trivial⟩ ⟨rfl,trivial⟩ ?_
           rintro k hk
           refine go 6 ?_
           refine Zc rfl (fun h91_2=>?_) (fun h91_2=>?_)
           ·refine go 11 ⟨O2,O2,?_⟩
            refine Xx (fun _=>False) [(0,0),(1,0),(2,1),(3,1),(4,3)] ?_
            refine go 2 ?_
            refine Yh (Zj 5 [] (Ye ((Ym i x y z).getD k 0) (Qm (Lt hx hy hz i) k))) fun _ _=>?_
            refine Yh (Zj 5 [] (Zsz (Ga (Ga ov (Iz i x y z)) ((Ym i x y z).take k)) ((Ym i x y z).getD k 0) (Nat.le_trans (hfc i k) O3) (Nat.le_trans (Kf (Qm (Lt hx hy hz i) k)) O3))) fun _ _=>?_
            refine go 8 ⟨O,?_⟩
            exact Yq (k+1) O1 O1 ⟨rfl,trivial⟩ ⟨by rw [Zc5 _ O];rfl,trivial⟩
           ·obtain rfl:k=(Ym i x y z).length:=O
            rw [List.take_length]
            refine go 10 ⟨O,?_⟩
            exact Yq (i+1) ⟨O1,fun k hk=>by rcases Nat.lt_succ_iff_lt_or_eq.1 hk with h9 | h9;exact hax k h9;subst h9;exact Yfs O O (by first | omega | simp_all) (by simp_all)⟩ O1 ⟨rfl,trivial⟩ ⟨by rw [Bj x y z O,Ao];rfl,trivial⟩
      ·obtain rfl:i=3:=O
       refine go 6 ?_
       refine Xx (fun _=>False) [(0,0),(1,1),(2,0),(3,3)] ?_
       refine go 1 ?_
       refine Yh (Zj 5 [] (Ye 1 ⟨O3,O3⟩)) fun _ _=>?_
       refine Qo rfl rfl (Qq (Zdr rfl rfl rfl eg93 (fun w=>eql93 w _ _ _ _))) ?_
       refine go 4 ?_
       exact Xa hsc () Tryz.results36 (by rw [Zt5,Ybt O hax]) trivial Za
theorem Ygo(v:Value)(xs:List Int)(hv:Vp xs):Ok prog 249 #[v] [Xc 2 wv v xs] (.bool (decide (Ad xs))):=by
 refine Zh func249 ntmps249 fun w0 sc hw hsc=>?_
 have hlen:=hv.len
 have hmz:=Qn hv.sz
 have q1:(xs.length+2)*(xs.length+2)≤27*27:=Nat.mul_le_mul O O
 have q2:(xs.length+2)*(xs.length+2)*(Xw xs+16)≤27*27*65552:=Nat.mul_le_mul q1 O
 have q3:((xs.length:Int)-1+3)*((xs.length:Int)-1+3)=(((xs.length+2)*(xs.length+2):Nat):Int):=by rw [show(xs.length:Int)-1+3=((xs.length+2:Nat):Int) by omega];push_cast;rfl
 have q4:((xs.length:Int)-1+3)*((xs.length:Int)-1+3)*((Xw xs:Int)+16)=(((xs.length+2)*(xs.length+2)*(Xw xs+16):Nat):Int):=by rw [q3];push_cast;rfl
 refine go 9 ?_
 refine cl 1 [1] (Xk _ _ ‹_›) fun _ _=>go 9 ?_
 refine cl 1 [1] (Zhf _ _ hv) fun _ _=>go 10 ?_
 refine cl 1 [1] (Zl8 _ _ hv) fun _ _=>go 13 ?_
 refine Ys (d:=23) J (fun s24=>?_) (fun s24=>?_)
 ·refine go 14 ?_
  exact Xa hsc () results249 (by first | exact sf_t O | exact sf_i O q4) trivial Za
 ·refine go 14 ⟨O,O,by rw [q3];exact⟨O,O⟩,O,by rw [q4];exact⟨O,O⟩,?_⟩
  exact Xa hsc () results249 (by first | exact sf_t O | exact sf_i O q4) trivial Za
theorem Zyp(v:Value)(xs:List Int)(hv:Vp xs):Ok prog 245 #[v,.slice none 0 0] [Xc 2 wv v xs] (.int .i64 (Zug xs)):=by
 refine Zh func245 ntmps245 fun w0 sc hw hsc=>?_
 refine Zg (Px 999 2 93 wv)<|Zg (Qa 999 J J pV)<|go 8 ?_
 refine cl 1 [1] (Ygo _ _ hv) fun _ _=>go 13 ?_
 refine lp (G:=Unit) [0,1,13,14] [0,1,999] (fun _=>[(15,.int .i64 0),(5,.bool (decide (¬Ad xs)))]) (fun _=>[]) (fun _=>True) (fun _=>0) () trivial K2 trivial ?_
 rintro _ -
 refine go 2 ?_
 refine kf O3<|go 13 ?_
 refine cl 1 [1] (Xk _ _ ‹_›) fun _ _=>go 14 ?_
 refine Zc J (fun h39=>?_) (fun h39=>?_)
 ·refine go 7 ?_
  exact Xa hsc () results245 (by unfold Zug;rw [if_pos O]) trivial Za
 ·refine go 7 ?_
  refine kf O3<|go 11 ?_
  refine Oy J (fun h47=>?_) (fun h47=>?_)
  ·refine go 7 ?_
   exact Xa hsc () results245 (by unfold Zug;rw [if_neg O,if_neg (by simpa using h47)]) trivial Za
  ·refine go 8 ?_
   exact Xa hsc () results245 (by unfold Zug;rw [if_neg O,if_pos (by simpa using h47)]) trivial Za
theorem Zp1(v:Value)(xs:List Int)(hv:Vp xs)(h0:xs≠[]):Cal prog 246 #[v] [Xc 2 wv v xs] true (G:=Value) (fun r=>True) (fun r=> .tuple #[r,.int .i64 0]) (fun r=>[Xc 2 wv r (Yn xs)]):=by
 refine Zh func246 ntmps246 fun w0 sc hw hsc=>?_
 have hvp:=Mr hv
 have hl0:=List.length_pos_iff.2 h0
 have hlp:=Zq xs
 have hlen:=hv.len
 refine go 9 ?_
 refine cl 2 [1] (Md _ _ hv) fun _ _=>go 11 ?_
 refine kt O3<|go 5 ⟨O,?_⟩
 refine Dc (Zy (ii:=2) (i:=((Zr xs).length-1)) J J J J Zn Lq Ix) J J<|go 1 ⟨O2,?_⟩
 refine Bl 2 [] (Il _ (hvp.sz _)) fun _ _=>go 4 ?_
 refine Zc J (fun h56=>?_) (fun h56=>?_)
 ·refine go 3 ?_
  refine cl 2 [] (Ye _ ⟨O3,O3⟩) fun _ _=>cl 3 [2] (Hu _ _ _ hvp O8 (fun i=>Za6 hvp.sz i)) fun _ _=>go 8 ?_
  exact Mi hsc _ results246 J trivial (Oe 3 Za (by rw [Zie O ((Qe _).1 ‹_›)]<;>rfl))
 ·refine go 11 ?_
  exact Mi hsc _ results246 J trivial (Oe 2 Za (by rw [Zid (fun h=>by have h2:=(Qe _).2 h;exact absurd h2 ‹_›)]<;>rfl))
theorem st_sqf(v:Value)(xs:List Int)(hv:Vp xs)(h0:xs≠[])(hf:Ad xs)(F:Nat)(hS:Ygp F xs):Cal prog 227 #[v] [Xc 2 wv v xs] true (G:=Value) (fun r=>True) (fun r=> .tuple #[r,.int .i64 0]) (fun r=>[Xc 2 wv r (sqf F xs)]):=by
 refine Zh func227 ntmps227 fun w0 sc hw hsc=>?_
 obtain⟨hS1,hS2,hS3,hS4,hS5⟩:=hS
 have hvn:=Zsp hv
 have hln:=Pe hv.tr
 have hvd:Vp (Yi (Yn xs)):=Zem hvn (fun i hi=>hS1 i O)
 have hvg:=Zuw hvn hvd hS3
 have hc0:=Yi7 h0 hf
 refine Zg (Px 999 2 93 wv)<|Zg (Qa 999 J J pV)<|go 10 ?_
 refine cl 1 [1] (Zyp _ _ hv) fun _ _=>go 9 ?_
 refine Zc J (fun h64=>?_) (fun h64=>?_)
 ·exfalso;omega
 ·refine go 5 ?_
  refine cl 2 [1] (Zp1 _ _ hv h0) fun _ _=>go 11 ?_
  refine kf O3<|go 8 ?_
  refine cl 3 [2] (Ek _ _ hvn (fun i=>by by_cases hi:i<xs.length;exact hS1 i hi;rw [Yb O];simp [Lx])) fun _ _=>go 11 ?_
  refine kf O3<|go 9 ?_
  refine cl 4 [2,3] (Zqu _ _ _ _ hvn hvd F hS2 hS3) fun _ _=>go 11 ?_
  refine kf O3<|go 9 ?_
  refine cl 5 [2,4] (Zbq _ _ _ _ hvn hvg hS4) fun _ _=>go 7 ?_
  exact Mi hsc _ results227 (by rw [if_pos hS5]<;>rfl) trivial (Oe 5 Za (by rw [if_pos hS5]<;>rfl))
end Go.Sky

