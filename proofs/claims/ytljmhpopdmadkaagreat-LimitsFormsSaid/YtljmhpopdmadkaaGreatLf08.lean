/- Rules, arithmetic and contracts: part 9. No conditions but those that each theorem names. -/
import Derived.Test.YtljmhpopdmadkaaGreatLf07
set_option linter.all false
set_option maxHeartbeats 4000000
namespace Go.Sky
open Go.Proofs.Tryz
open Go.Proofs
set_option synthInstance.maxHeartbeats 0
set_option synthInstance.maxSize 100000
set_option maxRecDepth 20000
set_option maxHeartbeats 4000000
set_option linter.unusedSimpArgs false
theorem Znh(v:Value)(zs:List (Int×SL))(hs:Sz 1000000 (Yl zs))(hl:zs.length≤1000):Cal prog 20 #[v] [pp v zs] false (G:=Value) (fun r=>True) (fun r=>r) (fun r=>[Yj 2 wv r (Yl zs)]):=by
 refine Zd func20 ntmps20 fun w0 sc hw hsc=>?_
 have hli:=Zm zs
 refine go 17 ?_
 refine Ze (Pe 70 2 93 wv)<|lp (G:=Nat×Value) [0] [0,1] (fun q=>[(4,.int .i64 (q.1:Int)),(3,q.2)]) (fun q=>[(70,Nf 2 93 wv q.2 ((Yl zs).take q.1))]) (fun q=>q.1≤zs.length) (fun q=>zs.length-q.1) (0,.slice none 0 0) O1 K2 K1 ?_
 rintro⟨i,vo⟩ hi
 dsimp only at hi
 dsimp only
 have htl:((Yl zs).take i).length=i:=by rw [List.length_take];omega
 have hci:=Lz zs i
 refine go 9 ?_
 refine Zc J (fun h50=>?_) (fun h50=>?_)
 ·refine go 9 ⟨O2,?_⟩
  refine dt (Od (ii:=1) I0 J J J Zp pI O2)<|tt (Pt (n:=1) (r_to _ _ (by rw [hci];have:=hs i;omega)) J J J K1 call50 (Iu 1 J J (Zi) Zy) J hw.h) (fun _ _=>?_)
  refine tt (Xy (i:=2) (ivs:=[(0,_)]) (enc:=wv) [(zs.getD i I0).1] J J K2 Mp ti93 J J J J J pV.cells J J hw.h) (fun v _=>?_)
  refine tt (Lu (i:=70) (j:=2) (by_:=24) J J J J J J O3 J (Xa pV) Mp ti93 J pV J J J O8 O3 J hw.h) fun v_2 _=>go 9 ⟨O,?_⟩
  exact Xd (i+1,_) O1 O1 K2 ⟨by rw [Pm 0 _ _ O,show(Yl zs).getD i 0=(zs.getD i I0).1 from hci.symm];rfl,trivial⟩
 ·refine go 12 ?_
  exact Xi hsc _ results20 J trivial (gow 70 Za (List.take_of_length_le O))
theorem Ho(v:Value)(zs:List (Int×SL))(hs:Sz 3000000000 (Yl zs)):Cal prog 92 #[v] [pp v zs] true (G:=Value×List (Int×SL)) (fun r=>Yl r.2=tzl (Yl zs)) (fun r=>r.1) (fun r=>[pp r.1 r.2]):=by
 refine Zd func92 ntmps92 fun w0 sc hw hsc=>?_
 refine On (Zok (i:=1) J) (fun hself=>?_)
 refine On (Ic (i:=1) J Zp) (fun hlen=>?_)
 have hli:=Zm zs
 refine go 7 ?_
 refine lp (G:=Nat) [] [0] (fun k=>[(0,Mq v k)]) (fun k=>[(1,pp (Mq v k) (zs.take k))]) (fun k=>(k≤zs.length)∧(tzl ((Yl zs).take k)=tzl (Yl zs))) (fun k=>k) zs.length ⟨Nat.le_refl _,by rw [List.take_of_length_le O]⟩ ⟨by rw [hself];rfl,trivial⟩ ⟨by rw [hself,List.take_length];rfl,trivial⟩ ?_
 rintro k ⟨hk,ht⟩
 have hl:(zs.take k).length=k:=by rw [List.length_take];omega
 have hce:((zs.take k).getD (k-1) I0).1=((Yl zs).take k).getD (k-1) 0:=by rw [Lz,Zef];rfl
 refine go 7 ?_
 refine Yq (d:=6) J (fun s22=>?_) (fun s22=>?_)
 ·refine go 4 ⟨O,?_⟩
  refine Gh (Yp (ii:=1) (i:=k-1) J J J J Zp Zb3 sizeOf77) J J<|Gh (Od (ii:=1) I0 J J J Zp pI) J J<|gtt (Pt (n:=1) (Zkr _ _ (by rw [hce];exact(hs.take _).getD _)) J J J K1 call83 (Iu 1 J J (Zi) Zy) J hw.h) J J J J fun _ _=>go 4 ?_
  refine Zc J (fun h22=>?_) (fun h22=>?_)
  ·rw [hce]at h22
   have hstep:=Zmv (xs:=Yl zs) (k:=k) O O (Zgu (k:=k) O (Int.sign_eq_zero_iff_zero.1 h22))
   refine go 8 ⟨O,?_⟩
   refine dt (Zti (ii:=1) (i:=k-1) J J J J Zp Zb3 sizeOf77)<|go 3 ?_
   exact Yr (Zuv 1 1 (k-1) J J O)<|Xd (k-1) ⟨O1,by rw [←ht,←hstep]⟩ O1 ⟨by rw [←Hg v k (k-1)];rfl,trivial⟩ ⟨by rw [Hg,List.take_take,Nat.min_eq_left O];rfl,trivial⟩
  ·try rw [hce]at h22
   refine go 12 ?_
   exact Xi hsc (_,zs.take k) results92 J (by rw [Zef,←ht];exact(Zc6 O (by first | (left;omega) | (right;exact Zdb (k:=k) O ‹_›))).symm) (Oq 1 Za)
 ·refine go 24 ?_
  exact Xi hsc (_,zs.take k) results92 J (by rw [Zef,←ht];exact(Zc6 O (by first | (left;omega) | (right;exact Zdb (k:=k) O ‹_›))).symm) (Oq 1 Za)
theorem Yb7(v:Value)(l:List Int)(hl:∀x∈l,Xo x)(hlen:l.length≤1000):Cal prog 69 #[v] [Yj 1 Ym v l] true (G:=Value×List (Int×SL)) (fun r=>Yl r.2=tzl l) (fun r=>r.1) (fun r=>[pp r.1 r.2]):=by
 refine Zd func69 ntmps69 fun w0 sc hw hsc=>?_
 have hsz:=Zf6 hl
 refine go 17 ?_
 refine Ze (Pe 70 2 77 Kn)<|Ze (Ys qI 71)<|lp (G:=Nat×Value×List (Int×SL)) [0] [0,1] (fun q=>[(4,.int .i64 (q.1:Int)),(3,q.2.1)]) (fun q=>[(70,Nf 2 77 Kn q.2.1 q.2.2),(71,Cx qI q.2.2)]) (fun q=>(q.1≤l.length)∧(Yl q.2.2=mk q.1 (cf l))∧(q.2.2.length=q.1)) (fun q=>l.length-q.1) (0,.slice none 0 0,[]) ⟨O1,rfl,rfl⟩ K2 K2 ?_
 rintro⟨i,vo,ws⟩ ⟨hi,hz,hzl⟩
 dsimp only at hi hz hzl
 dsimp only
 refine go 9 ?_
 refine Zc J (fun h59=>?_) (fun h59=>?_)
 ·refine go 10 ⟨O2,O2,?_⟩
  refine cl 2 [] (Gg _ (hl _ (Zi))) fun v _=>?_
  refine Zzg (Pr 2 J Zh) (fun sl hsl=>?_)
  subst hsl
  refine tt (Xy (i:=3) (ivs:=[(0,_)]) (enc:=Kn) [(l.getD i 0,sl)] J J K2 Zb3 ti77 J J J J J pI.cells J J hw.h) (fun v_2 _=>?_)
  refine tt (Lu (i:=70) (j:=3) (by_:=32) J J J J J J O3 J (Xa pI) Zb3 ti77 J pI J J J O8 O3 J hw.h) fun v_3 _=>go 9 ⟨O,?_⟩
  exact Yr (Zj (q:=qI) (z:=(l.getD i 0,sl)) 71 2 71 J J J J J)<|Xd (i+1,_,ws ++ [(l.getD i 0,sl)]) ⟨O1,by rw [Hj,Dr,hz];dsimp only;rfl,by simp [hzl]⟩ O1 K2 K2
 ·refine go 6 ?_
  refine Ze (Xp 70 J J pI)<|Ze (Qj 70 71 72 J J J J)<|go 2 ?_
  refine cl 4 [72] (Ho _ _ (by rw [hz];exact Cw fun t ht=>by have:=hsz t;omega)) fun g hg=>go 4 ?_
  exact Xi hsc _ results69 J (by rw [hg,hz,show i=l.length by omega,Zdw]) (Oq 4 Za)
theorem Zr2(v:Value)(zs:List (Int×SL))(j:Int)(i:Nat)(hj:j=(i:Int):=by omega)(hi:i≤1000000:=by omega):Cal prog 135 #[v,.int .i64 j] [pp v zs] true (G:=Value) (fun r=>True) (fun r=> .agg #[.bool (decide (cf (Yl zs) i<0)),r]) (fun r=>[Ik r (cf (Yl zs) i).natAbs]):=by
 refine Zd func135 ntmps135 fun w0 sc hw hsc=>?_
 have hli:=Zm zs
 refine On (Ic (i:=1) J Zp) (fun hlen=>?_)
 refine Ze (Pe 60 1 3 Ka)<|Ze (Xp 60 J J pN)<|go 2 ?_
 refine Ya (Zr 2) fun b _=>go 8 ?_
 refine Yq (d:=7) J (fun s91=>?_) (fun s91=>?_)
 ·exfalso;omega
 ·refine go 7 ?_
  refine Zc J (fun h91=>?_) (fun h91=>?_)
  ·refine go 2 ?_
   refine dt (Xs (ivs:=[]) J trivial (fun a w hs=>Yax))<|go 5 ?_
   have hz0:cf (Yl zs) i=0:=Yd O
   exact Xi hsc (.slice none 0 0) results135 (by rw [hz0]<;>rfl) trivial (Lt (by rw [hz0];rfl) Za)
  ·refine go 6 ?_
   refine dt (Yp (ii:=1) (i:=i) J J J J Zp Zb3 sizeOf77 hj)<|dt (Od (ii:=1) I0 J J J Zp pI)<|go 4 ?_
   exact Xi hsc _ results135 (by rw [←Lz]<;>rfl) trivial (Yde 1 J J (Zi (i:=i)) (by rw [←Lz]<;>rfl) Za)
theorem Ev(v w:Value)(zs:List (Int×SL))(y:Int)(hs:Sz 1000000 (Yl zs))(hl:zs.length≤1000:=by omega)(hy:bl y.natAbs≤1000000:=by omega):Cal prog 93 #[v,.agg #[.bool (decide (y<0)),w]] [pp v zs,Ik w y.natAbs] true (G:=Value×List (Int×SL)) (fun r=>Yl r.2=Xj (Yl zs) y) (fun r=>r.1) (fun r=>[pp r.1 r.2]):=by
 refine Zd func93 ntmps93 fun w0 sc hw hsc=>?_
 have hli:=Zm zs
 refine go 2 ?_
 refine Ya (Ye 3) fun b _=>go 15 ?_
 refine Ze (Pe 70 2 77 Kn)<|Ze (Ys qI 71)<|lp (G:=Nat×Value×List (Int×SL)) [0,3] [0,1,2,3] (fun q=>[(6,.int .i64 (q.1:Int)),(5,q.2.1)]) (fun q=>[(70,Nf 2 77 Kn q.2.1 q.2.2),(71,Cx qI q.2.2)]) (fun q=>(q.1≤zs.length)∧(Yl q.2.2=mk q.1 (fun t=>cf (Yl zs) t*y))∧(q.2.2.length=q.1)) (fun q=>zs.length-q.1) (0,.slice none 0 0,[]) ⟨O1,rfl,rfl⟩ K2 K2 ?_
 rintro⟨i,vo,ws⟩ ⟨hi,hz,hzl⟩
 dsimp only at hi hz hzl
 dsimp only
 have hci:=Lz zs i
 refine go 9 ?_
 refine Zc J (fun h109=>?_) (fun h109=>?_)
 ·refine go 4 ?_
  refine Nm [1,3] [9]<|Zl (n:=3) [(0,0),(1,0),(2,0),(3,0),(4,0),(5,0),(6,1)]<|go 4 ⟨O2,?_⟩
  refine Pf J J (stf (Od (ii:=1) I0 J J J Zp pI O2) K2)<|go 1 ?_
  refine Fi J (Pt (n:=4) (Ke _ _ _ _ (by rw [hci];have:=hs i;omega)) J J J K2 call39 (Iu 1 J J (Zi) (Zk 2 J J J Zy)) J hw.h) fun v _=>go 1 ?_
  refine a_ex (Pr 4 J Zh) (fun sl hsl=>?_)
  subst hsl
  refine Zl (n:=0) [(7,1),(8,1),(9,3)]<|Fi J (Xy (i:=73) (ivs:=[(0,_)]) (enc:=Kn) [((zs.getD i I0).1*y,sl)] J J K2 Zb3 ti77 J J J J J pI.cells J J hw.h) (fun v_2 _=>?_)
  refine Fi J (Zws 70 J J J K2 (fun hoffr=>(Zrm (xs:=ws) (ys:=[_]) (i:=70) (j:=73) (by_:=32) J J J J J J O3 J (Xa pI) Zb3 ti77 J pI J J J O8 O3 J hw.h hoffr))) fun v_3 _=>go 2 ?_
  refine Zu<|go 7 ⟨O,?_⟩
  exact Yr (Zj (q:=qI) (z:=((zs.getD i I0).1*y,sl)) 71 4 71 J J J J J)<|Xd (i+1,_,ws ++ [((zs.getD i I0).1*y,sl)]) ⟨O1,by rw [Hj,Dr,hz];dsimp only;rw [Lz],by simp [hzl]⟩ O1 K2 K2
 ·refine go 6 ?_
  refine Ze (Xp 70 J J pI)<|Ze (Qj 70 71 72 J J J J)<|go 2 ?_
  refine cl 5 [72] (Ho _ _ (by rw [hz];exact Cw fun t ht=>by have:=Yw (cf (Yl zs) t) y;have:=hs t;omega)) fun g hg=>go 4 ?_
  exact Xi hsc _ results93 J (by rw [hg,hz,show i=(Yl zs).length by omega,Zp3]) (Oq 5 Za)
theorem rp_neg(v:Value)(zs:List (Int×SL))(hs:Sz 1000000 (Yl zs))(hl:zs.length≤1000):Cal prog 136 #[v] [pp v zs] true (G:=Value×List (Int×SL)) (fun r=>Yl r.2=Xj (Yl zs) (-1)) (fun r=>r.1) (fun r=>[pp r.1 r.2]):=by
 refine Zd func136 ntmps136 fun w0 sc hw hsc=>go 8 ?_
 refine cl 2 [] (Gg (-1)) fun v _=>cl 3 [1,2] (Ev _ _ _ _ hs hl O3) fun g hg=>go 4 ?_
 exact Xi hsc _ results136 J hg (Oq 3 Za)
theorem Zxp(v u:Value)(zs ys:List (Int×SL))(hs:Sz 1000000 (Yl zs))(hl:zs.length≤1000)(ht:Sz 1000000 (Yl ys))(hk:ys.length≤1000):Cal prog 88 #[v,u] [pp v zs,pp u ys] true (G:=Value×List (Int×SL)) (fun r=>Yl r.2=Cd (Yl zs) (Yl ys)) (fun r=>r.1) (fun r=>[pp r.1 r.2]):=by
 refine Zd func88 ntmps88 fun w0 sc hw hsc=>?_
 have hli:=Zm zs
 have hli2:=Zm ys
 refine On (Ic (i:=1) J Zp) (fun hlen=>?_)
 refine On (Ic (i:=2) J Zp) fun hlen2=>go 17 ?_
 refine Ze (Pe 70 2 77 Kn)<|Ze (Ys qI 71)<|lp (G:=Nat×Value×List (Int×SL)) [0,1] [0,1,2] (fun q=>[(6,.int .i64 (q.1:Int)),(5,q.2.1)]) (fun q=>[(70,Nf 2 77 Kn q.2.1 q.2.2),(71,Cx qI q.2.2)]) (fun q=>(q.1≤(max zs.length ys.length))∧(Yl q.2.2=mk q.1 (fun t=>cf (Yl zs) t+cf (Yl ys) t))∧(q.2.2.length=q.1)) (fun q=>(max zs.length ys.length)-q.1) (0,.slice none 0 0,[]) ⟨O1,rfl,rfl⟩ K2 K2 ?_
 rintro⟨i,vo,ws⟩ ⟨hi,hz,hzl⟩
 dsimp only at hi hz hzl
 dsimp only
 refine go 1 ?_
 refine jn (G:=Unit) [0,1,5,6] [0,70,71,1,2] (fun _=>[(16,.bool (decide (i<max zs.length ys.length)))]) (fun _=>[]) (fun _=>True) ?_ ?_
 ·refine go 6 ?_
  refine Yq (d:=11) J (fun s100=>?_) (fun s100=>?_)
  ·refine go 6 ?_
   exact Oo () trivial ⟨by first | exact congrArg some (vB (decide_eq_decide.2 O)) | exact congrArg some (vB (decide_eq_true O).symm),trivial⟩ trivial
  ·refine go 6 ?_
   exact Oo () trivial ⟨by first | exact congrArg some (vB (decide_eq_decide.2 O)) | exact congrArg some (vB (decide_eq_true O).symm),trivial⟩ trivial
 ·rintro _ -
  refine Zc J (fun h100=>?_) (fun h100=>?_)
  ·refine go 8 ?_
   refine cl 3 [1] (Zr2 _ _ _ i J) fun v _=>go 2 ?_
   refine cl 4 [2] (Zr2 _ _ _ i J) fun v_2 _=>cl 5 [3,4] (Zno _ _ _ _ (by have:=hs i;omega) (by have:=ht i;omega)) fun v_3 _=>?_
   refine Zzg (Pr 5 J Zh) (fun sl hsl=>?_)
   subst hsl
   refine tt (Xy (i:=6) (ivs:=[(0,_)]) (enc:=Kn) [(cf (Yl zs) i+cf (Yl ys) i,sl)] J J K2 Zb3 ti77 J J J J J pI.cells J J hw.h) (fun v_4 _=>?_)
   refine tt (Lu (i:=70) (j:=6) (by_:=32) J J J J J J O3 J (Xa pI) Zb3 ti77 J pI J J J O8 O3 J hw.h) fun v_5 _=>go 9 ⟨O,?_⟩
   exact Yr (Zj (q:=qI) (z:=(cf (Yl zs) i+cf (Yl ys) i,sl)) 71 5 71 J J J J J)<|Xd (i+1,_,ws ++ [(cf (Yl zs) i+cf (Yl ys) i,sl)]) ⟨O1,by rw [Hj,Dr,hz],by simp [hzl]⟩ O1 K2 K2
  ·refine go 6 ?_
   refine Ze (Xp 70 J J pI)<|Ze (Qj 70 71 72 J J J J)<|go 2 ?_
   refine cl 7 [72] (Ho _ _ (by rw [hz];exact Cw fun t h=>by have:=Ec (cf (Yl zs) t) (cf (Yl ys) t);have:=hs t;have:=ht t;omega)) fun g hg=>go 4 ?_
   exact Xi hsc _ results88 J (by rw [hg,hz,show i=max (Yl zs).length (Yl ys).length by omega,Ycl]) (Oq 7 Za)
theorem Zep(v u:Value)(zs ys:List (Int×SL))(hs:Sz 1000000 (Yl zs))(ht:Sz 1000000 (Yl ys))(hl:zs.length≤1000:=by omega)(hk:ys.length≤1000:=by omega):Cal prog 91 #[v,u] [pp v zs,pp u ys] true (G:=Value×List (Int×SL)) (fun r=>Yl r.2=Dg (Yl zs) (Yl ys)) (fun r=>r.1) (fun r=>[pp r.1 r.2]):=by
 refine Zd func91 ntmps91 fun w0 sc hw hsc=>go 9 ?_
 refine cl 3 [2] (rp_neg _ _ ht hk) fun g hg=>cl 4 [1,3] (Zxp _ _ _ _ hs hl (by rw [hg];intro t;rw [Xq];have h1:=ht t;rw [Int.mul_neg,Int.mul_one,Zig];exact h1) (by rw [←Zm,hg];have:=Nr (Yl ys) (-1);rw [Zm]at this;omega)) fun g_2 hg_2=>go 4 ?_
 exact Xi hsc _ results91 J (by rw [hg_2,hg,Ych]) (Oq 4 Za)
theorem Zuy(v:Value)(zs:List (Int×SL))(hs:Sz 1000000 (Yl zs))(hl:zs.length≤1000):Cal prog 87 #[v] [pp v zs] true (G:=Value×List (Int×SL)) (fun r=>Yl r.2=Yh (Yl zs)) (fun r=>r.1) (fun r=>[pp r.1 r.2]):=by
 refine Zd func87 ntmps87 fun w0 sc hw hsc=>?_
 have hli:=Zm zs
 refine go 17 ?_
 refine Ze (Pe 70 2 77 Kn)<|Ze (Ys qI 71)<|lp (G:=Nat×Value×List (Int×SL)) [0] [0,1] (fun q=>[(4,.int .i64 ((q.1:Int)+1)),(3,q.2.1)]) (fun q=>[(70,Nf 2 77 Kn q.2.1 q.2.2),(71,Cx qI q.2.2)]) (fun q=>(q.1≤(zs.length-1))∧(Yl q.2.2=mk q.1 (fun t=>cf (Yl zs) (t+1)*((t:Int)+1)))∧(q.2.2.length=q.1)) (fun q=>(zs.length-1)-q.1) (0,.slice none 0 0,[]) ⟨O1,rfl,rfl⟩ K2 K2 ?_
 rintro⟨i,vo,ws⟩ ⟨hi,hz,hzl⟩
 dsimp only at hi hz hzl
 dsimp only
 have hci:=Lz zs (i+1)
 refine go 9 ?_
 refine Zc J (fun h140=>?_) (fun h140=>?_)
 ·refine go 4 ?_
  refine Nm [1] [10]<|Zl (n:=3) [(0,0),(1,0),(2,0),(3,0),(4,0),(5,0),(6,1),(7,1)]<|go 3 ?_
  refine Pf J J (stf (Yp (ii:=1) (i:=(i+1)) J J J J Zp Zb3 sizeOf77) K1)<|Pf J J (stf (Od (ii:=1) I0 J J J Zp pI) K1)<|go 1 ?_
  refine Yu (Zg 2 [] (Gg ((i:Int)+1))) fun v _=>?_
  refine Fi J (Pt (n:=3) (Ke _ _ _ _ (by rw [hci];have:=hs (i+1);omega) (bl_i1 O)) J J J K2 call39 (Iu 1 J J (Zi (i:=i+1)) (Zk 2 J J J Zy)) J hw.h) fun v_2 _=>go 1 ?_
  refine a_ex (Pr 3 J Zh) (fun sl hsl=>?_)
  subst hsl
  refine Zl (n:=0) [(8,1),(9,1),(10,3)]<|Fi J (Xy (i:=73) (ivs:=[(0,_)]) (enc:=Kn) [((zs.getD (i+1) I0).1*((i:Int)+1),sl)] J J K2 Zb3 ti77 J J J J J pI.cells J J hw.h) (fun v_3 _=>?_)
  refine Fi J (Zws 70 J J J K1 (fun hoffr=>(Zrm (xs:=ws) (ys:=[_]) (i:=70) (j:=73) (by_:=32) J J J J J J O3 J (Xa pI) Zb3 ti77 J pI J J J O8 O3 J hw.h hoffr))) fun v_4 _=>go 2 ?_
  refine Zu<|go 7 ⟨O,?_⟩
  exact Yr (Zj (q:=qI) (z:=((zs.getD (i+1) I0).1*((i:Int)+1),sl)) 71 3 71 J J J J J)<|Xd (i+1,_,ws ++ [((zs.getD (i+1) I0).1*((i:Int)+1),sl)]) ⟨O1,by rw [Hj,Dr,hz];dsimp only;rw [Lz],by simp [hzl]⟩ O1 K2 K2
 ·refine go 6 ?_
  refine Ze (Xp 70 J J pI)<|Ze (Qj 70 71 72 J J J J)<|go 6 ?_
  exact Xi hsc (_,ws) results87 J (by rw [hz,show i=(Yl zs).length-1 by omega]<;>rfl) (Oq 72 Za)
theorem Zp2(v:Value)(zs:List (Int×SL))(hs:Sz 1000000 (Yl zs))(hl:zs.length≤1000):Cal prog 137 #[v] [pp v zs] true (G:=Value) (fun r=>True) (fun r=> .agg #[.bool (decide (Yk (Yl zs)<0)),r]) (fun r=>[Ik r (Yk (Yl zs)).natAbs]):=by
 refine Zd func137 ntmps137 fun w0 sc hw hsc=>?_
 have hli:=Zm zs
 have hcb:∀k,bl (Yk ((Yl zs).take k)).natAbs≤1000000:=fun k=>Zdp _ (hs.take k)
 refine go 2 ?_
 refine Ya (Zr 2) fun b _=>go 4 ?_
 refine dt (Xs (ivs:=[]) J trivial (fun a w hs=>Yax))<|Ya (Zr 97) fun b_2 _=>go 10 ?_
 refine Ze (Pe 98 1 3 Ka)<|Ze (Xp 98 J J pN)<|lp (G:=Nat×Value) [0,2,3] [0,1,2] (fun q=>[(4,.int .i64 (q.1:Int))]) (fun q=>[(97,box b_2 77 #[.bool (decide (Yk ((Yl zs).take q.1)<0)),q.2]),(98,Ik q.2 (Yk ((Yl zs).take q.1)).natAbs)]) (fun q=>q.1≤zs.length) (fun q=>zs.length-q.1) (0,.slice none 0 0) O1 K1 K2 ?_
 rintro⟨i,vs⟩ hi
 dsimp only at hi
 dsimp only
 have hci:=Lz zs i
 have hgc:=fun h=>Md (p:=Yl zs) (k:=i) h
 have h1:=hcb i
 have h2:=hs i
 refine go 9 ?_
 refine Zc J (fun h186=>?_) (fun h186=>?_)
 ·refine go 4 ?_
  refine Qb (fun _=>False) [(0,0),(1,0),(2,0),(3,0),(4,0),(5,1),(6,3)]<|go 4 ⟨O2,?_⟩
  refine Pf J J (Pn (Od (ii:=1) I0 J J J Zp pI O2))<|Fi J (Pt (n:=3) (r_gcd _ _ _ _ (by rw [hci];omega)) J J J K2 call42 (Zk 98 J J J (Iu 1 J J (Zi) Zy)) J hw.h) fun v _=>go 9 ⟨O,?_⟩
  exact Yr (Qp 3 98 J J J)<|Xd (i+1,v) O1 O1 K1 ⟨by rw [hgc O,show(Yl zs).getD i 0=(zs.getD i I0).1 from hci.symm];rfl,by rw [hgc O,show(Yl zs).getD i 0=(zs.getD i I0).1 from hci.symm];rfl,trivial⟩
 ·refine go 6 ?_
  obtain rfl:i=zs.length:=O
  rw [List.take_of_length_le (by omega:(Yl zs).length≤zs.length)]
  refine go 6 ?_
  exact Xi hsc _ results137 J trivial (Oq 98 Za)
theorem Ks(v:Value)(zs:List (Int×SL))(hs:Sz 1000000 (Yl zs))(hc:zs.length≠0→Yk (Yl zs)≠0)(hl:zs.length≤1000:=by omega):Cal prog 94 #[v] [pp v zs] true (G:=Value×List (Int×SL)) (fun r=>Yl r.2=Zz (Yl zs)) (fun r=>r.1) (fun r=>[pp r.1 r.2]):=by
 refine Zd func94 ntmps94 fun w0 sc hw hsc=>?_
 have hli:=Zm zs
 have hcb:bl (Yk (Yl zs)).natAbs≤1000000:=Zdp _ hs
 refine go 8 ?_
 refine cl 2 [1] (Zp2 _ _ hs hl) fun v _=>Ya (Zr 3) fun b _=>go 15 ?_
 refine Ze (Pe 70 2 77 Kn)<|Ze (Ys qI 71)<|lp (G:=Nat×Value×List (Int×SL)) [0,3] [0,1,2,3] (fun q=>[(5,.int .i64 (q.1:Int)),(4,q.2.1)]) (fun q=>[(70,Nf 2 77 Kn q.2.1 q.2.2),(71,Cx qI q.2.2)]) (fun q=>(q.1≤zs.length)∧(Yl q.2.2=mk q.1 (fun t=>cf (Yl zs) t/Yk (Yl zs)))∧(q.2.2.length=q.1)) (fun q=>zs.length-q.1) (0,.slice none 0 0,[]) ⟨O1,rfl,rfl⟩ K2 K2 ?_
 rintro⟨i,vo,ws⟩ ⟨hi,hz,hzl⟩
 dsimp only at hi hz hzl
 dsimp only
 have hci:=Lz zs i
 refine go 9 ?_
 refine Zc J (fun h196=>?_) (fun h196=>?_)
 ·refine go 4 ?_
  refine jn (G:=Value×Nat) [0,3,4,5] [0,70,71,1,2,3] (fun q=>[(6,.pointer (some ⟨q.2,0,none⟩))]) (fun q=>[(83,Ik q.1 ((zs.getD i I0).1/Yk (Yl zs)).natAbs),(97,box q.2 77 #[.bool (decide ((zs.getD i I0).1/Yk (Yl zs)<0)),q.1])]) (fun q=>True) ?_ ?_
  ·refine Nm [1,3] [12]<|Zl (n:=8) [(0,0),(1,0),(2,0),(3,0),(4,0)]<|go 3 ⟨O2,?_⟩
   refine Pf J J (stf (Od (ii:=1) I0 J J J Zp pI O2) K2)<|go 2 ?_
   refine Zj6 (n:=7) 5 9 10 ?_ ?_ ?_
   ·refine Gi J (Pt (n:=83) (Znn _ _ _ _ (by rw [hci];have:=hs i;omega) (hc O)) J J J K2 Zo8 (Iu 1 J J (Zi) (Zk 2 J J J Zy)) J hw.h) (fun g _=>?_)
    refine Zl (n:=4) [(6,0),(7,0),(8,0)]<|go 4 ?_
    refine Qt (n:=3) 9 10 ?_ ?_
    ·refine Mc (Nb 97) fun b_2 ho=>?_
     refine Zl (n:=0) [(10,1),(11,1),(12,3)]<|Yu (Nb 99) fun b_3 ho2=>go 3 ?_
     exact Zu<|Oo (_,_) trivial K1 K2
    ·refine Mc (Nb 99) fun b_4 ho3=>?_
     refine Zl (n:=0) [(9,1),(11,1),(12,3)]<|Yu (Nb 97) fun b_5 ho4=>go 3 ?_
     exact Zu<|Oo (_,_) trivial K1 K2
   ·refine Mc (Nb 97) fun b_6 ho5=>?_
    refine Qt (n:=6) 5 10 ?_ ?_
    ·refine Gi J (Pt (n:=83) (Znn _ _ _ _ (by rw [hci];have:=hs i;omega) (hc O)) J J J K2 Zo8 (Iu 1 J J (Zi) (Zk 2 J J J Zy)) J hw.h) (fun g_2 _=>?_)
     refine Zl (n:=0) [(6,0),(7,0),(8,0),(10,1),(11,1),(12,3)]<|go 3 ?_
     refine Yu (Nb 99) fun b_7 ho6=>go 3 ?_
     exact Zu<|Oo (_,_) trivial K1 K2
    ·refine Mc (Nb 99) fun b_8 ho7=>?_
     refine Zl (n:=0) [(5,1),(6,0),(7,0),(8,0),(11,1),(12,3)]<|Fi J (Pt (n:=83) (Znn _ _ _ _ (by rw [hci];have:=hs i;omega) (hc O)) J J J K2 Zo8 (Iu 1 J J (Zi) (Zk 2 J J J Zy)) J hw.h) fun g_3 _=>go 6 ?_
     exact Zu<|Oo (_,_) trivial K1 K2
   ·refine Mc (Nb 99) fun b_9 ho8=>?_
    refine Qt (n:=6) 5 9 ?_ ?_
    ·refine Gi J (Pt (n:=83) (Znn _ _ _ _ (by rw [hci];have:=hs i;omega) (hc O)) J J J K2 Zo8 (Iu 1 J J (Zi) (Zk 2 J J J Zy)) J hw.h) (fun g_4 _=>?_)
     refine Zl (n:=0) [(6,0),(7,0),(8,0),(9,1),(11,1),(12,3)]<|go 3 ?_
     refine Yu (Nb 97) fun b_10 ho9=>go 3 ?_
     exact Zu<|Oo (_,_) trivial K1 K2
    ·refine Mc (Nb 97) fun b_11 ho10=>?_
     refine Zl (n:=0) [(5,1),(6,0),(7,0),(8,0),(11,1),(12,3)]<|Fi J (Pt (n:=83) (Znn _ _ _ _ (by rw [hci];have:=hs i;omega) (hc O)) J J J K2 Zo8 (Iu 1 J J (Zi) (Zk 2 J J J Zy)) J hw.h) fun g_5 _=>go 6 ?_
     exact Zu<|Oo (_,_) trivial K1 K2
  ·rintro⟨qv,b6⟩ -
   dsimp only
   refine Ze2 (Pr 83 J Zh) (fun sl hsl=>?_)
   subst hsl
   refine go 3 ?_
   refine tt (Xy (i:=4) (ivs:=[(0,_)]) (enc:=Kn) [((zs.getD i I0).1/Yk (Yl zs),sl)] J J K2 Zb3 ti77 J J J J J pI.cells J J hw.h) (fun v_2 _=>?_)
   refine tt (Lu (i:=70) (j:=4) (by_:=32) J J J J J J O3 J (Xa pI) Zb3 ti77 J pI J J J O8 O3 J hw.h) fun v_3 _=>go 9 ⟨O,?_⟩
   exact Yr (Zj (q:=qI) (z:=((zs.getD i I0).1/Yk (Yl zs),sl)) 71 83 71 J J J J J)<|Xd (i+1,_,ws ++ [((zs.getD i I0).1/Yk (Yl zs),sl)]) ⟨O1,by rw [Hj,Dr,hz];dsimp only;rw [Lz],by simp [hzl]⟩ O1 K2 K2
 ·refine go 6 ?_
  refine Ze (Xp 70 J J pI)<|Ze (Qj 70 71 72 J J J J)<|go 6 ?_
  exact Xi hsc (_,ws) results94 J (by rw [hz,show i=(Yl zs).length by omega,Zla (Yl zs) (· / Yk (Yl zs))]<;>rfl) (Oq 72 Za)
theorem rp_mul(v u:Value)(zs ys:List (Int×SL))(hs:Sz 1000000 (Yl zs))(hl:zs.length≤60)(ht:Sz 1000000 (Yl ys))(hk:ys.length≤60):Cal prog 89 #[v,u] [pp v zs,pp u ys] true (G:=Value×List (Int×SL)) (fun r=>Yl r.2=Xl (Yl zs) (Yl ys)) (fun r=>r.1) (fun r=>[pp r.1 r.2]):=by
 refine Zd func89 ntmps89 fun w0 sc hw hsc=>?_
 have hli:=Zm zs
 have hli2:=Zm ys
 have htb:∀i k,bl (cf (Yl zs) k*cf (Yl ys) (i-k)).natAbs≤2000000:=fun i k=>by have:=Yw (cf (Yl zs) k) (cf (Yl ys) (i-k));have:=hs k;have:=ht (i-k);omega
 have hsb:∀i n,n≤1000→bl (Yi (fun k=>cf (Yl zs) k*cf (Yl ys) (i-k)) n).natAbs≤2000010:=fun i n hn=>Yef (fun t _=>htb i t) O
 refine go 17 ?_
 refine Ze (Pe 70 2 77 Kn)<|Ze (Ys qI 71)<|lp (G:=Nat×Value×List (Int×SL)) [0,1] [0,1,2] (fun q=>[(6,.int .i64 (q.1:Int)),(5,q.2.1)]) (fun q=>[(70,Nf 2 77 Kn q.2.1 q.2.2),(71,Cx qI q.2.2)]) (fun q=>(q.1≤(zs.length+ys.length-1))∧(Yl q.2.2=mk q.1 (fun t=>Yi (fun a9=>cf (Yl zs) a9*cf (Yl ys) (t-a9)) (t+1)))∧(q.2.2.length=q.1)) (fun q=>(zs.length+ys.length-1)-q.1) (0,.slice none 0 0,[]) ⟨O1,rfl,rfl⟩ K2 K2 ?_
 rintro⟨i,vo,ws⟩ ⟨hi,hz,hzl⟩
 dsimp only at hi hz hzl
 dsimp only
 refine go 13 ⟨O,O,?_⟩
 refine Zc J (fun h124=>?_) (fun h124=>?_)
 ·refine go 6 ?_
  refine dt (Xs (ivs:=[]) J trivial (fun a w hs=>Yax))<|Ya (Zr 97) fun b _=>go 10 ?_
  refine Ze (Pe 98 1 3 Ka)<|Ze (Xp 98 J J pN)<|lp (G:=Nat×Value) [0,1,5,6,7] [0,70,71,1,2] (fun q=>[(8,.int .i64 (q.1:Int))]) (fun q=>[(97,box b 77 #[.bool (decide (Yi (fun a9=>cf (Yl zs) a9*cf (Yl ys) (i-a9)) q.1<0)),q.2]),(98,Ik q.2 (Yi (fun a9=>cf (Yl zs) a9*cf (Yl ys) (i-a9)) q.1).natAbs)]) (fun q=>q.1≤i+1) (fun q=>i+1-q.1) (0,.slice none 0 0) O1 K1 K2 ?_
  rintro⟨k,vs⟩ hk1
  dsimp only at hk1
  dsimp only
  have h1:=hsb i k
  have h2:=htb i k
  have h3:=hs k
  have h4:=ht (i-k)
  refine go 8 ?_
  refine Zc J (fun h126=>?_) (fun h126=>?_)
  ·refine go 4 ?_
   refine Qb (fun _=>False) [(0,0),(1,0),(2,0),(4,0),(5,0),(6,0),(7,0),(3,1),(8,1),(9,1),(10,1),(11,3)]<|go 7 ⟨O,?_⟩
   refine Yu (Zg 3 [1] (Zr2 _ _ _ k J)) fun v _=>Yu (Zg 4 [2] (Zr2 _ _ _ (i-k))) fun v_2 _=>Yu (Zg 5 [3,4] (Ke _ _ _ _)) fun v_3 _=>Yu (Zg 6 [98,5] (Zno _ _ _ _)) fun v_4 _=>go 9 ⟨O,?_⟩
   exact Yr (Qp 6 98 J J J)<|Xd (k+1,v_4) O1 O1 K1 ⟨by rw [Yt];rfl,by rw [Yt];rfl,trivial⟩
  ·refine go 5 ?_
   obtain rfl:k=i+1:=O
   refine Ze2 (Pr 98 J Zh) (fun sl hsl=>?_)
   subst hsl
   refine go 3 ?_
   refine tt (Xy (i:=7) (ivs:=[(0,_)]) (enc:=Kn) [(Yi (fun a9=>cf (Yl zs) a9*cf (Yl ys) (i-a9)) (i+1),sl)] J J K2 Zb3 ti77 J J J J J pI.cells J J hw.h) (fun v_5 _=>?_)
   refine tt (Lu (i:=70) (j:=7) (by_:=32) J J J J J J O3 J (Xa pI) Zb3 ti77 J pI J J J O8 O3 J hw.h) fun v_6 _=>go 9 ⟨O,?_⟩
   exact Yr (Zj (q:=qI) (z:=(Yi (fun a9=>cf (Yl zs) a9*cf (Yl ys) (i-a9)) (i+1),sl)) 71 98 71 J J J J J)<|Xd (i+1,_,ws ++ [(Yi (fun a9=>cf (Yl zs) a9*cf (Yl ys) (i-a9)) (i+1),sl)]) ⟨O1,by rw [Hj,Dr,hz],by simp [hzl]⟩ O1 K2 K2
 ·refine go 12 ?_
  refine Yq (d:=43) J (fun s131=>?_) (fun s131=>?_)
  ·refine go 14 ?_
   refine Yr (Lf 62) ?_
   have hp0:Xl (Yl zs) (Yl ys)=[]:=Cu (by first | (left;omega) | (right;omega))
   exact Xi hsc (.slice none 0 0,[]) results89 J (by rw [hp0]<;>rfl) (Oq 62 Za)
  ·refine go 6 ?_
   refine Zc J (fun h131=>?_) (fun h131=>?_)
   ·refine go 7 ?_
    refine Yr (Lf 62) ?_
    have hp0:Xl (Yl zs) (Yl ys)=[]:=Cu (by first | (left;omega) | (right;omega))
    exact Xi hsc (.slice none 0 0,[]) results89 J (by rw [hp0]<;>rfl) (Oq 62 Za)
   ·refine go 3 ?_
    refine Ze (Xp 70 J J pI)<|Ze (Qj 70 71 72 J J J J)<|go 2 ?_
    refine cl 8 [72] (Ho _ _ (by rw [hz];exact Cw fun t h=>by have:=hsb t (t+1) O;omega)) fun g hg=>go 4 ?_
    exact Xi hsc _ results89 J (by rw [hg,hz,show i=(Yl zs).length+(Yl ys).length-1 by omega,Yci]) (Oq 8 Za)
theorem r_same(v u:Value)(r t:List (Bool×ByteArray)):Og prog 19 #[v,u] [Yj 2 Zqr v r,Yj 2 Zqr u t] (.bool (decide (r=t))):=by
 refine Zd func19 ntmps19 fun w0 sc hw hsc=>?_
 refine On (Ic (i:=1) J Zh) (fun hlr=>?_)
 refine On (Ic (i:=2) J Zh) fun hlt=>go 15 ?_
 refine Zc J (fun h78=>?_) (fun h78=>?_)
 ·refine go 7 ?_
  exact Xi hsc () results19 (by rw [decide_eq_false (fun e=>by subst e;exact h78 rfl)]) trivial Za
 ·have hle:r.length=t.length:=O
  refine go 9 ?_
  refine lp (G:=Nat) [0,1] [0,1,2] (fun k=>[(5,.int .i64 (k:Int))]) (fun k=>[]) (fun k=>(k≤r.length)∧(r.take k=t.take k)) (fun k=>r.length-k) 0 ⟨O1,O5⟩ K1 trivial ?_
  rintro k ⟨hk,ht⟩
  refine go 9 ?_
  refine Zc J (fun h81=>?_) (fun h81=>?_)
  ·refine go 5 ?_
   refine Qb (fun _=>False) [(0,0),(1,0),(2,0),(3,0),(4,0),(5,0),(6,0),(7,0),(8,0)]<|go 3 ⟨O2,?_⟩
   refine Pf J J (Pn (Od (ii:=1) (false,⟨#[]⟩) J J J Zh pW O2))<|go 3 ⟨O2,?_⟩
   refine Pf J J (Pn (Od (ii:=2) (false,⟨#[]⟩) J J J Zh pW O2))<|Pf J J (Pn (Zh9 J J J eg93 (fun w=>neq93 w _ _ _ _)))<|go 2 ?_
   refine Nn J (fun h82=>?_) (fun h82=>?_)
   ·refine go 11 ?_
    exact Xi hsc () results19 (by rw [decide_eq_false (fun e=>by rw [e]at h82;simp [Zzx]at h82)]) trivial Za
   ·refine go 8 ⟨O,?_⟩
    exact Xd (k+1) ⟨O1,by rw [Pm (false,⟨#[]⟩) _ _ O,Pm (false,⟨#[]⟩) _ _ O,ht,Zzy (x:=r.getD k (false,⟨#[]⟩)) (y:=t.getD k (false,⟨#[]⟩)) (by simpa using h82)]⟩ O1 K1 trivial
  ·refine go 11 ?_
   exact Xi hsc () results19 (by rw [decide_eq_true (by rw [show k=r.length by omega,List.take_length,hle,List.take_length]at ht;exact ht)]) trivial Za
theorem Cn(v u:Value)(xs ys:List Int):Og prog 19 #[v,u] [Yj 2 wv v xs,Yj 2 wv u ys] (.bool (decide (xs=ys))):=by
 have h:=((r_same v u (xs.map wr) (ys.map wr)).imp (Zpv v xs) (fun _ h=>h)).imp2 (Zpv u ys) (fun _ h=>h)
 rw [decide_eq_decide.2 (Zqe xs ys)]at h;exact h
theorem Zec(x y x2 y2:Int)(hx:bl x.natAbs≤65536)(hy:bl y.natAbs≤65536)(hx2:bl x2.natAbs≤65536)(hy2:bl y2.natAbs≤65536)(hp:0<y)(hp2:0<y2):Og prog 240 #[rX x y,rX x2 y2] [] (.bool true):=by
 refine Zd func240 ntmps240 fun w0 sc hw hsc=>go 2 ?_
 refine Ya (Ye 1) fun b _=>Ya (Ye 2) fun b_2 _=>go 6 ?_
 refine cl 2 [] (Nq _ _ ‹_› ‹_› ‹_›) fun _ _=>go 2 ?_
 refine Hc 2 [] (Nq _ _ ‹_› ‹_› ‹_›) fun _ _=>go 5 ?_
 exact Xi hsc () results240 J trivial Za
theorem Zc2(x y x2 y2:Int)(hx:bl x.natAbs≤65536)(hy:bl y.natAbs≤65536)(hx2:bl x2.natAbs≤65536)(hy2:bl y2.natAbs≤65536):Cal prog 241 #[rX x y,rX x2 y2] [] true (G:=Bool×Value×Bool×Value×Bool×Value) (fun r=>sg r.1 (x*y2)∧sg r.2.2.1 (x2*y)∧sg r.2.2.2.2.1 (y*y2)) (fun r=> .tuple #[.agg #[.bool r.1,r.2.1],.agg #[.bool r.2.2.1,r.2.2.2.1],.agg #[.bool r.2.2.2.2.1,r.2.2.2.2.2]]) (fun r=>[Gf r.2.1 (x*y2).natAbs,Gf r.2.2.2.1 (x2*y).natAbs,Gf r.2.2.2.2.2 (y*y2).natAbs]):=by
 refine Zd func241 ntmps241 fun w0 sc hw hsc=>?_
 have b1:=Yw x y2
 have b2:=Yw x2 y
 have b3:=Yw y y2
 have b4:=Yw x x2
 refine go 2 ?_
 refine Ya (Ye 1) fun b _=>Ya (Ye 2) fun b_2 _=>Ya (Zr 3) fun b_3 _=>Ya (Zr 4) fun b_4 _=>Ya (Zr 5) fun b_5 _=>go 3 ?_
 refine Nm [1,2] [23]<|Zl (n:=0) [(0,0),(1,0),(3,0),(4,0),(7,0),(8,0),(10,0),(11,0),(14,0),(15,0),(17,0),(18,0),(2,1),(5,1),(6,1),(9,1),(12,1),(13,1),(16,1),(19,1),(20,1),(21,1),(22,1),(23,3)]<|go 12 ?_
 refine Yu (Zg 6 [] (Xv _ _ (Yx _))) fun g hg=>Yu (Zg 7 [] (Xv _ _ (Yx _))) fun g_2 hg_2=>Yu (Zg 8 [6,7] (Zbp _ _ _ _ _ _ ‹_› ‹_›)) fun g_3 hg_3=>Yu (Zg 9 [] (Xv _ _ (Yx _))) fun g_4 hg_4=>Yu (Zg 10 [] (Xv _ _ (Yx _))) fun g_5 hg_5=>Yu (Zg 11 [9,10] (Zbp _ _ _ _ _ _ ‹_› ‹_›)) fun g_6 hg_6=>Yu (Zg 12 [] (Xv _ _ (Yx _))) fun g_7 hg_7=>Yu (Zg 13 [] (Xv _ _ (Yx _))) fun g_8 hg_8=>Yu (Zg 14 [12,13] (Zbp _ _ _ _ _ _ ‹_› ‹_›)) fun g_9 hg_9=>go 4 ?_
 refine Zu<|go 2 ?_
 exact xe3 hsc (_,_,_,_,_,_) results241 J ⟨by assumption,by assumption,by assumption⟩ (Oq 8 (Oq 11 (Oq 14 Za)))
theorem Zc3(x y x2 y2:Int)(hx:bl x.natAbs≤65536)(hy:bl y.natAbs≤65536)(hx2:bl x2.natAbs≤65536)(hy2:bl y2.natAbs≤65536)(hp:0<y)(hp2:0<y2):Og prog 223 #[rX x y,rX x2 y2] [] (.tuple #[.int .i64 (x*y2-x2*y).sign,.int .i64 0]):=by
 refine Zd func223 ntmps223 fun w0 sc hw hsc=>?_
 have b1:=Yw x y2
 have b2:=Yw x2 y
 have b3:=Yw y y2
 have b4:=Yw x x2
 have b5:=Zig (x2*y)
 have b6:=Ec (x*y2) (-(x2*y))
 refine go 2 ?_
 refine Ya (Ye 1) fun b _=>Ya (Ye 2) fun b_2 _=>go 9 ?_
 refine cl 2 [] (Zec _ _ _ _ ‹_› ‹_› ‹_› ‹_› ‹_› ‹_›) fun _ _=>go 10 ?_
 refine cl 3 [] (Zc2 _ _ _ _ ‹_› ‹_› ‹_› ‹_›) fun g hg=>?_
 obtain⟨hc1,hc2,hc3⟩:=hg
 refine go 4 ?_
 refine Ya (Zr 6) fun b_3 _=>Ya (Zr 7) fun b_4 _=>Ya (Zr 8) fun b_5 _=>go 6 ?_
 refine Qb (fun _=>False) [(0,0),(1,0),(2,1),(3,1),(4,1),(5,3),(6,3)]<|go 2 ?_
 refine Yu (Zg 9 [4] (Zk6 _ _ _ ‹_›)) fun g_2 hg_2=>Yu (Zg 10 [3,9] (Zds _ _ _ _ _ _ ‹_› ‹_›)) fun g_3 hg_3=>Yu (Zg 10 [10] (Zhg _ _ _ ‹_›)) fun _ _=>go 5 ?_
 exact Mb hsc () results223 (by rw [Int.sub_eq_add_neg]<;>rfl) trivial Za
theorem Zim(x y x2 y2:Int)(hx:bl x.natAbs≤65536)(hy:bl y.natAbs≤65536)(hx2:bl x2.natAbs≤65536)(hy2:bl y2.natAbs≤65536)(hp:0<y)(hp2:0<y2):Og prog 231 #[rX x y,rX x2 y2] [] (Bt (x*y2+x2*y) (y*y2)):=by
 refine Zd func231 ntmps231 fun w0 sc hw hsc=>?_
 have b1:=Yw x y2
 have b2:=Yw x2 y
 have b3:=Yw y y2
 have b4:=Yw x x2
 have b6:=Ec (x*y2) (x2*y)
 refine go 2 ?_
 refine Ya (Ye 1) fun b _=>Ya (Ye 2) fun b_2 _=>Ya (Zr 3) fun b_3 _=>go 8 ?_
 refine cl 3 [] (Zec _ _ _ _ ‹_› ‹_› ‹_› ‹_› ‹_› ‹_›) fun _ _=>go 10 ?_
 refine cl 4 [] (Zc2 _ _ _ _ ‹_› ‹_› ‹_› ‹_›) fun g hg=>?_
 obtain⟨hc1,hc2,hc3⟩:=hg
 refine go 4 ?_
 refine Ya (Zr 7) fun b_4 _=>Ya (Zr 8) fun b_5 _=>Ya (Zr 9) fun b_6 _=>go 6 ?_
 refine Qb (fun _=>False) [(0,0),(1,0),(3,0),(2,1),(4,1),(5,0),(6,0),(7,3),(8,3)]<|go 3 ?_
 refine Yu (Zg 10 [4,5] (Zds _ _ _ _ _ _ ‹_› ‹_›)) fun g_2 hg_2=>Yu (Zg 10 [10,6] (Ay _ _ _ _ _ _ ‹_› ‹_› (Int.mul_ne_zero O O))) fun _ _=>go 7 ?_
 exact Mb hsc () results231 J trivial Za
theorem Gs(x y x2 y2:Int)(hx:bl x.natAbs≤65536)(hy:bl y.natAbs≤65536)(hx2:bl x2.natAbs≤65536)(hy2:bl y2.natAbs≤65536)(hp:0<y)(hp2:0<y2:=by decide):Og prog 232 #[rX x y,rX x2 y2] [] (Bt (x*x2) (y*y2)):=by
 refine Zd func232 ntmps232 fun w0 sc hw hsc=>?_
 have b1:=Yw x y2
 have b2:=Yw x2 y
 have b3:=Yw y y2
 have b4:=Yw x x2
 refine go 2 ?_
 refine Ya (Ye 1) fun b _=>Ya (Ye 2) fun b_2 _=>Ya (Zr 3) fun b_3 _=>go 8 ?_
 refine cl 3 [] (Zec _ _ _ _ ‹_› ‹_› ‹_› ‹_› ‹_› ‹_›) fun _ _=>go 7 ?_
 refine Qb (fun _=>False) [(0,0),(1,0),(3,0),(4,0),(7,0),(8,0),(10,0),(11,0),(2,1),(5,1),(6,1),(9,1),(12,1),(13,1),(14,1),(15,0),(16,0),(17,3),(18,3)]<|go 8 ?_
 refine Yu (Zg 4 [] (Xv _ _ (Yx _))) fun g hg=>Yu (Zg 5 [] (Xv _ _ (Yx _))) fun g_2 hg_2=>Yu (Zg 6 [4,5] (Zbp _ _ _ _ _ _ ‹_› ‹_›)) fun g_3 hg_3=>Yu (Zg 7 [] (Xv _ _ (Yx _))) fun g_4 hg_4=>Yu (Zg 8 [] (Xv _ _ (Yx _))) fun g_5 hg_5=>Yu (Zg 9 [7,8] (Zbp _ _ _ _ _ _ ‹_› ‹_›)) fun g_6 hg_6=>Yu (Zg 9 [6,9] (Ay _ _ _ _ _ _ ‹_› ‹_› (Int.mul_ne_zero O O))) fun _ _=>go 7 ?_
 exact Mb hsc () results232 J trivial Za
theorem Zj9(x y:Int)(hx:bl x.natAbs≤65536)(hy:bl y.natAbs≤65536):Og prog 117 #[wv x,wv y] [] (.int .i64 (x-y).sign):=by
 refine Zd func117 ntmps117 fun w0 sc hw hsc=>?_
 have b5:=Zig y
 have b6:=Ec x (-y)
 refine go 2 ?_
 refine Ya (Ye 1) fun b _=>Ya (Ye 2) fun b_2 _=>go 8 ?_
 refine cl 2 [] (Le _ _ ‹_› ‹_›) fun _ _=>go 7 ?_
 refine Qb (fun _=>False) [(0,0),(2,0),(1,1),(3,1),(4,1),(5,1),(6,1),(7,3)]<|go 2 ?_
 refine Yu (Zg 3 [] (Xv _ _ (Yx _))) fun g hg=>Yu (Zg 4 [] (Xv _ _ (Yx _))) fun g_2 hg_2=>Yu (Zg 5 [4] (Zk6 _ _ _ ‹_›)) fun g_3 hg_3=>Yu (Zg 6 [3,5] (Zds _ _ _ _ _ _ ‹_› ‹_›)) fun g_4 hg_4=>Yu (Zg 6 [6] (Zhg _ _ _ ‹_›)) fun _ _=>go 4 ?_
 exact Xi hsc () results117 (by rw [Int.sub_eq_add_neg]<;>rfl) trivial Za
theorem Ig{x:Int}(h:Xo x):bl x.natAbs≤64:=(Xt 64 _).2 (by obtain⟨h1,h2⟩:=h;omega)
theorem in_bl{x:Int}(h:bl x.natAbs≤63):Xo x:=by
 have:=(Xt 63 x.natAbs).1 h
 exact⟨O,O⟩
theorem bl_pw{n:Int}{i:Nat}(h:bl n.natAbs≤100)(hi:i≤10):bl (n^i).natAbs≤1000:=by
 rcases Nat.eq_zero_or_pos i with h0 | h0
 ·subst h0;rw [Int.pow_zero];decide
 ·exact Nat.le_trans (Il n h i h0) (by have:=Nat.mul_le_mul_right 100 hi;omega)
def Xu:List Int→Int
 | []=>1
 | x :: r=>x*Xu r
theorem Zjj:∀a b:List Int,Xu (a ++ b)=Xu a*Xu b
 | [],b=>by simp [Xu]
 | x :: a,b=>by simp [Xu,Zjj a b,Int.mul_assoc]
theorem Bw{l:List Int}{i:Nat}(h:i<l.length):Xu (l.take (i+1))=Xu (l.take i)*l.getD i 0:=by
 rw [Pm 0 _ _ h,Zjj];simp [Xu]
theorem Zj4:∀{l:List Int},(∀x∈l,Xo x)→bl (Xu l).natAbs≤64*l.length+1
 | [],_=>O3
 | x :: l,h=>by
  have h1:=Ig (h x (List.mem_cons_self ..))
  have h2:=Zj4 (l:=l) fun y hy=>h y (List.mem_cons_of_mem _ hy)
  have:=Yw x (Xu l)
  simp only [Xu,List.length_cons];omega
theorem Yar{l:List Int}(h:∀x∈l,Xo x)(hl:l.length≤10)(i:Nat):bl (Xu (l.take i)).natAbs≤1000:=by
 have h1:=Zj4 (l:=l.take i) fun x hx=>h x (List.mem_of_mem_take hx)
 have h2:(l.take i).length≤l.length:=by rw [List.length_take];omega
 omega
theorem Zw7(x y:Int)(hx:bl x.natAbs≤30000)(hy:bl y.natAbs≤30000):Cal Tryz.prog 116 #[wv x,wv y] [] false (G:=Unit) (fun _=>True) (fun _=>wv (x+y)) (fun _=>[]):=by
 refine Zd Tryz.func116 Tryz.ntmps116 fun w0 sc hw hsc=>?_
 have hb:=Ec x y
 refine go 2 ?_
 refine Ya (Ye 1) fun bx _=>?_
 refine Ya (Ye 2) fun bx_2 _=>?_
 refine Ya (Zr 3) fun bx_3 _=>?_
 refine go 6 ?_
 refine cl 3 [] (Fb _ _ O O) fun _ _=>?_
 refine go 3 ?_
 refine Ya (Zr 4) fun bx_4 _=>?_
 refine go 11 ?_
 exact Xi hsc () Tryz.results116 (by rw [Ny O]) trivial Za
theorem Zen(x y:Int)(hx:bl x.natAbs≤30000)(hy:bl y.natAbs≤30000):Cal Tryz.prog 115 #[wv x,wv y] [] false (G:=Unit) (fun _=>True) (fun _=>wv (x*y)) (fun _=>[]):=by
 refine Zd Tryz.func115 Tryz.ntmps115 fun w0 sc hw hsc=>?_
 have hb:=Yw x y
 refine go 2 ?_
 refine Ya (Ye 1) fun bx _=>?_
 refine Ya (Ye 2) fun bx_2 _=>?_
 refine Ya (Zr 3) fun bx_3 _=>?_
 refine go 6 ?_
 refine cl 3 [] (Zc1 _ _ O O) fun _ _=>?_
 refine go 3 ?_
 refine Ya (Zr 4) fun bx_4 _=>?_
 refine go 11 ?_
 exact Xi hsc () Tryz.results115 (by rw [Ny O]) trivial Za
theorem Zpt(x y:Int)(hx:bl x.natAbs≤30000)(hy:bl y.natAbs≤30000):Cal Tryz.prog 74 #[wv x,wv y] [] false (G:=Unit) (fun _=>True) (fun _=>wv ((Int.gcd x y:Int))) (fun _=>[]):=by
 refine Zd Tryz.func74 Tryz.ntmps74 fun w0 sc hw hsc=>?_
 have hb:=Zmd x y
 refine go 2 ?_
 refine Ya (Ye 1) fun bx _=>?_
 refine Ya (Ye 2) fun bx_2 _=>?_
 refine Ya (Zr 3) fun bx_3 _=>?_
 refine go 6 ?_
 refine cl 3 [] (Zmr _ _ O O) fun _ _=>?_
 refine go 3 ?_
 refine Ya (Zr 4) fun bx_4 _=>?_
 refine go 11 ?_
 exact Xi hsc () Tryz.results74 (by rw [Ny O]) trivial Za
theorem Zkh(x y:Int)(hx:bl x.natAbs≤30000)(hy:bl y.natAbs≤30000)(hy0:y≠0):Cal Tryz.prog 173 #[wv x,wv y] [] false (G:=Unit) (fun _=>True) (fun _=>wv (x/y)) (fun _=>[]):=by
 refine Zd Tryz.func173 Tryz.ntmps173 fun w0 sc hw hsc=>?_
 have hb:=Zgl x y
 refine go 2 ?_
 refine Ya (Ye 1) fun bx _=>?_
 refine Ya (Ye 2) fun bx_2 _=>?_
 refine Ya (Zr 3) fun bx_3 _=>?_
 refine go 6 ?_
 refine cl 3 [] (El _ _ O O hy0) fun _ _=>?_
 refine go 4 ?_
 refine Ya (Zr 4) fun bx_4 _=>?_
 refine Ya (Zr 5) fun bx_5 _=>?_
 refine go 12 ?_
 exact Xi hsc () Tryz.results173 (by rw [Ny O]) trivial Za
theorem Zw5(n:Int)(k:Nat)(hn:bl n.natAbs≤60)(hk:k≤10):Cal Tryz.prog 150 #[.int .i64 n,.int .i64 (k:Int)] [] false (G:=Unit) (fun _=>True) (fun _=>wv (n^k)) (fun _=>[]):=by
 refine Zd Tryz.func150 Tryz.ntmps150 fun w0 sc hw hsc=>?_
 have hb:∀i,i≤10→bl (n^i).natAbs≤1000:=fun i hi=>bl_pw (Nat.le_trans hn O3) hi
 refine go 2 ?_
 refine Ya (Zr 1) fun bx _=>?_
 refine go 4 ?_
 refine cl 1 [] (Zx 1 ⟨O3,O3⟩) fun _ _=>?_
 refine Ya (Zr 2) fun bx_2 _=>?_
 refine go 11 ?_
 refine lp (G:=Nat) [0,4,5,7] [0,1] (fun i=>[(8,.int .i64 (i:Int))]) (fun i=>[(2,box bx_2 93 (wc (n^i)))]) (fun i=>i≤k) (fun i=>k-i) 0 O1 ⟨rfl,trivial⟩ ⟨by rw [Int.pow_zero];rfl,trivial⟩ ?_
 rintro i hi
 refine go 6 ?_
 refine Zc rfl (fun h43=>?_) (fun h43=>?_)
 ·refine go 4 ?_
  refine Qb (fun _=>False) [(0,0),(1,0),(2,1),(3,1),(4,3)] ?_
  refine go 2 ?_
  refine Yu (Zg 2 [] (Zx _ (in_bl O))) fun _ _=>?_
  refine Yu (Zg 2 [] (Zen (n^i) n (Nat.le_trans (hb i O) O) O)) fun _ _=>?_
  refine go 8 ⟨O,?_⟩
  exact Xd (i+1) O1 O1 ⟨rfl,trivial⟩ ⟨by rw [Int.pow_succ];rfl,trivial⟩
 ·obtain rfl:i=k:=O
  refine go 12 ?_
  exact Xi hsc () Tryz.results150 rfl trivial Za
theorem Pk(v:Value)(l:List Int)(hl:∀x∈l,Xo x)(hlen:l.length≤10):Cal Tryz.prog 121 #[v] [Yj 1 Ym v l] false (G:=Unit) (fun _=>True) (fun _=>wv (Xu l)) (fun _=>[]):=by
 refine Zd Tryz.func121 Tryz.ntmps121 fun w0 sc hw hsc=>?_
 have hb:∀i,bl (Xu (l.take i)).natAbs≤1000:=fun i=>Yar hl hlen i
 refine go 2 ?_
 refine Ya (Zr 2) fun bx _=>?_
 refine go 4 ?_
 refine cl 2 [] (Zx 1 ⟨O3,O3⟩) fun _ _=>?_
 refine Ya (Zr 3) fun bx_2 _=>?_
 refine go 12 ?_
 refine lp (G:=Nat) [2,3,7,8] [0,1,2] (fun i=>[(9,.int .i64 (i:Int))]) (fun i=>[(3,box bx_2 93 (wc (Xu (l.take i))))]) (fun i=>i≤l.length) (fun i=>l.length-i) 0 O1 ⟨rfl,trivial⟩ ⟨rfl,trivial⟩ ?_
 rintro i hi
 refine go 6 ?_
 refine Zc rfl (fun h29=>?_) (fun h29=>?_)
 ·refine go 11 ⟨O2,O2,?_⟩
  refine Nm [] [] ?_
  refine Zl (n:=7) [(1,0)] ?_
  refine go 2 ?_
  refine Qt (n:=6) 0 2 ?_ ?_
  ·refine Gi rfl (An (Zoz (i:=3) rfl rfl rfl Tryz.isAgg93 Tryz.sizeOf93 rfl rfl) rfl) (fun _ _=>?_)
   refine Zl (n:=0) [(2,1),(3,1),(4,0),(5,0),(6,0),(7,1)] ?_
   refine Yu (Zg 3 [] (Zx (l.getD i 0) (hl _ (Zi)))) fun _ _=>?_
   refine Yu (Zg 3 [] (Zc1 (Xu (l.take i)) (l.getD i 0) (Nat.le_trans (hb i) O) (Nat.le_trans (Ig (hl _ (Zi))) O))) fun _ _=>?_
   refine go 3 ?_
   refine Fi rfl (Zfe (i:=3) rfl rfl rfl rfl rfl rfl Tryz.sizeOf93 rfl rfl ⟨Zo rfl,Zo rfl,trivial⟩ rfl hw.h (fun _ h=>nomatch h)) (fun _ _=>?_)
   refine go 1 ?_
   refine Zu ?_
   refine go 6 ⟨O,?_⟩
   exact Xd (i+1) O1 O1 ⟨rfl,trivial⟩ ⟨by rw [Bw O,Ny (by rw [←Bw O];exact Nat.le_trans (hb _) O)];rfl,trivial⟩
  ·refine Mc (Zg 3 [] (Zx (l.getD i 0) (hl _ (Zi)))) fun _ _=>?_
   refine Zl (n:=0) [(0,1),(3,1),(4,0),(5,0),(6,0),(7,1)] ?_
   refine go 1 ?_
   refine Yu (Zg 3 [] (Zc1 (Xu (l.take i)) (l.getD i 0) (Nat.le_trans (hb i) O) (Nat.le_trans (Ig (hl _ (Zi))) O))) fun _ _=>?_
   refine go 3 ?_
   refine Fi rfl (Zfe (i:=3) rfl rfl rfl rfl rfl rfl Tryz.sizeOf93 rfl rfl ⟨Zo rfl,Zo rfl,trivial⟩ rfl hw.h (fun _ h=>nomatch h)) (fun _ _=>?_)
   refine go 1 ?_
   refine Zu ?_
   refine go 6 ⟨O,?_⟩
   exact Xd (i+1) O1 O1 ⟨rfl,trivial⟩ ⟨by rw [Bw O,Ny (by rw [←Bw O];exact Nat.le_trans (hb _) O)];rfl,trivial⟩
 ·obtain rfl:i=l.length:=O
  refine go 12 ?_
  exact Xi hsc () Tryz.results121 (by rw [List.take_length]) trivial Za
theorem Zc0(x y:Int)(hx:Xo x)(hy:Xo y)(hy0:y≠0):Cal Tryz.prog 174 #[.int .i64 x,.int .i64 y] [] false (G:=Unit) (fun _=>True) (fun _=>Bt x y) (fun _=>[]):=by
 refine Zd Tryz.func174 Tryz.ntmps174 fun w0 sc hw hsc=>?_
 have hbx:=Ig hx
 have hby:=Ig hy
 refine go 2 ?_
 refine Ya (Zr 1) fun bx _=>?_
 refine go 6 ?_
 refine cl 1 [] (Zx _ hx) fun _ _=>?_
 refine go 1 ?_
 refine cl 1 [] (Zx _ hy) fun _ _=>?_
 refine cl 1 [] (Ek _ _ O O hy0) fun _ _=>?_
 refine go 7 ?_
 exact Mb hsc () Tryz.results174 rfl trivial Za
theorem zc6_eq:(Value.agg (List.replicate 36 (Value.int .i64 0)).toArray).cells=De (List.replicate 36 0):=rfl
theorem Zmn:(Value.agg (List.replicate 36 (Value.int .i64 0)).toArray).cells.size=36:=rfl
theorem Zpu:Cal Tryz.prog 114 #[] [] false (G:=List Int) (fun r=>Tb r 6 0) (fun r=> .agg (De r)) (fun r=>[]):=by
 refine Zd Tryz.func114 Tryz.ntmps114 fun w0 sc hw hsc=>?_
 refine go 2 ?_
 refine tt (Gt (i:=1) rfl rfl Tryz.zeroValue174 rfl rfl hw.h) (fun bx _=>?_)
 refine go 4 ?_
 refine tt (Gt (i:=2) rfl rfl Tryz.zeroValue174 rfl rfl hw.h) (fun bx_2 _=>?_)
 refine go 9 ?_
 refine Ze (He 2 (q:=box bx_2 174 (De (List.replicate 36 0))) (congrArg (box bx_2 174) zc6_eq) rfl rfl) ?_
 refine lp (G:=Nat×List Int) [0,1] [0,1] (fun q=>[(4,.int .i64 (q.1:Int))]) (fun q=>[(2,box bx_2 174 (De q.2))]) (fun q=>(q.1≤6)∧(Tb q.2 q.1 0)) (fun q=>6-q.1) (0,List.replicate 36 0) ⟨O1,Tb.start⟩ ⟨rfl,trivial⟩ ⟨rfl,trivial⟩ ?_
 rintro⟨n,l⟩ ⟨hn,hT⟩
 dsimp only at hn hT
 dsimp only
 have hl:=hT.len
 refine go 6 ?_
 refine Zc rfl (fun h52=>?_) (fun h52=>?_)
 ·refine go 13 ?_
  refine dt (Ie (i:=n) rfl rfl rfl Tryz.underlying174 Tryz.sizeOf173) ?_
  refine dt (Ie (i:=0) rfl rfl rfl Tryz.underlying173 Tryz.sizeOf3 rfl) ?_
  refine tt (Zpp (i:=2) rfl rfl rfl rfl rfl Tryz.sizeOf3 rfl hw.h trivial) (fun _ _=>?_)
  refine go 8 ?_
  refine lp (G:=Nat×List Int) [0,1,2,4] [0,1] (fun q=>[(3,.int .i64 (q.1:Int))]) (fun q=>[(2,box bx_2 174 (De q.2))]) (fun q=>(1≤q.1)∧(q.1≤n+1)∧(Tb q.2 n q.1)) (fun q=>n+1-q.1) (1,l.set (0+n*6+0*1) 1) ⟨O1,O1,hT.step O O (by cases n<;>rfl) O⟩ ⟨rfl,trivial⟩ ⟨rfl,trivial⟩ ?_
  rintro⟨k,l2⟩ ⟨hk1,hk2,hT2⟩
  dsimp only at hk1 hk2 hT2
  dsimp only
  have hl2:=hT2.len
  refine go 8 ?_
  refine Zc rfl (fun h54=>?_) (fun h54=>?_)
  ·refine go 4 ?_
   have hv1:=hT2.get (j:=0+(n-1)*6+(k-1)*1) (r:=n-1) (c:=k-1) O O (.inl O) O
   have hv2:=hT2.get (j:=0+(n-1)*6+k*1) (r:=n-1) (c:=k) O O (.inl O) O
   have hb1:=Zl6 (n:=n-1) (k:=k-1) 
   have hb2:=Zl6 (n:=n-1) (k:=k) 
   refine Nm [] [] ?_
   refine Zl (n:=5) [(0,0),(1,0),(2,0),(3,0),(4,0),(5,0),(6,0),(7,0),(9,0),(10,0),(11,0),(12,0),(13,0),(16,0)] ?_
   refine go 6 ⟨O,O,?_⟩
   refine Pf rfl rfl (stf (Ie (i:=(n-1)) rfl rfl rfl Tryz.underlying174 Tryz.sizeOf173) trivial) ?_
   refine Pf rfl rfl (stf (Ie (i:=(k-1)) rfl rfl rfl Tryz.underlying173 Tryz.sizeOf3) trivial) ?_
   refine go 3 ⟨O,?_⟩
   refine Pf rfl rfl (stf (Ie (i:=(n-1)) rfl rfl rfl Tryz.underlying174 Tryz.sizeOf173) trivial) ?_
   refine Pf rfl rfl (stf (Ie (i:=k) rfl rfl rfl Tryz.underlying173 Tryz.sizeOf3) trivial) ?_
   refine Pf rfl rfl (stf (Ie (i:=n) rfl rfl rfl Tryz.underlying174 Tryz.sizeOf173) trivial) ?_
   refine go 1 ?_
   refine Qt (n:=4) 8 14 ?_ ?_
   ·refine Gi rfl (An (Zv5 (i:=2) rfl rfl rfl Tryz.isAgg3) rfl) (fun _ _=>?_)
    refine Zl (n:=0) [(14,1),(15,0),(17,0),(18,1)] ?_
    refine Fi rfl (An (Zv5 (i:=2) rfl rfl rfl Tryz.isAgg3) rfl) (fun _ _=>?_)
    refine go 1 ⟨by rw [hv1,hv2];exact⟨O,O⟩,?_⟩
    refine Pf rfl rfl (stf (Ie (i:=k) rfl rfl rfl Tryz.underlying173 Tryz.sizeOf3) trivial) ?_
    refine Fi rfl (Zpp (i:=2) rfl rfl rfl rfl rfl Tryz.sizeOf3 rfl hw.h (fun _ h=>nomatch h)) (fun _ _=>?_)
    refine go 1 ?_
    refine Zu ?_
    refine go 7 ⟨O,?_⟩
    exact Xd (k+1,_) ⟨O1,O1,hT2.step O O (by rw [hv1,hv2,Zty (n:=n) (k:=k)];push_cast;rfl) O⟩ O1 ⟨rfl,trivial⟩ ⟨rfl,trivial⟩
   ·refine Gi rfl (An (Zv5 (i:=2) rfl rfl rfl Tryz.isAgg3) rfl) (fun _ _=>?_)
    refine Zl (n:=0) [(8,1),(15,0),(17,0),(18,1)] ?_
    refine Fi rfl (An (Zv5 (i:=2) rfl rfl rfl Tryz.isAgg3) rfl) (fun _ _=>?_)
    refine go 1 ⟨by rw [hv1,hv2];exact⟨O,O⟩,?_⟩
    refine Pf rfl rfl (stf (Ie (i:=k) rfl rfl rfl Tryz.underlying173 Tryz.sizeOf3) trivial) ?_
    refine Fi rfl (Zpp (i:=2) rfl rfl rfl rfl rfl Tryz.sizeOf3 rfl hw.h (fun _ h=>nomatch h)) (fun _ _=>?_)
    refine go 1 ?_
    refine Zu ?_
    refine go 7 ⟨O,?_⟩
    exact Xd (k+1,_) ⟨O1,O1,hT2.step O O (by rw [hv1,hv2,Zty (n:=n) (k:=k)];push_cast;rfl) O⟩ O1 ⟨rfl,trivial⟩ ⟨rfl,trivial⟩
  ·refine go 10 ⟨O,?_⟩
   exact Xd (n+1,l2) ⟨O1,hT2.row O⟩ O1 ⟨rfl,trivial⟩ ⟨rfl,trivial⟩
 ·obtain rfl:n=6:=O
  let r0:=l
  refine go 7 ?_
  refine dt (d_lwa (i:=2) rfl rfl rfl Tryz.isAgg174 Tryz.sizeOf174 hl) ?_
  refine tt (Zwp (i:=1) rfl rfl rfl rfl rfl Tryz.sizeOf174 hl Zmn rfl hw.h trivial) (fun _ _=>?_)
  refine go 3 ?_
  exact Zmo (.inl rfl) hsc l _ (fun a w hs=>Zeq hs Tryz.results114 (Ii (i:=1) (vs:=r0.map (Value.int .i64)) rfl rfl Tryz.isAgg174 Tryz.sizeOf174 (by simpa using hl))) rfl hT rfl Za
def w60(n j k:Nat):Int:=60/(Au n k:Int)*(Au j k:Int)
def ctl(c:List Int)(j m:Nat):Int:=Yi (fun k=>c.getD k 0*w60 (c.length-1) j k) m
theorem Yah(c:List Int)(j m:Nat):ctl c j (m+1)=ctl c j m+c.getD m 0*w60 (c.length-1) j m:=rfl
theorem Zl4:∀{n k:Nat},k≤n→0<Au n k
 | n,0,_=>by cases n<;>exact Nat.one_pos
 | n+1,k+1,h=>by
  have:=Zl4 (n:=n) (k:=k) O
  show 0<Au n k+Au n (k+1);omega
theorem Zpk{n j k:Nat}(hj:j≤5):0≤w60 n j k∧w60 n j k≤1920:=by
 have h1:=Zl6 (k:=k) hj
 unfold w60
 have h2:(0:Int)≤60/(Au n k:Int):=Int.ediv_nonneg O3 O
 have h3:(60:Int)/(Au n k:Int)≤60:=Int.ediv_le_self _ O3
 refine⟨Int.mul_nonneg h2 O,?_⟩
 have:=Int.mul_le_mul h3 (show(Au j k:Int)≤32 by omega) O O3
 omega
theorem Zif{n j k:Nat}(hj:j≤5):bl (w60 n j k).natAbs≤11:=by
 have:=Zpk (n:=n) (k:=k) hj
 exact(Xt 11 _).2 O
theorem Qy{c:List Int}(h:∀x∈c,Xo x)(k:Nat):Xo (c.getD k 0):=by
 by_cases hk:k<c.length
 ·exact h _ (Zi hk)
 ·rw [List.getD_eq_getElem?_getD,List.getElem?_eq_none O];exact⟨O3,O3⟩
theorem Zba{c:List Int}(h:∀x∈c,Xo x){j m:Nat}(hj:j≤5)(hm:m≤31):bl (ctl c j m).natAbs≤80:=
 Zgk (K:=75) (fun k _=>by
  have h1:=Ig (Qy h k)
  have h2:=Zif (n:=c.length-1) (k:=k) hj
  have:=Yw (c.getD k 0) (w60 (c.length-1) j k)
  omega) hm
def Zmb(c:List Int)(over:Int):Bool:=(List.range c.length).all fun j=>decide ((ctl c j (j+1)).natAbs≤62914560*over)
theorem Yap{c:List Int}{over:Int}(h:∀j,j<c.length→((ctl c j (j+1)).natAbs:Int)≤62914560*over):Zmb c over=true:=by
 unfold Zmb
 rw [List.all_eq_true]
 intro j hj
 exact decide_eq_true (h j (List.mem_range.1 hj))
theorem Zq3{c:List Int}{over:Int}{j:Nat}(hj:j<c.length)(h:¬((ctl c j (j+1)).natAbs:Int)≤62914560*over):Zmb c over=false:=by
 cases hb:Zmb c over with
 | false=>rfl
 | true=>
  unfold Zmb at hb
  rw [List.all_eq_true]at hb
  exact absurd (of_decide_eq_true (hb j (List.mem_range.2 hj))) h
theorem wc_abs(s:Int):(#[.bool false,.string (Xn s.natAbs)]:Array Value)=wc (s.natAbs:Int):=by
 have:decide (((s.natAbs:Nat):Int)<0)=false:=decide_eq_false O
 rw [show wc (s.natAbs:Int)=#[.bool (decide (((s.natAbs:Nat):Int)<0)),.string (Xn ((s.natAbs:Nat):Int).natAbs)]from rfl,this,Int.natAbs_natCast]
theorem sgp(z:Int):0<z.sign↔0<z:=by simpa using Fr z
theorem Zgx(v:Value)(c:List Int)(over:Int)(hc:∀x∈c,Xo x)(hl1:1≤c.length)(hl:c.length≤6)(ho:1≤over)(ho2:over≤4294967296):Cal Tryz.prog 73 #[v,.int .i64 over] [Yj 1 Ym v c] false (G:=Unit) (fun _=>True) (fun _=> .bool (Zmb c over)) (fun _=>[]):=by
 refine Zd Tryz.func73 Tryz.ntmps73 fun w0 sc hw hsc=>?_
 have hbo:bl (62914560*over).natAbs≤90:=(Xt 90 _).2 O
 have hbo2:bl over.natAbs≤40:=(Xt 40 _).2 O
 refine go 7 ?_
 refine cl 1 [] (Zpu) fun g hg=>?_
 refine tt (Gt (i:=2) rfl rfl Tryz.zeroValue174 rfl rfl hw.h) (fun bx _=>?_)
 refine tt (Zwp (i:=2) rfl rfl rfl rfl rfl Tryz.sizeOf174 hg.len Zmn rfl hw.h trivial) (fun _ _=>?_)
 refine Zt (He 2 (q:=box bx 174 (De g)) rfl rfl rfl) ?_
 refine go 4 ?_
 refine cl 2 [] (Zx 62914560 ⟨O3,O3⟩) fun _ _=>?_
 refine go 1 ?_
 refine cl 2 [] (Zx over ⟨O,O⟩) fun _ _=>?_
 refine cl 2 [] (Zen 62914560 over O3 O) fun _ _=>?_
 refine Ya (Zr 3) fun bx_2 _=>?_
 refine go 20 ⟨O,?_⟩
 refine lp (G:=Nat) [0,5,6,7,20] [0,1,2,3] (fun j=>[(21,.int .i64 (j:Int))]) (fun j=>[]) (fun j=>(j≤c.length)∧(∀i,i<j→((ctl c i (i+1)).natAbs:Int)≤62914560*over)) (fun j=>c.length-j) 0 ⟨O1,fun i hi=>absurd hi (Nat.not_lt_zero i)⟩ ⟨rfl,trivial⟩ trivial ?_
 rintro j ⟨hj,hz⟩
 refine go 6 ?_
 refine Zc rfl (fun h69=>?_) (fun h69=>?_)
 ·refine go 12 ?_
  refine Ya (Zr 4) fun bx_3 _=>?_
  refine go 11 ⟨O,?_⟩
  refine lp (G:=Nat) [0,5,6,7,8,9,20,21,25] [0,1,2,3] (fun k=>[(26,.int .i64 (k:Int))]) (fun k=>[(4,box bx_3 93 (wc (ctl c j k)))]) (fun k=>k≤j+1) (fun k=>j+1-k) 0 O1 ⟨rfl,trivial⟩ ⟨rfl,trivial⟩ ?_
  rintro k hk
  refine go 6 ?_
  refine Zc rfl (fun h71=>?_) (fun h71=>?_)
  ·refine go 10 ?_
   have hw6:=Zpk (n:=(c.length-1)) (j:=j) (k:=k) O
   refine Qb (fun _=>False) [(0,0),(1,0),(2,0),(3,0),(4,0),(6,0),(7,0),(8,0),(9,0),(10,0),(11,0),(12,0),(13,0),(14,0),(15,0),(16,0),(17,0),(5,1),(18,1),(19,1),(20,1),(21,3)] ?_
   refine go 3 ?_
   refine Pf rfl rfl (Pn (Yp (ii:=1) (i:=k) rfl rfl rfl rfl Zh Tryz.underlying22 Tryz.sizeOf3 rfl)) ?_
   refine go 3 ⟨O,?_⟩
   refine Pf rfl rfl (Pn (Ie (i:=(c.length-1)) rfl rfl rfl Tryz.underlying174 Tryz.sizeOf173)) ?_
   refine Pf rfl rfl (Pn (Ie (i:=k) rfl rfl rfl Tryz.underlying173 Tryz.sizeOf3)) ?_
   refine Pf rfl rfl (Pn (Zv (r':= .int .i64 (Au (c.length-1) k:Int)) (Zv5 (i:=2) rfl rfl rfl Tryz.isAgg3 (by have:=hg.len;omega)) (congrArg (Value.int .i64) (hg.get O O (.inl O) O)))) ?_
   refine Pf rfl rfl (Pn (Zcb rfl rfl rfl O3 O3 (by have:=Zl4 (n:=(c.length-1)) (k:=k) O;omega))) ?_
   refine go 2 ?_
   refine Pf rfl rfl (Pn (Ie (i:=j) rfl rfl rfl Tryz.underlying174 Tryz.sizeOf173)) ?_
   refine Pf rfl rfl (Pn (Ie (i:=k) rfl rfl rfl Tryz.underlying173 Tryz.sizeOf3)) ?_
   refine Pf rfl rfl (Pn (Zv (r':= .int .i64 (Au j k:Int)) (Zv5 (i:=2) rfl rfl rfl Tryz.isAgg3 (by have:=hg.len;omega)) (congrArg (Value.int .i64) (hg.get O O (.inl O) O)))) ?_
   refine go 1 ⟨show Xo (w60 (c.length-1) j k)from⟨O,O⟩,?_⟩
   refine Yu (Zg 4 [] (Zx (c.getD k 0) (Qy hc k))) fun _ _=>?_
   refine Yu (Zg 4 [] (Zx (w60 (c.length-1) j k) ⟨O,O⟩)) fun _ _=>?_
   refine Yu (Zg 4 [] (Zen (c.getD k 0) (w60 (c.length-1) j k) (Nat.le_trans (Ig (Qy hc k)) O3) (Nat.le_trans (Zif O) O3))) fun _ _=>?_
   refine Yu (Zg 4 [] (Zw7 (ctl c j k) (c.getD k 0*(w60 (c.length-1) j k)) (Nat.le_trans (Zba hc O O) O3) (Nat.le_trans (Yw _ _) (by have h1:=Ig (Qy hc k);have h2:=Zif (n:=(c.length-1)) (j:=j) (k:=k) O;omega)))) fun _ _=>?_
   refine go 8 ⟨O,?_⟩
   exact Xd (k+1) O1 O1 ⟨rfl,trivial⟩ ⟨by rw [Yah];rfl,trivial⟩
  ·obtain rfl:k=j+1:=O
   refine go 9 ?_
   refine Zt (He 4 (q:=box bx_3 93 (wc ((ctl c j (j+1)).natAbs:Int))) (congrArg (box bx_3 93) (wc_abs _)) rfl rfl) ?_
   refine go 6 ?_
   refine cl 4 [] (Zj9 ((ctl c j (j+1)).natAbs:Int) (62914560*over) (by rw [Int.natAbs_natCast];exact Nat.le_trans (Zba hc O O) O3) O) fun _ _=>?_
   refine go 3 ?_
   refine Zc rfl (fun h74=>?_) (fun h74=>?_)
   ·have hgt:=(sgp _).1 h74
    refine go 11 ?_
    exact Xi hsc () Tryz.results73 (by rw [Zq3 (j:=j) O O]) trivial Za
   ·have hle:((ctl c j (j+1)).natAbs:Int)≤62914560*over:=Int.not_lt.1 fun h9=>h74 ((sgp _).2 O)
    refine go 7 ⟨O,?_⟩
    exact Xd (j+1) ⟨O1,fun i hi=>by rcases Nat.lt_succ_iff_lt_or_eq.1 hi with h9 | h9;exact hz i h9;subst h9;exact hle⟩ O1 ⟨rfl,trivial⟩ trivial
 ·refine go 11 ?_
  exact Xi hsc () Tryz.results73 (by rw [Yap fun i hi=>hz i O]) trivial Za
def axB(c:List Int)(over:Int):Bool:=decide (1≤c.length) && decide (c.length≤6) && !(decide (1<c.length) && decide (c.getD (c.length-1) 0=0)) && Zmb c over
def Ha(g:Int):List Int→Int
 | []=>g
 | x :: r=>Ha (Int.gcd g x) r
theorem Ba:∀(a b:List Int) (g:Int),Ha g (a ++ b)=Ha (Ha g a) b
 | [],_,_=>rfl
 | x :: a,b,g=>Ba a b _
theorem Zbw{l:List Int}{i:Nat}(g:Int)(h:i<l.length):Ha g (l.take (i+1))=(Int.gcd (Ha g (l.take i)) (l.getD i 0):Int):=by
 rw [Pm 0 _ _ h,Ba];rfl
theorem Zme:∀{l:List Int} {g:Int} {m:Nat},(∀x∈l,bl x.natAbs≤m)→bl g.natAbs≤m→bl (Ha g l).natAbs≤m
 | [],_,_,_,h=>h
 | x :: l,g,m,h,hg=>Zme (l:=l) (fun y hy=>h y (List.mem_cons_of_mem _ hy)) (Nat.le_trans (Zmd g x) (by have:=h x (List.mem_cons_self ..);omega))
abbrev Cs:=List Int×List Int×List Int
def Ybq(fr to ov:Int):Bool:=decide (0≤fr) && decide (fr<to) && decide (to≤3600000) && decide (1≤ov) && decide (ov≤4294967296)
def Ir(fr to ov:Int)(x y z:List Int):Bool:=Ybq fr to ov && axB x ov && axB y ov && axB z ov && decide (Ha ov (x ++ y ++ z)=1)
def Ia(i:Nat)(x y z:List Int):List Int:=match i with
 | 0=>[]
 | 1=>x
 | 2=>x ++ y
 | _=>x ++ y ++ z
theorem Dx{i:Nat}(x y z:List Int)(h:i<3):Ia (i+1) x y z=Ia i x y z ++ Yv i x y z:=by
 match i,h with
 | 0,_=>rfl
 | 1,_=>rfl
 | 2,_=>rfl
theorem Zah{fr to ov:Int}{x y z:List Int}{i:Nat}(h:axB (Yv i x y z) ov=false):Ir fr to ov x y z=false:=by
 unfold Ir
 revert h
 unfold Yv
 split<;>intro h<;>simp [h]
theorem Cc{fr to ov:Int}{x y z:List Int}(h:¬(0≤fr∧fr<to∧to≤3600000∧1≤ov∧ov≤4294967296)):Ir fr to ov x y z=false:=by
 cases hb:Ir fr to ov x y z with
 | false=>rfl
 | true=>
  unfold Ir Ybq at hb
  simp only [Bool.and_eq_true,decide_eq_true_eq]at hb
  exact absurd O h
theorem Zij{c:List Int}{ov:Int}(h:1≤c.length→c.length≤6→¬(1<c.length∧c.getD (c.length-1) 0=0)→Zmb c ov=true→False):axB c ov=false:=by
 cases hb:axB c ov with
 | false=>rfl
 | true=>
  unfold axB at hb
  simp only [Bool.and_eq_true,Bool.not_eq_true',Bool.and_eq_false_iff,decide_eq_true_eq,decide_eq_false_iff_not]at hb
  exact(h hb.1.1.1 hb.1.1.2 (fun h9=>by rcases hb.1.2 with h8 | h8;exact h8 h9.1;exact h8 h9.2) hb.2).elim
theorem Yay{c:List Int}{ov:Int}(h1:1≤c.length)(h2:c.length≤6)(h3:¬(1<c.length∧c.getD (c.length-1) 0=0))(h4:Zmb c ov=true):axB c ov=true:=by
 unfold axB
 simp only [Bool.and_eq_true,Bool.not_eq_true',Bool.and_eq_false_iff,decide_eq_true_eq,decide_eq_false_iff_not]
 refine⟨⟨⟨h1,h2⟩,?_⟩,h4⟩
 by_cases h5:1<c.length
 ·exact .inr fun h6=>h3 ⟨h5,h6⟩
 ·exact .inl h5
theorem Zxj{fr to ov:Int}{x y z:List Int}(h1:0≤fr∧fr<to∧to≤3600000∧1≤ov∧ov≤4294967296)(h2:∀k,k<3→axB (Yv k x y z) ov=true):Ir fr to ov x y z=decide (Ha ov (Ia 3 x y z)=1):=by
 have a0:axB x ov=true:=h2 0 O3
 have a1:axB y ov=true:=h2 1 O3
 have a2:axB z ov=true:=h2 2 O3
 unfold Ir Ybq
 rw [decide_eq_true h1.1,decide_eq_true h1.2.1,decide_eq_true h1.2.2.1,decide_eq_true h1.2.2.2.1,decide_eq_true h1.2.2.2.2,a0,a1,a2]
 rfl
theorem Ms{x y z:List Int}(hx:∀a∈x,Xo a)(hy:∀a∈y,Xo a)(hz:∀a∈z,Xo a)(i:Nat):∀a∈Yv i x y z,Xo a:=Zne (p:=fun l=>∀a∈l,Xo a) hx hy hz
theorem bl_fc{x y z:List Int}(hx:∀a∈x,Xo a)(hy:∀a∈y,Xo a)(hz:∀a∈z,Xo a){ov:Int}(ho:bl ov.natAbs≤64)(i k:Nat):bl (Ha (Ha ov (Ia i x y z)) ((Yv i x y z).take k)).natAbs≤64:=by
 refine Zme (fun a ha=>Ig (Ms hx hy hz i a (List.mem_of_mem_take ha))) (Zme (fun a ha=>Ig ?_) ho)
 unfold Ia at ha
 split at ha
 ·cases ha
 ·exact hx a ha
 ·rcases List.mem_append.1 ha with h | h
  ·exact hx a h
  ·exact hy a h
 ·rcases List.mem_append.1 ha with h | h
  ·rcases List.mem_append.1 h with h | h
   ·exact hx a h
   ·exact hy a h
  ·exact hz a h
theorem _root_.Go.Proofs.Tryz.ti124:Tryz.prog.info? 124=some Tryz.t124:=O6
theorem Zpd{v0 v1 v2:Value}(h0:v0.oneCell'=true)(h1:v1.oneCell'=true)(h2:v2.oneCell'=true):Tryz.prog.built 124 [(0,v0),(1,v1),(2,v2)]=some #[v0,v1,v2]:=by
 refine Zv8 _ Tryz.ti124 Tryz.underlying124 rfl Tryz.ti22 ?_
 rw [show Tryz.t22.size=1 from rfl]
 rw [show(Value.agg #[.slice none 0 0,.slice none 0 0,.slice none 0 0]).cells=#[.slice none 0 0,.slice none 0 0,.slice none 0 0]from rfl]
 simp [Instr.fill,Yf h0,Yf h1,Yf h2]
theorem Zrq(fr to ov:Int)(vx vy vz:Value)(x y z:List Int):Cal Tryz.prog 72 #[.agg #[.int .i64 fr,.int .i64 to,.int .i64 ov,vx,vy,vz]] [Yj 1 Ym vx x,Yj 1 Ym vy y,Yj 1 Ym vz z] false (G:=Unit) (fun _=>True) (fun _=> .agg #[vx,vy,vz]) (fun _=>[]):=by
 refine Zd Tryz.func72 Tryz.ntmps72 fun w0 sc hw hsc=>?_
 refine go 2 ?_
 refine Ya (Ye 4) fun bx _=>?_
 refine Ya (Zr 5) fun bx_2 _=>?_
 refine go 10 ?_
 refine dt (Xs (ivs:=[(0,_),(1,_),(2,_)]) rfl ⟨rfl,rfl,rfl,rfl,rfl,rfl,trivial⟩ (fun a w hs=>Zpd ((Pu (i:=1) rfl Zh) a w hs) ((Pu (i:=2) rfl Zh) a w hs) ((Pu (i:=3) rfl Zh) a w hs))) ?_
 refine go 4 ?_
 exact Xi hsc () Tryz.results72 rfl trivial Za
theorem Et(fr to ov:Int)(vx vy vz:Value)(x y z:List Int)(hfr:Xo fr)(hto:Xo to)(hov:Xo ov)(hx:∀a∈x,Xo a)(hy:∀a∈y,Xo a)(hz:∀a∈z,Xo a):Cal Tryz.prog 36 #[.agg #[.int .i64 fr,.int .i64 to,.int .i64 ov,vx,vy,vz]] [Yj 1 Ym vx x,Yj 1 Ym vy y,Yj 1 Ym vz z] false (G:=Unit) (fun _=>True) (fun _=> .bool (Ir fr to ov x y z)) (fun _=>[]):=by
 refine Zd Tryz.func36 Tryz.ntmps36 fun w0 sc hw hsc=>?_
 have hbo:=Ig hov
 have hfc:=fun i k=>bl_fc hx hy hz hbo i k
 have hfc0:=fun i=>hfc i 0
 simp only [List.take_zero,Ha]at hfc0
 refine go 2 ?_
 refine Ya (Ye 4) fun bx _=>?_
 refine go 10 ?_
 refine Yq (d:=11) rfl (fun s83=>?_) (fun s83=>?_)
 ·refine go 31 ?_
  exact Xi hsc () Tryz.results36 (by rw [Cc O]) trivial Za
 ·refine go 7 ?_
  refine Yq (d:=18) rfl (fun s83_2=>?_) (fun s83_2=>?_)
  ·refine go 24 ?_
   exact Xi hsc () Tryz.results36 (by rw [Cc O]) trivial Za
  ·refine go 5 ?_
   refine Yq (d:=23) rfl (fun s83_3=>?_) (fun s83_3=>?_)
   ·refine go 19 ?_
    exact Xi hsc () Tryz.results36 (by rw [Cc O]) trivial Za
   ·refine go 5 ?_
    refine Yq (d:=28) rfl (fun s83_4=>?_) (fun s83_4=>?_)
    ·refine go 14 ?_
     exact Xi hsc () Tryz.results36 (by rw [Cc O]) trivial Za
    ·refine go 6 ?_
     refine Zc rfl (fun h83=>?_) (fun h83=>?_)
     ·refine go 7 ?_
      exact Xi hsc () Tryz.results36 (by rw [Cc O]) trivial Za
     ·refine go 6 ?_
      refine cl 4 [] (Zx ov hov) fun _ _=>?_
      refine Ya (Zr 5) fun bx_2 _=>?_
      refine go 7 ?_
      refine cl 5 [1,2,3] (Zrq _ _ _ _ _ _ _ _ _) fun _ _=>?_
      refine go 4 ?_
      refine lp (G:=Nat) [1,3,37] [0,1,2,3,4] (fun i=>[(38,.int .i64 (i:Int))]) (fun i=>[(5,box bx_2 93 (wc (Ha ov (Ia i x y z))))]) (fun i=>(i≤3)∧(∀k,k<i→axB (Yv k x y z) ov=true)) (fun i=>3-i) 0 ⟨O1,fun k hk=>absurd hk (Nat.not_lt_zero k)⟩ ⟨rfl,trivial⟩ ⟨rfl,trivial⟩ ?_
      rintro i ⟨hi,hax⟩
      refine go 6 ?_
      refine Zc rfl (fun h87=>?_) (fun h87=>?_)
      ·refine go 5 ?_
       refine Ze (Zki i 1 2 3 50 rfl rfl rfl rfl rfl rfl) ?_
       refine go 1 ?_
       refine dt (Ztn (i:=i) rfl rfl rfl Tryz.underlying124 Tryz.sizeOf22 Tryz.isAgg22 rfl) ?_
       refine go 10 ?_
       refine Yq (d:=44) rfl (fun s88=>?_) (fun s88=>?_)
       ·refine go 40 ?_
        exact Xi hsc () Tryz.results36 (by rw [Zah (i:=i) (Zij fun h1 h2 h3 h4=>by first | omega | simp_all)]) trivial Za
       ·refine go 5 ?_
        refine Yq (d:=49) rfl (fun s88_2=>?_) (fun s88_2=>?_)
        ·refine go 35 ?_
         exact Xi hsc () Tryz.results36 (by rw [Zah (i:=i) (Zij fun h1 h2 h3 h4=>by first | omega | simp_all)]) trivial Za
        ·refine go 4 ?_
         refine Yq (d:=53) rfl (fun s88_3=>?_) (fun s88_3=>?_)
         ·refine go 4 ⟨O,?_⟩
          refine Gh (Yp (ii:=50) (i:=((Yv i x y z).length-1)) rfl rfl rfl rfl Zh Tryz.underlying22 Tryz.sizeOf3) rfl rfl ?_
          refine go 5 ⟨O,?_⟩
          refine Yq (d:=63) rfl (fun s88_4=>?_) (fun s88_4=>?_)
          ·refine go 21 ?_
           exact Xi hsc () Tryz.results36 (by rw [Zah (i:=i) (Zij fun h1 h2 h3 h4=>by first | omega | simp_all)]) trivial Za
          ·refine go 3 ?_
           refine Hc 5 [50] (Zgx _ (Yv i x y z) ov (Ms hx hy hz i) O O O O) fun _ _=>?_
           refine go 4 ?_
           refine Nn rfl (fun h88=>?_) (fun h88=>?_)
           ·refine go 12 ?_
            exact Xi hsc () Tryz.results36 (by rw [Zah (i:=i) (Zij fun h1 h2 h3 h4=>by first | omega | simp_all)]) trivial Za
           ·refine go 10 ?_
            refine lp (G:=Nat) [1,3,37,38,45,46,47,50,51,52,53,54,55,56,57,58,59,60,61,64,65,66,67,68,70,71] [0,1,2,3,4,50] (fun k=>[(72,.int .i64 (k:Int))]) (fun k=>[(5,box bx_2 93 (wc (Ha (Ha ov (Ia i x y z)) ((Yv i x y z).take k))))]) (fun k=>k≤(Yv i x y z).length) (fun k=>(Yv i x y z).length-k) 0 O1 ⟨rfl,trivial⟩ ⟨rfl,trivial⟩ ?_
            rintro k hk
            refine go 6 ?_
            refine Zc rfl (fun h91=>?_) (fun h91=>?_)
            ·refine go 11 ⟨O2,O2,?_⟩
             refine Qb (fun _=>False) [(0,0),(1,0),(2,1),(3,1),(4,3)] ?_
             refine go 2 ?_
             refine Yu (Zg 5 [] (Zx ((Yv i x y z).getD k 0) (Qy (Ms hx hy hz i) k))) fun _ _=>?_
             refine Yu (Zg 5 [] (Zpt (Ha (Ha ov (Ia i x y z)) ((Yv i x y z).take k)) ((Yv i x y z).getD k 0) (Nat.le_trans (hfc i k) O3) (Nat.le_trans (Ig (Qy (Ms hx hy hz i) k)) O3))) fun _ _=>?_
             refine go 8 ⟨O,?_⟩
             exact Xd (k+1) O1 O1 ⟨rfl,trivial⟩ ⟨by rw [Zbw _ O];rfl,trivial⟩
            ·obtain rfl:k=(Yv i x y z).length:=O
             rw [List.take_length]
             refine go 10 ⟨O,?_⟩
             exact Xd (i+1) ⟨O1,fun k hk=>by rcases Nat.lt_succ_iff_lt_or_eq.1 hk with h9 | h9;exact hax k h9;subst h9;exact Yay O O (by first | omega | simp_all) (by simp_all)⟩ O1 ⟨rfl,trivial⟩ ⟨by rw [Dx x y z O,Ba];rfl,trivial⟩
         ·refine go 13 ?_
          refine Hc 5 [50] (Zgx _ (Yv i x y z) ov (Ms hx hy hz i) O O O O) fun _ _=>?_
          refine go 4 ?_
          refine Nn rfl (fun h88_2=>?_) (fun h88_2=>?_)
          ·refine go 12 ?_
           exact Xi hsc () Tryz.results36 (by rw [Zah (i:=i) (Zij fun h1 h2 h3 h4=>by first | omega | simp_all)]) trivial Za
          ·refine go 10 ?_
           refine lp (G:=Nat) [1,3,37,38,45,46,47,50,51,52,53,54,55,56,57,58,59,60,61,64,65,66,67,68,70,71] [0,1,2,3,4,50] (fun k=>[(72,.int .i64 (k:Int))]) (fun k=>[(5,box bx_2 93 (wc (Ha (Ha ov (Ia i x y z)) ((Yv i x y z).take k))))]) (fun k=>k≤(Yv i x y z).length) (fun k=>(Yv i x y z).length-k) 0 O1 ⟨rfl,trivial⟩ ⟨rfl,trivial⟩ ?_
           rintro k hk
           refine go 6 ?_
           refine Zc rfl (fun h91_2=>?_) (fun h91_2=>?_)
           ·refine go 11 ⟨O2,O2,?_⟩
            refine Qb (fun _=>False) [(0,0),(1,0),(2,1),(3,1),(4,3)] ?_
            refine go 2 ?_
            refine Yu (Zg 5 [] (Zx ((Yv i x y z).getD k 0) (Qy (Ms hx hy hz i) k))) fun _ _=>?_
            refine Yu (Zg 5 [] (Zpt (Ha (Ha ov (Ia i x y z)) ((Yv i x y z).take k)) ((Yv i x y z).getD k 0) (Nat.le_trans (hfc i k) O3) (Nat.le_trans (Ig (Qy (Ms hx hy hz i) k)) O3))) fun _ _=>?_
            refine go 8 ⟨O,?_⟩
            exact Xd (k+1) O1 O1 ⟨rfl,trivial⟩ ⟨by rw [Zbw _ O];rfl,trivial⟩
           ·obtain rfl:k=(Yv i x y z).length:=O
            rw [List.take_length]
            refine go 10 ⟨O,?_⟩
            exact Xd (i+1) ⟨O1,fun k hk=>by rcases Nat.lt_succ_iff_lt_or_eq.1 hk with h9 | h9;exact hax k h9;subst h9;exact Yay O O (by first | omega | simp_all) (by simp_all)⟩ O1 ⟨rfl,trivial⟩ ⟨by rw [Dx x y z O,Ba];rfl,trivial⟩
      ·obtain rfl:i=3:=O
       refine go 6 ?_
       refine Qb (fun _=>False) [(0,0),(1,1),(2,0),(3,3)] ?_
       refine go 1 ?_
       refine Yu (Zg 5 [] (Zx 1 ⟨O3,O3⟩)) fun _ _=>?_
       refine Pf rfl rfl (Pn (Zh9 rfl rfl rfl eg93 (fun w=>eql93 w _ _ _ _))) ?_
       refine go 4 ?_
       exact Xi hsc () Tryz.results36 (by rw [Zqq,Zxj O hax]) trivial Za
end Go.Sky

