/- Rules, arithmetic and contracts: part 17. No conditions but those that each theorem names. -/
import Derived.Test.YteikicbnfbgpnaaGreatEb15
set_option linter.all false
set_option maxHeartbeats 4000000
namespace Go.Sky
open Go.Proofs.Tryz
open Go.Proofs
set_option synthInstance.maxHeartbeats 0
set_option synthInstance.maxSize 100000
set_option maxRecDepth 20000
set_option maxHeartbeats 1000000
set_option linter.unusedSimpArgs false
variable{a b k ov ov2 o:Int}{x y z x2 y2 z2 Y Z c xs q p:List Int}{M i:Nat}{zs ys:List (Int×SL)}{f:Nat->List Int}
theorem Zdi(fr to ov:Int)(sx sy sz:SL)(x y z:List Int)(c5:Ng fr)(c6:Ng to)(r:Ng ov)(s:∀a∈x,Ng a)(t:∀a∈y,Ng a)(u:∀a∈z,Ng a):Qf prog 75 #[.agg #[.int .i64 fr,.int .i64 to,.int .i64 ov,Xi sx,Xi sy,Xi sz]] [Ys 1 Yg (Xi sx) x,Ys 1 Yg (Xi sy) y,Ys 1 Yg (Xi sz) z] (.bool (Ci fr to ov x y z)):=by
 refine Zg func75 ntmps75 λw0 sc I h=>?_;have a6:=Li r;have l:=Ypt a6;have a7:=λi k=>bl_fc s t u a6 i k;have B:=λi=>a7 i 0;simp only [List.take_zero,Np]at B;refine go 2 ?_;refine Yk (Yt 4) λbx _=>go 10 ?_;refine Xg (d:=13) J (λb4=>?_) (λb4=>?_)
 .refine go 31 ?_;exact Xu h () results75 (by rw [Zad O]) trivial Za
 .refine go 7 ?_;refine Xg (d:=20) J (λP=>?_) (λP=>?_)
  .refine go 24 ?_;exact Xu h () results75 (by rw [Zad O]) trivial Za
  .refine go 5 ?_;refine Xg (d:=25) J (λQ=>?_) (λQ=>?_)
   .refine go 19 ?_;exact Xu h () results75 (by rw [Zad O]) trivial Za
   .refine go 5 ?_;refine Xg (d:=30) J (λR=>?_) (λR=>?_)
    .refine go 14 ?_;exact Xu h () results75 (by rw [Zad O]) trivial Za
    .refine go 6 ?_;refine Zc J (λb0=>?_) (λb0=>?_)
     .refine go 7 ?_;exact Xu h () results75 (by rw [Zad O]) trivial Za
     .refine go 6 ?_;refine cl 98 [] (Pt ov r) λv _=>Yk (Zy 97) λw _=>go 3 ?_;refine jn (G:=Nat×Value) [1,3] [0,1,2,3,4,98,97] (λq=>[(4,.pointer (some ⟨q.1,0,none⟩))]) (λq=>[(95,box q.1 89 #[.bool (decide (62914560*ov<0)),q.2]),(96,Kf q.2 (62914560*ov).natAbs)]) (λq=>True) ?_ ?_
      .refine It (λ_=>False) [6]<|Zh (n:=5) [(1,0),(2,0)]<|go 3 ?_;refine Qd (n:=4) 0 5 ?_ ?_
       .refine Po (Zi 5 [] (Pt 62914560 ⟨O2,O2⟩)) λc7 _=>?_;refine Qd (n:=3) 3 5 ?_ ?_
        .refine Po (Zi 6 [] (Pt ov r)) λc8 _=>?_;refine Qd (n:=2) 4 5 ?_ ?_
         .refine Po (Zi 96 [5,6] (Ho _ _ 62914560 ov O2)) λb6 _=>?_;refine Zh (n:=0) [(5,1),(6,3)]<|Yr (Zy 95) λa0 _=>go 2 ?_;exact Zp<|Pz (a0,b6) trivial K1 K2
         .refine Po (Zy 95) λa1 _=>?_;refine Zh (n:=0) [(4,1),(6,3)]<|Yr (Zi 96 [5,6] (Ho _ _ 62914560 ov O2)) λb7 _=>go 2 ?_;exact Zp<|Pz (a1,b7) trivial K1 K2
        .refine Po (Zy 95) λa2 _=>?_;refine Zh (n:=0) [(3,1),(4,1),(6,3)]<|Yr (Zi 7 [] (Pt ov r)) λc9 _=>Yr (Zi 96 [5,7] (Ho _ _ 62914560 ov O2)) λb8 _=>go 2 ?_;exact Zp<|Pz (a2,b8) trivial K1 K2
       .refine Po (Zy 95) λa3 _=>?_;refine Zh (n:=0) [(0,1),(3,1),(4,1),(6,3)]<|Yr (Zi 8 [] (Pt 62914560 ⟨O2,O2⟩)) λd0 _=>Yr (Zi 9 [] (Pt ov r)) λd1 _=>Yr (Zi 96 [8,9] (Ho _ _ 62914560 ov O2)) λa8 _=>go 2 ?_;exact Zp<|Pz (a3,a8) trivial K1 K2
      .rintro⟨b9,vm⟩ -;dsimp only;refine go 3 ?_;refine cl 10 [1,2,3] (Db _ _ _ _ _ _ _ _ _) λc0 _=>go 10 ?_;refine lp (G:=Nat×Value) [3,4,5] [0,95,96,1,2,3,4,10] (λq=>[(6,.int .i64 (q.1:Int))]) (λq=>[(97,box w 89 #[.bool (decide ((Np ov (Nw q.1 x y z))<0)),q.2]),(98,Kf q.2 ((Np ov (Nw q.1 x y z))).natAbs)]) (λq=>(q.1<=3)/\(∀k,k<q.1->axB (Zo k x y z) ov=true)) (λq=>3-q.1) (0,_) ⟨O1,λk hk=>absurd hk (Nat.not_lt_zero k)⟩ ⟨J,trivial⟩ ⟨J,J,trivial⟩ ?_;rintro⟨i,vs⟩ ⟨hi,F⟩;dsimp only at hi F;dsimp only;refine go 7 ?_;refine Zc J (λb1=>?_) (λb1=>?_)
       .refine go 5 ?_;refine Zf (La 10 40 ([(sx,x),(sy,y),(sz,z)].getD i C0) J J (Ze (show i<3 by omega)) J)<|Zf (Ox 40 (q:=Ys 1 Yg (Xi ([(sx,x),(sy,y),(sz,z)].getD i C0).1) (Zo i x y z)) (congrArg (Ys 1 Yg _) (Zgy O)) J J)<|go 3 ?_;refine dt (Zu (ii:=10) (i:=i) J J J J Zb Af Zca J (show i<3 by omega))<|dt (Xf (ii:=10) C0 J J J Zb pC (show i<3 by omega))<|go 4 ?_;refine jn (G:=Bool) [3,4,5,6,7] [0,97,98,95,96,1,2,3,4,10,40] (λW=>[(74,.bool W)]) (λW=>[]) (λW=>W=axc (Zo i x y z)) ?_ ?_
        .refine go 5 ?_;refine Xg (d:=56) J (λb5=>?_) (λb5=>?_)
         .refine go 19 ?_;exact Pz _ (by first|exact Ybn O|exact Ybm O|exact Ybl O O O|exact Ybk O O O) K1 trivial
         .refine go 5 ?_;refine Xg (d:=61) J (λS=>?_) (λS=>?_)
          .refine go 14 ?_;exact Pz _ (by first|exact Ybn O|exact Ybm O|exact Ybl O O O|exact Ybk O O O) K1 trivial
          .refine go 4 ?_;refine Xg (d:=65) J (λV=>?_) (λV=>?_)
           .refine go 4 ⟨O,?_⟩;refine Fq (Zu (ii:=40) (i:=((Zo i x y z).length-1)) J J J J Zn Pe Kg) J J<|go 5 ⟨O,?_⟩;exact Pz _ (by first|exact Ybn O|exact Ybm O|exact Ybl O O O|exact Ybk O O O) K1 trivial
           .refine go 10 ?_;exact Pz _ (by first|exact Ybn O|exact Ybm O|exact Ybl O O O|exact Ybk O O O) K1 trivial
        .rintro W a5;refine Mv J (λa4=>?_) (λa4=>?_)
         .refine go 12 ?_;exact Xu h () results75 (by rw [Zcj (i:=i) (axc_t a5 ‹_›)]) trivial Za
         .obtain⟨j1,j2,j3⟩:=axc_f a5 a4;refine go 5 ?_;refine cl 11 [40] (Zpe _ (Zo i x y z) (Kx s t u i) O O) λg hg=>go 4 ?_;have b3:=congrArg List.length hg;rw [Xk,Yp]at b3;refine go 5 ?_;refine lp (G:=Nat×Value) [3,4,5,6,7,8] [0,95,96,1,2,3,4,10,40,11] (λq=>[(9,.int .i64 (q.1:Int))]) (λq=>[(97,box w 89 #[.bool (decide ((Np (Np ov (Nw i x y z)) ((Zo i x y z).take q.1))<0)),q.2]),(98,Kf q.2 ((Np (Np ov (Nw i x y z)) ((Zo i x y z).take q.1))).natAbs)]) (λq=>(q.1<=(Zo i x y z).length)/\(∀j,j<q.1->((ctl (Zo i x y z) j (j+1)).natAbs:Int)<=(62914560*ov))) (λq=>(Zo i x y z).length-q.1) (0,_) ⟨O1,λj hj=>absurd hj (Nat.not_lt_zero j)⟩ ⟨J,trivial⟩ ⟨J,J,trivial⟩ ?_;rintro⟨k,vs⟩ ⟨hk,N⟩;dsimp only at hk N;dsimp only;refine go 9 ?_;refine Zc J (λb2=>?_) (λb2=>?_)
          .refine go 5 ?_;refine Xz (λ_=>False) [(0,0),(1,0),(2,0),(3,0),(4,0),(5,1),(6,1),(7,3)]<|go 3 ?_;refine Xj J J (Xl (Zu (ii:=40) (i:=k) J J J J Zn Pe Kg J))<|go 1 ⟨O3,?_⟩;refine Yr (Zi 12 [] (Pt ((Zo i x y z).getD k 0) (Lk (Kx s t u i) k))) λc1 _=>Yr (Zi 13 [98,12] (Ztd _ _ (Np (Np ov (Nw i x y z)) ((Zo i x y z).take k)) ((Zo i x y z).getD k 0) (Nat.le_trans (Li (Lk (Kx s t u i) k)) O2) (Nat.le_trans (a7 i k) O2))) λa9 _=>go 4 ?_;rcases You (ctl (Zo i x y z) k (k+1)) (62914560*ov)with m|⟨m,H⟩|⟨m,H⟩
           .have e:(g.2.getD k I0).1=(ctl (Zo i x y z) k (k+1)):=by rw [Mw,hg,Nk,if_pos O]
            refine Xz (λ_=>False) [(0,0),(1,0),(2,0),(3,0),(4,0),(5,1),(6,0),(7,0),(8,2),(9,2),(10,2),(11,2),(12,2),(13,2),(14,2),(15,2),(16,0)]<|go 2 ?_;refine Xj J J (Xl (Zu (ii:=11) (i:=k) J J J J Zb Zg3 Zip J))<|Xj J J (Xl (Xf (ii:=11) I0 J J J Zb pI))<|go 1 ?_;refine Fi J (Qj (n:=13) (Fh _ _ _ (62914560*ov) (by rw [e];exact Nat.le_trans (Zc8 (Kx s t u i) O O) O2) (Nat.le_trans l O2)) J J J K2 call72 (Na 11 J J (Ze (i:=k)) (Zl 96 J J J Zs)) J I.h) (λ_ _=>?_);refine Xj J J (Xl (dT (Za3 J J J) (vB (decide_eq_true (by rw [e,Zv8];exact m)))))<|go 28 ?_;exact Xu h () results75 (by rw [Zcj (i:=i) (Zmm λh1 h2 h3 h4=>by rw [Zxx (j:=k) O O]at h4;cases h4)]) trivial Za
           .have e:(g.2.getD k I0).1=(ctl (Zo i x y z) k (k+1)):=by rw [Mw,hg,Nk,if_pos O]
            refine Xz (λ_=>False) [(0,0),(1,0),(2,0),(3,0),(4,0),(5,1),(6,0),(7,0),(8,0),(9,0),(10,0),(11,0),(12,0),(13,1),(14,1),(15,0),(16,0)]<|go 2 ?_;refine Xj J J (Xl (Zu (ii:=11) (i:=k) J J J J Zb Zg3 Zip J))<|Xj J J (Xl (Xf (ii:=11) I0 J J J Zb pI))<|go 1 ?_;refine Fi J (Qj (n:=13) (Fh _ _ _ (62914560*ov) (by rw [e];exact Nat.le_trans (Zc8 (Kx s t u i) O O) O2) (Nat.le_trans l O2)) J J J K2 call72 (Na 11 J J (Ze (i:=k)) (Zl 96 J J J Zs)) J I.h) (λ_ _=>?_);refine Xj J J (Xl (dF (Za3 J J J) (vB (decide_eq_false (by rw [e,Zv8];exact m)))))<|go 3 ?_;refine Fr (Xl (Zu (ii:=11) (i:=k) J J J J Zb Zg3 Zip J)) J J J J J<|Fr (Xl (Xf (ii:=11) I0 J J J Zb pI)) J J J J J<|go 1 ?_;refine Zep J J J J J (Qj (n:=14) (Yf8 _ (62914560*ov) (Nat.le_trans l O2)) J J J K1 call144 (Zl 96 J J J Zs) J I.h) (λc2 _=>?_);refine Zep J J J J J (Qj (n:=14) (Fh _ _ _ (-(62914560*ov)) (by rw [e];exact Nat.le_trans (Zc8 (Kx s t u i) O O) O2) (by rw [Int.natAbs_neg];exact Nat.le_trans l O2)) J J J K2 call72 (Na 11 J J (Ze (i:=k)) (Zl 14 J J J Zs)) J I.h) (λ_ _=>?_);refine Fr (Xl (dT (Yjm J J J) (vB (decide_eq_true (by rw [e,Ye8];exact H))))) J J J J J<|go 19 ?_;exact Xu h () results75 (by rw [Zcj (i:=i) (Zmm λh1 h2 h3 h4=>by rw [Zxx (j:=k) O O]at h4;cases h4)]) trivial Za
           .have e:(g.2.getD k I0).1=(ctl (Zo i x y z) k (k+1)):=by rw [Mw,hg,Nk,if_pos O]
            refine Xz (λ_=>False) [(0,0),(1,0),(2,0),(3,0),(4,0),(5,1),(6,0),(7,0),(8,0),(9,0),(10,0),(11,0),(12,0),(13,1),(14,1),(15,0),(16,0)]<|go 2 ?_;refine Xj J J (Xl (Zu (ii:=11) (i:=k) J J J J Zb Zg3 Zip J))<|Xj J J (Xl (Xf (ii:=11) I0 J J J Zb pI))<|go 1 ?_;refine Fi J (Qj (n:=14) (Fh _ _ _ (62914560*ov) (by rw [e];exact Nat.le_trans (Zc8 (Kx s t u i) O O) O2) (Nat.le_trans l O2)) J J J K2 call72 (Na 11 J J (Ze (i:=k)) (Zl 96 J J J Zs)) J I.h) (λ_ _=>?_);refine Xj J J (Xl (dF (Za3 J J J) (vB (decide_eq_false (by rw [e,Zv8];exact m)))))<|go 3 ?_;refine Fr (Xl (Zu (ii:=11) (i:=k) J J J J Zb Zg3 Zip J)) J J J J J<|Fr (Xl (Xf (ii:=11) I0 J J J Zb pI)) J J J J J<|go 1 ?_;refine Zep J J J J J (Qj (n:=15) (Yf8 _ (62914560*ov) (Nat.le_trans l O2)) J J J K1 call144 (Zl 96 J J J Zs) J I.h) (λc3 _=>?_);refine Zep J J J J J (Qj (n:=15) (Fh _ _ _ (-(62914560*ov)) (by rw [e];exact Nat.le_trans (Zc8 (Kx s t u i) O O) O2) (by rw [Int.natAbs_neg];exact Nat.le_trans l O2)) J J J K2 call72 (Na 11 J J (Ze (i:=k)) (Zl 15 J J J Zs)) J I.h) (λ_ _=>?_);refine Fr (Xl (dF (Yjm J J J) (vB (decide_eq_false (by rw [e,Ye8];exact H))))) J J J J J<|go 12 ⟨O,?_⟩;exact Zv (Qy 13 98 J J J)<|Yq (k+1,a9) ⟨O1,λj hj=>by rcases Nat.lt_succ_iff_lt_or_eq.1 hj with D|D;exact N j D;subst D;omega⟩ O1 K1 ⟨by rw [Bh _ O];rfl,by rw [Bh _ O];rfl,trivial⟩
          .obtain rfl:k=(Zo i x y z).length:=O;rw [List.take_length];refine go 11 ⟨O,?_⟩;exact Zv (Qy 98 98 J J J)<|Yq (i+1,vs) ⟨O1,λk hk=>by rcases Nat.lt_succ_iff_lt_or_eq.1 hk with D|D;exact F k D;subst D;exact Ybo j1 j2 j3 (Zxw λj hj=>by have:=N j hj;omega)⟩ O1 K1 ⟨by rw [Fm x y z O,Iy];rfl,by rw [Fm x y z O,Iy];rfl,trivial⟩
       .obtain rfl:i=3:=O;refine go 6 ?_;refine Xz (λ_=>False) [(0,0),(1,1),(2,1),(3,0),(4,3)]<|go 1 ?_;refine Yr (Zi 16 [] (Pt 1 ⟨O2,O2⟩)) λc4 _=>Yr (Zi 16 [98,16] (Fh _ _ (Np ov (Nw 3 x y z)) 1 (Nat.le_trans (B _) O2))) λ_ _=>go 5 ?_;exact Xu h () results75 (by rw [Yfi O F];exact vB (decide_eq_decide.2 (by rw [Int.sign_eq_zero_iff_zero];omega))) trivial Za
theorem Zar(v:Value)(l:List Int)(w:∀x∈l,Ng x)(B:l.length<=1000):Cal prog 145 #[v] [Ys 1 Yg v l] true (G:=Value×List (Int×SL)) (λr=>Zr r.2=tzl l) (λr=>r.1) (λr=>[pp r.1 r.2]):=by
 refine Zg func145 ntmps145 λS Q D m=>?_;have s:=Zi4 w;refine go 17 ?_;refine Zf (Qx 70 2 89 Gk)<|Zf (Yn qI 71)<|lp (G:=Nat×Value×List (Int×SL)) [0] [0,1] (λq=>[(4,.int .i64 (q.1:Int)),(3,q.2.1)]) (λq=>[(70,Oe 2 89 Gk q.2.1 q.2.2),(71,Lg qI q.2.2)]) (λq=>(q.1<=l.length)/\(Zr q.2.2=mk q.1 (cf l))/\(q.2.2.length=q.1)) (λq=>l.length-q.1) (0,.slice none 0 0,[]) ⟨O1,rfl,rfl⟩ K2 K2 ?_;rintro⟨i,R,N⟩ ⟨hi,e,d⟩;dsimp only at hi e d;dsimp only;refine go 9 ?_;refine Zc J (λh=>?_) (λh=>?_)
 .refine go 8 ?_;refine dt (Zu (ii:=1) (i:=i) J J J J Zn Pe Kg J)<|go 1 ⟨O,?_⟩;refine cl 2 [] (Pt _ (w _ (Ze))) λv _=>?_;refine Zlk (Xy 2 J Zn) (λu n=>?_);subst n;refine tt (Qb (i:=3) (ivs:=[(0,_)]) (enc:=Gk) [(l.getD i 0,u)] J J K2 Zbe ti89 J J J J J pI.cells J J D.h) (λH _=>?_);refine tt (Pp (i:=70) (j:=3) (by_:=32) J J J J J J O2 J (Yb pI) Zbe ti89 J pI J J J O8 O2 J D.h) (λI _=>?_);refine go 9 ⟨O,?_⟩;exact Zv (Zq (q:=qI) (z:=(l.getD i 0,u)) 71 2 71 J J J J J)<|Yq (i+1,_,N ++ [(l.getD i 0,u)]) ⟨O1,by rw [Gi,Dq,e];dsimp only;rfl,by simp [d]⟩ O1 K2 K2
 .refine go 6 ?_;refine Zf (Xs 70 J J pI)<|Zf (Qm 70 71 72 J J J J)<|go 2 ?_;refine cl 4 [72] (Zbl _ _ (by rw [e];exact Ao λt P=>by have:=s t;omega)) λg F=>go 4 ?_;exact Xu m _ results145 J (by rw [F,e,show i=l.length by omega,Zdr]) (Ob 4 Za)
def Ez(a b k:Int):List Int:=if b-a=0\/k=2 then [a]else if k=1 then [a,b-a]else [a,0,0,10*(b-a),-15*(b-a),6*(b-a)]
def tmL_0(h:b-a=0\/k=2):Ez a b k=[a]:=if_pos h
def tmL_1(h:¬(b-a=0\/k=2))(d:k=1):Ez a b k=[a,b-a]:=(if_neg h).trans (if_pos d)
def tmL_2(h:¬(b-a=0\/k=2))(d:k≠1):Ez a b k=[a,0,0,10*(b-a),-15*(b-a),6*(b-a)]:=(if_neg h).trans (if_neg d)
def lineG(k:Int)(s:SL×SL×SL):Zj:=((0,1000,1),(s.1,Ez 0 300 k),(s.2.1,Ez 0 400 k),(s.2.2,Ez 0 0 k))
def stayG(s:SL×SL×SL):Zj:=((1000,2000,1),(s.1,Ez 0 0 2),(s.2.1,Ez 0 0 2),(s.2.2,Ez 0 0 2))
theorem Ok{l:List Int}(h:l.all (λa=>decide (-9223372036854775808<=a/\a<=9223372036854775807))=true):∀a∈l,Ng a:=λa d=>by have:=List.all_eq_true.1 h a d;simp only [decide_eq_true_eq]at this;exact this
def legZ(e g h j d l k:Int)(s:SL×SL×SL):Zj:=((0,1000,1),(s.1,Ez e j k),(s.2.1,Ez g d k),(s.2.2,Ez h l k))
def sm_bl{x:Int}(h:x.natAbs<=1000000000000000000000000)(d:80<=M):bl x.natAbs<=M:=Nat.le_trans ((Qg 80 _).2 (Nat.lt_of_le_of_lt h O2)) d
theorem i_le{l:List Int}(h:Zr zs=l){n:Nat}(d:l.length<=n):zs.length<=n:=by rw [<-Xk,h];exact d
theorem Zd3{l:List Int}(h:Zr zs=l)(d:Vp l):Sz 1000000 (Zr zs):=by rw [h];exact d.sz.mono O2
def Cw{l:List Int}(h:Zr zs=l)(e:Vp l){n:Nat}(d:25<=n):zs.length<=n:=i_le h (Nat.le_trans e.len d)
abbrev TzT:=SL×List (Int×SL)
def sqF(ov ov2:Int)(x y z x2 y2 z2:List Int)(i:Nat):List Int:=sqP (Zo i x y z) (Zo i x2 y2 z2) ov ov2
def sqR(ov ov2:Int)(x y z x2 y2 z2:List Int):Nat->List (List Int)
 | 0=>[]
 | i+1=>sqR ov ov2 x y z x2 y2 z2 i ++ [sqF ov ov2 x y z x2 y2 z2 i]
theorem sqR_s{d:List TzT}{e:TzT}(h:d.map (λz=>Zr z.2)=sqR ov ov2 x y z x2 y2 z2 i)(g:Zr e.2=sqF ov ov2 x y z x2 y2 z2 i):(d ++ [e]).map (λz=>Zr z.2)=sqR ov ov2 x y z x2 y2 z2 (i+1):=by rw [List.map_append,h,List.map_cons,List.map_nil,g];rfl
theorem sqR_at{d:List TzT}(h:d.map (λz=>Zr z.2)=sqR ov ov2 x y z x2 y2 z2 3):d.length=3/\Zr (d.getD 0 T0).2=sqF ov ov2 x y z x2 y2 z2 0/\Zr (d.getD 1 T0).2=sqF ov ov2 x y z x2 y2 z2 1/\Zr (d.getD 2 T0).2=sqF ov ov2 x y z x2 y2 z2 2:=by
 have g:=congrArg List.length h;rw [List.length_map]at g;have g:d.length=3:=g
 match d,g with
 | [a,b,c],_=>
  have e:[Zr a.2,Zr b.2,Zr c.2]=[sqF ov ov2 x y z x2 y2 z2 0,sqF ov ov2 x y z x2 y2 z2 1,sqF ov ov2 x y z x2 y2 z2 2]:=h;injection e with e0 e;injection e with e1 e;injection e with e2 e;exact⟨rfl,e0,e1,e2⟩
def ovW(ov ov2:Int):Int:=ov*ov2*(ov*ov2)
def rfL(e d ov ov2:Int)(x y z x2 y2 z2:List Int):List Int:=Hh (Zm (Hh (sqF ov ov2 x y z x2 y2 z2 0) (sqF ov ov2 x y z x2 y2 z2 1)) (d*d)) (Zm (sqF ov ov2 x y z x2 y2 z2 2) (e*e))
def rfW(d e ov ov2:Int):Int:=d*d*(e*e)*ovW ov ov2
def rfZ(e g d ov ov2:Int)(x y z x2 y2 z2:List Int):List Int:=Ct (rfL g d ov ov2 x y z x2 y2 z2) (tzl [rfW e d ov ov2])
theorem Yex(p q:List Int)(a b k:Int):sqK p q a b k=Zm (sqP p q a b) (k*k):=by unfold sqK dfK sqP;exact Ycd _ _
def Zri(w:Int):cf [w] 0=w:=rfl
theorem ab_one{w:Int}(h:w.natAbs<=M):Ab M (tzl [w]):=λi=>by
 rw [Ks]
 match i with
 | 0=>rw [Zri];exact h
 | i+1=>rw [Yl O7];exact Nat.zero_le _
theorem Ycs(w:Int)(i:Nat):cf [w] i=-(cf [-1] i*w):=by
 match i with
 | 0=>rw [Zri,Zri];omega
 | i+1=>rw [Yl O7,Yl O7];omega
theorem rf_eq(d h g ov ov2:Int)(x y z x2 y2 z2:List Int):rfZ d h g ov ov2 x y z x2 y2 z2=smZ d h g ov ov2 x y z x2 y2 z2 3:=by
 have l:Tr (smZ d h g ov ov2 x y z x2 y2 z2 3):=by unfold smZ;exact Qc _
 refine(Zfe _ _).ext l λi=>?_;unfold rfL smZ;simp only [smP];rw [Ds,Ej,Yu,Ej,Yu,Ej,Ej,Ej,Ks];unfold fqZ;rw [Yex,Yex,Yex,Yu,Yu,Yu];have e:cf (cnZ d g ov ov2) i=cf [-1] i*d*d*g*g*ov*ov*ov2*ov2:=by unfold cnZ;simp only [ngC,Yu,List.getD_cons_zero,List.getD_cons_succ]
 have j:=Ycs (rfW d g ov ov2) i;rw [e,j];unfold rfW ovW sqF;simp only [Zo];generalize cf (sqP x x2 ov ov2) i=A;generalize cf (sqP y y2 ov ov2) i=B;generalize cf (sqP z z2 ov ov2) i=C;generalize cf [-1] i=D;grind
structure RfX (zd zn ze ov ov2:Int) (x y z x2 y2 z2:List Int):Prop where
 v0:∀i,Vp (sqF ov ov2 x y z x2 y2 z2 i)
 v1:Vp (Hh (sqF ov ov2 x y z x2 y2 z2 0) (sqF ov ov2 x y z x2 y2 z2 1))
 v2:Vp (Zm (Hh (sqF ov ov2 x y z x2 y2 z2 0) (sqF ov ov2 x y z x2 y2 z2 1)) (ze*ze))
 v3:Vp (Zm (sqF ov ov2 x y z x2 y2 z2 2) (zn*zn))
 v4:Vp (rfL zn ze ov ov2 x y z x2 y2 z2)
 v5:Vp (tzl [rfW zd ze ov ov2])
 v6:Vp (rfZ zd zn ze ov ov2 x y z x2 y2 z2)
 wb:bl (rfW zd ze ov ov2).natAbs<=1000000
 ob:bl (ov*ov2).natAbs<=1000
 oW:bl (ovW ov ov2).natAbs<=1000
 eb:bl (ze*ze).natAbs<=1000
 nb:bl (zn*zn).natAbs<=1000
 db:bl (zd*zd).natAbs<=1000
 xb:bl (zd*zd*(ze*ze)).natAbs<=1000
theorem ov_b{fr j e g:Int}(h:Sgo fr j ov x y z)(d:Sgo e g ov2 x2 y2 z2):bl (ov*ov2).natAbs<=1000000000:=by have l:=h.o1;have m:=h.o2;have n:=d.o1;have r:=d.o2;exact sm_bl (Nat.le_trans (Yhj (x:=ov) (y:=ov2) (A:=4294967296) (B:=4294967296) O O) O2) O2
theorem Yms{l n m:Int}(h:Zr zs=rfZ l n m ov ov2 x y z x2 y2 z2):zs.length≠0->Ym (Zr zs)≠0:=λd=>by
 have g:Zr zs≠[]:=λe=>d (by rw [<-Xk,e];rfl);have j:Tr (Zr zs):=by rw [h];unfold rfZ;exact Zfe _ _
 have:=Zvc j g;intro e;rw [e]at this;exact absurd this O2
theorem rf_fin{d g e:Int}(h:Zr ys=Zz (Zr zs))(j:Zr zs=rfZ d g e ov ov2 x y z x2 y2 z2):Zr ys=fmZ d g e ov ov2 x y z x2 y2 z2:=by rw [h,j,rf_eq];unfold fmZ;rfl
def tpI(n k:Nat):Nat:=n/1000000000^k
theorem Ylt(n:Nat):tpI n (dg 1000000000 n).length=0:=by unfold tpI;exact Nat.div_eq_of_lt ((Xp O2 _ n).1 (Nat.le_refl _))
theorem tpI_s(n k:Nat):tpI n (k+1)*1000000000+(dg 1000000000 n).getD k 0=tpI n k:=by unfold tpI;rw [Hf O2,Nat.pow_succ,<-Nat.div_div_eq_div_mul];omega
theorem Yeb(n:Nat):tpI n 0=n:=by unfold tpI;rw [Nat.pow_zero,Nat.div_one]
def tpI_le(n k:Nat):tpI n k<=n:=Nat.div_le_self _ _
theorem Zz7{g:Int}(d:0<=g)(l:List Int):∀k,k<=l.length->Np g (l.take k)=(Int.gcd g (Ym (l.take k)):Int)
 | 0,_=>by rw [List.take_zero];show g=((Int.gcd g 0:Nat):Int);rw [Int.gcd_zero_right];omega
 | k+1,e=>by rw [Bh g O,Lc O,Zz7 d l k O,Int.gcd_assoc]
def gcR(o:Int)(X Y Z:List Int):Nat->Int
 | 0=>o
 | i+1=>(Int.gcd (gcR o X Y Z i) (Ym (Zo i X Y Z)):Int)
theorem Zw4{o:Int}(d:0<o)(X Y Z:List Int):∀i,i<=3->gcR o X Y Z i=Np o (Nw i X Y Z)/\0<=gcR o X Y Z i
 | 0,_=>⟨rfl,Int.le_of_lt d⟩
 | i+1,hi=>by obtain⟨e,g⟩:=Zw4 d X Y Z i O;refine⟨?_,Int.natCast_nonneg _⟩;show((Int.gcd (gcR o X Y Z i) (Ym (Zo i X Y Z)):Nat):Int)=_;rw [Fm X Y Z O,Iy,<-e];have:=Zz7 g (Zo i X Y Z) (Zo i X Y Z).length (Nat.le_refl _);rw [List.take_length]at this;exact this.symm
def gcR_A{X:List Int}(h:Mdh o X Y Z):gcR o X Y Z 3=Ke o X Y Z:=(Zw4 h.o X Y Z 3 (Nat.le_refl _)).1
theorem Zgd{X:List Int}(h:Mdh o X Y Z)(hi:i<=3):bl (gcR o X Y Z i).natAbs<=1000:=by rw [(Zw4 h.o X Y Z i hi).1];have:=h.fc i 0;rw [List.take_zero]at this;exact this
structure Row3 (ws:List TzT) (X Y Z:List Int):Prop where
 l:ws.length=3
 e:∀i,i<3->Zr (ws.getD i T0).2=Zo i X Y Z
theorem Zs6{d:List TzT}{t:Nat}{g:TzT}(l:d.length=i)(h:∀t,t<i->Zr (d.getD t T0).2=f t)(n:Zr g.2=f i)(m:t<i+1):Zr ((d ++ [g]).getD t T0).2=f t:=by
 rcases Nat.lt_succ_iff_lt_or_eq.1 m with j|j
 .have e:(d ++ [g]).getD t T0=d.getD t T0:=by rw [List.getD_eq_getElem?_getD,List.getD_eq_getElem?_getD,List.getElem?_append_left O]
  rw [e];exact h t j
 .subst j;have e:(d ++ [g]).getD t T0=g:=by rw [List.getD_eq_getElem?_getD,List.getElem?_append_right O,l,Nat.sub_self];rfl
  rw [e];exact n
theorem Zy5{e:List TzT}{d:Int}(g:e.length=3)(h:∀t,t<3->Zr (e.getD t T0).2=Qt (Zo t x y z) a b d):Row3 e (Qt x a b d) (Qt y a b d) (Qt z a b d):=⟨g,λi hi=>by
 rw [h i hi]
 match i,hi with
 | 0,_=>rfl
 | 1,_=>rfl
 | 2,_=>rfl⟩
theorem Yiz(h:AxC c ov)(j:Zr zs=tzl c):5-max 0 ((zs.length:Int)-1)=((6-c.length:Nat):Int):=by
 have l:=h.l;have e:zs.length=(tzl c).length:=by rw [<-Xk,j]
 rcases Ykv h with d|d
 .rw [e,d];omega
 .subst d;have g:(tzl [(0:Int)]).length=0:=O2;rw [e,g];decide
theorem Zjo(g:∀a∈c,Ng a)(h:c.length<=6)(d:Zr zs=tzl c):zs.length<=30/\Pa (Zr zs)+zs.length*(30+1)+1+zs.length+1+30<=900000:=by have e:zs.length<=6:=i_le d (Nat.le_trans (Mx c) h);have m:=Pr (p:=Zr zs) (n:=64) (by rw [d];exact(ab_in g).sz O2);have:=Nat.mul_le_mul_right 31 e;exact⟨O,O⟩
def Zsz(fr d:Int)(g:Zj)(r:SL×SL×SL):Zj:=((cA fr g,cB d g,cO g/cG fr d g),(r.1,Hi (cX fr d g g.2.1.2) (cG fr d g)),(r.2.1,Hi (cX fr d g g.2.2.1.2) (cG fr d g)),(r.2.2,Hi (cX fr d g g.2.2.2.2) (cG fr d g)))
theorem cut_un{fr e:Int}{g:Zj}(r:SL×SL×SL)(h:Zgo fr e g=true):Gn (Zsz fr e g r)=Zu9 fr e g:=by have d:cO g/cG fr e g<=4294967296:=of_decide_eq_true h;unfold Zu9 Gn Zsz mdO;rw [if_pos d,Zf7 d,Zf7 d,Zf7 d]
theorem cutI_y{fr d:Int}{ps zs:List Zj}{k:Nat}{x g:Zj}(h:Zq9 fr d ps k zs)(e:(ps.filter (Kv fr d))[k]? = some x)(m:Zgo fr d x=true)(n:Gn g=Zu9 fr d x):Zq9 fr d ps (k+1) (zs ++ [g]):=by
 obtain⟨j,l⟩:=h;refine⟨?_,?_⟩
 .rw [List.map_append,j,Zg5 e,List.map_append,List.map_cons,List.map_nil,List.map_cons,List.map_nil,n]
 .rw [Zg5 e,List.all_append,l];simp [m]
theorem Zyy{g:Zj}(h:seB g=true)(i:Nat):AxC (Zo i g.2.1.2 g.2.2.1.2 g.2.2.2.2) g.1.2.2:=by obtain⟨d,e,j⟩:=Zwd h;exact Dz (p:=λl=>AxC l g.1.2.2) d e j
theorem Yax{fr d:Int}{g:Zj}(e:SgG g)(h:Kv fr d g=true):g.1.1<=cA fr g/\cA fr g<cB d g/\cB d g<=g.1.2.1:=by have:=of_decide_eq_true h;exact⟨Int.le_max_right _ _,this,Int.min_le_right _ _⟩
theorem fl_le(ps:List Zj)(p:Zj->Bool)(i:Nat):((ps.take i).filter p).length<=i:=by have:=List.length_filter_le p (ps.take i);have d:=List.length_take_le i ps;omega
theorem cut_t{fr d:Int}{ps:List Zj}(h:Zva fr d ps=0):Px fr d ps=true:=by
 cases hb:Px fr d ps with
 | true=>rfl
 | false=>rw [Zxl hb]at h;exact absurd h O2
theorem Zzc(x:Int)(v:Value)(t:x.natAbs<=9223372036854775807):Qf prog 279 #[.agg #[.bool (decide (x<0)),v]] [Kf v x.natAbs] (.int .i64 x):=by
 refine Zg func279 ntmps279 λw u s h=>?_;refine Pf (Ln (i:=1) J Zn) λj=>go 2 ?_;refine Yk (Yt 2) λn _=>?_;refine go 19 ⟨O,?_⟩;refine lp (G:=Nat) [1] [0,1,2] (λk=>[(4,.int .i64 ((k:Int)-1)),(3,.int .i64 (tpI x.natAbs k:Int))]) (λk=>[]) (λk=>k<=(dg 1000000000 x.natAbs).length) (λk=>k) (dg 1000000000 x.natAbs).length (Nat.le_refl _) ⟨J,(by rw [Ylt];rfl),trivial⟩ trivial ?_;rintro k r;have l:=tpI_le x.natAbs (k-1);have d:=tpI_s x.natAbs (k-1);refine go 7 ?_;refine Zc J (λe=>?_) (λe=>?_)
 .refine go 10 ⟨⟨O,by rw [show k-1+1=k by omega]at d;omega⟩,?_⟩;refine dt (Zu (ii:=1) (i:=(k-1)) J J J J Zn Pe Kg)<|go 11 ⟨O,⟨O,by rw [show k-1+1=k by omega]at d;omega⟩,O,?_⟩;exact Yq (k-1) O1 O1 ⟨(congrArg (λq:Int=>some (Value.int .i64 q)) (show(k:Int)-1-1=((k-1:Nat):Int)-1 by omega)),(congrArg (λq:Int=>some (Value.int .i64 q)) (show(tpI x.natAbs k:Int)*1000000000+(((dg 1000000000 x.natAbs).getD (k-1) 0:Nat):Int)=((tpI x.natAbs (k-1):Nat):Int) by rw [show k-1+1=k by omega]at d;omega)),trivial⟩ trivial
 .obtain rfl:k=0:=O;have m:=Yeb x.natAbs;refine go 12 ?_;refine Zc J (λg=>?_) (λg=>?_)
  .refine go 3 ?_;refine dt (Yjl J J)<|go 5 ?_;exact Xu h () results279 (by rw [Yeb];congr 1;omega) trivial Za
  .refine go 9 ?_;exact Xu h () results279 (by rw [Yeb];congr 1;omega) trivial Za
theorem Znt(v:Value)(ps:List Zj)(g:1<=ps.length):Qf prog 54 #[v] [Xt 6 Qe qG v ps] (.int .i64 (spF ps)):=by refine Zg func54 ntmps54 λl j h d=>?_;refine Pf (Ln (i:=1) J Zb) (λe=>?_);refine go 9 ⟨O,?_⟩;refine dt (Lh (ii:=1) J J J Zb Ey J Kg J)<|dt (Lr (ii:=1) G0 J J J Zb Av J)<|go 4 ?_;exact Xu d () results54 J trivial Za
theorem Zzd(v:Value)(ps:List Zj)(g:1<=ps.length):Qf prog 53 #[v] [Xt 6 Qe qG v ps] (.int .i64 (spL ps)):=by refine Zg func53 ntmps53 λl j h d=>?_;refine Pf (Ln (i:=1) J Zb) (λe=>?_);refine go 11 ⟨O,?_⟩;refine dt (Zu (ii:=1) (i:=(ps.length-1)) J J J J Zb Lf Ig)<|dt (Lh (ii:=1) J J J Zb Ey J Kg J)<|dt (Lr (ii:=1) G0 J J J Zb Av J)<|go 4 ?_;exact Xu d () results53 J trivial Za
structure RI (xs q:List Int):Prop where
 v:Vp q
 ne:q≠[]
 s:Sz 220 q
 l:q.length<=11
 d:Dp xs (Xe q)
def RI.start(h:Cvd xs)(d:xs≠[]):RI xs xs:=⟨h.v,d,h.s.mono O,h.l,Dp.start h.v.tr d⟩
theorem Yej{n:Nat}{e:Int}(d:e=1\/e=-1)(h:Sz n q):Sz n (Zm q e):=λi=>by
 rw [Yu];have:=h i;rcases d with rfl|rfl
 .rw [Int.mul_one];exact this
 .rw [Int.mul_neg_one,Int.natAbs_neg];exact this
theorem RI.step(h:Cvd xs)(u:xs≠[])(g:RI xs q) :
  Tr (sqf 13 q)/\Pa (sqf 13 q)<=235/\(sqf 13 q).length<=11/\0<(sqf 13 q).length/\Ym q≠0/\Sz 220 (Zm (Zz q) 1)/\Tr (Zm (Zz q) 1)/\(Zm (Zz q) 1).length=q.length/\pdv (Zm (Zz q) 1) (sqf 13 q)/\
  Vp (Ms 13 q)/\Ms 13 q≠[]/\Sz 220 (Ms 13 q)/\(Ms 13 q).length<=11/\Ym (Ms 13 q)≠0/\Zz (Ms 13 q)=Ms 13 q/\
  Tr (sqf 13 (Ms 13 q))/\Pa (sqf 13 (Ms 13 q))<=235/\(sqf 13 (Ms 13 q)).length<=11/\0<(sqf 13 (Ms 13 q)).length/\pdv (sqf 13 q) (sqf 13 (Ms 13 q))/\Sz 600 (Kz (sqf 13 q) (sqf 13 (Ms 13 q)))/\(Kz (sqf 13 q) (sqf 13 (Ms 13 q))).length<=11/\
  pdv (Ms 13 q) (sqf 13 (Ms 13 q))/\RI xs (Zb2 13 q)/\((sqf 13 q).length≠1->(Zb2 13 q).length<q.length):=by
 have hl:=h.l;have v:=g.d;have j:=(v.ok h.v.tr u h.s O O (show xs.length<=13+1 by omega)).2;have t:Eh 13 q:=by unfold Eh at j ⊢;rwa [v.2.2.1]at j
 have l:=v.next j;have V:Pu 13 (Xe q)=Pu 13 q:=Zjj v.2.2.1;have a2:sqf 13 (Xe q)=sqf 13 q:=Dl v.2.2.1;rw [V]at l;have d:=(l.ok h.v.tr u h.s O O (show xs.length<=13+1 by omega)).2;have G:=l.next d;obtain⟨⟨e,S,r1,r2,r3,r4,r5,r6⟩,r7,r8,r9,H,a4,a5⟩:=Zko g.v.tr g.ne t d;obtain⟨-,-,-,-,-,-,-,-,-,-,-,m,n,I,-,r,-,-⟩:=Zdh h u v;obtain⟨-,-,-,-,-,-,-,-,-,-,-,s,N,P,-,w,a6,-⟩:=Zdh h u l;rw [a2]at m n I r;have a1:sqf 13 (Ms 13 q)=sqf 13 (Pu 13 q):=Dl (by rw [r7,l.2.2.1]);obtain⟨g1,g2⟩:=Zgk h u l;obtain⟨g3,g4⟩:=Zgk h u G;have e0:e≠0:=by rcases S with rfl|rfl<;>decide
 have B:Sz 220 (Ms 13 q):=by rw [r3];exact Yej S g1
 have Q:(Ms 13 q).length<=11:=by rw [r3];have:=Oz (Pu 13 q) e;omega
 have D:Vp (Ms 13 q):=⟨B.mono O,r9,O⟩;have F:Sz 220 (Zb2 13 q):=by rw [r6];exact Yej S g3
 have a7:(Zb2 13 q).length<=(Pu 13 (Pu 13 q)).length:=by rw [r6];exact Oz _ e
 obtain⟨o1,o2,o3,o4⟩:=Cb g.v.tr g.ne t d;have hK:fcs 0 13<=2^15*2^15:=O6;have a0:=De (L:=13) (R:=24) o3 s.tr n r m.tr O O2 hK o2;have W:=Oo o3 s.tr o4 w;rw [<-o2]at W;have lb:=List.length_pos_iff.2 w;have la:=List.length_pos_iff.2 r;have lo:=List.length_pos_iff.2 o4;have hm:Zm (Zz q) 1=Zz q:=by refine(Qk _ _).ext (Xb g.v.tr) λi=>?_;rw [Yu,Int.mul_one]
 have hx:=Qv g.v.tr g.ne t;have a3:=Qv l.1 l.2.1 d;rw [a1];refine⟨m.tr,Pr n,O,la,g.v.ne g.ne,by rw [hm];exact Fs g.s,Qk _ _,by rw [hm,Ya],by rw [r1];exact r2,D,H,B,Q,D.ne H,r4,s.tr,Pr N,P,lb,o1,a0.mono O,?_,r5,⟨⟨F.mono O,a4,O⟩,a5,F,O,by rw [r8];exact G⟩,λa8=>?_⟩
 .show(Cm 13 q).length<=11;omega
 .have h1:=hx.2.2.2.2;have h2:=a3.2.2.2.2;omega
theorem Ygt{F n:Nat}(G:Tr p)(v:p≠[])(hs:Sz n p)(D:n<=220)(B:p.length<=11)(w:p.length<=F+1):∀(f:Nat) (q:List Int),Dp p q->q.length<=f->∃a:List Int,Tr a/\q=Qn a (Cj F f q):=by
 intro f
 induction f with
 | zero=>intro q d r;have:=List.length_pos_iff.2 d.2.1;omega
 | succ f W=>
  intro q d r;have e:=(d.ok G v hs D B w).2;have h:=d.next e;have g:=(h.ok G v hs D B w).2;have m:=h.next g;unfold Cj;by_cases l:(sqf F q).length=1
  .rw [if_pos l];obtain⟨s1,s2,s3⟩:=Zfi d.1 d.2.1 e l;refine⟨[1],.inr (show cf [1] 0≠0 by decide),d.1.ext (Qa _ _) λi=>Oy (λx=>?_) i⟩;rw [Yi,s1,Ynh d.1 d.2.2.1 s2,Pj];push_cast;grind
  .rw [if_neg l];have lq:2<=q.length:=by obtain⟨f1,f2,f3,f4,f5,f6⟩:=Ol (F:=F) d.1 d.2.1 e;obtain⟨H,s,t,j,I⟩:=Qv d.1 d.2.1 e;have l1:=List.length_pos_iff.2 f3;have l2:=List.length_pos_iff.2 s;omega
   have a0:=Zlp d.1 d.2.1 e lq;obtain⟨H,s,t,j,I⟩:=Qv d.1 d.2.1 e;obtain⟨b1,b2,b3,u,b5⟩:=Qv h.1 h.2.1 g;obtain⟨-,t2,t3,-,-,-⟩:=Ol (F:=F) h.1 h.2.1 g;have lb:=List.length_pos_iff.2 t3;obtain⟨A,hA,V⟩:=W _ m O;obtain⟨-,o2,o3,o4⟩:=Cb d.1 d.2.1 e g;rw [d.2.2.1]at j;rw [t]at u;refine⟨Qn (Qn (sqf F (Pu F q)) (sqf F (Pu F q))) A,Qa _ _,d.1.ext (Qa _ _) λi=>Oy (λx=>?_) i⟩;have N:Zd q x=Zd (sqf F q) x*Zd (Pu F q) x:=by rw [<-Yi,<-j]
   have P:Zd (sqf F q) x=Zd (Cm F q) x*Zd (sqf F (Pu F q)) x:=by rw [<-Yi,<-o2]
   have Q:Zd (Pu F q) x=Zd (sqf F (Pu F q)) x*Zd (Pu F (Pu F q)) x:=by rw [<-Yi,<-u]
   have R:Zd (Pu F (Pu F q)) x=Zd A x*Zd (Cj F f (Pu F (Pu F q))) x:=by rw [<-Yi,<-V]
   rw [Yi,Yi,Yi,Yi,N,P,Q,R];show _=_*(Zd (Cm F q) x*_);generalize Zd (sqf F (Pu F q)) x=S;grind
theorem RI.size(h:Cvd xs)(l:xs≠[])(g:RI xs q){f:Nat}(I:q.length<=f):Tr (Zwg 13 f q)/\Sz 460 (Zwg 13 f q)/\(Zwg 13 f q).length<=11:=by
 have N:=h.l;have d:=g.d;have e:Zwg 13 f q=Cj 13 f (Xe q):=by rw [Ymr h.v.tr l h.s O O O f q g.v.tr g.ne d];exact Zts d.2.2.1.symm f
 have D:=Pm g.v.tr;have B:=g.l;obtain⟨A,u,m⟩:=Ygt h.v.tr l h.s O O (show xs.length<=13+1 by omega) f (Xe q) d O;obtain⟨v,H⟩:=Zgk h l d;have j:=(d.ok h.v.tr l h.s O O (show xs.length<=13+1 by omega)).2;have s:=Zpm (F:=13) (p:=xs) (f:=f) d.1 d.2.1 j;rw [e];have w:fcs 0 13<=2^15*2^15:=O6;have G:Cj 13 f (Xe q)≠[]:=λn=>d.2.1 (by rw [m,n,Zbs]);have t:A≠[]:=λn=>d.2.1 (by rw [m,n,Fc]);have r:=Oo u s t G;rw [<-m]at r;have:=List.length_pos_iff.2 t;exact⟨s,(De (L:=13) (R:=24) s u v d.2.1 d.1 O O2 w (by rw [Be];exact m)).mono O,O⟩
def pT{α:Type} : Enc Tryz.prog 47 1 (Nq (α:=α)):=Enc.flat Tryz.sizeOf47 Tryz.isAgg47 (λ_=>rfl)
theorem Zhh(a b k:Int)(w:-4194304<=a/\a<=4194304)(B:-4194304<=b/\b<=4194304):Cal prog 125 #[.int .i64 a,.int .i64 b,.int .i64 k] [] true (G:=SL) (λr=>True) (λr=>Xi r) (λr=>[Ys 1 Yg (Xi r) (Ez a b k)]):=by
 refine Zg func125 ntmps125 λF D j h=>?_;refine go 19 ⟨O,?_⟩;refine Xg (d:=13) J (λn=>?_) (λn=>?_)
 .refine go 9 ?_;refine tt (Qb (i:=1) (ivs:=[(0,_)]) (enc:=Yg) ([a]:List Int) J J K2 Pe ti3 J J J J J pZ.cells J J j.h) λv _=>go 5 ?_;refine Zv (Xs 1 J J pZ)<|Zr1 (Xy 1 J Zn) (λg e=>?_);subst e;exact Xu h g results125 J trivial (Ob 1 Za (congrArg (Ys 1 Yg (Xi g)) (tmL_0 (a:=a) (b:=b) (k:=k) O).symm))
 .refine go 5 ?_;refine Zc J (λl=>?_) (λl=>?_)
  .refine go 3 ?_;refine tt (Qb (i:=2) (ivs:=[(0,_)]) (enc:=Yg) ([a]:List Int) J J K2 Pe ti3 J J J J J pZ.cells J J j.h) λs _=>go 5 ?_;refine Zv (Xs 2 J J pZ)<|Zr1 (Xy 2 J Zn) (λg e=>?_);subst e;exact Xu h g results125 J trivial (Ob 2 Za (congrArg (Ys 1 Yg (Xi g)) (tmL_0 (a:=a) (b:=b) (k:=k) O).symm))
  .refine go 9 ?_;refine Zc J (λm=>?_) (λm=>?_)
   .refine go 4 ?_;refine tt (Qb (i:=3) (ivs:=[(0,_),(1,_)]) (enc:=Yg) ([a,b-a]:List Int) J J K4 Pe ti3 J J J J J pZ.cells J J j.h) λt _=>go 5 ?_;refine Zv (Xs 3 J J pZ)<|Zr1 (Xy 3 J Zn) (λg e=>?_);subst e;exact Xu h g results125 J trivial (Ob 3 Za (congrArg (Ys 1 Yg (Xi g)) (tmL_1 (a:=a) (b:=b) (k:=k) O O).symm))
   .refine go 11 ⟨O,O,O,?_⟩;refine tt (Qb (i:=4) (ivs:=[(0,_),(1,_),(2,_),(3,_),(4,_),(5,_)]) (enc:=Yg) ([a,0,0,10*(b-a),-15*(b-a),6*(b-a)]:List Int) J J K12 Pe ti3 J J J J J pZ.cells J J j.h) λu _=>go 4 ?_;refine Zv (Xs 4 J J pZ)<|Zr1 (Xy 4 J Zn) (λg e=>?_);subst e;exact Xu h g results125 J trivial (Ob 4 Za (congrArg (Ys 1 Yg (Xi g)) (tmL_2 (a:=a) (b:=b) (k:=k) O O).symm))
theorem Zpd(d e g h by_ j fr I k:Int)(s:-4194304<=d/\d<=4194304)(t:-4194304<=e/\e<=4194304)(u:-4194304<=g/\g<=4194304)(v:-4194304<=h/\h<=4194304)(l:-4194304<=by_/\by_<=4194304)(B:-4194304<=j/\j<=4194304):Cal prog 68 #[.agg #[.int .i64 d,.int .i64 e,.int .i64 g],.agg #[.int .i64 h,.int .i64 by_,.int .i64 j],.int .i64 fr,.int .i64 I,.int .i64 k] [] true (G:=SL×SL×SL) (λr=>True) (λr=> .agg #[.int .i64 fr,.int .i64 I,.int .i64 1,Xi r.1,Xi r.2.1,Xi r.2.2]) (λr=>[Ys 1 Yg (Xi r.1) (Ez d h k),Ys 1 Yg (Xi r.2.1) (Ez e by_ k),Ys 1 Yg (Xi r.2.2) (Ez g j k)]):=by refine Zg func68 ntmps68 λS R Q D=>go 2 ?_;refine Yk (Yt 1) λP _=>Yk (Yt 2) λF _=>Yk (Zy 3) λH _=>go 3 ?_;refine Xz (λ_=>False) [(0,0),(1,0),(2,0),(3,0),(4,0),(5,0),(6,0),(8,0),(9,0),(10,0),(11,0),(12,0),(14,0),(15,0),(16,0),(17,0),(18,0),(7,1),(13,1),(19,1),(20,0),(21,3)]<|go 17 ?_;refine Yr (Zi 4 [] (Zhh d h k s v)) λN _=>Yr (Zi 5 [] (Zhh e by_ k t l)) λm _=>Yr (Zi 6 [] (Zhh g j k u B)) λn _=>?_;refine Xj J J (Xl (Qq (ivs:=[(0,_),(1,_),(2,_),(3,_),(4,_),(5,_)]) J K12 (λa w hs=>Zmk ((Yf J) a w hs) ((Yf J) a w hs) ((Yf J) a w hs) ((Oj (i:=4) J Zn) a w hs) ((Oj (i:=5) J Zn) a w hs) ((Oj (i:=6) J Zn) a w hs))))<|go 4 ?_;exact Xu D (N,m,n) results68 J trivial (Ob 4 (Ob 5 (Ob 6 Za)))
def Yfv(v u:Value)(zs ys:List (Int×SL))(hs:Sz 1000000 (Zr zs))(e:zs.length<=60)(g:Sz 1000000 (Zr ys))(d:ys.length<=60):Cal Tryz.prog 146 #[v,u] [pp v zs,pp u ys] true (G:=SL×List (Int×SL)) (λr=>Zr r.2=Qn (Zr zs) (Zr ys)) (λr=>Xi r.1) (λr=>[pp (Xi r.1) r.2]):=
 (Yfw v u zs ys hs g d e).toS
set_option maxHeartbeats 400000 in
theorem Zth(fr R o:Int)(v w:Value)(n:List TzT)(X Y Z:List Int)(m:Row3 n X Y Z)(e:Mdh o X Y Z)(H:¬o/(Ke o X Y Z)<=4294967296):Qf prog 253 #[.int .i64 fr,.int .i64 R,v,.agg #[.bool (decide (o<0)),w]] [Xt 1 (Nq (α:=List (Int×SL))) qT v n,Kf w (o).natAbs] (.tuple #[.agg #[.int .i64 0,.int .i64 0,.int .i64 0,.slice none 0 0,.slice none 0 0,.slice none 0 0],.bool false]):=by
 refine Zg func253 ntmps253 λw0 sc W t=>?_;have P:=m.l;obtain⟨D,r,F⟩:=e.g;have I:=e.o;have h:=gcR_A e;have s:gcR o X Y Z 3∣o:=by rw [h];exact r
 have N:0<=o/Ke o X Y Z:=Int.ediv_nonneg O O;refine go 2 ?_;refine Yk (Yt 3) λV _=>Yk (Zy 4) λB _=>go 6 ?_;refine Yk (Zy 97) λj _=>go 10 ?_;refine Zf (Qy 2 98 J J J)<|lp (G:=Nat×Value) [0,1,2,7,8,10] [0,1,2,3,4] (λq=>[(11,.int .i64 (q.1:Int))]) (λq=>[(97,box j 89 #[.bool (decide (gcR o X Y Z q.1<0)),q.2]),(98,Kf q.2 (gcR o X Y Z q.1).natAbs)]) (λq=>q.1<=3) (λq=>3-q.1) (0,w) O1 K1 K2 ?_;rintro⟨i,vs⟩ hi;dsimp only at hi;dsimp only;refine go 7 ?_;refine Zc J (λl=>?_) (λl=>?_)
 .refine go 4 ?_;refine Zf (La 1 41 (n.getD i T0) J J (Ze) J) ?_;have d:=m.e i O;have Q:(n.getD i T0).2.length=(Zo i X Y Z).length:=by rw [<-Xk,d]
  refine Xz (λ_=>False) [(0,0),(1,0),(2,0),(3,0),(4,0),(5,1),(6,1),(7,3)]<|go 3 ?_;refine Xj J J (Xl (Zu (ii:=1) (i:=i) J J J J Zb Zd5 sizeOf47 J))<|Xj J J (Xl (Xf (ii:=1) T0 J J J Zb pT))<|Yr (Zi 5 [41] (Zeo _ _ (by rw [d];exact(e.s i).mono O2) (by have:=e.l i;omega))) λv _=>Yr (Zi 6 [98,5] (Ztd _ _ (gcR o X Y Z i) (Ym (Zr (n.getD i T0).2)) (by rw [d];exact Nat.le_trans (Zax _ (e.s i)) O2) (Nat.le_trans (Zgd e O) O2))) λu _=>?_;refine go 9 ⟨O,?_⟩;exact Zv (Qy 6 98 J J J)<|Yq (i+1,u) O1 O1 K1 ⟨by rw [d];rfl,by rw [d];rfl,trivial⟩
 .obtain rfl:i=3:=O;refine go 9 ?_;refine cl 85 [2,98] (Ev _ _ o (gcR o X Y Z 3) (Nat.le_trans e.b O2) (by rw [h];omega) (Nat.le_trans (Zgd e O2) O2)) λg _=>go 8 ?_;refine Xz (λ_=>False) [(0,0),(1,1),(2,1),(3,0)]<|go 1 ?_;refine Yr (Zi 7 [] (Pt 4294967296 ⟨O2,O2⟩)) λS _=>Yr (Zi 7 [85,7] (Fh _ _ (o/(gcR o X Y Z 3)) 4294967296 (Nat.le_trans (Dg s e.b) O2))) λ_ _=>?_;refine Xj J J (Xl (dT (Za3 J J J) (vB (decide_eq_true ((sgp _).2 (by rw [h];omega))))))<|go 5 ?_;refine dt (Qq (ivs:=[]) J trivial (λa w hs=>b35_))<|go 6 ?_;exact Nr t () results253 J trivial Za
@[reducible,instance] def encCI:EncT prog 33 1 (Nq (α:=List Int)):=⟨pC⟩
set_option maxHeartbeats 400000 in
theorem Yge(fr to o:Int)(v w:Value)(l:List TzT)(X Y Z:List Int)(N:Row3 l X Y Z)(e:Mdh o X Y Z)(a5:o/(Ke o X Y Z)<=4294967296):Cal prog 253 #[.int .i64 fr,.int .i64 to,v,.agg #[.bool (decide (o<0)),w]] [Xt 1 (Nq (α:=List (Int×SL))) qT v l,Kf w (o).natAbs] true (G:=SL×SL×SL) (λr=>True) (λr=> .tuple #[.agg #[.int .i64 fr,.int .i64 to,.int .i64 (o/(Ke o X Y Z)),Xi r.1,Xi r.2.1,Xi r.2.2],.bool true]) (λr=>[Ys 1 Yg (Xi r.1) (Hi X (Ke o X Y Z)),Ys 1 Yg (Xi r.2.1) (Hi Y (Ke o X Y Z)),Ys 1 Yg (Xi r.2.2) (Hi Z (Ke o X Y Z))]):=by
 refine Zg func253 ntmps253 λw0 sc u a6=>?_;have d7:=N.l;obtain⟨c4,a3,c5⟩:=e.g;have c7:=e.o;have d:=gcR_A e;have a4:gcR o X Y Z 3∣o:=by rw [d];exact a3
 have d6:0<=o/Ke o X Y Z:=Int.ediv_nonneg O O;refine go 2 ?_;refine Yk (Yt 3) λbq _=>Yk (Zy 4) λa9 _=>go 6 ?_;refine Yk (Zy 97) λP _=>go 10 ?_;refine Zf (Qy 2 98 J J J)<|lp (G:=Nat×Value) [0,1,2,7,8,10] [0,1,2,3,4] (λq=>[(11,.int .i64 (q.1:Int))]) (λq=>[(97,box P 89 #[.bool (decide (gcR o X Y Z q.1<0)),q.2]),(98,Kf q.2 (gcR o X Y Z q.1).natAbs)]) (λq=>q.1<=3) (λq=>3-q.1) (0,w) O1 K1 K2 ?_;rintro⟨i,vs⟩ hi;dsimp only at hi;dsimp only;refine go 7 ?_;refine Zc J (λQ=>?_) (λQ=>?_)
 .refine go 4 ?_;refine Zf (La 1 41 (l.getD i T0) J J (Ze) J) ?_;have h:=N.e i O;have a7:(l.getD i T0).2.length=(Zo i X Y Z).length:=by rw [<-Xk,h]
  refine Xz (λ_=>False) [(0,0),(1,0),(2,0),(3,0),(4,0),(5,1),(6,1),(7,3)]<|go 3 ?_;refine Xj J J (Xl (Zu (ii:=1) (i:=i) J J J J Zb Zd5 sizeOf47 J))<|Xj J J (Xl (Xf (ii:=1) T0 J J J Zb pT))<|Yr (Zi 5 [41] (Zeo _ _ (by rw [h];exact(e.s i).mono O2) (by have:=e.l i;omega))) λv _=>Yr (Zi 6 [98,5] (Ztd _ _ (gcR o X Y Z i) (Ym (Zr (l.getD i T0).2)) (by rw [h];exact Nat.le_trans (Zax _ (e.s i)) O2) (Nat.le_trans (Zgd e O) O2))) λa8 _=>?_;refine go 9 ⟨O,?_⟩;exact Zv (Qy 6 98 J J J)<|Yq (i+1,a8) O1 O1 K1 ⟨by rw [h];rfl,by rw [h];rfl,trivial⟩
 .obtain rfl:i=3:=O;refine go 9 ?_;refine cl 85 [2,98] (Ev _ _ o (gcR o X Y Z 3) (Nat.le_trans e.b O2) (by rw [d];omega) (Nat.le_trans (Zgd e O2) O2)) λg _=>go 8 ?_;refine Xz (λ_=>False) [(0,0),(1,1),(2,1),(3,0)]<|go 1 ?_;refine Yr (Zi 7 [] (Pt 4294967296 ⟨O2,O2⟩)) λd8 _=>Yr (Zi 7 [85,7] (Fh _ _ (o/(gcR o X Y Z 3)) 4294967296 (Nat.le_trans (Dg a4 e.b) O2))) λ_ _=>?_;refine Xj J J (Xl (dF (Za3 J J J) (vB (decide_eq_false (λh9=>absurd ((sgp _).1 h9) (by rw [d];omega))))))<|go 17 ?_;refine Zf (Qx 74 1 33 (Nq (α:=List Int)))<|Zf (Yn qC 75)<|lp (G:=Nat×Value×List (SL×List Int)) [0,1,2,7,8,10] [0,97,98,1,2,3,4,85,86,7] (λq=>[(13,.int .i64 (q.1:Int)),(12,q.2.1)]) (λq=>[(74,Oe 1 33 (Nq (α:=List Int)) q.2.1 q.2.2),(75,Lg qC q.2.2)]) (λq=>(q.1<=3)/\(q.2.2.length=q.1)/\(∀t,t<q.1->(q.2.2.getD t Z0).2=Hi (Zo t X Y Z) (Ke o X Y Z))) (λq=>3-q.1) (0,.slice none 0 0,[]) ⟨O1,rfl,λt V=>absurd V (Nat.not_lt_zero t)⟩ K2 K2 ?_;rintro⟨i,vo,cs⟩ ⟨hi,s,F⟩;dsimp only at hi s F;dsimp only;have c6:=e.l i;refine go 7 ?_;refine Zc J (λR=>?_) (λR=>?_)
  .refine go 5 ?_;refine Zf (La 1 41 (l.getD i T0) J J (Ze) J) ?_;have h:=N.e i O;have a7:(l.getD i T0).2.length=(Zo i X Y Z).length:=by rw [<-Xk,h]
   refine go 11 ?_;refine Zf (Qx 70 1 3 Yg)<|lp (G:=Nat×Value) [0,1,2,7,8,10,12,13] [0,74,75,97,98,1,2,3,4,85,86,7,41] (λq=>[(15,.int .i64 (q.1:Int)),(14,q.2)]) (λq=>[(70,Oe 1 3 Yg q.2 (((Zo i X Y Z).take q.1).map (· / (gcR o X Y Z 3))))]) (λq=>q.1<=(Zo i X Y Z).length) (λq=>(Zo i X Y Z).length-q.1) (0,.slice none 0 0) O1 K2 ⟨by rw [List.take_zero];rfl,trivial⟩ ?_;rintro⟨k,vp⟩ hk;dsimp only at hk;dsimp only;have m:((l.getD i T0).2.getD k I0).1=cf (Zo i X Y Z) k:=by rw [Mw,h]
   refine go 6 ?_;refine dt (Zu (ii:=1) (i:=i) J J J J Zb Zd5 sizeOf47 J)<|dt (Xf (ii:=1) T0 J J J Zb pT)<|go 4 ?_;refine Zc J (λS=>?_) (λS=>?_)
   .refine go 4 ?_;refine jn (G:=Value×Nat) [0,1,2,7,8,10,12,13,14,15] [0,70,74,75,97,98,1,2,3,4,85,86,7,41] (λq=>[(16,.pointer (some ⟨q.2,0,none⟩))]) (λq=>[(83,Kf q.1 (((l.getD i T0).2.getD k I0).1/(gcR o X Y Z 3)).natAbs),(95,box q.2 89 #[.bool (decide (((l.getD i T0).2.getD k I0).1/(gcR o X Y Z 3)<0)),q.1])]) (λq=>True) ?_ ?_
    .refine Nm [1,41,97] [15]<|Zh (n:=8) [(0,0),(1,0),(2,0),(3,0),(4,0),(5,0),(6,0),(7,0)]<|go 2 ?_;refine Xj J J (Bc (Zu (ii:=1) (i:=i) J J J J Zb Zd5 sizeOf47 J) K3)<|Xj J J (Bc (Xf (ii:=1) T0 J J J Zb pT) K3)<|go 1 ?_;refine Xj J J (Bc (Zu (ii:=41) (i:=k) J J J J Zb Zbe Zip J) K3)<|Xj J J (Bc (Xf (ii:=41) I0 J J J Zb pI) K3)<|go 2 ?_;refine Zc9 (n:=7) 8 12 13 ?_ ?_ ?_
     .refine Gb J (Qj (n:=83) (Ev _ _ ((l.getD i T0).2.getD k I0).1 (gcR o X Y Z 3) (by rw [m];exact Nat.le_trans (e.s i k) O2) (by rw [d];omega) (Nat.le_trans (Zgd e O2) O2)) J J J K2 Bw (Na 41 J J (Ze) (Zl 98 J J J Zs)) J u.h) (λb9 _=>?_);refine Zh (n:=4) [(9,0),(10,0),(11,0)]<|go 4 ?_;refine Qd (n:=3) 12 13 ?_ ?_
      .refine Po (Xx 95) λb0 ho=>?_;refine Zh (n:=0) [(13,1),(14,1),(15,3)]<|Yr (Xx 96) λb1 c8=>go 3 ?_;exact Zp<|Pz (_,_) trivial K1 K2
      .refine Po (Xx 96) λb2 c9=>?_;refine Zh (n:=0) [(12,1),(14,1),(15,3)]<|Yr (Xx 95) λb3 d0=>go 3 ?_;exact Zp<|Pz (_,_) trivial K1 K2
     .refine Po (Xx 95) λb4 d1=>?_;refine Qd (n:=6) 8 13 ?_ ?_
      .refine Gb J (Qj (n:=83) (Ev _ _ ((l.getD i T0).2.getD k I0).1 (gcR o X Y Z 3) (by rw [m];exact Nat.le_trans (e.s i k) O2) (by rw [d];omega) (Nat.le_trans (Zgd e O2) O2)) J J J K2 Bw (Na 41 J J (Ze) (Zl 98 J J J Zs)) J u.h) (λc0 _=>?_);refine Zh (n:=0) [(9,0),(10,0),(11,0),(13,1),(14,1),(15,3)]<|go 3 ?_;refine Yr (Xx 96) λb5 d2=>go 3 ?_;exact Zp<|Pz (_,_) trivial K1 K2
      .refine Po (Xx 96) λW d3=>?_;refine Zh (n:=0) [(8,1),(9,0),(10,0),(11,0),(14,1),(15,3)]<|Fi J (Qj (n:=83) (Ev _ _ ((l.getD i T0).2.getD k I0).1 (gcR o X Y Z 3) (by rw [m];exact Nat.le_trans (e.s i k) O2) (by rw [d];omega) (Nat.le_trans (Zgd e O2) O2)) J J J K2 Bw (Na 41 J J (Ze) (Zl 98 J J J Zs)) J u.h) λc1 _=>go 6 ?_;exact Zp<|Pz (_,_) trivial K1 K2
     .refine Po (Xx 96) λa0 d4=>?_;refine Qd (n:=6) 8 12 ?_ ?_
      .refine Gb J (Qj (n:=83) (Ev _ _ ((l.getD i T0).2.getD k I0).1 (gcR o X Y Z 3) (by rw [m];exact Nat.le_trans (e.s i k) O2) (by rw [d];omega) (Nat.le_trans (Zgd e O2) O2)) J J J K2 Bw (Na 41 J J (Ze) (Zl 98 J J J Zs)) J u.h) (λc2 _=>?_);refine Zh (n:=0) [(9,0),(10,0),(11,0),(12,1),(14,1),(15,3)]<|go 3 ?_;refine Yr (Xx 95) λa1 d5=>go 3 ?_;exact Zp<|Pz (_,_) trivial K1 K2
      .refine Po (Xx 95) λa2 b7=>?_;refine Zh (n:=0) [(8,1),(9,0),(10,0),(11,0),(14,1),(15,3)]<|Fi J (Qj (n:=83) (Ev _ _ ((l.getD i T0).2.getD k I0).1 (gcR o X Y Z 3) (by rw [m];exact Nat.le_trans (e.s i k) O2) (by rw [d];omega) (Nat.le_trans (Zgd e O2) O2)) J J J K2 Bw (Na 41 J J (Ze) (Zl 98 J J J Zs)) J u.h) λc3 _=>go 6 ?_;exact Zp<|Pz (_,_) trivial K1 K2
    .rintro⟨qv,b6⟩ -;dsimp only;refine go 3 ?_;refine cl 7 [83] (Zzc (((l.getD i T0).2.getD k I0).1/(gcR o X Y Z 3)) _ (by rw [m,d];exact e.fit a5 O k)) λ_ _=>?_;refine tt (Qb (i:=8) (ivs:=[(0,_)]) (enc:=Yg) ([((l.getD i T0).2.getD k I0).1/(gcR o X Y Z 3)]:List Int) J J K2 Pe ti3 J J J J J pZ.cells J J u.h) (λd9 _=>?_);refine tt (Pp (i:=70) (j:=8) (by_:=8) J J J J J J O2 J (Yb pZ) Pe ti3 J pZ J J J O8 O2 J u.h) (λe0 _=>?_);refine go 9 ⟨O,?_⟩;exact Yq (k+1,_) O1 O1 K2 ⟨by rw [m,<-Zt3 O];rfl,trivial⟩
   .obtain rfl:k=(Zo i X Y Z).length:=O;rw [List.take_length];refine go 13 ?_;refine Zc J (λB=>?_) (λB=>?_)
    .have H:(Zo i X Y Z).length=0:=by rw [List.length_map]at B;omega
     refine go 1 ?_;refine tt (Qb (i:=94) (ivs:=[(0,_)]) (enc:=Yg) ([0]:List Int) J J K2 Pe ti3 J J J J J pZ.cells J J u.h) λe1 _=>go 3 ?_;refine Zf (Xs 94 J J pZ)<|Zbw (Xy 94 J Zn) (λD I=>?_);subst I;refine Zf (Ox 94 (q:=Ys 1 Yg (Xi D) (Hi (Zo i X Y Z) (Ke o X Y Z))) (congrArg (Ys 1 Yg (Xi D)) (dvL_0 H).symm) J J)<|go 3 ?_;refine tt (Qb (i:=9) (ivs:=[(0,_)]) (enc:=(Nq (α:=List Int))) ([(D,(Hi (Zo i X Y Z) (Ke o X Y Z)))]:List (SL×List Int)) J J K2 Af ti33 J J J J J pC.cells J J u.h) (λe2 _=>?_);refine tt (Pp (i:=74) (j:=9) (by_:=24) J J J J J J O2 J (Yb pC) Af ti33 J pC J J J O8 O2 J u.h) (λe3 _=>?_);refine go 9 ⟨O,?_⟩;exact Zv (Zq (q:=qC) (z:=(D,(Hi (Zo i X Y Z) (Ke o X Y Z)))) 75 94 75 J J J J J)<|Yq (i+1,_,cs ++ [(D,(Hi (Zo i X Y Z) (Ke o X Y Z)))]) ⟨O1,by rw [List.length_append,s];rfl,λt V=>Zf6 (f:=λt=>Hi (Zo t X Y Z) (Ke o X Y Z)) s F rfl V⟩ O1 K2 K2
    .have H:¬(Zo i X Y Z).length=0:=by rw [List.length_map]at B;omega
     refine go 2 ?_;refine Zf (Xs 70 J J pZ)<|Zbw (Xy 70 J Zn) (λD I=>?_);subst I;refine Zf (Ox 70 (q:=Ys 1 Yg (Xi D) (Hi (Zo i X Y Z) (Ke o X Y Z))) (congrArg (Ys 1 Yg (Xi D)) (by rw [d];exact(dvL_n H).symm)) J J)<|go 3 ?_;refine tt (Qb (i:=10) (ivs:=[(0,_)]) (enc:=(Nq (α:=List Int))) ([(D,(Hi (Zo i X Y Z) (Ke o X Y Z)))]:List (SL×List Int)) J J K2 Af ti33 J J J J J pC.cells J J u.h) (λe4 _=>?_);refine tt (Pp (i:=74) (j:=10) (by_:=24) J J J J J J O2 J (Yb pC) Af ti33 J pC J J J O8 O2 J u.h) (λb8 _=>?_);refine go 9 ⟨O,?_⟩;exact Zv (Zq (q:=qC) (z:=(D,(Hi (Zo i X Y Z) (Ke o X Y Z)))) 75 70 75 J J J J J)<|Yq (i+1,_,cs ++ [(D,(Hi (Zo i X Y Z) (Ke o X Y Z)))]) ⟨O1,by rw [List.length_append,s];rfl,λt V=>Zf6 (f:=λt=>Hi (Zo t X Y Z) (Ke o X Y Z)) s F rfl V⟩ O1 K2 K2
  .obtain rfl:i=3:=O;obtain⟨s1,s2,s3,rfl⟩:=Yhp s F;refine go 6 ?_;refine Zf (Zag 75 81 (s1,Hi X (Ke o X Y Z)) J J O7 J)<|Zf (Zag 75 82 (s2,Hi Y (Ke o X Y Z)) J J O7 J)<|Zf (Zag 75 83 (s3,Hi Z (Ke o X Y Z)) J J O7 J)<|Xz (λ_=>False) [(0,0),(1,0),(2,0),(4,0),(5,0),(6,0),(7,0),(8,0),(9,0),(10,0),(11,0),(12,0),(3,1),(13,0),(14,3),(15,3)]<|go 5 ⟨O7,?_⟩;refine Xj J J (Xl (Xf (ii:=74) Z0 J J J (Yb pC) pC O7))<|go 2 ⟨O7,?_⟩;refine Xj J J (Xl (Xf (ii:=74) Z0 J J J (Yb pC) pC O7))<|go 2 ⟨O7,?_⟩;refine Xj J J (Xl (Xf (ii:=74) Z0 J J J (Yb pC) pC O7))<|Yr (Zi 10 [85] (Zzc (o/(gcR o X Y Z 3)) _ (by rw [d];omega))) λ_ _=>?_;refine Xj J J (Xl (Qq (ivs:=[(0,_),(1,_),(2,_),(3,_),(4,_),(5,_)]) J K12 (λa w hs=>Zmk ((Yf J) a w hs) ((Yf J) a w hs) ((Yf J) a w hs) ((Oj (i:=81) J Zn) a w hs) ((Oj (i:=82) J Zn) a w hs) ((Oj (i:=83) J Zn) a w hs))))<|go 5 ?_;exact Nr a6 (s1,s2,s3) results253 (by rw [d];rfl) trivial (Ob 81 (Ob 82 (Ob 83 Za)))
def Zkm(v w:Value)(zs:List (Int×SL))(y:Int)(hs:Sz 1000000 (Zr zs))(d:zs.length<=1000)(e:bl y.natAbs<=1000000):Cal Tryz.prog 79 #[v,.agg #[.bool (decide (y<0)),w]] [pp v zs,Kf w y.natAbs] true (G:=SL×List (Int×SL)) (λr=>Zr r.2=Zm (Zr zs) y) (λr=>Xi r.1) (λr=>[pp (Xi r.1) r.2]):=
 (Zcl v w zs y hs e d).toS
theorem Da(n j:Int)(k:Nat)(B:j=(k:Int))(s:Ng n)(D:k<=5):Cal prog 154 #[.int .i64 n,.int .i64 j] [] true (G:=Value) (λr=>True) (λr=> .agg #[.bool (decide (n^k<0)),r]) (λr=>[Kf r (n^k).natAbs]):=by
 refine Zg func154 ntmps154 λN H F l=>?_;have g:=Li s;have h:=λk=>Zyj g k;refine go 2 ?_;refine Yk (Zy 1) λw _=>go 4 ?_;refine cl 98 [] (Pt 1 ⟨O2,O2⟩) λv _=>Yk (Zy 97) λd _=>go 10 ?_;refine lp (G:=Nat×Value) [0,1,4,5] [0,1] (λq=>[(6,.int .i64 (q.1:Int))]) (λq=>[(97,box d 89 #[.bool (decide (n^q.1<0)),q.2]),(98,Kf q.2 (n^q.1).natAbs)]) (λq=>q.1<=k) (λq=>k-q.1) (0,_) O1 K1 ⟨by rw [Int.pow_zero];rfl,by rw [Int.pow_zero];rfl,trivial⟩ ?_;rintro⟨i,I⟩ hi;dsimp only at hi;dsimp only;have t:=h i;refine go 8 ?_;refine Zc J (λe=>?_) (λe=>?_)
 .refine go 4 ?_;refine Xz (λ_=>False) [(0,0),(1,0),(2,1),(3,1),(4,3)]<|go 2 ?_;refine Yr (Zi 2 [] (Pt n s)) λu _=>Yr (Zi 3 [98,2] (Ho _ _ (n^i) n)) λm _=>?_;refine go 9 ⟨O,?_⟩;exact Zv (Qy 3 98 J J J)<|Yq (i+1,m) O1 O1 K1 ⟨by rw [Int.pow_succ];rfl,by rw [Int.pow_succ];rfl,trivial⟩
 .obtain rfl:i=k:=O;refine go 12 ?_;exact Xu l _ results154 J trivial (Ob 98 Za)
end Go.Sky

