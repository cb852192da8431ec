/- Rules, arithmetic and contracts: part 17. No conditions but those that each theorem names. -/
import Derived.Test.YteikicbnfbgpnaaGreatEh15
set_option linter.all false
set_option maxHeartbeats 4000000
namespace Go.Sky
open Go.Proofs.Tryz
open Go.Proofs
set_option synthInstance.maxHeartbeats 0
set_option synthInstance.maxSize 100000
set_option maxRecDepth 20000
set_option linter.unusedSimpArgs false
variable{v:Value}{xs q p:List Int}
theorem Zc7{fr to b:Int}{sx sy sz:SL}{x y z:List Int}(b7:Oc fr)(b8:Oc to)(h:Oc b)(l:∀a∈x,Oc a)(m:∀a∈y,Oc a)(n:∀a∈z,Oc a):Xy prog 75 #[.agg #[.int .i64 fr,.int .i64 to,.int .i64 b,Xx sx,Xx sy,Xx sz]] [Yw 1 Yq (Xx sx) x,Yw 1 Yq (Xx sy) y,Yw 1 Yq (Xx sz) z] (.bool (Dq fr to b x y z)):=by
 refine Zg func75 ntmps75 λw0 sc w d=>?_;have Z:=Ha h;have e:=Yp2 Z;have a0:=λi k=>bl_fc l m n Z i k;have r:=λi=>a0 i 0;simp only [fB,Nq]at r;refine go 2 ?_;refine Yk (Ym 4) λbx _=>go 10 ?_;refine Xf 13 J (λa7=>?_) (λa7=>?_)
 .refine go 31 ?_;exact Xn d () results75 (by rw [Ar O1]) aA Za
 .refine go 7 ?_;refine Xf 20 J (λD=>?_) (λD=>?_)
  .refine go 24 ?_;exact Xn d () results75 (by rw [Ar O1]) aA Za
  .refine go 5 ?_;refine Xf 25 J (λF=>?_) (λF=>?_)
   .refine go 19 ?_;exact Xn d () results75 (by rw [Ar O1]) aA Za
   .refine go 5 ?_;refine Xf 30 J (λH=>?_) (λH=>?_)
    .refine go 14 ?_;exact Xn d () results75 (by rw [Ar O1]) aA Za
    .refine go 6 ?_;refine Zc J (λa3=>?_) (λa3=>?_)
     .refine go 7 ?_;exact Xn d () results75 (by rw [Ar O1]) aA Za
     .refine go 6 ?_;refine cl 98 [] (Md b h) λv _=>Yk (Zw 97) λo _=>go 3 ?_;refine jn (G:=Nat×Value) [1,3] [0,1,2,3,4,98,97] (λq=>[(4,.pointer (some ⟨q.1,0,none⟩))]) (λq=>[(95,box q.1 89 #[.bool (decide (62914560*b<0)),q.2]),(96,Oq q.2 (62914560*b).natAbs)]) (λq=>True) ?_ ?_
      .refine Lv (λ_=>False) [6]<|Zt 5 [(1,0),(2,0)]<|go 3 ?_;refine Na 4 0 5 ?_ ?_
       .refine Lh (Zj 5 [] (Md 62914560 ⟨O3,O3⟩)) λc0 _=>?_;refine Na 3 3 5 ?_ ?_
        .refine Lh (Zj 6 [] (Md b h)) λc1 _=>?_;refine Na 2 4 5 ?_ ?_
         .refine Lh (Zj 96 [5,6] (Kr 62914560 b O3)) λa9 _=>?_;refine Zt 0 [(5,1),(6,3)]<|Xe (Zw 95) λP _=>go 2 ?_;exact Yl<|Nb (P,a9) aA K1 K2
         .refine Lh (Zw 95) λQ _=>?_;refine Zt 0 [(4,1),(6,3)]<|Xe (Zj 96 [5,6] (Kr 62914560 b O3)) λb0 _=>go 2 ?_;exact Yl<|Nb (Q,b0) aA K1 K2
        .refine Lh (Zw 95) λR _=>?_;refine Zt 0 [(3,1),(4,1),(6,3)]<|Xe (Zj 7 [] (Md b h)) λc2 _=>Xe (Zj 96 [5,7] (Kr 62914560 b O3)) λb1 _=>go 2 ?_;exact Yl<|Nb (R,b1) aA K1 K2
       .refine Lh (Zw 95) λS _=>?_;refine Zt 0 [(0,1),(3,1),(4,1),(6,3)]<|Xe (Zj 8 [] (Md 62914560 ⟨O3,O3⟩)) λc3 _=>Xe (Zj 9 [] (Md b h)) λc4 _=>Xe (Zj 96 [8,9] (Kr 62914560 b O3)) λa1 _=>go 2 ?_;exact Yl<|Nb (S,a1) aA K1 K2
      .rintro⟨b9,vm⟩ -;dsimp only;refine go 3 ?_;refine cl 10 [1,2,3] Zei λb2 _=>go 10 ?_;refine lp (G:=Nat×Value) [3,4,5] [0,95,96,1,2,3,4,10] (λq=>[(6,.int .i64 (q.1:Int))]) (λq=>[(97,box o 89 #[.bool (decide ((Nq b (Nr q.1 x y z))<0)),q.2]),(98,Oq q.2 ((Nq b (Nr q.1 x y z))).natAbs)]) (λq=>(q.1<=3)/\(∀k,k<q.1->axB (Zo k x y z) b=true)) (λq=>3-q.1) (0,_) ⟨O2,λk hk=>absurd hk (bZ k)⟩ ⟨J,aA⟩ ⟨J,J,aA⟩ ?_;rintro⟨i,vs⟩ ⟨hi,t⟩;dsimp only at hi t;dsimp only;refine go 7 ?_;refine Zc J (λa4=>?_) (λa4=>?_)
       .refine go 5 ?_;refine Zh (Gd 10 40 ([(sx,x),(sy,y),(sz,z)].getD i C0) J J (Ze (show i<3 by omega)) J)<|Zh (On 40 (q:=Yw 1 Yq (Xx ([(sx,x),(sy,y),(sz,z)].getD i C0).1) (Zo i x y z)) (aL (Yw 1 Yq _) (Zvl O1)) J J)<|go 3 ?_;refine dt (Zq 10 i J J J J Zd Zr7 Zd5 J (show i<3 by omega))<|dt (Xw 10 C0 J J J Zd pC (show i<3 by omega))<|go 4 ?_;refine jn (G:=Bool) [3,4,5,6,7] [0,97,98,95,96,1,2,3,4,10,40] (λN=>[(74,.bool N)]) (λN=>[]) (λN=>N=axc (Zo i x y z)) ?_ ?_
        .refine go 5 ?_;refine Xf 56 J (λa8=>?_) (λa8=>?_)
         .refine go 19 ?_;exact Nb _ (by first|exact Yb0 O1|exact Ybz O1|exact Yby O1 O1 O1|exact Ybx O1 O1 O1) K1 aA
         .refine go 5 ?_;refine Xf 61 J (λI=>?_) (λI=>?_)
          .refine go 14 ?_;exact Nb _ (by first|exact Yb0 O1|exact Ybz O1|exact Yby O1 O1 O1|exact Ybx O1 O1 O1) K1 aA
          .refine go 4 ?_;refine Xf 65 J (λM=>?_) (λM=>?_)
           .refine go 4 ⟨O1,?_⟩;refine Kl (Zq 40 ((Zo i x y z).length-1) J J J J Zl Pf Ly) J J<|go 5 ⟨O1,?_⟩;exact Nb _ (by first|exact Yb0 O1|exact Ybz O1|exact Yby O1 O1 O1|exact Ybx O1 O1 O1) K1 aA
           .refine go 10 ?_;exact Nb _ (by first|exact Yb0 O1|exact Ybz O1|exact Yby O1 O1 O1|exact Ybx O1 O1 O1) K1 aA
        .rintro N Y;refine Nh J (λW=>?_) (λW=>?_)
         .refine go 12 ?_;exact Xn d () results75 (by rw [Zb8 i (axc_t Y ‹_›)]) aA Za
         .obtain⟨j1,j2,j3⟩:=axc_f Y W;refine go 5 ?_;refine cl 11 [40] (Zpc (Zo i x y z) (Kk l m n i) O1 O1) λg hg=>go 4 ?_;have a6:=aL List.length hg;rw [Lf,Yp]at a6;refine go 5 ?_;refine lp (G:=Nat×Value) [3,4,5,6,7,8] [0,95,96,1,2,3,4,10,40,11] (λq=>[(9,.int .i64 (q.1:Int))]) (λq=>[(97,box o 89 #[.bool (decide ((Nq (Nq b (Nr i x y z)) ((Zo i x y z).take q.1))<0)),q.2]),(98,Oq q.2 ((Nq (Nq b (Nr i x y z)) ((Zo i x y z).take q.1))).natAbs)]) (λq=>(q.1<=(Zo i x y z).length)/\(∀j,j<q.1->((ctl (Zo i x y z) j (j+1)).natAbs:Int)<=(62914560*b))) (λq=>(Zo i x y z).length-q.1) (0,_) ⟨O2,λj hj=>absurd hj (bZ j)⟩ ⟨J,aA⟩ ⟨J,J,aA⟩ ?_;rintro⟨k,vs⟩ ⟨hk,B⟩;dsimp only at hk B;dsimp only;refine go 9 ?_;refine Zc J (λa5=>?_) (λa5=>?_)
          .refine go 5 ?_;refine Xu (λ_=>False) [(0,0),(1,0),(2,0),(3,0),(4,0),(5,1),(6,1),(7,3)]<|go 3 ?_;refine Xg J J (Xd (Zq 40 k J J J J Zl Pf Ly J))<|go 1 ⟨O4,?_⟩;refine Xe (Zj 12 [] (Md ((Zo i x y z).getD k 0) (La (Kk l m n i) k))) λb3 _=>Xe (Zj 13 [98,12] (Ygr (Nq (Nq b (Nr i x y z)) ((Zo i x y z).take k)) ((Zo i x y z).getD k 0) (aB (Ha (La (Kk l m n i) k)) O3) (aB (a0 i k) O3))) λa2 _=>go 4 ?_;rcases Yo5 (ctl (Zo i x y z) k (k+1)) (62914560*b)with f|⟨f,u⟩|⟨f,u⟩
           .have c:(g.2.getD k I0).1=(ctl (Zo i x y z) k (k+1)):=by rw [Gp,hg,Nk,aK O1]
            refine Xu (λ_=>False) [(0,0),(1,0),(2,0),(3,0),(4,0),(5,1),(6,0),(7,0),(8,2),(9,2),(10,2),(11,2),(12,2),(13,2),(14,2),(15,2),(16,0)]<|go 2 ?_;refine Xg J J (Xd (Zq 11 k J J J J Zd Zgx Zoj J))<|Xg J J (Xd (Xw 11 I0 J J J Zd pI))<|go 1 ?_;refine Dg J (Pg 13 (Er (62914560*b) (by rw [c];exact aB (Zcx (Kk l m n i) O1 O1) O3) (aB e O3)) J J J K2 call72 (Hf 11 J J (Ze (i:=k)) (Zk 96 J J J Zr)) J w.h) (λ_ _=>?_);refine Xg J J (Xd (dT (Zcr J J J) (vB (aJ (by rw [c,Zv1];exact f)))))<|go 28 ?_;exact Xn d () results75 (by rw [Zb8 i (Zmi λh1 h2 h3 V=>by rw [Zxu k O1 O1]at V;cases V)]) aA Za
           .have c:(g.2.getD k I0).1=(ctl (Zo i x y z) k (k+1)):=by rw [Gp,hg,Nk,aK O1]
            refine Xu (λ_=>False) [(0,0),(1,0),(2,0),(3,0),(4,0),(5,1),(6,0),(7,0),(8,0),(9,0),(10,0),(11,0),(12,0),(13,1),(14,1),(15,0),(16,0)]<|go 2 ?_;refine Xg J J (Xd (Zq 11 k J J J J Zd Zgx Zoj J))<|Xg J J (Xd (Xw 11 I0 J J J Zd pI))<|go 1 ?_;refine Dg J (Pg 13 (Er (62914560*b) (by rw [c];exact aB (Zcx (Kk l m n i) O1 O1) O3) (aB e O3)) J J J K2 call72 (Hf 11 J J (Ze (i:=k)) (Zk 96 J J J Zr)) J w.h) (λ_ _=>?_);refine Xg J J (Xd (dF (Zcr J J J) (vB (aE (by rw [c,Zv1];exact f)))))<|go 3 ?_;refine Fl (Xd (Zq 11 k J J J J Zd Zgx Zoj J)) J J J J J<|Fl (Xd (Xw 11 I0 J J J Zd pI)) J J J J J<|go 1 ?_;refine Zeh J J J J J (Pg 14 (Zzg (62914560*b) (aB e O3)) J J J K1 call144 (Zk 96 J J J Zr) J w.h) (λb4 _=>?_);refine Zeh J J J J J (Pg 14 (Er (-(62914560*b)) (by rw [c];exact aB (Zcx (Kk l m n i) O1 O1) O3) (by rw [eI];exact aB e O3)) J J J K2 call72 (Hf 11 J J (Ze (i:=k)) (Zk 14 J J J Zr)) J w.h) (λ_ _=>?_);refine Fl (Xd (dT (Yj1 J J J) (vB (aJ (by rw [c,Yft];exact u))))) J J J J J<|go 19 ?_;exact Xn d () results75 (by rw [Zb8 i (Zmi λh1 h2 h3 V=>by rw [Zxu k O1 O1]at V;cases V)]) aA Za
           .have c:(g.2.getD k I0).1=(ctl (Zo i x y z) k (k+1)):=by rw [Gp,hg,Nk,aK O1]
            refine Xu (λ_=>False) [(0,0),(1,0),(2,0),(3,0),(4,0),(5,1),(6,0),(7,0),(8,0),(9,0),(10,0),(11,0),(12,0),(13,1),(14,1),(15,0),(16,0)]<|go 2 ?_;refine Xg J J (Xd (Zq 11 k J J J J Zd Zgx Zoj J))<|Xg J J (Xd (Xw 11 I0 J J J Zd pI))<|go 1 ?_;refine Dg J (Pg 14 (Er (62914560*b) (by rw [c];exact aB (Zcx (Kk l m n i) O1 O1) O3) (aB e O3)) J J J K2 call72 (Hf 11 J J (Ze (i:=k)) (Zk 96 J J J Zr)) J w.h) (λ_ _=>?_);refine Xg J J (Xd (dF (Zcr J J J) (vB (aE (by rw [c,Zv1];exact f)))))<|go 3 ?_;refine Fl (Xd (Zq 11 k J J J J Zd Zgx Zoj J)) J J J J J<|Fl (Xd (Xw 11 I0 J J J Zd pI)) J J J J J<|go 1 ?_;refine Zeh J J J J J (Pg 15 (Zzg (62914560*b) (aB e O3)) J J J K1 call144 (Zk 96 J J J Zr) J w.h) (λb5 _=>?_);refine Zeh J J J J J (Pg 15 (Er (-(62914560*b)) (by rw [c];exact aB (Zcx (Kk l m n i) O1 O1) O3) (by rw [eI];exact aB e O3)) J J J K2 call72 (Hf 11 J J (Ze (i:=k)) (Zk 15 J J J Zr)) J w.h) (λ_ _=>?_);refine Fl (Xd (dF (Yj1 J J J) (vB (aE (by rw [c,Yft];exact u))))) J J J J J<|go 12 ⟨O1,?_⟩;exact Zv (Qz 13 98 J J J)<|Yu (k+1,a2) ⟨O2,λj hj=>by rcases bM.1 hj with s|s;exact B j s;subst s;omega⟩ O2 K1 ⟨by rw [Zaq O1];rfl,by rw [Zaq O1];rfl,aA⟩
          .obtain rfl:k=(Zo i x y z).length:=O1;rw [bO];refine go 11 ⟨O1,?_⟩;exact Zv (Qz 98 98 J J J)<|Yu (i+1,vs) ⟨O2,λk hk=>by rcases bM.1 hk with s|s;exact t k s;subst s;exact Yb1 j1 j2 j3 (Zxt λj hj=>by have:=B j hj;omega)⟩ O2 K1 ⟨by rw [Dw x y z O1,Hk];rfl,by rw [Dw x y z O1,Hk];rfl,aA⟩
       .obtain rfl:i=3:=O1;refine go 6 ?_;refine Xu (λ_=>False) [(0,0),(1,1),(2,1),(3,0),(4,3)]<|go 1 ?_;refine Xe (Zj 16 [] (Md 1 ⟨O3,O3⟩)) λb6 _=>Xe (Zj 16 [98,16] (Er (x:=Nq b (Nr 3 x y z)) 1 (aB (r _) O3))) λ_ _=>go 5 ?_;exact Xn d () results75 (by rw [Yf4 O1 t];exact vB (bR.2 (by rw [fQ];omega))) aA Za
theorem Ygu(l:List Int)(j:∀x∈l,Oc x)(k:l.length<=1000):Cal prog 145 #[v] [Yw 1 Yq v l] true (G:=Value×List (Int×SL)) (λr=>Xt r.2=tzl l) (λr=>r.1) (λr=>[pp r.1 r.2]):=by
 refine Zg func145 ntmps145 λD y m d=>?_;have f:=Zi1 j;refine go 17 ?_;refine Zh (Pt 70 2 89 Zbk)<|Zh (Xi qI 71)<|lp (G:=Nat×Value×List (Int×SL)) [0] [0,1] (λq=>[(4,.int .i64 (q.1:Int)),(3,q.2.1)]) (λq=>[(70,Pz 2 89 Zbk q.2.1 q.2.2),(71,Ib qI q.2.2)]) (λq=>(q.1<=l.length)/\(Xt q.2.2=mk q.1 (cf l))/\(q.2.2.length=q.1)) (λq=>l.length-q.1) (0,.slice none 0 0,[]) ⟨O2,rfl,rfl⟩ K2 K2 ?_;rintro⟨i,B,u⟩ ⟨hi,b,a⟩;dsimp only at hi b a;dsimp only;refine go 9 ?_;refine Zc J (λc=>?_) (λc=>?_)
 .refine go 8 ?_;refine dt (Zq 1 i J J J J Zl Pf Ly J)<|go 1 ⟨O1,?_⟩;refine cl 2 [] (Md _ (j _ Ze)) λv _=>?_;refine Zp8 (Qp 2 J Zl) (λh e=>?_);subst e;refine tt (Qs [(0,_)] 3 (enc:=Zbk) [(l.getD i 0,h)] J J K2 Yce ti89 J J J J J pI.cells J J m.h) (λo _=>?_);refine tt (My 70 3 32 J J J J J J O3 J (Zy pI) Yce ti89 J pI J J J O9 O3 J m.h) (λs _=>?_);refine go 9 ⟨O1,?_⟩;exact Zv (Yh (q:=qI) (z:=(l.getD i 0,h)) 71 2 71 J J J J J)<|Yu (i+1,_,u ++ [(l.getD i 0,h)]) ⟨O2,by rw [Zao,Zdg,b];dsimp only;rfl,by simp [a]⟩ O2 K2 K2
 .refine go 6 ?_;refine Zh (Qj 70 J J pI)<|Zh (Ph 70 71 72 J J J J)<|go 2 ?_;refine cl 4 [72] (Zy9 (by rw [b];exact Zcf λt w=>by have:=f t;omega)) λg n=>go 4 ?_;exact Xn d _ results145 J (by rw [n,b,show i=l.length by omega,Zbd]) (Oi 4 Za)
def Em(a b k:Int):List Int:=if b-a=0\/k=2 then [a]else if k=1 then [a,b-a]else [a,0,0,10*(b-a),-15*(b-a),6*(b-a)]
def tmL_0 (a:Int)(b:Int)(k:Int)(h:b-a=0\/k=2):Em a b k=[a]:=aK h
def tmL_1{a b k:Int}(h:¬(b-a=0\/k=2))(c:k=1):Em a b k=[a,b-a]:=(aH h).trans (aK c)
def tmL_2{a b k:Int}(h:¬(b-a=0\/k=2))(c:k≠1):Em a b k=[a,0,0,10*(b-a),-15*(b-a),6*(b-a)]:=(aH h).trans (aH c)
def lineG(k:Int)(s:SL×SL×SL):Zf:=((0,1000,1),(s.1,Em 0 300 k),(s.2.1,Em 0 400 k),(s.2.2,Em 0 0 k))
def stayG(s:SL×SL×SL):Zf:=((1000,2000,1),(s.1,Em 0 0 2),(s.2.1,Em 0 0 2),(s.2.2,Em 0 0 2))
theorem Oe{l:List Int}(h:l.all (λa=>decide (-9223372036854775808<=a/\a<=9223372036854775807))=true):∀a∈l,Oc a:=λa b=>by have:=cI.1 h a b;simp only [cK]at this;exact this
def legZ(b c d e a f k:Int)(s:SL×SL×SL):Zf:=((0,1000,1),(s.1,Em b e k),(s.2.1,Em c a k),(s.2.2,Em d f k))
abbrev TzT:=SL×List (Int×SL)
def sqF(b a:Int)(x y z c d e:List Int)(i:Nat):List Int:=sqP (Zo i x y z) (Zo i c d e) b a
def sqR(b a:Int)(x y z c d e:List Int):Nat->List (List Int)
 | 0=>[]
 | i+1=>sqR b a x y z c d e i ++ [sqF b a x y z c d e i]
def ovW(b a:Int):Int:=b*a*(b*a)
def rfL(g f b a:Int)(x y z c d e:List Int):List Int:=Ax (Zm (Ax (sqF b a x y z c d e 0) (sqF b a x y z c d e 1)) (f*f)) (Zm (sqF b a x y z c d e 2) (g*g))
def rfW(b c d a:Int):Int:=b*b*(c*c)*ovW d a
def rfZ(g h c b a:Int)(x y z d e f:List Int):List Int:=Aw (rfL h c b a x y z d e f) (tzl [rfW g c b a])
structure RfX (zd zn ze ov ov2:Int) (x y z x2 y2 z2:List Int):Prop where
 v0:∀i,Vp (sqF ov ov2 x y z x2 y2 z2 i)
 v1:Vp (Ax (sqF ov ov2 x y z x2 y2 z2 0) (sqF ov ov2 x y z x2 y2 z2 1))
 v2:Vp (Zm (Ax (sqF ov ov2 x y z x2 y2 z2 0) (sqF ov ov2 x y z x2 y2 z2 1)) (ze*ze))
 v3:Vp (Zm (sqF ov ov2 x y z x2 y2 z2 2) (zn*zn))
 v4:Vp (rfL zn ze ov ov2 x y z x2 y2 z2)
 v5:Vp (tzl [rfW zd ze ov ov2])
 v6:Vp (rfZ zd zn ze ov ov2 x y z x2 y2 z2)
 wb:bl (rfW zd ze ov ov2).natAbs<=1000000
 ob:bl (ov*ov2).natAbs<=1000
 oW:bl (ovW ov ov2).natAbs<=1000
 eb:bl (ze*ze).natAbs<=1000
 nb:bl (zn*zn).natAbs<=1000
 db:bl (zd*zd).natAbs<=1000
 xb:bl (zd*zd*(ze*ze)).natAbs<=1000
def tpI(n k:Nat):Nat:=n/1000000000^k
def gcR(o:Int)(X Y Z:List Int):Nat->Int
 | 0=>o
 | i+1=>(Int.gcd (gcR o X Y Z i) (Yz (Zo i X Y Z)):Int)
structure Row3 (ws:List TzT) (X Y Z:List Int):Prop where
 l:ws.length=3
 e:∀i,i<3->Xt (ws.getD i T0).2=Zo i X Y Z
def segY(fr a:Int)(g:Zf)(r:SL×SL×SL):Zf:=((cA fr g,cB a g,cO g/cG fr a g),(r.1,Dy (cX fr a g g.2.1.2) (cG fr a g)),(r.2.1,Dy (cX fr a g g.2.2.1.2) (cG fr a g)),(r.2.2,Dy (cX fr a g g.2.2.2.2) (cG fr a g)))
theorem Et{ps:List Zf}(c:1<=ps.length):Xy prog 54 #[v] [Xp 6 Xv qG v ps] (.int .i64 (Ep ps)):=by refine Zg func54 ntmps54 λf e d a=>?_;refine Of (Ir (i:=1) J Zd) (λb=>?_);refine go 9 ⟨O1,?_⟩;refine dt (Nt 1 J J J Zd Dn J Ly J)<|dt (Ms 1 G0 J J J Zd iA3 J)<|go 4 ?_;exact Xn a () results54 J aA Za
theorem Zfr{ps:List Zf}(c:1<=ps.length):Xy prog 53 #[v] [Xp 6 Xv qG v ps] (.int .i64 (Bc ps)):=by refine Zg func53 ntmps53 λf e d a=>?_;refine Of (Ir (i:=1) J Zd) (λb=>?_);refine go 11 ⟨O1,?_⟩;refine dt (Zq 1 (ps.length-1) J J J J Zd Hs Fk)<|dt (Nt 1 J J J Zd Dn J Ly J)<|dt (Ms 1 G0 J J J Zd iA3 J)<|go 4 ?_;exact Xn a () results53 J aA Za
structure RI (xs q:List Int):Prop where
 v:Vp q
 ne:q≠[]
 s:Sz 220 q
 l:q.length<=11
 d:Dp xs (Xb q)
def RI.start(h:Cvd xs)(a:xs≠[]):RI xs xs:=⟨h.v,a,h.s.mono O1,h.l,Dp.start h.v.tr a⟩
theorem Ye3{n:Nat}{e:Int}(a:e=1\/e=-1)(h:Sz n q):Sz n (Zm q e):=λi=>by
 rw [Xk];have:=h i;rcases a with rfl|rfl
 .rw [gD];exact this
 .rw [Int.mul_neg_one,eI];exact this
theorem RI.step(h:Cvd xs)(n:xs≠[])(b:RI xs q) :
  Tr (sqf 13 q)/\Qx (sqf 13 q)<=235/\(sqf 13 q).length<=11/\0<(sqf 13 q).length/\Yz q≠0/\Sz 220 (Zm (Zx q) 1)/\Tr (Zm (Zx q) 1)/\(Zm (Zx q) 1).length=q.length/\pdv (Zm (Zx q) 1) (sqf 13 q)/\
  Vp (Mo 13 q)/\Mo 13 q≠[]/\Sz 220 (Mo 13 q)/\(Mo 13 q).length<=11/\Yz (Mo 13 q)≠0/\Zx (Mo 13 q)=Mo 13 q/\
  Tr (sqf 13 (Mo 13 q))/\Qx (sqf 13 (Mo 13 q))<=235/\(sqf 13 (Mo 13 q)).length<=11/\0<(sqf 13 (Mo 13 q)).length/\pdv (sqf 13 q) (sqf 13 (Mo 13 q))/\Sz 600 (Ks (sqf 13 q) (sqf 13 (Mo 13 q)))/\(Ks (sqf 13 q) (sqf 13 (Mo 13 q))).length<=11/\
  pdv (Mo 13 q) (sqf 13 (Mo 13 q))/\RI xs (Zbt 13 q)/\((sqf 13 q).length≠1->(Zbt 13 q).length<q.length):=by
 have hl:=h.l;have o:=b.d;have d:=(o.ok h.v.tr n h.s O1 O1 (show xs.length<=13+1 by omega)).2;have m:Ea 13 q:=by unfold Ea at d ⊢;rwa [o.2.2.1]at d
 have f:=o.next d;have G:Pq 13 (Xb q)=Pq 13 q:=Zjg o.2.2.1;have N:sqf 13 (Xb q)=sqf 13 q:=Dd o.2.2.1;rw [G]at f;have a:=(f.ok h.v.tr n h.s O1 O1 (show xs.length<=13+1 by omega)).2;have w:=f.next a;obtain⟨⟨e,F,r1,r2,r3,r4,r5,Z⟩,r7,r8,r9,x,Q,R⟩:=Zkp b.v.tr b.ne m a;obtain⟨-,-,-,-,-,-,-,-,-,-,-,g,j,y,-,k,-,-⟩:=Zc6 h n o;obtain⟨-,-,-,-,-,-,-,-,-,-,-,l,z,B,-,r,a0,-⟩:=Zc6 h n f;rw [N]at g j y k;have M:sqf 13 (Mo 13 q)=sqf 13 (Pq 13 q):=Dd (by rw [r7,f.2.2.1]);obtain⟨g1,g2⟩:=Zgh h n f;obtain⟨g3,g4⟩:=Zgh h n w;have e0:e≠0:=by rcases F with rfl|rfl<;>decide
 have s:Sz 220 (Mo 13 q):=by rw [r3];exact Ye3 F g1
 have D:(Mo 13 q).length<=11:=by rw [r3];have:=Mw (p:=Pq 13 q) (c:=e);omega
 have t:Vp (Mo 13 q):=⟨s.mono O1,r9,O1⟩;have u:Sz 220 (Zbt 13 q):=by rw [Z];exact Ye3 F g3
 have a1:(Zbt 13 q).length<=(Pq 13 (Pq 13 q)).length:=by rw [Z];exact Mw (c:=e)
 obtain⟨o1,V,W,Y⟩:=Ds b.v.tr b.ne m a;have hK:fcs 0 13<=2^15*2^15:=O6;have I:=Ew 13 24 W l.tr j k g.tr O1 O3 hK V;have H:=Oj W l.tr Y r;rw [<-V]at H;have lb:=aG.2 r;have la:=aG.2 k;have lo:=aG.2 Y;have S:Zm (Zx q) 1=Zx q:=by refine(Qf).ext (Yy b.v.tr) λi=>?_;rw [Xk,gD]
 have hx:=Qr b.v.tr b.ne m;have P:=Qr f.1 f.2.1 a;rw [M];refine⟨g.tr,Pu j,O1,la,b.v.ne b.ne,by rw [S];exact Fm b.s,Qf,by rw [S,Zz],by rw [r1];exact r2,t,x,s,D,t.ne x,r4,l.tr,Pu z,B,lb,o1,I.mono O1,?_,r5,⟨⟨u.mono O1,Q,O1⟩,R,u,O1,by rw [r8];exact w⟩,λa2=>?_⟩
 .show(Cc 13 q).length<=11;omega
 .have h1:=hx.2.2.2.2;have h2:=P.2.2.2.2;omega
theorem Yhb{F n:Nat}(w:Tr p)(r:p≠[])(hs:Sz n p)(u:n<=220)(t:p.length<=11)(s:p.length<=F+1):∀(f:Nat) (q:List Int),Dp p q->q.length<=f->∃a:List Int,Tr a/\q=Qn a (Dz F f q):=by
 intro f
 induction f with
 | zero=>intro q b k;have:=aG.2 b.2.1;omega
 | succ f M=>
  intro q b k;have c:=(b.ok w r hs u t s).2;have e:=b.next c;have d:=(e.ok w r hs u t s).2;have j:=e.next d;unfold Dz;by_cases h:(sqf F q).length=1
  .rw [aK h];obtain⟨R,V,s3⟩:=Zfc b.1 b.2.1 c h;refine⟨[1],.inr (show cf [1] 0≠0 by decide),b.1.ext Qb λi=>Om (λx=>?_) i⟩;rw [Yf,R,Yno b.1 b.2.2.1 V,Pb];push_cast;grind
  .rw [aH h];have N:2<=q.length:=by obtain⟨f1,f2,f3,f4,f5,f6⟩:=Og F b.1 b.2.1 c;obtain⟨y,l,m,g,z⟩:=Qr b.1 b.2.1 c;have l1:=aG.2 f3;have l2:=aG.2 l;omega
   have P:=Zll b.1 b.2.1 c N;obtain⟨y,l,m,g,z⟩:=Qr b.1 b.2.1 c;obtain⟨W,Y,Z,o,b5⟩:=Qr e.1 e.2.1 d;obtain⟨-,t2,t3,-,-,-⟩:=Og F e.1 e.2.1 d;have lb:=aG.2 t3;obtain⟨A,hA,I⟩:=M _ j O1;obtain⟨-,Q,o3,o4⟩:=Ds b.1 b.2.1 c d;rw [b.2.2.1]at g;rw [m]at o;refine⟨Qn (Qn (sqf F (Pq F q)) (sqf F (Pq F q))) A,Qb,b.1.ext Qb λi=>Om (λx=>?_) i⟩;have B:Zb q x=Zb (sqf F q) x*Zb (Pq F q) x:=by rw [<-Yf,<-g]
   have D:Zb (sqf F q) x=Zb (Cc F q) x*Zb (sqf F (Pq F q)) x:=by rw [<-Yf,<-Q]
   have G:Zb (Pq F q) x=Zb (sqf F (Pq F q)) x*Zb (Pq F (Pq F q)) x:=by rw [<-Yf,<-o]
   have H:Zb (Pq F (Pq F q)) x=Zb A x*Zb (Dz F f (Pq F (Pq F q))) x:=by rw [<-Yf,<-I]
   rw [Yf,Yf,Yf,Yf,B,D,G,H];show _=_*(Zb (Cc F q) x*_);generalize Zb (sqf F (Pq F q)) x=S;grind
theorem RI.size(h:Cvd xs)(d:xs≠[])(b:RI xs q){f:Nat}(w:q.length<=f):Tr (Zv8 13 f q)/\Sz 460 (Zv8 13 f q)/\(Zv8 13 f q).length<=11:=by
 have x:=h.l;have a:=b.d;have e:Zv8 13 f q=Dz 13 f (Xb q):=by rw [Ym1 h.v.tr d h.s O1 O1 O1 f q b.v.tr b.ne a];exact Ztd a.2.2.1.symm f
 have s:=Pj b.v.tr;have r:=b.l;obtain⟨A,m,g⟩:=Yhb h.v.tr d h.s O1 O1 (show xs.length<=13+1 by omega) f (Xb q) a O1;obtain⟨n,u⟩:=Zgh h d a;have c:=(a.ok h.v.tr d h.s O1 O1 (show xs.length<=13+1 by omega)).2;have k:=Zpi xs (F:=13) (f:=f) a.1 a.2.1 c;rw [e];have o:fcs 0 13<=2^15*2^15:=O6;have t:Dz 13 f (Xb q)≠[]:=λi=>a.2.1 (by rw [g,i,Zbb]);have l:A≠[]:=λi=>a.2.1 (by rw [g,i,Gy]);have j:=Oj m k l t;rw [<-g]at j;have:=aG.2 l;exact⟨k,(Ew 13 24 k m n a.2.1 a.1 O1 O3 o (by rw [Cv];exact g)).mono O1,O1⟩
theorem Zhb(a b k:Int)(n:-4194304<=a/\a<=4194304)(o:-4194304<=b/\b<=4194304):Cal prog 125 #[.int .i64 a,.int .i64 b,.int .i64 k] [] true (G:=SL) (λr=>True) (λr=>Xx r) (λr=>[Yw 1 Yq (Xx r) (Em a b k)]):=by
 refine Zg func125 ntmps125 λt s f e=>?_;refine go 19 ⟨O1,?_⟩;refine Xf 13 J (λi=>?_) (λi=>?_)
 .refine go 9 ?_;refine tt (Qs [(0,_)] 1 (enc:=Yq) ([a]:List Int) J J K2 Pf ti3 J J J J J pZ.cells J J f.h) λv _=>go 5 ?_;refine Zv (Qj 1 J J pZ)<|Zrv (Qp 1 J Zl) (λd c=>?_);subst c;exact Xn e d results125 J aA (Oi 1 Za (aL (Yw 1 Yq (Xx d)) (tmL_0 a b k O1).symm))
 .refine go 5 ?_;refine Zc J (λg=>?_) (λg=>?_)
  .refine go 3 ?_;refine tt (Qs [(0,_)] 2 (enc:=Yq) ([a]:List Int) J J K2 Pf ti3 J J J J J pZ.cells J J f.h) λj _=>go 5 ?_;refine Zv (Qj 2 J J pZ)<|Zrv (Qp 2 J Zl) (λd c=>?_);subst c;exact Xn e d results125 J aA (Oi 2 Za (aL (Yw 1 Yq (Xx d)) (tmL_0 a b k O1).symm))
  .refine go 9 ?_;refine Zc J (λh=>?_) (λh=>?_)
   .refine go 4 ?_;refine tt (Qs [(0,_),(1,_)] 3 (enc:=Yq) ([a,b-a]:List Int) J J K4 Pf ti3 J J J J J pZ.cells J J f.h) λl _=>go 5 ?_;refine Zv (Qj 3 J J pZ)<|Zrv (Qp 3 J Zl) (λd c=>?_);subst c;exact Xn e d results125 J aA (Oi 3 Za (aL (Yw 1 Yq (Xx d)) (tmL_1 (a:=a) (b:=b) (k:=k) O1 O1).symm))
   .refine go 11 ⟨O1,O1,O1,?_⟩;refine tt (Qs [(0,_),(1,_),(2,_),(3,_),(4,_),(5,_)] 4 (enc:=Yq) ([a,0,0,10*(b-a),-15*(b-a),6*(b-a)]:List Int) J J K12 Pf ti3 J J J J J pZ.cells J J f.h) λm _=>go 4 ?_;refine Zv (Qj 4 J J pZ)<|Zrv (Qp 4 J Zl) (λd c=>?_);subst c;exact Xn e d results125 J aA (Oi 4 Za (aL (Yw 1 Yq (Xx d)) (tmL_2 (a:=a) (b:=b) (k:=k) O1 O1).symm))
theorem Zpb(c d e f b g fr y k:Int)(l:-4194304<=c/\c<=4194304)(m:-4194304<=d/\d<=4194304)(n:-4194304<=e/\e<=4194304)(o:-4194304<=f/\f<=4194304)(h:-4194304<=b/\b<=4194304)(s:-4194304<=g/\g<=4194304):Cal prog 68 #[.agg #[.int .i64 c,.int .i64 d,.int .i64 e],.agg #[.int .i64 f,.int .i64 b,.int .i64 g],.int .i64 fr,.int .i64 y,.int .i64 k] [] true (G:=SL×SL×SL) (λr=>True) (λr=> .agg #[.int .i64 fr,.int .i64 y,.int .i64 1,Xx r.1,Xx r.2.1,Xx r.2.2]) (λr=>[Yw 1 Yq (Xx r.1) (Em c f k),Yw 1 Yq (Xx r.2.1) (Em d b k),Yw 1 Yq (Xx r.2.2) (Em e g k)]):=by refine Zg func68 ntmps68 λF D B t=>go 2 ?_;refine Yk (Ym 1) λbq _=>Yk (Ym 2) λu _=>Yk (Zw 3) λx _=>go 3 ?_;refine Xu (λ_=>False) [(0,0),(1,0),(2,0),(3,0),(4,0),(5,0),(6,0),(8,0),(9,0),(10,0),(11,0),(12,0),(14,0),(15,0),(16,0),(17,0),(18,0),(7,1),(13,1),(19,1),(20,0),(21,3)]<|go 17 ?_;refine Xe (Zj 4 [] (Zhb c f k l o)) λz _=>Xe (Zj 5 [] (Zhb d b k m h)) λi _=>Xe (Zj 6 [] (Zhb e g k n s)) λj _=>?_;refine Xg J J (Xd (Qa [(0,_),(1,_),(2,_),(3,_),(4,_),(5,_)] J K12 (λa w hs=>Zx0 ((Yi J) a w hs) ((Yi J) a w hs) ((Yi J) a w hs) ((Ob 4 J Zl) a w hs) ((Ob 5 J Zl) a w hs) ((Ob 6 J Zl) a w hs))))<|go 4 ?_;exact Xn t (z,i,j) results68 J aA (Oi 4 (Oi 5 (Oi 6 Za)))
@[reducible,instance] def encCI:EncT prog 33 1 (Ij (α:=List Int)):=⟨pC⟩
theorem Zhc(n j:Int)(k:Nat)(o:j=(k:Int))(g:Oc n)(s:k<=5):Cal prog 154 #[.int .i64 n,.int .i64 j] [] true (G:=Value) (λr=>True) (λr=> .agg #[.bool (decide (n^k<0)),r]) (λr=>[Oq r (n^k).natAbs]):=by
 refine Zg func154 ntmps154 λx u t e=>?_;have c:=Ha g;have d:=λk=>Bz c k;refine go 2 ?_;refine Yk (Zw 1) λm _=>go 4 ?_;refine cl 98 [] (Md 1 ⟨O3,O3⟩) λv _=>Yk (Zw 97) λa _=>go 10 ?_;refine lp (G:=Nat×Value) [0,1,4,5] [0,1] (λq=>[(6,.int .i64 (q.1:Int))]) (λq=>[(97,box a 89 #[.bool (decide (n^q.1<0)),q.2]),(98,Oq q.2 (n^q.1).natAbs)]) (λq=>q.1<=k) (λq=>k-q.1) (0,_) O2 K1 ⟨by rw [cT];rfl,by rw [cT];rfl,aA⟩ ?_;rintro⟨i,w⟩ hi;dsimp only at hi;dsimp only;have h:=d i;refine go 8 ?_;refine Zc J (λb=>?_) (λb=>?_)
 .refine go 4 ?_;refine Xu (λ_=>False) [(0,0),(1,0),(2,1),(3,1),(4,3)]<|go 2 ?_;refine Xe (Zj 2 [] (Md n g)) λl _=>Xe (Zj 3 [98,2] (Kr (n^i) n)) λf _=>?_;refine go 9 ⟨O1,?_⟩;exact Zv (Qz 3 98 J J J)<|Yu (i+1,f) O2 O2 K1 ⟨by rw [dU];rfl,by rw [dU];rfl,aA⟩
 .obtain rfl:i=k:=O1;refine go 12 ?_;exact Xn e _ results154 J aA (Oi 98 Za)
end Go.Sky

