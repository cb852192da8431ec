/- Rules, arithmetic and contracts: part 17. No conditions but those that each theorem names. -/
import Derived.Test.YteikicbnfbgpnaaGreatDe15
set_option linter.all false
set_option maxHeartbeats 4000000
namespace Go.Sky
open Go.Proofs.Tryz
open Go.Proofs
set_option synthInstance.maxHeartbeats 0
set_option synthInstance.maxSize 100000
set_option maxRecDepth 20000
set_option maxHeartbeats 1000000
set_option linter.unusedSimpArgs false
variable{a b k:Int}{gs:List (Int×SL)}{xs q p:List Int}
theorem Zcu(fr to c:Int)(sx sy sz:SL)(x y z:List Int)(c1:Oz fr)(c2:Oz to)(m:Oz c)(o:∀a∈x,Oz a)(r:∀a∈y,Oz a)(s:∀a∈z,Oz a):Xo prog 75 #[.agg #[.int .i64 fr,.int .i64 to,.int .i64 c,Qi sx,Qi sy,Qi sz]] [Ym 1 Yo (Qi sx) x,Ym 1 Yo (Qi sy) y,Ym 1 Yo (Qi sz) z] (.bool (De fr to c x y z)):=by
 refine Zf func75 ntmps75 λw0 sc F f=>?_;have a2:=Hy m;have h:=Ymo a2;have a3:=λi k=>bl_fc o r s a2 i k;have u:=λi=>a3 i 0;simp only [eH,Nt]at u;refine go 2 ?_;refine Yh (Yi 4) λbx _=>go 10 ?_;refine Yl (d:=13) J (λb0=>?_) (λb0=>?_)
 .refine go 31 ?_;exact Xj f () results75 (by rw [Ae O1]) aA Za
 .refine go 7 ?_;refine Yl (d:=20) J (λI=>?_) (λI=>?_)
  .refine go 24 ?_;exact Xj f () results75 (by rw [Ae O1]) aA Za
  .refine go 5 ?_;refine Yl (d:=25) J (λM=>?_) (λM=>?_)
   .refine go 19 ?_;exact Xj f () results75 (by rw [Ae O1]) aA Za
   .refine go 5 ?_;refine Yl (d:=30) J (λN=>?_) (λN=>?_)
    .refine go 14 ?_;exact Xj f () results75 (by rw [Ae O1]) aA Za
    .refine go 6 ?_;refine Zc J (λa6=>?_) (λa6=>?_)
     .refine go 7 ?_;exact Xj f () results75 (by rw [Ae O1]) aA Za
     .refine go 6 ?_;refine cl 98 [] (Dh c m) λv _=>Yh (Zw 97) λt _=>go 3 ?_;refine jn (G:=Nat×Value) [1,3] [0,1,2,3,4,98,97] (λq=>[(4,.pointer (some ⟨q.1,0,none⟩))]) (λq=>[(95,box q.1 89 #[.bool (decide (62914560*c<0)),q.2]),(96,Ga q.2 (62914560*c).natAbs)]) (λq=>True) ?_ ?_
      .refine Hr (λ_=>False) [6]<|Zm (n:=5) [(1,0),(2,0)]<|go 3 ?_;refine Qs (n:=4) 0 5 ?_ ?_
       .refine Nm (Zj 5 [] (Dh 62914560 ⟨O4,O4⟩)) λc3 _=>?_;refine Qs (n:=3) 3 5 ?_ ?_
        .refine Nm (Zj 6 [] (Dh c m)) λc4 _=>?_;refine Qs (n:=2) 4 5 ?_ ?_
         .refine Nm (Zj 96 [5,6] (Ar _ _ 62914560 c O4)) λb2 _=>?_;refine Zm (n:=0) [(5,1),(6,3)]<|Yv (Zw 95) λS _=>go 2 ?_;exact Zz<|Oj (S,b2) aA K1 K2
         .refine Nm (Zw 95) λV _=>?_;refine Zm (n:=0) [(4,1),(6,3)]<|Yv (Zj 96 [5,6] (Ar _ _ 62914560 c O4)) λb3 _=>go 2 ?_;exact Zz<|Oj (V,b3) aA K1 K2
        .refine Nm (Zw 95) λW _=>?_;refine Zm (n:=0) [(3,1),(4,1),(6,3)]<|Yv (Zj 7 [] (Dh c m)) λc5 _=>Yv (Zj 96 [5,7] (Ar _ _ 62914560 c O4)) λb4 _=>go 2 ?_;exact Zz<|Oj (W,b4) aA K1 K2
       .refine Nm (Zw 95) λY _=>?_;refine Zm (n:=0) [(0,1),(3,1),(4,1),(6,3)]<|Yv (Zj 8 [] (Dh 62914560 ⟨O4,O4⟩)) λc6 _=>Yv (Zj 9 [] (Dh c m)) λc7 _=>Yv (Zj 96 [8,9] (Ar _ _ 62914560 c O4)) λa4 _=>go 2 ?_;exact Zz<|Oj (Y,a4) aA K1 K2
      .rintro⟨b9,vm⟩ -;dsimp only;refine go 3 ?_;refine cl 10 [1,2,3] (Zj1 _ _ _ _ _ _ _ _ _) λb5 _=>go 10 ?_;refine lp (G:=Nat×Value) [3,4,5] [0,95,96,1,2,3,4,10] (λq=>[(6,.int .i64 (q.1:Int))]) (λq=>[(97,box t 89 #[.bool (decide ((Nt c (Ma q.1 x y z))<0)),q.2]),(98,Ga q.2 ((Nt c (Ma q.1 x y z))).natAbs)]) (λq=>(q.1<=3)/\(∀k,k<q.1->axB (Zk k x y z) c=true)) (λq=>3-q.1) (0,_) ⟨O2,λk hk=>absurd hk (cI k)⟩ ⟨J,aA⟩ ⟨J,J,aA⟩ ?_;rintro⟨i,vs⟩ ⟨hi,B⟩;dsimp only at hi B;dsimp only;refine go 7 ?_;refine Zc J (λa7=>?_) (λa7=>?_)
       .refine go 5 ?_;refine Zg (Zgr 10 40 ([(sx,x),(sy,y),(sz,z)].getD i C0) J J (Ze (show i<3 by omega)) J)<|Zg (Om 40 (q:=Ym 1 Yo (Qi ([(sx,x),(sy,y),(sz,z)].getD i C0).1) (Zk i x y z)) (aK (Ym 1 Yo _) (Ybo O1)) J J)<|go 3 ?_;refine dt (Zy (ii:=10) (i:=i) J J J J Zd Zv9 Zi0 J (show i<3 by omega))<|dt (Pe (ii:=10) C0 J J J Zd pC (show i<3 by omega))<|go 4 ?_;refine jn (G:=Bool) [3,4,5,6,7] [0,97,98,95,96,1,2,3,4,10,40] (λR=>[(74,.bool R)]) (λR=>[]) (λR=>R=axc (Zk i x y z)) ?_ ?_
        .refine go 5 ?_;refine Yl (d:=56) J (λb1=>?_) (λb1=>?_)
         .refine go 19 ?_;exact Oj _ (by first|exact Zzm O1|exact Zzl O1|exact Zzk O1 O1 O1|exact Zzj O1 O1 O1) K1 aA
         .refine go 5 ?_;refine Yl (d:=61) J (λP=>?_) (λP=>?_)
          .refine go 14 ?_;exact Oj _ (by first|exact Zzm O1|exact Zzl O1|exact Zzk O1 O1 O1|exact Zzj O1 O1 O1) K1 aA
          .refine go 4 ?_;refine Yl (d:=65) J (λQ=>?_) (λQ=>?_)
           .refine go 4 ⟨O1,?_⟩;refine Kv (Zy (ii:=40) (i:=((Zk i x y z).length-1)) J J J J Zo Pj Km) J J<|go 5 ⟨O1,?_⟩;exact Oj _ (by first|exact Zzm O1|exact Zzl O1|exact Zzk O1 O1 O1|exact Zzj O1 O1 O1) K1 aA
           .refine go 10 ?_;exact Oj _ (by first|exact Zzm O1|exact Zzl O1|exact Zzk O1 O1 O1|exact Zzj O1 O1 O1) K1 aA
        .rintro R a1;refine Mr J (λa0=>?_) (λa0=>?_)
         .refine go 12 ?_;exact Xj f () results75 (by rw [Zbm (i:=i) (axc_t a1 ‹_›)]) aA Za
         .obtain⟨j1,j2,j3⟩:=axc_f a1 a0;refine go 5 ?_;refine cl 11 [40] (Zoc _ (Zk i x y z) (Lz o r s i) O1 O1) λg hg=>go 4 ?_;have a9:=aK List.length hg;rw [Iz,Yj]at a9;refine go 5 ?_;refine lp (G:=Nat×Value) [3,4,5,6,7,8] [0,95,96,1,2,3,4,10,40,11] (λq=>[(9,.int .i64 (q.1:Int))]) (λq=>[(97,box t 89 #[.bool (decide ((Nt (Nt c (Ma i x y z)) ((Zk i x y z).take q.1))<0)),q.2]),(98,Ga q.2 ((Nt (Nt c (Ma i x y z)) ((Zk i x y z).take q.1))).natAbs)]) (λq=>(q.1<=(Zk i x y z).length)/\(∀j,j<q.1->((ctl (Zk i x y z) j (j+1)).natAbs:Int)<=(62914560*c))) (λq=>(Zk i x y z).length-q.1) (0,_) ⟨O2,λj hj=>absurd hj (cI j)⟩ ⟨J,aA⟩ ⟨J,J,aA⟩ ?_;rintro⟨k,vs⟩ ⟨hk,H⟩;dsimp only at hk H;dsimp only;refine go 9 ?_;refine Zc J (λa8=>?_) (λa8=>?_)
          .refine go 5 ?_;refine Xw (λ_=>False) [(0,0),(1,0),(2,0),(3,0),(4,0),(5,1),(6,1),(7,3)]<|go 3 ?_;refine Xn J J (Xr (Zy (ii:=40) (i:=k) J J J J Zo Pj Km J))<|go 1 ⟨O3,?_⟩;refine Yv (Zj 12 [] (Dh ((Zk i x y z).getD k 0) (Mp (Lz o r s i) k))) λb6 _=>Yv (Zj 13 [98,12] (r_gcd _ _ (Nt (Nt c (Ma i x y z)) ((Zk i x y z).take k)) ((Zk i x y z).getD k 0) (aB (Hy (Mp (Lz o r s i) k)) O4) (aB (a3 i k) O4))) λa5 _=>go 4 ?_;rcases Ylu (ctl (Zk i x y z) k (k+1)) (62914560*c)with l|⟨l,D⟩|⟨l,D⟩
           .have e:(g.2.getD k I0).1=(ctl (Zk i x y z) k (k+1)):=by rw [Ft,hg,Ng,aH O1]
            refine Xw (λ_=>False) [(0,0),(1,0),(2,0),(3,0),(4,0),(5,1),(6,0),(7,0),(8,2),(9,2),(10,2),(11,2),(12,2),(13,2),(14,2),(15,2),(16,0)]<|go 2 ?_;refine Xn J J (Xr (Zy (ii:=11) (i:=k) J J J J Zd Zgi Zlv J))<|Xn J J (Xr (Pe (ii:=11) I0 J J J Zd pI))<|go 1 ?_;refine Dn J (Pt (n:=13) (Ck _ _ _ (62914560*c) (by rw [e];exact aB (Zcj (Lz o r s i) O1 O1) O4) (aB h O4)) J J J K2 call72 (Hz 11 J J (Ze (i:=k)) (Zt 96 J J J Zx)) J F.h) (λ_ _=>?_);refine Xn J J (Xr (dT (Zca J J J) (vB (aM (by rw [e,Zt6];exact l)))))<|go 28 ?_;exact Xj f () results75 (by rw [Zbm (i:=i) (Zlr λh1 h2 h3 Z=>by rw [Zvt (j:=k) O1 O1]at Z;cases Z)]) aA Za
           .have e:(g.2.getD k I0).1=(ctl (Zk i x y z) k (k+1)):=by rw [Ft,hg,Ng,aH O1]
            refine Xw (λ_=>False) [(0,0),(1,0),(2,0),(3,0),(4,0),(5,1),(6,0),(7,0),(8,0),(9,0),(10,0),(11,0),(12,0),(13,1),(14,1),(15,0),(16,0)]<|go 2 ?_;refine Xn J J (Xr (Zy (ii:=11) (i:=k) J J J J Zd Zgi Zlv J))<|Xn J J (Xr (Pe (ii:=11) I0 J J J Zd pI))<|go 1 ?_;refine Dn J (Pt (n:=13) (Ck _ _ _ (62914560*c) (by rw [e];exact aB (Zcj (Lz o r s i) O1 O1) O4) (aB h O4)) J J J K2 call72 (Hz 11 J J (Ze (i:=k)) (Zt 96 J J J Zx)) J F.h) (λ_ _=>?_);refine Xn J J (Xr (dF (Zca J J J) (vB (aJ (by rw [e,Zt6];exact l)))))<|go 3 ?_;refine r0g (Xr (Zy (ii:=11) (i:=k) J J J J Zd Zgi Zlv J)) J J J J J<|r0g (Xr (Pe (ii:=11) I0 J J J Zd pI)) J J J J J<|go 1 ?_;refine Zj0 J J J J J (Pt (n:=14) (Ydt _ (62914560*c) (aB h O4)) J J J K1 call144 (Zt 96 J J J Zx) J F.h) (λb7 _=>?_);refine Zj0 J J J J J (Pt (n:=14) (Ck _ _ _ (-(62914560*c)) (by rw [e];exact aB (Zcj (Lz o r s i) O1 O1) O4) (by rw [eC];exact aB h O4)) J J J K2 call72 (Hz 11 J J (Ze (i:=k)) (Zt 14 J J J Zx)) J F.h) (λ_ _=>?_);refine r0g (Xr (dT (Ygz J J J) (vB (aM (by rw [e,Yc0];exact D))))) J J J J J<|go 19 ?_;exact Xj f () results75 (by rw [Zbm (i:=i) (Zlr λh1 h2 h3 Z=>by rw [Zvt (j:=k) O1 O1]at Z;cases Z)]) aA Za
           .have e:(g.2.getD k I0).1=(ctl (Zk i x y z) k (k+1)):=by rw [Ft,hg,Ng,aH O1]
            refine Xw (λ_=>False) [(0,0),(1,0),(2,0),(3,0),(4,0),(5,1),(6,0),(7,0),(8,0),(9,0),(10,0),(11,0),(12,0),(13,1),(14,1),(15,0),(16,0)]<|go 2 ?_;refine Xn J J (Xr (Zy (ii:=11) (i:=k) J J J J Zd Zgi Zlv J))<|Xn J J (Xr (Pe (ii:=11) I0 J J J Zd pI))<|go 1 ?_;refine Dn J (Pt (n:=14) (Ck _ _ _ (62914560*c) (by rw [e];exact aB (Zcj (Lz o r s i) O1 O1) O4) (aB h O4)) J J J K2 call72 (Hz 11 J J (Ze (i:=k)) (Zt 96 J J J Zx)) J F.h) (λ_ _=>?_);refine Xn J J (Xr (dF (Zca J J J) (vB (aJ (by rw [e,Zt6];exact l)))))<|go 3 ?_;refine r0g (Xr (Zy (ii:=11) (i:=k) J J J J Zd Zgi Zlv J)) J J J J J<|r0g (Xr (Pe (ii:=11) I0 J J J Zd pI)) J J J J J<|go 1 ?_;refine Zj0 J J J J J (Pt (n:=15) (Ydt _ (62914560*c) (aB h O4)) J J J K1 call144 (Zt 96 J J J Zx) J F.h) (λb8 _=>?_);refine Zj0 J J J J J (Pt (n:=15) (Ck _ _ _ (-(62914560*c)) (by rw [e];exact aB (Zcj (Lz o r s i) O1 O1) O4) (by rw [eC];exact aB h O4)) J J J K2 call72 (Hz 11 J J (Ze (i:=k)) (Zt 15 J J J Zx)) J F.h) (λ_ _=>?_);refine r0g (Xr (dF (Ygz J J J) (vB (aJ (by rw [e,Yc0];exact D))))) J J J J J<|go 12 ⟨O1,?_⟩;exact Yg (Qy 13 98 J J J)<|Yq (k+1,a5) ⟨O2,λj hj=>by rcases bM.1 hj with w|w;exact H j w;subst w;omega⟩ O2 K1 ⟨by rw [Zac _ O1];rfl,by rw [Zac _ O1];rfl,aA⟩
          .obtain rfl:k=(Zk i x y z).length:=O1;rw [bP];refine go 11 ⟨O1,?_⟩;exact Yg (Qy 98 98 J J J)<|Yq (i+1,vs) ⟨O2,λk hk=>by rcases bM.1 hk with w|w;exact B k w;subst w;exact Zzn j1 j2 j3 (Zvs λj hj=>by have:=H j hj;omega)⟩ O2 K1 ⟨by rw [Dk x y z O1,Hd];rfl,by rw [Dk x y z O1,Hd];rfl,aA⟩
       .obtain rfl:i=3:=O1;refine go 6 ?_;refine Xw (λ_=>False) [(0,0),(1,1),(2,1),(3,0),(4,3)]<|go 1 ?_;refine Yv (Zj 16 [] (Dh 1 ⟨O4,O4⟩)) λc0 _=>Yv (Zj 16 [98,16] (Ck _ _ (Nt c (Ma 3 x y z)) 1 (aB (u _) O4))) λ_ _=>go 5 ?_;exact Xj f () results75 (by rw [Yda O1 B];exact vB (bQ.2 (by rw [fC];omega))) aA Za
def Ee(a b k:Int):List Int:=if b-a=0\/k=2 then [a]else if k=1 then [a,b-a]else [a,0,0,10*(b-a),-15*(b-a),6*(b-a)]
def tmL_0(h:b-a=0\/k=2):Ee a b k=[a]:=aH h
def tmL_1(h:¬(b-a=0\/k=2))(c:k=1):Ee a b k=[a,b-a]:=(aE h).trans (aH c)
def tmL_2(h:¬(b-a=0\/k=2))(c:k≠1):Ee a b k=[a,0,0,10*(b-a),-15*(b-a),6*(b-a)]:=(aE h).trans (aE c)
def lineG(k:Int)(s:SL×SL×SL):Zi:=((0,1000,1),(s.1,Ee 0 300 k),(s.2.1,Ee 0 400 k),(s.2.2,Ee 0 0 k))
def stayG(s:SL×SL×SL):Zi:=((1000,2000,1),(s.1,Ee 0 0 2),(s.2.1,Ee 0 0 2),(s.2.2,Ee 0 0 2))
theorem Px{l:List Int}(h:l.all (λa=>decide (-9223372036854775808<=a/\a<=9223372036854775807))=true):∀a∈l,Oz a:=λa c=>by have:=cL.1 h a c;simp only [cK]at this;exact this
def Lg(d e f g c h k:Int)(s:SL×SL×SL):Zi:=((0,1000,1),(s.1,Ee d g k),(s.2.1,Ee e c k),(s.2.2,Ee f h k))
def kn_f1:fmZ 100 1 2 1 1 (Ee 0 0 2) (Ee 0 0 2) (Ee 0 0 2) (Ee 0 0 2) (Ee 0 0 2) (Ee 200 200 2)=[]:=O8
def kn_f2:fmZ 100 1 2 1 1 (Ee 0 0 2) (Ee 0 0 2) (Ee 0 0 2) (Ee 0 0 2) (Ee 0 0 2) (Ee 100 100 2)=tzl [-1]:=O8
def kn_e1(s t:SL×SL×SL):Fa [Lg 0 0 0 400 0 0 1 s] [Lg 200 0 200 200 0 200 2 t]=0:=O6
def kn_a1(s t:SL×SL×SL):Bz 100 1 2 [Lg 0 0 0 400 0 0 1 s] [Lg 200 0 200 200 0 200 2 t]=true:=O6
def kn_a2(s t:SL×SL×SL):Bz 101 1 2 [Lg 0 0 0 400 0 0 1 s] [Lg 200 0 200 200 0 200 2 t]=false:=O6
def kn_p1(s:SL×SL×SL):Yt [Lg 0 0 0 400 0 0 1 s]=true:=O6
def kn_p2(s:SL×SL×SL):Yt [Lg 200 0 200 200 0 200 2 s]=true:=O6
def kn_s0:De 0 1000 1 (Ee 0 0 2) (Ee 0 0 2) (Ee 0 0 2)=true:=O8
def kn_s1:De 0 1000 1 (Ee 0 0 2) (Ee 0 0 2) (Ee 200 200 2)=true:=O8
def kn_s2:De 0 1000 1 (Ee 0 0 2) (Ee 0 0 2) (Ee 100 100 2)=true:=O8
theorem kn_g1(s:SL×SL×SL):∀g∈[Lg 0 0 0 400 0 0 1 s],Gin g:=λg c=>by rw [aY.1 c];exact⟨show Oz (0:Int)from⟨O4,O4⟩,show Oz (1000:Int)from⟨O4,O4⟩,show Oz (1:Int)from⟨O4,O4⟩,show ∀a∈Ee 0 400 1,Oz a from Px O4,show ∀a∈Ee 0 0 1,Oz a from Px O4,show ∀a∈Ee 0 0 1,Oz a from Px O4⟩
theorem kn_g2(s:SL×SL×SL):∀g∈[Lg 200 0 200 200 0 200 2 s],Gin g:=λg c=>by rw [aY.1 c];exact⟨show Oz (0:Int)from⟨O4,O4⟩,show Oz (1000:Int)from⟨O4,O4⟩,show Oz (1:Int)from⟨O4,O4⟩,show ∀a∈Ee 200 200 2,Oz a from Px O4,show ∀a∈Ee 0 0 2,Oz a from Px O4,show ∀a∈Ee 200 200 2,Oz a from Px O4⟩
def pt_1:ptB 0 0 0=true:=O4
theorem to_m1(c:Pw gs=tzl [-1]):Sz 1000000 (Pw gs)/\gs.length<=1000:=by have d:=aK List.length c;rw [Iz]at d;have f:(tzl [(-1:Int)]).length=1:=O4;refine⟨?_,O1⟩;rw [c];exact(Sz.tzl (Znv (λx e=>by rw [aY.1 e];exact⟨O4,O4⟩))).mono O1
abbrev TzT:=SL×List (Int×SL)
def sqF(d c:Int)(x y z e f g:List Int)(i:Nat):List Int:=sqP (Zk i x y z) (Zk i e f g) d c
def sqR(d c:Int)(x y z e f g:List Int):Nat->List (List Int)
 | 0=>[]
 | i+1=>sqR d c x y z e f g i ++ [sqF d c x y z e f g i]
def ovW(d c:Int):Int:=d*c*(d*c)
def rfL(i h d c:Int)(x y z e f g:List Int):List Int:=Ah (Zl (Ah (sqF d c x y z e f g 0) (sqF d c x y z e f g 1)) (h*h)) (Zl (sqF d c x y z e f g 2) (i*i))
def rfW(d e f c:Int):Int:=d*d*(e*e)*ovW f c
def rfZ(i j e d c:Int)(x y z f g h:List Int):List Int:=Cb (rfL j e d c x y z f g h) (tzl [rfW i e d c])
structure RfX (zd zn ze ov ov2:Int) (x y z x2 y2 z2:List Int):Prop where
 v0:∀i,Vp (sqF ov ov2 x y z x2 y2 z2 i)
 v1:Vp (Ah (sqF ov ov2 x y z x2 y2 z2 0) (sqF ov ov2 x y z x2 y2 z2 1))
 v2:Vp (Zl (Ah (sqF ov ov2 x y z x2 y2 z2 0) (sqF ov ov2 x y z x2 y2 z2 1)) (ze*ze))
 v3:Vp (Zl (sqF ov ov2 x y z x2 y2 z2 2) (zn*zn))
 v4:Vp (rfL zn ze ov ov2 x y z x2 y2 z2)
 v5:Vp (tzl [rfW zd ze ov ov2])
 v6:Vp (rfZ zd zn ze ov ov2 x y z x2 y2 z2)
 wb:bl (rfW zd ze ov ov2).natAbs<=1000000
 ob:bl (ov*ov2).natAbs<=1000
 oW:bl (ovW ov ov2).natAbs<=1000
 eb:bl (ze*ze).natAbs<=1000
 nb:bl (zn*zn).natAbs<=1000
 db:bl (zd*zd).natAbs<=1000
 xb:bl (zd*zd*(ze*ze)).natAbs<=1000
def tpI(n k:Nat):Nat:=n/1000000000^k
def gcR(o:Int)(X Y Z:List Int):Nat->Int
 | 0=>o
 | i+1=>(Int.gcd (gcR o X Y Z i) (Ys (Zk i X Y Z)):Int)
structure Row3 (ws:List TzT) (X Y Z:List Int):Prop where
 l:ws.length=3
 e:∀i,i<3->Pw (ws.getD i T0).2=Zk i X Y Z
def segY(fr c:Int)(g:Zi)(r:SL×SL×SL):Zi:=((cA fr g,cB c g,cO g/cG fr c g),(r.1,Dl (cX fr c g g.2.1.2) (cG fr c g)),(r.2.1,Dl (cX fr c g g.2.2.1.2) (cG fr c g)),(r.2.2,Dl (cX fr c g g.2.2.2.2) (cG fr c g)))
theorem Au(v:Value)(ps:List Zi)(e:1<=ps.length):Xo prog 54 #[v] [Qc 6 Pd qG v ps] (.int .i64 (spF ps)):=by refine Zf func54 ntmps54 λh g f c=>?_;refine Oi (Ip (i:=1) J Zd) (λd=>?_);refine go 9 ⟨O1,?_⟩;refine dt (Hx (ii:=1) J J J Zd Bd J Km J)<|dt (Hu (ii:=1) G0 J J J Zd iA3 J)<|go 4 ?_;exact Xj c () results54 J aA Za
theorem Zfe(v:Value)(ps:List Zi)(e:1<=ps.length):Xo prog 53 #[v] [Qc 6 Pd qG v ps] (.int .i64 (spL ps)):=by refine Zf func53 ntmps53 λh g f c=>?_;refine Oi (Ip (i:=1) J Zd) (λd=>?_);refine go 11 ⟨O1,?_⟩;refine dt (Zy (ii:=1) (i:=(ps.length-1)) J J J J Zd Ia Ir)<|dt (Hx (ii:=1) J J J Zd Bd J Km J)<|dt (Hu (ii:=1) G0 J J J Zd iA3 J)<|go 4 ?_;exact Xj c () results53 J aA Za
structure RI (xs q:List Int):Prop where
 v:Vp q
 ne:q≠[]
 s:Sz 220 q
 l:q.length<=11
 d:Dp xs (Yw q)
def RI.start(h:Cvd xs)(c:xs≠[]):RI xs xs:=⟨h.v,c,h.s.mono O1,h.l,Dp.start h.v.tr c⟩
theorem Ycb{n:Nat}{e:Int}(c:e=1\/e=-1)(h:Sz n q):Sz n (Zl q e):=λi=>by
 rw [Xg];have:=h i;rcases c with rfl|rfl
 .rw [iF];exact this
 .rw [Int.mul_neg_one,eC];exact this
theorem RI.step(h:Cvd xs)(r:xs≠[])(d:RI xs q) :
  Tr (sqf 13 q)/\Qm (sqf 13 q)<=235/\(sqf 13 q).length<=11/\0<(sqf 13 q).length/\Ys q≠0/\Sz 220 (Zl (Zu q) 1)/\Tr (Zl (Zu q) 1)/\(Zl (Zu q) 1).length=q.length/\pdv (Zl (Zu q) 1) (sqf 13 q)/\
  Vp (Mg 13 q)/\Mg 13 q≠[]/\Sz 220 (Mg 13 q)/\(Mg 13 q).length<=11/\Ys (Mg 13 q)≠0/\Zu (Mg 13 q)=Mg 13 q/\
  Tr (sqf 13 (Mg 13 q))/\Qm (sqf 13 (Mg 13 q))<=235/\(sqf 13 (Mg 13 q)).length<=11/\0<(sqf 13 (Mg 13 q)).length/\pdv (sqf 13 q) (sqf 13 (Mg 13 q))/\Sz 600 (Kd (sqf 13 q) (sqf 13 (Mg 13 q)))/\(Kd (sqf 13 q) (sqf 13 (Mg 13 q))).length<=11/\
  pdv (Mg 13 q) (sqf 13 (Mg 13 q))/\RI xs (Za7 13 q)/\((sqf 13 q).length≠1->(Za7 13 q).length<q.length):=by
 have hl:=h.l;have s:=d.d;have f:=(s.ok h.v.tr r h.s O1 O1 (show xs.length<=13+1 by omega)).2;have o:Fp 13 q:=by unfold Fp at f ⊢;rwa [s.2.2.1]at f
 have g:=s.next f;have H:Pi 13 (Yw q)=Pi 13 q:=Zin s.2.2.1;have P:sqf 13 (Yw q)=sqf 13 q:=Ev s.2.2.1;rw [H]at g;have c:=(g.ok h.v.tr r h.s O1 O1 (show xs.length<=13+1 by omega)).2;have x:=g.next c;obtain⟨⟨e,G,r1,r2,r3,r4,r5,r6⟩,r7,r8,r9,y,S,V⟩:=Zju d.v.tr d.ne o c;obtain⟨-,-,-,-,-,-,-,-,-,-,-,j,l,z,-,m,-,-⟩:=Zcs h r s;obtain⟨-,-,-,-,-,-,-,-,-,-,-,n,B,D,-,t,a0,-⟩:=Zcs h r g;rw [P]at j l z m;have N:sqf 13 (Mg 13 q)=sqf 13 (Pi 13 q):=Ev (by rw [r7,g.2.2.1]);obtain⟨g1,g2⟩:=Zf4 h r g;obtain⟨g3,g4⟩:=Zf4 h r x;have e0:e≠0:=by rcases G with rfl|rfl<;>decide
 have u:Sz 220 (Mg 13 q):=by rw [r3];exact Ycb G g1
 have F:(Mg 13 q).length<=11:=by rw [r3];have:=Ml (Pi 13 q) e;omega
 have v:Vp (Mg 13 q):=⟨u.mono O1,r9,O1⟩;have w:Sz 220 (Za7 13 q):=by rw [r6];exact Ycb G g3
 have a1:(Za7 13 q).length<=(Pi 13 (Pi 13 q)).length:=by rw [r6];exact Ml _ e
 obtain⟨o1,Y,Z,o4⟩:=Di d.v.tr d.ne o c;have hK:fcs 0 13<=2^15*2^15:=O8;have M:=Em (L:=13) (R:=24) Z n.tr l m j.tr O1 O4 hK Y;have I:=Oe Z n.tr o4 t;rw [<-Y]at I;have lb:=aC.2 t;have la:=aC.2 m;have lo:=aC.2 o4;have W:Zl (Zu q) 1=Zu q:=by refine(Xx _ _).ext (Yr d.v.tr) λi=>?_;rw [Xg,iF]
 have hx:=Qj d.v.tr d.ne o;have Q:=Qj g.1 g.2.1 c;rw [N];refine⟨j.tr,Pm l,O1,la,d.v.ne d.ne,by rw [W];exact Fd d.s,Xx _ _,by rw [W,Zv],by rw [r1];exact r2,v,y,u,F,v.ne y,r4,n.tr,Pm B,D,lb,o1,M.mono O1,?_,r5,⟨⟨w.mono O1,S,O1⟩,V,w,O1,by rw [r8];exact x⟩,λa2=>?_⟩
 .show(Ds 13 q).length<=11;omega
 .have h1:=hx.2.2.2.2;have h2:=Q.2.2.2.2;omega
theorem Yd5{F n:Nat}(y:Tr p)(t:p≠[])(hs:Sz n p)(w:n<=220)(v:p.length<=11)(u:p.length<=F+1):∀(f:Nat) (q:List Int),Dp p q->q.length<=f->∃a:List Int,Tr a/\q=Qg a (Dq F f q):=by
 intro f
 induction f with
 | zero=>intro q c m;have:=aC.2 c.2.1;omega
 | succ f N=>
  intro q c m;have d:=(c.ok y t hs w v u).2;have g:=c.next d;have e:=(g.ok y t hs w v u).2;have l:=g.next e;unfold Dq;by_cases j:(sqf F q).length=1
  .rw [aH j];obtain⟨V,W,s3⟩:=Ze1 c.1 c.2.1 d j;refine⟨[1],.inr (show cf [1] 0≠0 by decide),c.1.ext (Xt _ _) λi=>On (λx=>?_) i⟩;rw [Ya,V,Ykj c.1 c.2.2.1 W,Qu];push_cast;grind
  .rw [aE j];have P:2<=q.length:=by obtain⟨f1,f2,f3,f4,f5,f6⟩:=Pz (F:=F) c.1 c.2.1 d;obtain⟨z,o,r,h,B⟩:=Qj c.1 c.2.1 d;have l1:=aC.2 f3;have l2:=aC.2 o;omega
   have Q:=Zkx c.1 c.2.1 d P;obtain⟨z,o,r,h,B⟩:=Qj c.1 c.2.1 d;obtain⟨Y,Z,b3,s,b5⟩:=Qj g.1 g.2.1 e;obtain⟨-,t2,t3,-,-,-⟩:=Pz (F:=F) g.1 g.2.1 e;have lb:=aC.2 t3;obtain⟨A,hA,M⟩:=N _ l O1;obtain⟨-,R,o3,o4⟩:=Di c.1 c.2.1 d e;rw [c.2.2.1]at h;rw [r]at s;refine⟨Qg (Qg (sqf F (Pi F q)) (sqf F (Pi F q))) A,Xt _ _,c.1.ext (Xt _ _) λi=>On (λx=>?_) i⟩;have D:Zb q x=Zb (sqf F q) x*Zb (Pi F q) x:=by rw [<-Ya,<-h]
   have G:Zb (sqf F q) x=Zb (Ds F q) x*Zb (sqf F (Pi F q)) x:=by rw [<-Ya,<-R]
   have H:Zb (Pi F q) x=Zb (sqf F (Pi F q)) x*Zb (Pi F (Pi F q)) x:=by rw [<-Ya,<-s]
   have I:Zb (Pi F (Pi F q)) x=Zb A x*Zb (Dq F f (Pi F (Pi F q))) x:=by rw [<-Ya,<-M]
   rw [Ya,Ya,Ya,Ya,D,G,H,I];show _=_*(Zb (Ds F q) x*_);generalize Zb (sqf F (Pi F q)) x=S;grind
theorem RI.size(h:Cvd xs)(i:xs≠[])(d:RI xs q){f:Nat}(y:q.length<=f):Tr (Zuc 13 f q)/\Sz 460 (Zuc 13 f q)/\(Zuc 13 f q).length<=11:=by
 have z:=h.l;have c:=d.d;have e:Zuc 13 f q=Dq 13 f (Yw q):=by rw [Yjy h.v.tr i h.s O1 O1 O1 f q d.v.tr d.ne c];exact Zrw c.2.2.1.symm f
 have v:=Qz d.v.tr;have u:=d.l;obtain⟨A,r,j⟩:=Yd5 h.v.tr i h.s O1 O1 (show xs.length<=13+1 by omega) f (Yw q) c O1;obtain⟨s,x⟩:=Zf4 h i c;have g:=(c.ok h.v.tr i h.s O1 O1 (show xs.length<=13+1 by omega)).2;have n:=Zoi (F:=13) (p:=xs) (f:=f) c.1 c.2.1 g;rw [e];have t:fcs 0 13<=2^15*2^15:=O8;have w:Dq 13 f (Yw q)≠[]:=λl=>c.2.1 (by rw [j,l,Zav]);have o:A≠[]:=λl=>c.2.1 (by rw [j,l,Gp]);have m:=Oe r n o w;rw [<-j]at m;have:=aC.2 o;exact⟨n,(Em (L:=13) (R:=24) n r s c.2.1 c.1 O1 O4 t (by rw [Cm];exact j)).mono O1,O1⟩
theorem Zgt(a b k:Int)(s:-4194304<=a/\a<=4194304)(t:-4194304<=b/\b<=4194304):Cal prog 125 #[.int .i64 a,.int .i64 b,.int .i64 k] [] true (G:=SL) (λr=>True) (λr=>Qi r) (λr=>[Ym 1 Yo (Qi r) (Ee a b k)]):=by
 refine Zf func125 ntmps125 λw u g f=>?_;refine go 19 ⟨O1,?_⟩;refine Yl (d:=13) J (λl=>?_) (λl=>?_)
 .refine go 9 ?_;refine tt (Qr (i:=1) (ivs:=[(0,_)]) (enc:=Yo) ([a]:List Int) J J K2 Pj ti3 J J J J J pZ.cells J J g.h) λv _=>go 5 ?_;refine Yg (Qx 1 J J pZ)<|Znk (Oh 1 J Zo) (λe c=>?_);subst c;exact Xj f e results125 J aA (Ns 1 Za (aK (Ym 1 Yo (Qi e)) (tmL_0 (a:=a) (b:=b) (k:=k) O1).symm))
 .refine go 5 ?_;refine Zc J (λh=>?_) (λh=>?_)
  .refine go 3 ?_;refine tt (Qr (i:=2) (ivs:=[(0,_)]) (enc:=Yo) ([a]:List Int) J J K2 Pj ti3 J J J J J pZ.cells J J g.h) λm _=>go 5 ?_;refine Yg (Qx 2 J J pZ)<|Znk (Oh 2 J Zo) (λe c=>?_);subst c;exact Xj f e results125 J aA (Ns 2 Za (aK (Ym 1 Yo (Qi e)) (tmL_0 (a:=a) (b:=b) (k:=k) O1).symm))
  .refine go 9 ?_;refine Zc J (λj=>?_) (λj=>?_)
   .refine go 4 ?_;refine tt (Qr (i:=3) (ivs:=[(0,_),(1,_)]) (enc:=Yo) ([a,b-a]:List Int) J J K4 Pj ti3 J J J J J pZ.cells J J g.h) λn _=>go 5 ?_;refine Yg (Qx 3 J J pZ)<|Znk (Oh 3 J Zo) (λe c=>?_);subst c;exact Xj f e results125 J aA (Ns 3 Za (aK (Ym 1 Yo (Qi e)) (tmL_1 (a:=a) (b:=b) (k:=k) O1 O1).symm))
   .refine go 11 ⟨O1,O1,O1,?_⟩;refine tt (Qr (i:=4) (ivs:=[(0,_),(1,_),(2,_),(3,_),(4,_),(5,_)]) (enc:=Yo) ([a,0,0,10*(b-a),-15*(b-a),6*(b-a)]:List Int) J J K12 Pj ti3 J J J J J pZ.cells J J g.h) λo _=>go 4 ?_;refine Yg (Qx 4 J J pZ)<|Znk (Oh 4 J Zo) (λe c=>?_);subst c;exact Xj f e results125 J aA (Ns 4 Za (aK (Ym 1 Yo (Qi e)) (tmL_2 (a:=a) (b:=b) (k:=k) O1 O1).symm))
theorem Zw3(c d e f by_ g fr y k:Int)(m:-4194304<=c/\c<=4194304)(n:-4194304<=d/\d<=4194304)(o:-4194304<=e/\e<=4194304)(s:-4194304<=f/\f<=4194304)(h:-4194304<=by_/\by_<=4194304)(t:-4194304<=g/\g<=4194304):Cal prog 68 #[.agg #[.int .i64 c,.int .i64 d,.int .i64 e],.agg #[.int .i64 f,.int .i64 by_,.int .i64 g],.int .i64 fr,.int .i64 y,.int .i64 k] [] true (G:=SL×SL×SL) (λr=>True) (λr=> .agg #[.int .i64 fr,.int .i64 y,.int .i64 1,Qi r.1,Qi r.2.1,Qi r.2.2]) (λr=>[Ym 1 Yo (Qi r.1) (Ee c f k),Ym 1 Yo (Qi r.2.1) (Ee d by_ k),Ym 1 Yo (Qi r.2.2) (Ee e g k)]):=by refine Zf func68 ntmps68 λH F D u=>go 2 ?_;refine Yh (Yi 1) λB _=>Yh (Yi 2) λv _=>Yh (Zw 3) λx _=>go 3 ?_;refine Xw (λ_=>False) [(0,0),(1,0),(2,0),(3,0),(4,0),(5,0),(6,0),(8,0),(9,0),(10,0),(11,0),(12,0),(14,0),(15,0),(16,0),(17,0),(18,0),(7,1),(13,1),(19,1),(20,0),(21,3)]<|go 17 ?_;refine Yv (Zj 4 [] (Zgt c f k m s)) λz _=>Yv (Zj 5 [] (Zgt d by_ k n h)) λj _=>Yv (Zj 6 [] (Zgt e g k o t)) λl _=>?_;refine Xn J J (Xr (Qa (ivs:=[(0,_),(1,_),(2,_),(3,_),(4,_),(5,_)]) J K12 (λa w hs=>Zvy ((Zr J) a w hs) ((Zr J) a w hs) ((Zr J) a w hs) ((Pg (i:=4) J Zo) a w hs) ((Pg (i:=5) J Zo) a w hs) ((Pg (i:=6) J Zo) a w hs))))<|go 4 ?_;exact Xj u (z,j,l) results68 J aA (Ns 4 (Ns 5 (Ns 6 Za)))
theorem Gi(x y z:Int):Xo prog 64 #[.int .i64 x,.int .i64 y,.int .i64 z] [] (.agg #[.int .i64 x,.int .i64 y,.int .i64 z]):=by refine Zf func64 ntmps64 λg f e c=>go 2 ?_;refine Yh (Zw 1) λd _=>go 7 ?_;refine dt (Qa (ivs:=[(0,_),(1,_),(2,_)]) J K6 (λa w hs=>Zzi ((Zr J) a w hs) ((Zr J) a w hs) ((Zr J) a w hs)))<|go 4 ?_;exact Xj c () results64 J aA Za
theorem Zb1(d:Int):Xo prog 66 #[.int .i64 d] [] (.agg #[.int .i64 d,.int .i64 1,.int .i64 2]):=by refine Zf func66 ntmps66 λh g f c=>go 2 ?_;refine Yh (Zw 1) λe _=>go 5 ?_;refine dt (Qa (ivs:=[(0,_),(1,_),(2,_)]) J K6 (λa w hs=>Za5 ((Zr J) a w hs) ((Zr J) a w hs) ((Zr J) a w hs)))<|go 4 ?_;exact Xj c () results66 J aA Za
theorem Zed(x y z:Int)(c:Bool)(f:ptB x y z=true)(e:Yah 0 0 0 x y z 100 1 2=c):Xo prog 63 #[.agg #[.int .i64 x,.int .i64 y,.int .i64 z],.bool c] [] (.bool true):=by refine Zf func63 ntmps63 λj i h d=>go 2 ?_;refine Yh (Yi 1) λg _=>go 4 ?_;refine Xw (λ_=>False) [(1,0),(0,1),(2,1),(3,1),(4,0),(5,0),(6,0),(7,0),(8,3)]<|go 1 ?_;refine Yv (Zj 1 [] (Gi _ _ _)) λ_ _=>Yv (Zj 1 [] (Zb1 _)) λ_ _=>Yv (Zj 1 [] (Ygh _ _ _ _ _ _ _ _ _ pt_1 f O4)) λ_ _=>go 10 ?_;refine kt (aM O4)<|go 3 ?_;refine ktg (by rw [e];exact beq_self_eq_true _)<|go 5 ?_;exact Xj d () results63 J aA Za
theorem Az(x y z:Int)(g:-4194304<=x/\x<=4194304)(h:-4194304<=y/\y<=4194304)(j:-4194304<=z/\z<=4194304):Cal prog 65 #[.agg #[.int .i64 x,.int .i64 y,.int .i64 z]] [] true (G:=Value×(SL×SL×SL)) (λr=>True) (λr=>r.1) (λr=>[Qc 6 Pd qG r.1 [Lg x y z x y z 2 r.2]]):=by refine Zf func65 ntmps65 λo n l f=>go 2 ?_;refine Yh (Yi 1) λm _=>go 7 ?_;refine cl 2 [] (Zw3 x y z x y z 0 1000 2 g h j g h j) λ⟨e,c,d⟩ _=>?_;refine tt (Qr (i:=5) (ivs:=[(0,_)]) (enc:=Pd) [Lg x y z x y z 2 (e,c,d)] J J K2 Ia ti35 J J (Zu1 _ _ _ _ _ _ _ _ _ _ _ _) J J pG.cells J J l.h) λv _=>go 4 ?_;exact Yg (Qx 5 J J pG)<|Yg (Qk qC 71)<|Yg (Xb (q:=qC) (z:=(Lg x y z x y z 2 (e,c,d)).2.1) 71 2 71 J J J J J)<|Yg (Xb (q:=qC) (z:=(Lg x y z x y z 2 (e,c,d)).2.2.1) 71 3 71 J J J J J)<|Yg (Xb (q:=qC) (z:=(Lg x y z x y z 2 (e,c,d)).2.2.2) 71 4 71 J J J J J)<|Yg (Qk qG 73)<|Yg (Xb (q:=qG) (z:=(Lg x y z x y z 2 (e,c,d))) 73 71 73 J J J J J)<|Yg (La 5 73 72 J J J J)<|Xj f (_,e,c,d) results65 J aA (Ns 72 Za)
theorem Zct(i l j:Int):Xo prog 16 #[.agg #[.int .i64 i,.int .i64 l,.int .i64 j]] [] (.bool (znB i l j)):=by
 refine Zf func16 ntmps16 λr o n c=>go 2 ?_;refine Yh (Yi 1) λm _=>go 9 ?_;refine Yl (d:=6) J (λh=>?_) (λh=>?_)
 .refine go 5 ?_;refine Yl (d:=11) J (λe=>?_) (λe=>?_)
  .refine go 5 ?_;refine Yl (d:=16) J (λf=>?_) (λf=>?_)
   .refine go 7 ?_;refine Yl (d:=23) J (λg=>?_) (λg=>?_)
    .refine go 8 ?_;exact Xj c () results16 (by unfold znB;first|(simp_all;done)|(simp_all;omega)) aA Za
    .refine go 8 ?_;exact Xj c () results16 (by unfold znB;first|(simp_all;done)|(simp_all;omega)) aA Za
   .refine go 15 ?_;exact Xj c () results16 (by unfold znB;first|(simp_all;done)|(simp_all;omega)) aA Za
  .refine go 20 ?_;exact Xj c () results16 (by unfold znB;first|(simp_all;done)|(simp_all;omega)) aA Za
 .refine go 25 ?_;exact Xj c () results16 (by unfold znB;first|(simp_all;done)|(simp_all;omega)) aA Za
set_option maxHeartbeats 1000000 in
theorem Mw:Xo prog 18 #[] [] (.bool true):=by refine Zf func18 ntmps18 λV S u s=>go 8 ?_;refine cl 0 [] (Gi _ _ _) λ_ _=>cl 0 [] (Zed _ _ _ _ O4 O4) λ_ _=>go 2 ?_;refine Kl 0 [] (Gi _ _ _) λ_ _=>Kl 0 [] (Zed _ _ _ _ O4 O4) λ_ _=>go 3 ?_;refine Kl 0 [] (Gi _ _ _) λ_ _=>Kl 0 [] (Zed _ _ _ _ O4 O4) λ_ _=>go 8 ?_;refine Hr (λ_=>False) [14]<|Zm (n:=13) [(0,1),(1,1)]<|Yv (Zj 0 [] (Gi _ _ _)) λ_ _=>Yv (Zj 60 [] (Az 0 0 0 ⟨O4,O4⟩ ⟨O4,O4⟩ ⟨O4,O4⟩)) λ⟨v,q⟩ _=>go 1 ?_;refine Zbb (Qe (g:=(Lg 0 0 0 0 0 0 2 q)) (z:=(Lg 0 0 0 0 0 0 2 q).2.1) 60 51 J J (aY.2 J) O7)<|Zbb (Qe (g:=(Lg 0 0 0 0 0 0 2 q)) (z:=(Lg 0 0 0 0 0 0 2 q).2.2.1) 60 52 J J (aY.2 J) O7)<|Zbb (Qe (g:=(Lg 0 0 0 0 0 0 2 q)) (z:=(Lg 0 0 0 0 0 0 2 q).2.2.2) 60 53 J J (aY.2 J) O7)<|Zm (n:=9) [(2,0),(3,0),(4,1),(5,1)]<|go 1 ⟨O7,?_⟩;refine Xn J J (Xr (Pe (ii:=60) G0 J J J Zd pG O7))<|Yv (Zj 0 [] (Gi _ _ _)) λ_ _=>Yv (Zj 62 [] (Az 0 0 200 ⟨O4,O4⟩ ⟨O4,O4⟩ ⟨O4,O4⟩)) λ⟨F,e⟩ _=>go 1 ?_;refine Zbb (Qe (g:=(Lg 0 0 200 0 0 200 2 e)) (z:=(Lg 0 0 200 0 0 200 2 e).2.1) 62 54 J J (aY.2 J) O7)<|Zbb (Qe (g:=(Lg 0 0 200 0 0 200 2 e)) (z:=(Lg 0 0 200 0 0 200 2 e).2.2.1) 62 55 J J (aY.2 J) O7)<|Zbb (Qe (g:=(Lg 0 0 200 0 0 200 2 e)) (z:=(Lg 0 0 200 0 0 200 2 e).2.2.2) 62 56 J J (aY.2 J) O7)<|Zm (n:=0) [(6,0),(7,0),(8,1),(9,1),(10,0),(11,0),(12,0),(13,0),(14,3)]<|go 1 ⟨O7,?_⟩;refine Xn J J (Xr (Pe (ii:=62) G0 J J J Zd pG O7))<|Yv (Zj 0 [] (Zb1 _)) λ_ _=>Yv (Zj 1 [51,52,53,54,55,56] (Zyb 0 1000 1 0 1000 1 _ _ _ _ _ _ (Ee 0 0 2) (Ee 0 0 2) (Ee 0 0 2) (Ee 0 0 2) (Ee 0 0 2) (Ee 200 200 2) 100 1 2 ⟨O4,O4⟩ ⟨O4,O4⟩ ⟨O4,O4⟩ (Px O4) (Px O4) (Px O4) ⟨O4,O4⟩ ⟨O4,O4⟩ ⟨O4,O4⟩ (Px O4) (Px O4) (Px O4) kn_s0 kn_s1 J J O4)) λR o=>go 6 ?_;refine Zz<|go 2 ?_;refine Hr (λ_=>False) [14]<|Zm (n:=13) [(0,1),(1,1)]<|Yv (Zj 1 [] (Gi _ _ _)) λ_ _=>Yv (Zj 64 [] (Az 0 0 0 ⟨O4,O4⟩ ⟨O4,O4⟩ ⟨O4,O4⟩)) λ⟨G,f⟩ _=>go 1 ?_;refine Zbb (Qe (g:=(Lg 0 0 0 0 0 0 2 f)) (z:=(Lg 0 0 0 0 0 0 2 f).2.1) 64 51 J J (aY.2 J) O7)<|Zbb (Qe (g:=(Lg 0 0 0 0 0 0 2 f)) (z:=(Lg 0 0 0 0 0 0 2 f).2.2.1) 64 52 J J (aY.2 J) O7)<|Zbb (Qe (g:=(Lg 0 0 0 0 0 0 2 f)) (z:=(Lg 0 0 0 0 0 0 2 f).2.2.2) 64 53 J J (aY.2 J) O7)<|Zm (n:=9) [(2,0),(3,0),(4,1),(5,1)]<|go 1 ⟨O7,?_⟩;refine Xn J J (Xr (Pe (ii:=64) G0 J J J Zd pG O7))<|Yv (Zj 1 [] (Gi _ _ _)) λ_ _=>Yv (Zj 66 [] (Az 0 0 100 ⟨O4,O4⟩ ⟨O4,O4⟩ ⟨O4,O4⟩)) λ⟨H,j⟩ _=>go 1 ?_;refine Zbb (Qe (g:=(Lg 0 0 100 0 0 100 2 j)) (z:=(Lg 0 0 100 0 0 100 2 j).2.1) 66 54 J J (aY.2 J) O7)<|Zbb (Qe (g:=(Lg 0 0 100 0 0 100 2 j)) (z:=(Lg 0 0 100 0 0 100 2 j).2.2.1) 66 55 J J (aY.2 J) O7)<|Zbb (Qe (g:=(Lg 0 0 100 0 0 100 2 j)) (z:=(Lg 0 0 100 0 0 100 2 j).2.2.2) 66 56 J J (aY.2 J) O7)<|Zm (n:=0) [(6,0),(7,0),(8,1),(9,1),(10,0),(11,0),(12,0),(13,0),(14,3)]<|go 1 ⟨O7,?_⟩;refine Xn J J (Xr (Pe (ii:=66) G0 J J J Zd pG O7))<|Yv (Zj 1 [] (Zb1 _)) λ_ _=>Yv (Zj 2 [51,52,53,54,55,56] (Zyb 0 1000 1 0 1000 1 _ _ _ _ _ _ (Ee 0 0 2) (Ee 0 0 2) (Ee 0 0 2) (Ee 0 0 2) (Ee 0 0 2) (Ee 100 100 2) 100 1 2 ⟨O4,O4⟩ ⟨O4,O4⟩ ⟨O4,O4⟩ (Px O4) (Px O4) (Px O4) ⟨O4,O4⟩ ⟨O4,O4⟩ ⟨O4,O4⟩ (Px O4) (Px O4) (Px O4) kn_s0 kn_s2 J J O4)) λt l=>go 6 ?_;refine Zz<|go 6 ?_;refine kf (aJ (λh=>h (by rw [o,kn_f1];rfl)))<|go 2 ?_;refine kfg (aJ (λh=>h J))<|go 3 ?_;refine gtt (Qr (i:=3) (ivs:=[(0,_)]) (enc:=Yo) ([-1]:List Int) J J K2 Pj ti3 J J J J J pZ.cells J J u.h) J J J J (λI _=>?_);refine Xp (Qx 3 J J pZ)<|Kl 4 [3] (Yjw _ [-1] (λx y=>by rw [aY.1 y];exact⟨O4,O4⟩) O7) λg r=>Kl 5 [4] (rp_to _ _ (to_m1 r).1 (to_m1 r).2) λM _=>Kl 5 [2,5] (Yae _ _ _ _) λ_ _=>?_;refine Kv (dF (Ygx J J) (vB (aJ (λh=>h (by rw [l,kn_f2,r]))))) J J<|go 3 ?_;refine kfg (aJ (λh=>h J))<|go 8 ?_;refine cl 5 [] (Gi _ _ _) λ_ _=>cl 5 [] (Gi _ _ _) λ_ _=>cl 6 [] (Zw3 0 0 0 400 0 0 0 1000 1 ⟨O4,O4⟩ ⟨O4,O4⟩ ⟨O4,O4⟩ ⟨O4,O4⟩ ⟨O4,O4⟩ ⟨O4,O4⟩) λ⟨m,c,d⟩ _=>?_;refine tt (Qr (i:=9) (ivs:=[(0,_)]) (enc:=Pd) [Lg 0 0 0 400 0 0 1 (m,c,d)] J J K2 Ia ti35 J J (Zu1 _ _ _ _ _ _ _ _ _ _ _ _) J J pG.cells J J u.h) (λN _=>?_);refine Xp (Qx 9 J J pG)<|Xp (Qk qC 71)<|Xp (Xb (q:=qC) (z:=(Lg 0 0 0 400 0 0 1 (m,c,d)).2.1) 71 6 71 J J J J J)<|Xp (Xb (q:=qC) (z:=(Lg 0 0 0 400 0 0 1 (m,c,d)).2.2.1) 71 7 71 J J J J J)<|Xp (Xb (q:=qC) (z:=(Lg 0 0 0 400 0 0 1 (m,c,d)).2.2.2) 71 8 71 J J J J J)<|Xp (Qk qG 73)<|Xp (Xb (q:=qG) (z:=(Lg 0 0 0 400 0 0 1 (m,c,d))) 73 71 73 J J J J J)<|Xp (La 9 73 72 J J J J)<|go 6 ?_;refine cl 9 [] (Gi _ _ _) λ_ _=>cl 90 [] (Az 200 0 200 ⟨O4,O4⟩ ⟨O4,O4⟩ ⟨O4,O4⟩) λ⟨P,B⟩ _=>cl 9 [] (Zb1 _) λ_ _=>cl 9 [72,90] (Ki _ _ _ _ 100 1 2 (kn_g1 _) (kn_g2 _) (kn_p1 _) (kn_p2 _) (show(1:Nat)<=5 by decide) (show(1:Nat)<=5 by decide) O4) λ_ _=>go 1 ?_;refine kt (kn_a1 _ _)<|go 8 ?_;refine cl 9 [] (Gi _ _ _) λ_ _=>cl 92 [] (Az 200 0 200 ⟨O4,O4⟩ ⟨O4,O4⟩ ⟨O4,O4⟩) λ⟨Q,D⟩ _=>cl 9 [] (Zb1 _) λ_ _=>cl 9 [72,92] (Ki _ _ _ _ 101 1 2 (kn_g1 _) (kn_g2 _) (kn_p1 _) (kn_p2 _) (show(1:Nat)<=5 by decide) (show(1:Nat)<=5 by decide) O4) λ_ _=>go 1 ?_;refine kf (kn_a2 _ _)<|go 14 ?_;refine ktg (aM (kn_e1 _ _))<|go 3 ?_;refine ktg (aM (kn_e1 _ _))<|go 2 ?_;refine Kv (Qa (ivs:=[(0,_),(1,_),(2,_)]) J K6 (λa w hs=>Za5 ((Zr J) a w hs) ((Zr J) a w hs) ((Zr J) a w hs))) J J<|Kl 9 [] (Zf0 _ _ _) λ_ _=>?_;refine Kv (dT (Yb J J) (aK (λb=>Value.bool (!b)) (show znB 100 2 1=false by decide))) J J<|go 5 ?_;exact Xj s () results18 J aA Za
@[reducible,instance] def encCI:EncT prog 33 1 (Kw (α:=List Int)):=⟨pC⟩
theorem Zgv(n j:Int)(k:Nat)(t:j=(k:Int))(l:Oz n)(u:k<=5):Cal prog 154 #[.int .i64 n,.int .i64 j] [] true (G:=Value) (λr=>True) (λr=> .agg #[.bool (decide (n^k<0)),r]) (λr=>[Ga r (n^k).natAbs]):=by
 refine Zf func154 ntmps154 λz x w g=>?_;have e:=Hy l;have f:=λk=>Yi7 e k;refine go 2 ?_;refine Yh (Zw 1) λs _=>go 4 ?_;refine cl 98 [] (Dh 1 ⟨O4,O4⟩) λv _=>Yh (Zw 97) λc _=>go 10 ?_;refine lp (G:=Nat×Value) [0,1,4,5] [0,1] (λq=>[(6,.int .i64 (q.1:Int))]) (λq=>[(97,box c 89 #[.bool (decide (n^q.1<0)),q.2]),(98,Ga q.2 (n^q.1).natAbs)]) (λq=>q.1<=k) (λq=>k-q.1) (0,_) O2 K1 ⟨by rw [cT];rfl,by rw [cT];rfl,aA⟩ ?_;rintro⟨i,y⟩ hi;dsimp only at hi;dsimp only;have m:=f i;refine go 8 ?_;refine Zc J (λd=>?_) (λd=>?_)
 .refine go 4 ?_;refine Xw (λ_=>False) [(0,0),(1,0),(2,1),(3,1),(4,3)]<|go 2 ?_;refine Yv (Zj 2 [] (Dh n l)) λo _=>Yv (Zj 3 [98,2] (Ar _ _ (n^i) n)) λh _=>?_;refine go 9 ⟨O1,?_⟩;exact Yg (Qy 3 98 J J J)<|Yq (i+1,h) O2 O2 K1 ⟨by rw [dK];rfl,by rw [dK];rfl,aA⟩
 .obtain rfl:i=k:=O1;refine go 12 ?_;exact Xj g _ results154 J aA (Ns 98 Za)
end Go.Sky

