/- Rules, arithmetic and contracts: part 17. No conditions but those that each theorem names. -/
import Derived.Test.YteikicbnfbgpnaaGreatEn15
set_option linter.all false
set_option maxHeartbeats 4000000
namespace Go.Sky
open Go.Proofs.Tryz
open Go.Proofs
set_option synthInstance.maxHeartbeats 0
set_option synthInstance.maxSize 100000
set_option maxRecDepth 20000
set_option linter.unusedSimpArgs false
variable{ov a b ov2 o:Int}{x y z x2 y2 z2 Y Z c xs q p:List Int}{v w u:Value}{M i F:Nat}{zs ys:List (Int×SL)}{f:Nat->List Int}{r:SL×SL×SL}
theorem Zea{fr to:Int}{sx sy sz:SL}(c6:Nz fr)(c7:Nz to)(m:Nz ov)(n:∀a∈x,Nz a)(s:∀a∈y,Nz a)(t:∀a∈z,Nz a):Qd prog 75 #[.agg #[.int .i64 fr,.int .i64 to,.int .i64 ov,Xm sx,Xm sy,Xm sz]] [Yx 1 Yi (Xm sx) x,Yx 1 Yi (Xm sy) y,Yx 1 Yi (Xm sz) z] (.bool (Ba fr to ov x y z)):=by
 refine Zh func75 ntmps75 λw0 sc P e=>?_;have a7:=Gt m;have h:=Ysq a7;have a8:=λi k=>bl_fc n s t a7 i k;have D:=λi=>a8 i 0;simp only [dS,Me]at D;refine go 2 ?_;refine Ym (Yr 4) λbx _=>go 10 ?_;refine Xg 13 J (λb5=>?_) (λb5=>?_)
 .refine go 31 ?_;exact Xo e () results75 (by rw [Zav O]) aA Za
 .refine go 7 ?_;refine Xg 20 J (λR=>?_) (λR=>?_)
  .refine go 24 ?_;exact Xo e () results75 (by rw [Zav O]) aA Za
  .refine go 5 ?_;refine Xg 25 J (λS=>?_) (λS=>?_)
   .refine go 19 ?_;exact Xo e () results75 (by rw [Zav O]) aA Za
   .refine go 5 ?_;refine Xg 30 J (λV=>?_) (λV=>?_)
    .refine go 14 ?_;exact Xo e () results75 (by rw [Zav O]) aA Za
    .refine go 6 ?_;refine Ze J (λb1=>?_) (λb1=>?_)
     .refine go 7 ?_;exact Xo e () results75 (by rw [Zav O]) aA Za
     .refine go 6 ?_;refine cl 98 [] (Pu ov m) λv _=>Ym (Ya 97) λB _=>go 3 ?_;refine jn (G:=Nat×Value) [1,3] [0,1,2,3,4,98,97] (λq=>[(4,.pointer (some ⟨q.1,0,none⟩))]) (λq=>[(95,box q.1 89 #[.bool (decide (62914560*ov<0)),q.2]),(96,Ox q.2 (62914560*ov).natAbs)]) (λq=>True) ?_ ?_
      .refine Ku (λ_=>False) [6]<|Zj 5 [(1,0),(2,0)]<|go 3 ?_;refine Qw 4 0 5 ?_ ?_
       .refine Ot (Zm 5 [] (Pu 62914560 ⟨O3,O3⟩)) λc8 _=>?_;refine Qw 3 3 5 ?_ ?_
        .refine Ot (Zm 6 [] (Pu ov m)) λc9 _=>?_;refine Qw 2 4 5 ?_ ?_
         .refine Ot (Zm 96 [5,6] (Lu 62914560 ov O3)) λb7 _=>?_;refine Zj 0 [(5,1),(6,3)]<|Yw (Ya 95) λa1 _=>go 2 ?_;exact Zt<|Od (a1,b7) aA K1 K2
         .refine Ot (Ya 95) λa2 _=>?_;refine Zj 0 [(4,1),(6,3)]<|Yw (Zm 96 [5,6] (Lu 62914560 ov O3)) λb8 _=>go 2 ?_;exact Zt<|Od (a2,b8) aA K1 K2
        .refine Ot (Ya 95) λa3 _=>?_;refine Zj 0 [(3,1),(4,1),(6,3)]<|Yw (Zm 7 [] (Pu ov m)) λd0 _=>Yw (Zm 96 [5,7] (Lu 62914560 ov O3)) λc0 _=>go 2 ?_;exact Zt<|Od (a3,c0) aA K1 K2
       .refine Ot (Ya 95) λa4 _=>?_;refine Zj 0 [(0,1),(3,1),(4,1),(6,3)]<|Yw (Zm 8 [] (Pu 62914560 ⟨O3,O3⟩)) λd1 _=>Yw (Zm 9 [] (Pu ov m)) λd2 _=>Yw (Zm 96 [8,9] (Lu 62914560 ov O3)) λa9 _=>go 2 ?_;exact Zt<|Od (a4,a9) aA K1 K2
      .rintro⟨b9,vm⟩ -;dsimp only;refine go 3 ?_;refine cl 10 [1,2,3] Dx λc1 _=>go 10 ?_;refine lp (G:=Nat×Value) [3,4,5] [0,95,96,1,2,3,4,10] (λq=>[(6,.int .i64 (q.1:Int))]) (λq=>[(97,box B 89 #[.bool (decide ((Me ov (Mn q.1 x y z))<0)),q.2]),(98,Ox q.2 ((Me ov (Mn q.1 x y z))).natAbs)]) (λq=>(q.1<=3)/\(∀k,k<q.1->axB (Zu k x y z) ov=true)) (λq=>3-q.1) (0,_) ⟨O1,λk hk=>absurd hk (cI k)⟩ ⟨J,aA⟩ ⟨J,J,aA⟩ ?_;rintro⟨i,vs⟩ ⟨hi,I⟩;dsimp only at hi I;dsimp only;refine go 7 ?_;refine Ze J (λb2=>?_) (λb2=>?_)
       .refine go 5 ?_;refine Zg (Ni 10 40 ([(sx,x),(sy,y),(sz,z)].getD i C0) J J (Zd (show i<3 by omega)) J)<|Zg (Np 40 (q:=Yx 1 Yi (Xm ([(sx,x),(sy,y),(sz,z)].getD i C0).1) (Zu i x y z)) (aH (Yx 1 Yi _) (Zhv O)) J J)<|go 3 ?_;refine dt (Zv 10 i J J J J Zc Zab Zcs J (show i<3 by omega))<|dt (Yz 10 C0 J J J Zc pC (show i<3 by omega))<|go 4 ?_;refine jn (G:=Bool) [3,4,5,6,7] [0,97,98,95,96,1,2,3,4,10,40] (λbj=>[(74,.bool bj)]) (λbj=>[]) (λbj=>bj=axc (Zu i x y z)) ?_ ?_
        .refine go 5 ?_;refine Xg 56 J (λb6=>?_) (λb6=>?_)
         .refine go 19 ?_;exact Od _ (by first|exact Ydx O|exact Ydw O|exact Ydv O O O|exact Ydu O O O) K1 aA
         .refine go 5 ?_;refine Xg 61 J (λW=>?_) (λW=>?_)
          .refine go 14 ?_;exact Od _ (by first|exact Ydx O|exact Ydw O|exact Ydv O O O|exact Ydu O O O) K1 aA
          .refine go 4 ?_;refine Xg 65 J (λa0=>?_) (λa0=>?_)
           .refine go 4 ⟨O,?_⟩;refine Ej (Zv 40 ((Zu i x y z).length-1) J J J J Zr Pp Kv) J J<|go 5 ⟨O,?_⟩;exact Od _ (by first|exact Ydx O|exact Ydw O|exact Ydv O O O|exact Ydu O O O) K1 aA
           .refine go 10 ?_;exact Od _ (by first|exact Ydx O|exact Ydw O|exact Ydv O O O|exact Ydu O O O) K1 aA
        .rintro bj a6;refine Md J (λa5=>?_) (λa5=>?_)
         .refine go 12 ?_;exact Xo e () results75 (by rw [Zc0 i (axc_t a6 ‹_›)]) aA Za
         .obtain⟨j1,j2,j3⟩:=axc_f a6 a5;refine go 5 ?_;refine cl 11 [40] (Zqy (Zu i x y z) (Ik n s t i) O O) λg hg=>go 4 ?_;have b4:=aH List.length hg;rw [Zi,Yu]at b4;refine go 5 ?_;refine lp (G:=Nat×Value) [3,4,5,6,7,8] [0,95,96,1,2,3,4,10,40,11] (λq=>[(9,.int .i64 (q.1:Int))]) (λq=>[(97,box B 89 #[.bool (decide ((Me (Me ov (Mn i x y z)) ((Zu i x y z).take q.1))<0)),q.2]),(98,Ox q.2 ((Me (Me ov (Mn i x y z)) ((Zu i x y z).take q.1))).natAbs)]) (λq=>(q.1<=(Zu i x y z).length)/\(∀j,j<q.1->((ctl (Zu i x y z) j (j+1)).natAbs:Int)<=(62914560*ov))) (λq=>(Zu i x y z).length-q.1) (0,_) ⟨O1,λj hj=>absurd hj (cI j)⟩ ⟨J,aA⟩ ⟨J,J,aA⟩ ?_;rintro⟨k,vs⟩ ⟨hk,Q⟩;dsimp only at hk Q;dsimp only;refine go 9 ?_;refine Ze J (λb3=>?_) (λb3=>?_)
          .refine go 5 ?_;refine Qf (λ_=>False) [(0,0),(1,0),(2,0),(3,0),(4,0),(5,1),(6,1),(7,3)]<|go 3 ?_;refine Xj J J (Xq (Zv 40 k J J J J Zr Pp Kv J))<|go 1 ⟨O2,?_⟩;refine Yw (Zm 12 [] (Pu ((Zu i x y z).getD k 0) (Lq (Ik n s t i) k))) λc2 _=>Yw (Zm 13 [98,12] (Zuw (Me (Me ov (Mn i x y z)) ((Zu i x y z).take k)) ((Zu i x y z).getD k 0) (aB (Gt (Lq (Ik n s t i) k)) O3) (aB (a8 i k) O3))) λb0 _=>go 4 ?_;rcases Yrs (ctl (Zu i x y z) k (k+1)) (62914560*ov)with l|⟨l,N⟩|⟨l,N⟩
           .have d:(g.2.getD k I0).1=(ctl (Zu i x y z) k (k+1)):=by rw [Qx,hg,Nw,aG O]
            refine Qf (λ_=>False) [(0,0),(1,0),(2,0),(3,0),(4,0),(5,1),(6,0),(7,0),(8,2),(9,2),(10,2),(11,2),(12,2),(13,2),(14,2),(15,2),(16,0)]<|go 2 ?_;refine Xj J J (Xq (Zv 11 k J J J J Zc Zh1 Zat J))<|Xj J J (Xq (Yz 11 I0 J J J Zc pI))<|go 1 ?_;refine Kr J (Xc 13 (Gn (62914560*ov) (by rw [d];exact aB (Zdu (Ik n s t i) O O) O3) (aB h O3)) J J J K2 call72 (Xz 11 J J (Zd (i:=k)) (Zk 96 J J J Zn)) J P.h) (λ_ _=>?_);refine Xj J J (Xq (dT (Zbl J J J) (vB (aK (by rw [d,Zxp];exact l)))))<|go 28 ?_;exact Xo e () results75 (by rw [Zc0 i (Zn0 λh1 h2 h3 h4=>by rw [Zzl k O O]at h4;cases h4)]) aA Za
           .have d:(g.2.getD k I0).1=(ctl (Zu i x y z) k (k+1)):=by rw [Qx,hg,Nw,aG O]
            refine Qf (λ_=>False) [(0,0),(1,0),(2,0),(3,0),(4,0),(5,1),(6,0),(7,0),(8,0),(9,0),(10,0),(11,0),(12,0),(13,1),(14,1),(15,0),(16,0)]<|go 2 ?_;refine Xj J J (Xq (Zv 11 k J J J J Zc Zh1 Zat J))<|Xj J J (Xq (Yz 11 I0 J J J Zc pI))<|go 1 ?_;refine Kr J (Xc 13 (Gn (62914560*ov) (by rw [d];exact aB (Zdu (Ik n s t i) O O) O3) (aB h O3)) J J J K2 call72 (Xz 11 J J (Zd (i:=k)) (Zk 96 J J J Zn)) J P.h) (λ_ _=>?_);refine Xj J J (Xq (dF (Zbl J J J) (vB (aN (by rw [d,Zxp];exact l)))))<|go 3 ?_;refine Ei (Xq (Zv 11 k J J J J Zc Zh1 Zat J)) J J J J J<|Ei (Xq (Yz 11 I0 J J J Zc pI)) J J J J J<|go 1 ?_;refine Zfi J J J J J (Xc 14 (Zl2 (x:=62914560*ov) (aB h O3)) J J J K1 call144 (Zk 96 J J J Zn) J P.h) (λc3 _=>?_);refine Zfi J J J J J (Xc 14 (Gn (-(62914560*ov)) (by rw [d];exact aB (Zdu (Ik n s t i) O O) O3) (by rw [eC];exact aB h O3)) J J J K2 call72 (Xz 11 J J (Zd (i:=k)) (Zk 14 J J J Zn)) J P.h) (λ_ _=>?_);refine Ei (Xq (dT (Yme J J J) (vB (aK (by rw [d,Yhw];exact N))))) J J J J J<|go 19 ?_;exact Xo e () results75 (by rw [Zc0 i (Zn0 λh1 h2 h3 h4=>by rw [Zzl k O O]at h4;cases h4)]) aA Za
           .have d:(g.2.getD k I0).1=(ctl (Zu i x y z) k (k+1)):=by rw [Qx,hg,Nw,aG O]
            refine Qf (λ_=>False) [(0,0),(1,0),(2,0),(3,0),(4,0),(5,1),(6,0),(7,0),(8,0),(9,0),(10,0),(11,0),(12,0),(13,1),(14,1),(15,0),(16,0)]<|go 2 ?_;refine Xj J J (Xq (Zv 11 k J J J J Zc Zh1 Zat J))<|Xj J J (Xq (Yz 11 I0 J J J Zc pI))<|go 1 ?_;refine Kr J (Xc 14 (Gn (62914560*ov) (by rw [d];exact aB (Zdu (Ik n s t i) O O) O3) (aB h O3)) J J J K2 call72 (Xz 11 J J (Zd (i:=k)) (Zk 96 J J J Zn)) J P.h) (λ_ _=>?_);refine Xj J J (Xq (dF (Zbl J J J) (vB (aN (by rw [d,Zxp];exact l)))))<|go 3 ?_;refine Ei (Xq (Zv 11 k J J J J Zc Zh1 Zat J)) J J J J J<|Ei (Xq (Yz 11 I0 J J J Zc pI)) J J J J J<|go 1 ?_;refine Zfi J J J J J (Xc 15 (Zl2 (x:=62914560*ov) (aB h O3)) J J J K1 call144 (Zk 96 J J J Zn) J P.h) (λc4 _=>?_);refine Zfi J J J J J (Xc 15 (Gn (-(62914560*ov)) (by rw [d];exact aB (Zdu (Ik n s t i) O O) O3) (by rw [eC];exact aB h O3)) J J J K2 call72 (Xz 11 J J (Zd (i:=k)) (Zk 15 J J J Zn)) J P.h) (λ_ _=>?_);refine Ei (Xq (dF (Yme J J J) (vB (aN (by rw [d,Yhw];exact N))))) J J J J J<|go 12 ⟨O,?_⟩;exact Zs (Xu 13 98 J J J)<|Yh (k+1,b0) ⟨O1,λj hj=>by rcases bP.1 hj with H|H;exact Q j H;subst H;omega⟩ O1 K1 ⟨by rw [Ac O];rfl,by rw [Ac O];rfl,aA⟩
          .obtain rfl:k=(Zu i x y z).length:=O;rw [bK];refine go 11 ⟨O,?_⟩;exact Zs (Xu 98 98 J J J)<|Yh (i+1,vs) ⟨O1,λk hk=>by rcases bP.1 hk with H|H;exact I k H;subst H;exact Ydy j1 j2 j3 (Zzk λj hj=>by have:=Q j hj;omega)⟩ O1 K1 ⟨by rw [Fz x y z O,Hj];rfl,by rw [Fz x y z O,Hj];rfl,aA⟩
       .obtain rfl:i=3:=O;refine go 6 ?_;refine Qf (λ_=>False) [(0,0),(1,1),(2,1),(3,0),(4,3)]<|go 1 ?_;refine Yw (Zm 16 [] (Pu 1 ⟨O3,O3⟩)) λc5 _=>Yw (Zm 16 [98,16] (Gn (x:=Me ov (Mn 3 x y z)) 1 (aB (D _) O3))) λ_ _=>go 5 ?_;exact Xo e () results75 (by rw [Yh6 O I];exact vB (bL.2 (by rw [eW];omega))) aA Za
theorem Zbb(l:List Int)(s:∀x∈l,Nz x)(B:l.length<=1000):Cal prog 145 #[v] [Yx 1 Yi v l] true (G:=Value×List (Int×SL)) (λr=>Zb r.2=tzl l) (λr=>r.1) (λr=>[pp r.1 r.2]):=by
 refine Zh func145 ntmps145 λV R D j=>?_;have m:=Zj6 s;refine go 17 ?_;refine Zg (Qy 70 2 89 Mo)<|Zg (Yo qI 71)<|lp (G:=Nat×Value×List (Int×SL)) [0] [0,1] (λq=>[(4,.int .i64 (q.1:Int)),(3,q.2.1)]) (λq=>[(70,Oa 2 89 Mo q.2.1 q.2.2),(71,Nj qI q.2.2)]) (λq=>(q.1<=l.length)/\(Zb q.2.2=mk q.1 (cf l))/\(q.2.2.length=q.1)) (λq=>l.length-q.1) (0,.slice none 0 0,[]) ⟨O1,rfl,rfl⟩ K2 K2 ?_;rintro⟨i,S,P⟩ ⟨hi,e,d⟩;dsimp only at hi e d;dsimp only;refine go 9 ?_;refine Ze J (λh=>?_) (λh=>?_)
 .refine go 8 ?_;refine dt (Zv 1 i J J J J Zr Pp Kv J)<|go 1 ⟨O,?_⟩;refine cl 2 [] (Pu _ (s _ Zd)) λv _=>?_;refine Zju (Xe 2 J Zr) (λn k=>?_);subst k;refine tt (Xv [(0,_)] 3 (enc:=Mo) [(l.getD i 0,n)] J J K2 Km ti89 J J J J J pI.cells J J D.h) (λI _=>?_);refine tt (Px 70 3 32 J J J J J J O3 J (Yb pI) Km ti89 J pI J J J O8 O3 J D.h) (λN _=>?_);refine go 9 ⟨O,?_⟩;exact Zs (Zp (q:=qI) (z:=(l.getD i 0,n)) 71 2 71 J J J J J)<|Yh (i+1,_,P ++ [(l.getD i 0,n)]) ⟨O1,by rw [Lg,Fi,e];dsimp only;rfl,by simp [d]⟩ O1 K2 K2
 .refine go 6 ?_;refine Zg (Xn 70 J J pI)<|Zg (Xw 70 71 72 J J J J)<|go 2 ?_;refine cl 4 [72] (Bk (by rw [e];exact Bf λt Q=>by have:=m t;omega)) λg H=>go 4 ?_;exact Xo j _ results145 J (by rw [H,e,show i=l.length by omega,Zei]) (Ps 4 Za)
def Dt(a b k:Int):List Int:=if b-a=0\/k=2 then [a]else if k=1 then [a,b-a]else [a,0,0,10*(b-a),-15*(b-a),6*(b-a)]
def tmL_0 (a:Int)(b:Int)(k:Int)(h:b-a=0\/k=2):Dt a b k=[a]:=aG h
def tmL_1{k:Int}(h:¬(b-a=0\/k=2))(d:k=1):Dt a b k=[a,b-a]:=(aD h).trans (aG d)
def tmL_2{k:Int}(h:¬(b-a=0\/k=2))(d:k≠1):Dt a b k=[a,0,0,10*(b-a),-15*(b-a),6*(b-a)]:=(aD h).trans (aD d)
def lineG(k:Int)(s:SL×SL×SL):Zl:=((0,1000,1),(s.1,Dt 0 300 k),(s.2.1,Dt 0 400 k),(s.2.2,Dt 0 0 k))
def stayG(s:SL×SL×SL):Zl:=((1000,2000,1),(s.1,Dt 0 0 2),(s.2.1,Dt 0 0 2),(s.2.2,Dt 0 0 2))
theorem Ow{l:List Int}(h:l.all (λa=>decide (-9223372036854775808<=a/\a<=9223372036854775807))=true):∀a∈l,Nz a:=λa d=>by have:=cP.1 h a d;simp only [dO]at this;exact this
def legZ(e g h j d l k:Int)(s:SL×SL×SL):Zl:=((0,1000,1),(s.1,Dt e j k),(s.2.1,Dt g d k),(s.2.2,Dt h l k))
def sm_bl{x:Int}(h:x.natAbs<=1000000000000000000000000)(d:80<=M):bl x.natAbs<=M:=aB ((Qo 80 _).2 (bA h O3)) d
theorem i_le{l:List Int}(h:Zb zs=l){n:Nat}(d:l.length<=n):zs.length<=n:=by rw [<-Zi,h];exact d
theorem Zew{l:List Int}(h:Zb zs=l)(d:Vp l):Sz 1000000 (Zb zs):=by rw [h];exact d.sz.mono O3
def Bq{l:List Int}(h:Zb zs=l)(e:Vp l){n:Nat}(d:25<=n):zs.length<=n:=i_le h (aB e.len d)
abbrev TzT:=SL×List (Int×SL)
def sqF(ov ov2:Int)(x y z x2 y2 z2:List Int)(i:Nat):List Int:=sqP (Zu i x y z) (Zu i x2 y2 z2) ov ov2
def sqR(ov ov2:Int)(x y z x2 y2 z2:List Int):Nat->List (List Int)
 | 0=>[]
 | i+1=>sqR ov ov2 x y z x2 y2 z2 i ++ [sqF ov ov2 x y z x2 y2 z2 i]
theorem sqR_s{d:List TzT}{e:TzT}(h:d.map (λz=>Zb z.2)=sqR ov ov2 x y z x2 y2 z2 i)(g:Zb e.2=sqF ov ov2 x y z x2 y2 z2 i):(d ++ [e]).map (λz=>Zb z.2)=sqR ov ov2 x y z x2 y2 z2 (i+1):=by rw [dL,h,bZ,gD,g];rfl
theorem sqR_at{d:List TzT}(h:d.map (λz=>Zb z.2)=sqR ov ov2 x y z x2 y2 z2 3):d.length=3/\Zb (d.getD 0 T0).2=sqF ov ov2 x y z x2 y2 z2 0/\Zb (d.getD 1 T0).2=sqF ov ov2 x y z x2 y2 z2 1/\Zb (d.getD 2 T0).2=sqF ov ov2 x y z x2 y2 z2 2:=by
 have g:=aH List.length h;rw [aP]at g;have g:d.length=3:=g
 match d,g with
 | [a,b,c],_=>
  have e:[Zb a.2,Zb b.2,Zb c.2]=[sqF ov ov2 x y z x2 y2 z2 0,sqF ov ov2 x y z x2 y2 z2 1,sqF ov ov2 x y z x2 y2 z2 2]:=h;injection e with e0 e;injection e with e1 e;injection e with e2 e;exact⟨rfl,e0,e1,e2⟩
def ovW(ov ov2:Int):Int:=ov*ov2*(ov*ov2)
def rfL(e d ov ov2:Int)(x y z x2 y2 z2:List Int):List Int:=Ht (Zq (Ht (sqF ov ov2 x y z x2 y2 z2 0) (sqF ov ov2 x y z x2 y2 z2 1)) (d*d)) (Zq (sqF ov ov2 x y z x2 y2 z2 2) (e*e))
def rfW(d e ov ov2:Int):Int:=d*d*(e*e)*ovW ov ov2
def rfZ(e g d ov ov2:Int)(x y z x2 y2 z2:List Int):List Int:=Eh (rfL g d ov ov2 x y z x2 y2 z2) (tzl [rfW e d ov ov2])
theorem Yhl(p q:List Int)(a b k:Int):sqK p q a b k=Zq (sqP p q a b) (k*k):=by unfold sqK dfK sqP;exact Yer
def Zsz(w:Int):cf [w] 0=w:=rfl
theorem ab_one{w:Int}(h:w.natAbs<=M):Ab M (tzl [w]):=λi=>by
 rw [Lc]
 match i with
 | 0=>rw [Zsz];exact h
 | i+1=>rw [Yf O7];exact bD _
theorem Yfb(w:Int)(i:Nat):cf [w] i=-(cf [-1] i*w):=by
 match i with
 | 0=>rw [Zsz,Zsz];omega
 | i+1=>rw [Yf O7,Yf O7];omega
theorem rf_eq(d h g ov ov2:Int)(x y z x2 y2 z2:List Int):rfZ d h g ov ov2 x y z x2 y2 z2=smZ d h g ov ov2 x y z x2 y2 z2 3:=by
 have k:Tr (smZ d h g ov ov2 x y z x2 y2 z2 3):=by unfold smZ;exact Qi _
 refine(Zac).ext k λi=>?_;unfold rfL smZ;simp only [smP];rw [Il,Dh,Yl,Dh,Yl,Dh,Dh,Dh,Lc];unfold fqZ;rw [Yhl,Yhl,Yhl,Yl,Yl,Yl];have e:cf (cnZ d g ov ov2) i=cf [-1] i*d*d*g*g*ov*ov*ov2*ov2:=by unfold cnZ;simp only [ngC,Yl,List.getD_cons_zero,nO]
 have j:=Yfb (rfW d g ov ov2) i;rw [e,j];unfold rfW ovW sqF;simp only [Zu];generalize cf (sqP x x2 ov ov2) i=A;generalize cf (sqP y y2 ov ov2) i=B;generalize cf (sqP z z2 ov ov2) i=C;generalize cf [-1] i=D;grind
structure RfX (zd zn ze ov ov2:Int) (x y z x2 y2 z2:List Int):Prop where
 v0:∀i,Vp (sqF ov ov2 x y z x2 y2 z2 i)
 v1:Vp (Ht (sqF ov ov2 x y z x2 y2 z2 0) (sqF ov ov2 x y z x2 y2 z2 1))
 v2:Vp (Zq (Ht (sqF ov ov2 x y z x2 y2 z2 0) (sqF ov ov2 x y z x2 y2 z2 1)) (ze*ze))
 v3:Vp (Zq (sqF ov ov2 x y z x2 y2 z2 2) (zn*zn))
 v4:Vp (rfL zn ze ov ov2 x y z x2 y2 z2)
 v5:Vp (tzl [rfW zd ze ov ov2])
 v6:Vp (rfZ zd zn ze ov ov2 x y z x2 y2 z2)
 wb:bl (rfW zd ze ov ov2).natAbs<=1000000
 ob:bl (ov*ov2).natAbs<=1000
 oW:bl (ovW ov ov2).natAbs<=1000
 eb:bl (ze*ze).natAbs<=1000
 nb:bl (zn*zn).natAbs<=1000
 db:bl (zd*zd).natAbs<=1000
 xb:bl (zd*zd*(ze*ze)).natAbs<=1000
theorem ov_b{fr j e g:Int}(h:Sgo fr j ov x y z)(d:Sgo e g ov2 x2 y2 z2):bl (ov*ov2).natAbs<=1000000000:=by have k:=h.o1;have l:=h.o2;have m:=d.o1;have n:=d.o2;exact sm_bl (aB (Yke ov ov2 4294967296 4294967296 O O) O3) O3
theorem Ypk{k m l:Int}(h:Zb zs=rfZ k m l ov ov2 x y z x2 y2 z2):zs.length≠0->Ys (Zb zs)≠0:=λd=>by
 have g:Zb zs≠[]:=λe=>d (by rw [<-Zi,e];rfl);have j:Tr (Zb zs):=by rw [h];unfold rfZ;exact Zac
 have:=Zwv j g;intro e;rw [e]at this;exact absurd this O3
theorem rf_fin{d g e:Int}(h:Zb ys=Zw (Zb zs))(j:Zb zs=rfZ d g e ov ov2 x y z x2 y2 z2):Zb ys=fmZ d g e ov ov2 x y z x2 y2 z2:=by rw [h,j,rf_eq];unfold fmZ;rfl
def tpI(n k:Nat):Nat:=n/1000000000^k
theorem Yok(n:Nat):tpI n (dg 1000000000 n).length=0:=by unfold tpI;exact cN ((Xt O3 _ n).1 (aI _))
theorem tpI_s(n k:Nat):tpI n (k+1)*1000000000+(dg 1000000000 n).getD k 0=tpI n k:=by unfold tpI;rw [Hr O3,bX,<-aV];omega
theorem Ygy(n:Nat):tpI n 0=n:=by unfold tpI;rw [fL,nN]
def tpI_le(n k:Nat):tpI n k<=n:=eQ _ _
theorem Yb8{g:Int}(d:0<=g)(l:List Int):∀k,k<=l.length->Me g (l.take k)=(Int.gcd g (Ys (l.take k)):Int)
 | 0,_=>by rw [dS];show g=((Int.gcd g 0:Nat):Int);rw [oB];omega
 | k+1,e=>by rw [Ac (g:=g) O,Ll O,Yb8 d l k O,Int.gcd_assoc]
def gcR(o:Int)(X Y Z:List Int):Nat->Int
 | 0=>o
 | i+1=>(Int.gcd (gcR o X Y Z i) (Ys (Zu i X Y Z)):Int)
theorem Zyr{o:Int}(d:0<o)(X Y Z:List Int):∀i,i<=3->gcR o X Y Z i=Me o (Mn i X Y Z)/\0<=gcR o X Y Z i
 | 0,_=>⟨rfl,eG d⟩
 | i+1,hi=>by obtain⟨e,g⟩:=Zyr d X Y Z i O;refine⟨?_,lS _⟩;show((Int.gcd (gcR o X Y Z i) (Ys (Zu i X Y Z)):Nat):Int)=_;rw [Fz X Y Z O,Hj,<-e];have:=Yb8 g (Zu i X Y Z) (Zu i X Y Z).length (aI _);rw [bK]at this;exact this.symm
def gcR_A{X:List Int}(h:Mdh o X Y Z):gcR o X Y Z 3=Kt o X Y Z:=(Zyr h.o X Y Z 3 (aI _)).1
theorem Zg8{X:List Int}(h:Mdh o X Y Z)(hi:i<=3):bl (gcR o X Y Z i).natAbs<=1000:=by rw [(Zyr h.o X Y Z i hi).1];have:=h.fc i 0;rw [dS]at this;exact this
structure Row3 (ws:List TzT) (X Y Z:List Int):Prop where
 l:ws.length=3
 e:∀i,i<3->Zb (ws.getD i T0).2=Zu i X Y Z
theorem Zun{d:List TzT}{t:Nat}{g:TzT}(k:d.length=i)(h:∀t,t<i->Zb (d.getD t T0).2=f t)(m:Zb g.2=f i)(l:t<i+1):Zb ((d ++ [g]).getD t T0).2=f t:=by
 rcases bP.1 l with j|j
 .have e:(d ++ [g]).getD t T0=d.getD t T0:=by rw [aE,aE,cS O]
  rw [e];exact h t j
 .subst j;have e:(d ++ [g]).getD t T0=g:=by rw [aE,dC O,k,gE];rfl
  rw [e];exact m
theorem Yav{e:List TzT}{d:Int}(g:e.length=3)(h:∀t,t<3->Zb (e.getD t T0).2=Pd (Zu t x y z) a b d):Row3 e (Pd x a b d) (Pd y a b d) (Pd z a b d):=⟨g,λi hi=>by
 rw [h i hi]
 match i,hi with
 | 0,_=>rfl
 | 1,_=>rfl
 | 2,_=>rfl⟩
theorem Yls(h:AxC c ov)(j:Zb zs=tzl c):5-max 0 ((zs.length:Int)-1)=((6-c.length:Nat):Int):=by
 have k:=h.l;have e:zs.length=(tzl c).length:=by rw [<-Zi,j]
 rcases Ynn h with d|d
 .rw [e,d];omega
 .subst d;have g:(tzl [(0:Int)]).length=0:=O3;rw [e,g];decide
theorem Zkw(g:∀a∈c,Nz a)(h:c.length<=6)(d:Zb zs=tzl c):zs.length<=30/\Xx (Zb zs)+zs.length*(30+1)+1+zs.length+1+30<=900000:=by have e:zs.length<=6:=i_le d (aB (Mj c) h);have m:=Qu (p:=Zb zs) (n:=64) (by rw [d];exact(ab_in g).sz O3);have:=aJ 31 e;exact⟨O,O⟩
def Zuf(fr d:Int)(g:Zl)(r:SL×SL×SL):Zl:=((cA fr g,cB d g,cO g/cG fr d g),(r.1,Hu (cX fr d g g.2.1.2) (cG fr d g)),(r.2.1,Hu (cX fr d g g.2.2.1.2) (cG fr d g)),(r.2.2,Hu (cX fr d g g.2.2.2.2) (cG fr d g)))
theorem cut_un{fr e:Int}{g:Zl}(h:Zhj fr e g=true):Gs (Zuf fr e g r)=Zws fr e g:=by have d:cO g/cG fr e g<=4294967296:=cE h;unfold Zws Gs Zuf mdO;rw [aG d,Zg0 d,Zg0 d,Zg0 d]
theorem cutI_y{fr d:Int}{ps zs:List Zl}{k:Nat}{x g:Zl}(h:Zsm fr d ps k zs)(e:(ps.filter (Ii fr d))[k]? = some x)(m:Zhj fr d x=true)(n:Gs g=Zws fr d x):Zsm fr d ps (k+1) (zs ++ [g]):=by
 obtain⟨j,l⟩:=h;refine⟨?_,?_⟩
 .rw [dL,j,Zh3 e,dL,bZ,gD,bZ,gD,n]
 .rw [Zh3 e,nA,l];simp [m]
theorem Yao{g:Zl}(h:seB g=true)(i:Nat):AxC (Zu i g.2.1.2 g.2.2.1.2 g.2.2.2.2) g.1.2.2:=by obtain⟨d,e,j⟩:=Zxu h;exact Cr (p:=λl=>AxC l g.1.2.2) d e j
theorem Yc3{fr d:Int}{g:Zl}(e:SgG g)(h:Ii fr d g=true):g.1.1<=cA fr g/\cA fr g<cB d g/\cB d g<=g.1.2.1:=by have:=cE h;exact⟨Int.le_max_right _ _,this,Int.min_le_right _ _⟩
theorem fl_le(ps:List Zl)(p:Zl->Bool)(i:Nat):((ps.take i).filter p).length<=i:=by have:=jG p (ps.take i);have d:=List.length_take_le i ps;omega
theorem cut_t{fr d:Int}{ps:List Zl}(h:Zwt fr d ps=0):Oj fr d ps=true:=by
 cases hb:Oj fr d ps with
 | true=>rfl
 | false=>rw [Zza hb]at h;exact absurd h O3
theorem Ya7(x:Int)(B:x.natAbs<=9223372036854775807):Qd prog 279 #[.agg #[.bool (decide (x<0)),v]] [Ox v x.natAbs] (.int .i64 x):=by
 refine Zh func279 ntmps279 λH D t h=>?_;refine Pg (Mh (i:=1) J Zr) λj=>go 2 ?_;refine Ym (Yr 2) λn _=>?_;refine go 19 ⟨O,?_⟩;refine lp (G:=Nat) [1] [0,1,2] (λk=>[(4,.int .i64 ((k:Int)-1)),(3,.int .i64 (tpI x.natAbs k:Int))]) (λk=>[]) (λk=>k<=(dg 1000000000 x.natAbs).length) (λk=>k) (dg 1000000000 x.natAbs).length (aI _) ⟨J,(by rw [Yok];rfl),aA⟩ aA ?_;rintro k s;have l:=tpI_le x.natAbs (k-1);have d:=tpI_s x.natAbs (k-1);refine go 7 ?_;refine Ze J (λe=>?_) (λe=>?_)
 .refine go 10 ⟨⟨O,by rw [show k-1+1=k by omega]at d;omega⟩,?_⟩;refine dt (Zv 1 (k-1) J J J J Zr Pp Kv)<|go 11 ⟨O,⟨O,by rw [show k-1+1=k by omega]at d;omega⟩,O,?_⟩;exact Yh (k-1) O1 O1 ⟨(aH (λq:Int=>some (Value.int .i64 q)) (show(k:Int)-1-1=((k-1:Nat):Int)-1 by omega)),(aH (λq:Int=>some (Value.int .i64 q)) (show(tpI x.natAbs k:Int)*1000000000+(((dg 1000000000 x.natAbs).getD (k-1) 0:Nat):Int)=((tpI x.natAbs (k-1):Nat):Int) by rw [show k-1+1=k by omega]at d;omega)),aA⟩ aA
 .obtain rfl:k=0:=O;have m:=Ygy x.natAbs;refine go 12 ?_;refine Ze J (λg=>?_) (λg=>?_)
  .refine go 3 ?_;refine dt (Ymd J J)<|go 5 ?_;exact Xo h () results279 (by rw [Ygy];congr 1;omega) aA Za
  .refine go 9 ?_;exact Xo h () results279 (by rw [Ygy];congr 1;omega) aA Za
theorem Zo7{ps:List Zl}(g:1<=ps.length):Qd prog 54 #[v] [Xs 6 Qj qG v ps] (.int .i64 (spF ps)):=by refine Zh func54 ntmps54 λk j h d=>?_;refine Pg (Mh (i:=1) J Zc) (λe=>?_);refine go 9 ⟨O,?_⟩;refine dt (Li 1 J J J Zc Ds J Kv J)<|dt (Lx 1 G0 J J J Zc iA3 J)<|go 4 ?_;exact Xo d () results54 J aA Za
theorem Ya8{ps:List Zl}(g:1<=ps.length):Qd prog 53 #[v] [Xs 6 Qj qG v ps] (.int .i64 (spL ps)):=by refine Zh func53 ntmps53 λk j h d=>?_;refine Pg (Mh (i:=1) J Zc) (λe=>?_);refine go 11 ⟨O,?_⟩;refine dt (Zv 1 (ps.length-1) J J J J Zc Ln Ix)<|dt (Li 1 J J J Zc Ds J Kv J)<|dt (Lx 1 G0 J J J Zc iA3 J)<|go 4 ?_;exact Xo d () results53 J aA Za
theorem Ym2(h:Tr xs)(d:xs≠[])(hs:Sz 320 xs)(l:xs.length<=11):Ax 13 xs/\Sz 335 (sqf 13 xs)/\(sqf 13 xs).length<=11:=by obtain⟨e,g,j,k⟩:=chG 13 h d hs O O O;exact⟨e,g,O⟩
theorem Zou(h:Vp xs)(j:xs≠[])(hs:Sz 320 xs)(N:xs.length<=11) :
  Vp (Xa xs)/\Vp (Yy (Xa xs))/\eok 13 (Xa xs) (Yy (Xa xs))/\Lv (Zw (eu 13 (Xa xs) (Yy (Xa xs))))=Nc 13 (Xa xs) (Yy (Xa xs))/\
  Vp (Nc 13 (Xa xs) (Yy (Xa xs)))/\Nc 13 (Xa xs) (Yy (Xa xs))≠[]/\pdv (Xa xs) (Nc 13 (Xa xs) (Yy (Xa xs)))/\
  Xx (Xa xs)<=320/\Xx (Nc 13 (Xa xs) (Yy (Xa xs)))<=335/\(Xa xs).length<=11/\Vp (sqf 13 xs)/\sqf 13 xs≠[]/\Xa (sqf 13 xs)=sqf 13 xs/\(Nc 13 (Xa xs) (Yy (Xa xs))).length<=11:=by
 have n:=Zp8 hs;have Q:=Pr h.tr;have k:Tr (Xa xs):=Na (Yv h.tr);have s:=Gx n O;have P:=Oc (Xa xs);have d:Tr (Yy (Xa xs)):=Nm k;have S:=Qu n;have m2:=Qu s;have W:=aF.2 j;obtain⟨G,V,R⟩:=Ym2 h.tr j hs N;have g:eok 13 (gA (Xa xs) (Yy (Xa xs))) (gB (Xa xs) (Yy (Xa xs))):=G.1.2.2.1;have e:eok 13 (Xa xs) (Yy (Xa xs)):=
  (Ycn 325 5 331 O k d (n.mono O) s O O (Yj7 O O O) (aB (aU (show(Xa xs).length+1<=12 by omega) (show 325+1<=400 by omega)) O3) O).1
 obtain⟨f1,f2,f3,f4,f5,f6⟩:=Ou 13 h.tr j g;have H:=Zd1 13 k d;have D:=Zik h.tr j;have I:fcs 0 13<=2^15*2^15:=O5;have t:=Ft 13 24 H f2 n D k O O3 I (by rw [Dz];exact f4);have m:=Zxi h;have l:Vp (Yy (Xa xs)):=⟨s.mono O,d,O⟩;have B:=Ov f2 H f3 f5;rw [<-f4]at B;have lq:=aF.2 f3;exact⟨m,l,e,Yq3 k d e g,Zzz m l g,f5,f1,S,Qu t,O,Zk9 h j G.1,f3,f6,O⟩
structure RI (xs q:List Int):Prop where
 v:Vp q
 ne:q≠[]
 s:Sz 220 q
 l:q.length<=11
 d:Dp xs (Xa q)
def RI.start(h:Cvd xs)(d:xs≠[]):RI xs xs:=⟨h.v,d,h.s.mono O,h.l,Dp.start h.v.tr d⟩
theorem Yg7{n:Nat}{e:Int}(d:e=1\/e=-1)(h:Sz n q):Sz n (Zq q e):=λi=>by
 rw [Yl];have:=h i;rcases d with rfl|rfl
 .rw [fH];exact this
 .rw [Int.mul_neg_one,eC];exact this
theorem RI.step(h:Cvd xs)(B:xs≠[])(g:RI xs q) :
  Tr (sqf 13 q)/\Xx (sqf 13 q)<=235/\(sqf 13 q).length<=11/\0<(sqf 13 q).length/\Ys q≠0/\Sz 220 (Zq (Zw q) 1)/\Tr (Zq (Zw q) 1)/\(Zq (Zw q) 1).length=q.length/\pdv (Zq (Zw q) 1) (sqf 13 q)/\
  Vp (Nb 13 q)/\Nb 13 q≠[]/\Sz 220 (Nb 13 q)/\(Nb 13 q).length<=11/\Ys (Nb 13 q)≠0/\Zw (Nb 13 q)=Nb 13 q/\
  Tr (sqf 13 (Nb 13 q))/\Xx (sqf 13 (Nb 13 q))<=235/\(sqf 13 (Nb 13 q)).length<=11/\0<(sqf 13 (Nb 13 q)).length/\pdv (sqf 13 q) (sqf 13 (Nb 13 q))/\Sz 600 (Kc (sqf 13 q) (sqf 13 (Nb 13 q)))/\(Kc (sqf 13 q) (sqf 13 (Nb 13 q))).length<=11/\
  pdv (Nb 13 q) (sqf 13 (Nb 13 q))/\RI xs (Al 13 q)/\((sqf 13 q).length≠1->(Al 13 q).length<q.length):=by
 have hl:=h.l;have D:=g.d;have j:=(D.ok h.v.tr B h.s O O (show xs.length<=13+1 by omega)).2;have t:Dd 13 q:=by unfold Dd at j ⊢;rwa [D.2.2.1]at j
 have k:=D.next j;have a0:Oe 13 (Xa q)=Oe 13 q:=Zkr D.2.2.1;have a4:sqf 13 (Xa q)=sqf 13 q:=Cg D.2.2.1;rw [a0]at k;have d:=(k.ok h.v.tr B h.s O O (show xs.length<=13+1 by omega)).2;have P:=k.next d;obtain⟨⟨e,he,r1,r2,r3,r4,r5,r6⟩,r7,r8,r9,Q,a6,a7⟩:=Zlx g.v.tr g.ne t d;obtain⟨-,-,-,-,-,-,-,-,-,-,-,l,m,R,-,n,-,-⟩:=Zd9 h B D;obtain⟨-,-,-,-,-,-,-,-,-,-,-,s,S,V,-,G,a8,-⟩:=Zd9 h B k;rw [a4]at l m R n;have a3:sqf 13 (Nb 13 q)=sqf 13 (Oe 13 q):=Cg (by rw [r7,k.2.2.1]);obtain⟨g1,g2⟩:=Zhf h B k;obtain⟨g3,g4⟩:=Zhf h B P;have e0:e≠0:=by rcases he with rfl|rfl<;>decide
 have H:Sz 220 (Nb 13 q):=by rw [r3];exact Yg7 he g1
 have W:(Nb 13 q).length<=11:=by rw [r3];have:=Oh (p:=Oe 13 q) e;omega
 have I:Vp (Nb 13 q):=⟨H.mono O,r9,O⟩;have N:Sz 220 (Al 13 q):=by rw [r6];exact Yg7 he g3
 have a9:(Al 13 q).length<=(Oe 13 (Oe 13 q)).length:=by rw [r6];exact Oh e
 obtain⟨o1,o2,o3,o4⟩:=Cv g.v.tr g.ne t d;have hK:fcs 0 13<=2^15*2^15:=O5;have a2:=Ft 13 24 o3 s.tr m n l.tr O O3 hK o2;have a1:=Ov o3 s.tr o4 G;rw [<-o2]at a1;have lb:=aF.2 G;have la:=aF.2 n;have lo:=aF.2 o4;have hm:Zq (Zw q) 1=Zw q:=by refine(Qk).ext (Yv g.v.tr) λi=>?_;rw [Yl,fH]
 have hx:=Pk g.v.tr g.ne t;have a5:=Pk k.1 k.2.1 d;rw [a3];refine⟨l.tr,Qu m,O,la,g.v.ne g.ne,by rw [hm];exact Hz g.s,Qk,by rw [hm,Zy],by rw [r1];exact r2,I,Q,H,W,I.ne Q,r4,s.tr,Qu S,V,lb,o1,a2.mono O,?_,r5,⟨⟨N.mono O,a6,O⟩,a7,N,O,by rw [r8];exact P⟩,λb0=>?_⟩
 .show(Be 13 q).length<=11;omega
 .have h1:=hx.2.2.2.2;have h2:=a5.2.2.2.2;omega
theorem rodd_1{f:Nat}(h:(sqf F p).length=1):Zc4 F f p=sqf F p:=by
 cases f with
 | zero=>rfl
 | succ f=>unfold Zc4;rw [aG h]
theorem rodd_s{f:Nat}(h:(sqf F p).length≠1):Zc4 F (f+1) p=Qs (Kc (sqf F p) (sqf F (Nb F p))) (Zc4 F f (Al F p)):=by
 conv=>lhs;unfold Zc4
 rw [aD h]
theorem Yjn{n:Nat}(N:Tr p)(D:p≠[])(hs:Sz n p)(I:n<=220)(H:p.length<=11)(G:p.length<=F+1):∀(f:Nat) (q:List Int),Dp p q->q.length<=f->∃a:List Int,Tr a/\q=Qs a (Bb F f q):=by
 intro f
 induction f with
 | zero=>intro q d m;have:=aF.2 d.2.1;omega
 | succ f ih=>
  intro q d m;have e:=(d.ok N D hs I H G).2;have h:=d.next e;have g:=(h.ok N D hs I H G).2;have l:=h.next g;unfold Bb;by_cases k:(sqf F q).length=1
  .rw [aG k];obtain⟨s1,s2,s3⟩:=Zf7 d.1 d.2.1 e k;refine⟨[1],.inr (show cf [1] 0≠0 by decide),d.1.ext Qm λi=>Nq (λx=>?_) i⟩;rw [Yp,s1,Yqd d.1 d.2.2.1 s2,Py];push_cast;grind
  .rw [aD k];have lq:2<=q.length:=by obtain⟨f1,f2,f3,f4,f5,f6⟩:=Ou F d.1 d.2.1 e;obtain⟨P,s,t,j,Q⟩:=Pk d.1 d.2.1 e;have l1:=aF.2 f3;have l2:=aF.2 s;omega
   have a0:=Zm0 d.1 d.2.1 e lq;obtain⟨P,s,t,j,Q⟩:=Pk d.1 d.2.1 e;obtain⟨b1,b2,b3,B,b5⟩:=Pk h.1 h.2.1 g;obtain⟨-,t2,t3,-,-,-⟩:=Ou F h.1 h.2.1 g;have lb:=aF.2 t3;obtain⟨A,hA,hB⟩:=ih _ l O;obtain⟨-,o2,o3,o4⟩:=Cv d.1 d.2.1 e g;rw [d.2.2.1]at j;rw [t]at B;refine⟨Qs (Qs (sqf F (Oe F q)) (sqf F (Oe F q))) A,Qm,d.1.ext Qm λi=>Nq (λx=>?_) i⟩;have R:Zf q x=Zf (sqf F q) x*Zf (Oe F q) x:=by rw [<-Yp,<-j]
   have V:Zf (sqf F q) x=Zf (Be F q) x*Zf (sqf F (Oe F q)) x:=by rw [<-Yp,<-o2]
   have W:Zf (Oe F q) x=Zf (sqf F (Oe F q)) x*Zf (Oe F (Oe F q)) x:=by rw [<-Yp,<-B]
   have e4:Zf (Oe F (Oe F q)) x=Zf A x*Zf (Bb F f (Oe F (Oe F q))) x:=by rw [<-Yp,<-hB]
   rw [Yp,Yp,Yp,Yp,R,V,W,e4];show _=_*(Zf (Be F q) x*_);generalize Zf (sqf F (Oe F q)) x=S;grind
theorem RI.size(h:Cvd xs)(k:xs≠[])(g:RI xs q){f:Nat}(Q:q.length<=f):Tr (Zc4 13 f q)/\Sz 460 (Zc4 13 f q)/\(Zc4 13 f q).length<=11:=by
 have R:=h.l;have d:=g.d;have e:Zc4 13 f q=Bb 13 f (Xa q):=by rw [Yaw h.v.tr k h.s O O O f q g.v.tr g.ne d];exact Zmb d.2.2.1.symm f
 have I:=Pr g.v.tr;have H:=g.l;obtain⟨A,B,l⟩:=Yjn h.v.tr k h.s O O (show xs.length<=13+1 by omega) f (Xa q) d O;obtain⟨D,P⟩:=Zhf h k d;have j:=(d.ok h.v.tr k h.s O O (show xs.length<=13+1 by omega)).2;have s:=Zkk xs (F:=13) (f:=f) d.1 d.2.1 j;rw [e];have G:fcs 0 13<=2^15*2^15:=O5;have N:Bb 13 f (Xa q)≠[]:=λm=>d.2.1 (by rw [l,m,Zca]);have t:A≠[]:=λm=>d.2.1 (by rw [l,m,Fr]);have n:=Ov B s t N;rw [<-l]at n;have:=aF.2 t;exact⟨s,(Ft 13 24 s B D d.2.1 d.1 O O3 G (by rw [Dz];exact l)).mono O,O⟩
theorem Yew(h:Cvd xs)(d:xs≠[]):Zc4 13 xs.length xs=Kd xs:=by have e:=h.l;exact(Yj3 h.v.tr d h.s O O (show xs.length<=13+1 by omega)).symm
theorem r3_rem(F:Nat)(hl:zs.length<=30)(hk:ys.length<=30)(c9:0<ys.length)(b8:Tr (Zb zs))(ht:Tr (Zb ys))(c3:zs.length<ys.length+F)(b5:Xx (Zb zs)+F*(Xx (Zb ys)+1)<=900000):Cal prog 312 #[v,u] [pp v zs,pp u ys] true (G:=Value×List (Int×SL)) (λr=>Zb r.2=Gu F (Zb zs) (Zb ys)) (λr=>r.1) (λr=>[pp r.1 r.2]):=by
 refine Zh func312 ntmps312 λw0 sc N b6=>?_;have c5:=Zi zs;have e:=Zi ys;have j:=Qx ys (ys.length-1);have h:=Ydp (Zb ys);refine go 11 ⟨O,?_⟩;refine dt (Zv 2 (ys.length-1) J J J J Zc Km Zat)<|dt (Yz 2 I0 J J J Zc pI)<|Ym (Ya 85) λb _=>go 1 ?_;refine Xf (Ni 2 91 (ys.getD (ys.length-1) I0) J J Zd J)<|go 4 ?_;refine Zg (Xu 1 80 J J J)<|lp (G:=Value×List (Int×SL)×Nat) [1,5] [0,1,2,85,91] (λq=>[(0,q.1)]) (λq=>[(80,pp q.1 q.2.1)]) (λq=>(Gu q.2.2 (Zb q.2.1) (Zb ys)=Gu F (Zb zs) (Zb ys))/\((Zb q.2.1).length<(Zb ys).length+q.2.2)/\(Tr (Zb q.2.1))/\(Xx (Zb q.2.1)+q.2.2*(Xx (Zb ys)+1)<=900000)/\(q.2.1.length<=30)) (λq=>q.2.2) (_,zs,F) ⟨J,O9,b8,b5,hl⟩ ⟨J,aA⟩ ⟨J,aA⟩ ?_;rintro⟨vr,d,f⟩ ⟨hE,hL,hT,hS,hW⟩;dsimp only at hE hL hT hS hW;dsimp only;have s:=Zi d;have n:=Qx d (d.length-1);refine go 10 ?_;refine Ze J (λb1=>?_) (λb1=>?_)
 .obtain⟨f1,rfl,a0,a1,a3,a2,c4⟩:=Yev O O hL hT hS;have hB:Xx (Zb d)+(Xx (Zb ys)+1)<=900000:=by rw [dA]at hS;omega
  have k:=bl_rb (Zb d) (Zb ys);refine go 4 ?_;refine Po [80,85] [10]<|Zj 4 [(0,0),(1,0),(2,0),(3,0),(4,0),(5,0),(6,0)]<|go 5 ⟨O,?_⟩;refine Xj J J (Eg (Zv 80 (d.length-1) J J J J Zc Km Zat) K2)<|Xj J J (Eg (Yz 80 I0 J J J Zc pI) K2)<|go 1 ?_;refine Qw 3 7 8 ?_ ?_
  .refine Ot (Qe 95) λa7 ho=>?_;refine Zj 0 [(8,1),(9,1),(10,3)]<|Yw (Qe 96) λa8 c6=>go 3 ?_;refine Zt<|go 1 ?_;refine jn (G:=Value×Value) [0,1,5,6,7] [0,80,1,2,85,91] (λq=>[]) (λq=>[(95,box a7 89 #[.bool (decide ((Fp (Zb ys))<0)),q.1]),(96,box a8 89 #[.bool (decide ((rb (Zb d) (Zb ys))<0)),q.2]),(93,Ox q.1 (Fp (Zb ys)).natAbs),(94,Ox q.2 (rb (Zb d) (Zb ys)).natAbs)]) (λq=>True) ?_ ?_
   .refine go 1 ?_;refine Zg (Ni 80 92 (d.getD (d.length-1) I0) J J Zd J)<|go 2 ?_;refine cl 2 [91] (An (by rw [j];have:=Pb (Zb ys) (ys.length-1);omega)) λ_ _=>go 3 ?_;refine Ze J (λb2=>?_) (λb2=>?_)
    .refine Po [96] [5]<|Zj 0 [(2,0),(0,1),(1,1),(3,1),(4,1),(5,3)]<|go 2 ?_;refine Yw (Zm 3 [91] (Zl2 (by rw [j];have:=Pb (Zb ys) (ys.length-1);omega))) λv _=>Yw (Zm 4 [92] (Zl2 (by rw [n];have:=Pb (Zb d) (d.length-1);omega))) λd0 _=>go 3 ?_;refine Zt ?_;have h:=Yis e j ‹_›;have k:=rb_n (x:=Zb d) (y:=Zb ys) e s j n ‹_›;exact Zs (Xu 3 93 J J J)<|Zs (Xu 4 94 J J J)<|Od (_,_) aA aA ⟨by rw [h];rfl,by rw [k];rfl,by rw [h];rfl,by rw [k];rfl,aA⟩
    .refine go 1 ?_;have h:=Yir e j ‹_›;have k:=rb_p (x:=Zb d) (y:=Zb ys) e s j n ‹_›;exact Zs (Xu 91 93 J J J)<|Zs (Xu 92 94 J J J)<|Od (_,_) aA aA ⟨by rw [h];rfl,by rw [k];rfl,by rw [h];rfl,by rw [k];rfl,aA⟩
   .rintro⟨va,vb⟩ -;dsimp only;refine go 7 ⟨O,?_⟩;refine tt (Hi 70 (d.length-ys.length) 32 (enc:=Mo) I0 J J J J Km ti89 J pI.cells pI.pos J J J N.h) λd1 _=>go 10 ?_;refine Zg (Ak 71 (d.length-ys.length))<|lp (G:=Nat×Value×List (Int×SL)) [0,1,5,6,7] [0,95,96,93,94,80,1,2,85,91] (λq=>[(9,.int .i64 (q.1:Int)),(8,q.2.1)]) (λq=>[(70,Oa 2 89 Mo q.2.1 q.2.2),(71,Nj qI q.2.2)]) (λq=>(q.1<=ys.length)/\(Zb q.2.2=shm (Zb ys) (rb (Zb d) (Zb ys)) ((Zb d).length-(Zb ys).length) q.1)/\(q.2.2.length=((Zb d).length-(Zb ys).length)+q.1)) (λq=>ys.length-q.1) (0,_,List.replicate (d.length-ys.length) I0) ⟨O1,by rw [<-Zga,s,e];simp [Zb],by simp<;>omega⟩ K2 K2 ?_;rintro⟨i,vo,ms⟩ ⟨hi,l,R⟩;dsimp only at hi l R;dsimp only;have B:=Qx ys i;refine go 9 ?_;refine Ze J (λb3=>?_) (λb3=>?_)
    .refine go 4 ?_;refine Po [2,96] [9]<|Zj 3 [(0,0),(1,0),(2,0),(3,0),(4,0),(5,0),(6,1)]<|go 4 ⟨O2,?_⟩;refine Xj J J (Eg (Yz 2 I0 J J J Zc pI O2) K2)<|go 1 ?_;refine Kr J (Xc 86 (Lu _ _ (by rw [B];have:=Pb (Zb ys) i;omega)) J J J K2 call69 (Xz 2 J J (Zd (i:=i)) (Zk 94 J J J Zn)) J N.h) λd2 _=>go 1 ?_;refine Zoe (Xe 86 J Zr) (λsl b7=>?_);subst b7;refine Zj 0 [(7,1),(8,1),(9,3)]<|Kr J (Xv [(0,_)] 87 (enc:=Mo) [((ys.getD i I0).1*(rb (Zb d) (Zb ys)),sl)] J J K2 Km ti89 J J J J J pI.cells J J N.h) (λd3 _=>?_);refine Kr J (Zb0 70 J J J K2 (λm=>(Bj 70 87 32 (xs:=ms) (ys:=[_]) J J J J J J O3 J (Yb pI) Km ti89 J pI J J J O8 O3 J N.h m))) λd4 _=>go 2 ?_;refine Zt<|go 7 ⟨O,?_⟩;exact Zs (Zp (q:=qI) (z:=((ys.getD i I0).1*(rb (Zb d) (Zb ys)),sl)) 71 86 71 J J J J J)<|Yh (i+1,_,ms ++ [((ys.getD i I0).1*(rb (Zb d) (Zb ys)),sl)]) ⟨O1,by rw [Lg,l,<-Zgb];dsimp only;rw [B,cQ],O8⟩ O1 K2 K2
    .refine go 5 ?_;refine Zg (Xn 70 J J pI)<|Zg (Xw 70 71 72 J J J J)<|go 3 ?_;refine cl 5 [80,93] (Er _ ((Pb _).mono O) O) λg hg=>?_;have H:=aH List.length hg;rw [Zi]at H;have a6:=Oh (p:=Zb d) (Fp (Zb ys));refine go 1 ?_;refine cl 6 [5,72] (Zic (by rw [hg];exact(Zb1 (Pb _) h).mono O) (by rw [l];exact sz_shm'.mono O)) λV a4=>go 3 ?_;refine Zs (Xu 6 80 J J J) ?_;have t:Zb V.2=Gy (Zb d) (Zb ys):=by rw [a4,hg,l,show i=(Zb ys).length by omega];rfl
     exact Yh (_,V.2,f1) ⟨by dsimp only;rw [t,<-a0];exact hE,by dsimp only;rw [t];exact a1,by dsimp only;rw [t];exact a3,by dsimp only;rw [t];exact a2,by dsimp only;rw [<-Zi,t];omega⟩ (iR f1) K1 K1
  .refine Ot (Qe 96) λa9 c7=>?_;refine Zj 0 [(7,1),(9,1),(10,3)]<|Yw (Qe 95) λb0 c8=>go 3 ?_;refine Zt<|go 1 ?_;refine jn (G:=Value×Value) [0,1,5,6,7] [0,80,1,2,85,91] (λq=>[]) (λq=>[(95,box b0 89 #[.bool (decide ((Fp (Zb ys))<0)),q.1]),(96,box a9 89 #[.bool (decide ((rb (Zb d) (Zb ys))<0)),q.2]),(93,Ox q.1 (Fp (Zb ys)).natAbs),(94,Ox q.2 (rb (Zb d) (Zb ys)).natAbs)]) (λq=>True) ?_ ?_
   .refine go 1 ?_;refine Zg (Ni 80 92 (d.getD (d.length-1) I0) J J Zd J)<|go 2 ?_;refine cl 6 [91] (An (by rw [j];have:=Pb (Zb ys) (ys.length-1);omega)) λ_ _=>go 3 ?_;refine Ze J (λP=>?_) (λP=>?_)
    .refine Po [96] [5]<|Zj 0 [(2,0),(0,1),(1,1),(3,1),(4,1),(5,3)]<|go 2 ?_;refine Yw (Zm 7 [91] (Zl2 (by rw [j];have:=Pb (Zb ys) (ys.length-1);omega))) λd5 _=>Yw (Zm 8 [92] (Zl2 (by rw [n];have:=Pb (Zb d) (d.length-1);omega))) λd6 _=>go 3 ?_;refine Zt ?_;have h:=Yis e j ‹_›;have k:=rb_n (x:=Zb d) (y:=Zb ys) e s j n ‹_›;exact Zs (Xu 7 93 J J J)<|Zs (Xu 8 94 J J J)<|Od (_,_) aA aA ⟨by rw [h];rfl,by rw [k];rfl,by rw [h];rfl,by rw [k];rfl,aA⟩
    .refine go 1 ?_;have h:=Yir e j ‹_›;have k:=rb_p (x:=Zb d) (y:=Zb ys) e s j n ‹_›;exact Zs (Xu 91 93 J J J)<|Zs (Xu 92 94 J J J)<|Od (_,_) aA aA ⟨by rw [h];rfl,by rw [k];rfl,by rw [h];rfl,by rw [k];rfl,aA⟩
   .rintro⟨va,vb⟩ -;dsimp only;refine go 7 ⟨O,?_⟩;refine tt (Hi 70 (d.length-ys.length) 32 (enc:=Mo) I0 J J J J Km ti89 J pI.cells pI.pos J J J N.h) λd7 _=>go 10 ?_;refine Zg (Ak 71 (d.length-ys.length))<|lp (G:=Nat×Value×List (Int×SL)) [0,1,5,6,7] [0,95,96,93,94,80,1,2,85,91] (λq=>[(9,.int .i64 (q.1:Int)),(8,q.2.1)]) (λq=>[(70,Oa 2 89 Mo q.2.1 q.2.2),(71,Nj qI q.2.2)]) (λq=>(q.1<=ys.length)/\(Zb q.2.2=shm (Zb ys) (rb (Zb d) (Zb ys)) ((Zb d).length-(Zb ys).length) q.1)/\(q.2.2.length=((Zb d).length-(Zb ys).length)+q.1)) (λq=>ys.length-q.1) (0,_,List.replicate (d.length-ys.length) I0) ⟨O1,by rw [<-Zga,s,e];simp [Zb],by simp<;>omega⟩ K2 K2 ?_;rintro⟨i,vo,ms⟩ ⟨hi,l,R⟩;dsimp only at hi l R;dsimp only;have B:=Qx ys i;refine go 9 ?_;refine Ze J (λQ=>?_) (λQ=>?_)
    .refine go 4 ?_;refine Po [2,96] [9]<|Zj 3 [(0,0),(1,0),(2,0),(3,0),(4,0),(5,0),(6,1)]<|go 4 ⟨O2,?_⟩;refine Xj J J (Eg (Yz 2 I0 J J J Zc pI O2) K2)<|go 1 ?_;refine Kr J (Xc 86 (Lu _ _ (by rw [B];have:=Pb (Zb ys) i;omega)) J J J K2 call69 (Xz 2 J J (Zd (i:=i)) (Zk 94 J J J Zn)) J N.h) λb9 _=>go 1 ?_;refine Zoe (Xe 86 J Zr) (λI S=>?_);subst S;refine Zj 0 [(7,1),(8,1),(9,3)]<|Kr J (Xv [(0,_)] 87 (enc:=Mo) [((ys.getD i I0).1*(rb (Zb d) (Zb ys)),I)] J J K2 Km ti89 J J J J J pI.cells J J N.h) (λc0 _=>?_);refine Kr J (Zb0 70 J J J K2 (λm=>(Bj 70 87 32 (xs:=ms) (ys:=[_]) J J J J J J O3 J (Yb pI) Km ti89 J pI J J J O8 O3 J N.h m))) λc1 _=>go 2 ?_;refine Zt<|go 7 ⟨O,?_⟩;exact Zs (Zp (q:=qI) (z:=((ys.getD i I0).1*(rb (Zb d) (Zb ys)),I)) 71 86 71 J J J J J)<|Yh (i+1,_,ms ++ [((ys.getD i I0).1*(rb (Zb d) (Zb ys)),I)]) ⟨O1,by rw [Lg,l,<-Zgb];dsimp only;rw [B,cQ],O8⟩ O1 K2 K2
    .refine go 5 ?_;refine Zg (Xn 70 J J pI)<|Zg (Xw 70 71 72 J J J J)<|go 3 ?_;refine cl 9 [80,93] (Er _ ((Pb _).mono O) O) λc2 D=>?_;have H:=aH List.length D;rw [Zi]at H;have a6:=Oh (p:=Zb d) (Fp (Zb ys));refine go 1 ?_;refine cl 10 [9,72] (Zic (by rw [D];exact(Zb1 (Pb _) h).mono O) (by rw [l];exact sz_shm'.mono O)) λW a5=>go 3 ?_;refine Zs (Xu 10 80 J J J) ?_;have t:Zb W.2=Gy (Zb d) (Zb ys):=by rw [a5,D,l,show i=(Zb ys).length by omega];rfl
     exact Yh (_,W.2,f1) ⟨by dsimp only;rw [t,<-a0];exact hE,by dsimp only;rw [t];exact a1,by dsimp only;rw [t];exact a3,by dsimp only;rw [t];exact a2,by dsimp only;rw [<-Zi,t];omega⟩ (iR f1) K1 K1
 .have b4:=Yie (f:=f) (x:=Zb d) (y:=Zb ys) O;refine go 12 ?_;exact Xo b6 (_,d) results312 J (by rw [<-hE,b4]) (Ps 80 Za)
theorem Ya5(H:Vp (Zb zs))(S:zs.length≠0):Cal prog 310 #[v] [pp v zs] true (G:=Value×List (Int×SL)) (λr=>Zb r.2=Xa (Zb zs)) (λr=>r.1) (λr=>[pp r.1 r.2]):=by
 refine Zh func310 ntmps310 λW V R D=>?_;have s:=Zi zs;have N:=H.len;refine go 8 ?_;refine cl 2 [1] (Hc (H.sz.mono O) (λh=>H.ne (λe=>by have Q:=aH List.length e;simp only [fC]at Q;omega))) λg m=>go 5 ?_;have B:=aH List.length m;rw [Zi,Zy,s]at B;have I:=Qx g.2 (g.2.length-1);have j:(g.2.getD (g.2.length-1) I0).1=cf (Zw (Zb zs)) ((Zw (Zb zs)).length-1):=by rw [I,m,Zy,s,B]
 have t:=(Kb H).sz;refine go 5 ⟨O,?_⟩;refine dt (Zv 2 (g.2.length-1) J J J J Zc Km Zat)<|dt (Yz 2 I0 J J J Zc pI)<|tt (Xc 2 (An (by rw [j];have:=t ((Zw (Zb zs)).length-1);omega)) J J J K1 call130 (Xz 2 J J (Zd (zs:=g.2) (i:=g.2.length-1) (d:=I0)) Zn) J R.h) λ_ _=>go 3 ?_;refine Ze J (λk=>?_) (λk=>?_)
 .have l:=Zkn (xs:=Zb zs) (by rw [Zy];omega) (by rw [<-j];exact Zd6.1 k);refine go 3 ?_;refine cl 3 [2] (Zqj (by rw [m];exact t.mono O)) λP n=>go 5 ?_;exact Xo D _ results310 J (by rw [n,m,l]) (Ps 3 Za)
 .have l:=Zkm (xs:=Zb zs) (λh=>k (Zd6.2 (by rw [j];exact h)));refine go 9 ?_;exact Xo D (_,g.2) results310 J (by rw [m,l]) (Ps 2 Za)
theorem Zx6(v:Value)(zs:List (Int×SL))(hv:Vp (Zb zs))(h0:zs.length≠0)(hs:Sz 320 (Zb zs))(hl:zs.length<=11:=by omega):Cal prog 297 #[v] [pp v zs] true (G:=Value×List (Int×SL)) (λr=>Zb r.2=sqf 13 (Zb zs)) (λr=>r.1) (λr=>[pp r.1 r.2]):=by
 refine Zh func297 ntmps297 λw0 sc hw R=>?_;have P:=Zi zs;have Q:Zb zs≠[]:=λe=>h0 (by rw [<-P,e];rfl);obtain⟨S,k2,k3,k4,k5,k6,k7,k8,k9,a4,I,V,W,a5⟩:=Zou hv Q hs O;have a7:=aF.2 k6;have N:=aF.2 V;have a6:=k2.len;have a0:=I.len;refine go 8 ?_;refine cl 2 [1] (Ya5 hv h0) λg j=>go 4 ?_;have n:=aH List.length j;rw [Zi]at n;refine go 4 ?_;refine cl 3 [2] (Zid (by rw [j];exact S.sz.mono O)) λa1 d=>?_;have m:=aH List.length d;rw [Zi]at m;refine cl 4 [2,3] (rp_gcd 13 (by rw [j];exact S) (by rw [d,j];exact k2) (by rw [d,j];exact k3)) λs t=>?_;have h:Zb s.2=Nc 13 (Xa (Zb zs)) (Yy (Xa (Zb zs))):=by rw [t,d,j,k4]
 have H:=aH List.length h;rw [Zi]at H;refine cl 5 [2,4] (Zd7 (by rw [j];exact S.tr) (by rw [h];exact k5.tr) (λ_=>by rw [j,h];have:=aU (show g.2.length-s.2.length+1<=12 by omega) (show Xx (Nc 13 (Xa (Zb zs)) (Yy (Xa (Zb zs))))+1<=336 by omega);omega)) λa2 B=>go 8 ?_;have k:=B (by rw [j,h];exact k7);rw [j,h]at k;have l:=aH List.length k;rw [Zi]at l;refine go 2 ?_;refine cl 6 [5] (Ya5 (by rw [k];exact I) (by rw [l];exact Nat.ne_of_gt N)) λa3 D=>go 4 ?_;exact Xo R _ results297 J (by rw [D,k];exact W) (Ps 6 Za)
def pT{α:Type} : Enc Tryz.prog 47 1 (Nk (α:=α)):=Enc.flat Tryz.sizeOf47 Tryz.isAgg47 (λ_=>rfl)
theorem Zc3(hs:Sz 1000000 (Zb zs))(d:zs.length≠0->Ys (Zb zs)≠0)(e:zs.length<=1000:=by omega):Cal Tryz.prog 148 #[v] [pp v zs] true (G:=SL×List (Int×SL)) (λr=>Zb r.2=Zw (Zb zs)) (λr=>Xm r.1) (λr=>[pp (Xm r.1) r.2]):=
  (Hc (v:=v) (zs:=zs) hs d e).toS
def Yiv(g:Vp (Zb zs))(d:zs.length≠0)(hs:Sz 320 (Zb zs))(e:zs.length<=11):Cal Tryz.prog 297 #[v] [pp v zs] true (G:=SL×List (Int×SL)) (λr=>Zb r.2=sqf 13 (Zb zs)) (λr=>Xm r.1) (λr=>[pp (Xm r.1) r.2]):=
  (Zx6 v zs g d hs e).toS
theorem Zie(a b k:Int)(B:-4194304<=a/\a<=4194304)(D:-4194304<=b/\b<=4194304):Cal prog 125 #[.int .i64 a,.int .i64 b,.int .i64 k] [] true (G:=SL) (λr=>True) (λr=>Xm r) (λr=>[Yx 1 Yi (Xm r) (Dt a b k)]):=by
 refine Zh func125 ntmps125 λI H h g=>?_;refine go 19 ⟨O,?_⟩;refine Xg 13 J (λm=>?_) (λm=>?_)
 .refine go 9 ?_;refine tt (Xv [(0,_)] 1 (enc:=Yi) ([a]:List Int) J J K2 Pp ti3 J J J J J pZ.cells J J h.h) λv _=>go 5 ?_;refine Zs (Xn 1 J J pZ)<|Ztj (Xe 1 J Zr) (λe d=>?_);subst d;exact Xo g e results125 J aA (Ps 1 Za (aH (Yx 1 Yi (Xm e)) (tmL_0 a b k O).symm))
 .refine go 5 ?_;refine Ze J (λj=>?_) (λj=>?_)
  .refine go 3 ?_;refine tt (Xv [(0,_)] 2 (enc:=Yi) ([a]:List Int) J J K2 Pp ti3 J J J J J pZ.cells J J h.h) λn _=>go 5 ?_;refine Zs (Xn 2 J J pZ)<|Ztj (Xe 2 J Zr) (λe d=>?_);subst d;exact Xo g e results125 J aA (Ps 2 Za (aH (Yx 1 Yi (Xm e)) (tmL_0 a b k O).symm))
  .refine go 9 ?_;refine Ze J (λl=>?_) (λl=>?_)
   .refine go 4 ?_;refine tt (Xv [(0,_),(1,_)] 3 (enc:=Yi) ([a,b-a]:List Int) J J K4 Pp ti3 J J J J J pZ.cells J J h.h) λs _=>go 5 ?_;refine Zs (Xn 3 J J pZ)<|Ztj (Xe 3 J Zr) (λe d=>?_);subst d;exact Xo g e results125 J aA (Ps 3 Za (aH (Yx 1 Yi (Xm e)) (tmL_1 (a:=a) (b:=b) (k:=k) O O).symm))
   .refine go 11 ⟨O,O,O,?_⟩;refine tt (Xv [(0,_),(1,_),(2,_),(3,_),(4,_),(5,_)] 4 (enc:=Yi) ([a,0,0,10*(b-a),-15*(b-a),6*(b-a)]:List Int) J J K12 Pp ti3 J J J J J pZ.cells J J h.h) λt _=>go 4 ?_;refine Zs (Xn 4 J J pZ)<|Ztj (Xe 4 J Zr) (λe d=>?_);subst d;exact Xo g e results125 J aA (Ps 4 Za (aH (Yx 1 Yi (Xm e)) (tmL_2 (a:=a) (b:=b) (k:=k) O O).symm))
theorem Zqx(e g h j d l fr R k:Int)(t:-4194304<=e/\e<=4194304)(B:-4194304<=g/\g<=4194304)(D:-4194304<=h/\h<=4194304)(H:-4194304<=j/\j<=4194304)(m:-4194304<=d/\d<=4194304)(I:-4194304<=l/\l<=4194304):Cal prog 68 #[.agg #[.int .i64 e,.int .i64 g,.int .i64 h],.agg #[.int .i64 j,.int .i64 d,.int .i64 l],.int .i64 fr,.int .i64 R,.int .i64 k] [] true (G:=SL×SL×SL) (λr=>True) (λr=> .agg #[.int .i64 fr,.int .i64 R,.int .i64 1,Xm r.1,Xm r.2.1,Xm r.2.2]) (λr=>[Yx 1 Yi (Xm r.1) (Dt e j k),Yx 1 Yi (Xm r.2.1) (Dt g d k),Yx 1 Yi (Xm r.2.2) (Dt h l k)]):=by refine Zh func68 ntmps68 λw0 W V N=>go 2 ?_;refine Ym (Yr 1) λbq _=>Ym (Yr 2) λP _=>Ym (Ya 3) λQ _=>go 3 ?_;refine Qf (λ_=>False) [(0,0),(1,0),(2,0),(3,0),(4,0),(5,0),(6,0),(8,0),(9,0),(10,0),(11,0),(12,0),(14,0),(15,0),(16,0),(17,0),(18,0),(7,1),(13,1),(19,1),(20,0),(21,3)]<|go 17 ?_;refine Yw (Zm 4 [] (Zie e j k t H)) λS _=>Yw (Zm 5 [] (Zie g d k B m)) λn _=>Yw (Zm 6 [] (Zie h l k D I)) λs _=>?_;refine Xj J J (Xq (Qv [(0,_),(1,_),(2,_),(3,_),(4,_),(5,_)] J K12 (λa w hs=>Zny ((Yj J) a w hs) ((Yj J) a w hs) ((Yj J) a w hs) ((On 4 J Zr) a w hs) ((On 5 J Zr) a w hs) ((On 6 J Zr) a w hs))))<|go 4 ?_;exact Xo N (S,n,s) results68 J aA (Ps 4 (Ps 5 (Ps 6 Za)))
def Yih(hs:Sz 1000000 (Zb zs))(e:zs.length<=60)(g:Sz 1000000 (Zb ys))(d:ys.length<=60):Cal Tryz.prog 146 #[v,u] [pp v zs,pp u ys] true (G:=SL×List (Int×SL)) (λr=>Zb r.2=Qs (Zb zs) (Zb ys)) (λr=>Xm r.1) (λr=>[pp (Xm r.1) r.2]):=
 (Zxy v u zs ys hs g d e).toS
theorem Zu1{fr V:Int}(o:Int){m:List TzT}{X:List Int}(l:Row3 m X Y Z)(e:Mdh o X Y Z)(N:¬o/(Kt o X Y Z)<=4294967296):Qd prog 253 #[.int .i64 fr,.int .i64 V,v,.agg #[.bool (decide (o<0)),w]] [Xs 1 (Nk (α:=List (Int×SL))) qT v m,Ox w (o).natAbs] (.tuple #[.agg #[.int .i64 0,.int .i64 0,.int .i64 0,.slice none 0 0,.slice none 0 0,.slice none 0 0],.bool false]):=by
 refine Zh func253 ntmps253 λw0 sc hw t=>?_;have R:=l.l;obtain⟨H,n,I⟩:=e.g;have P:=e.o;have h:=gcR_A e;have s:gcR o X Y Z 3∣o:=by rw [h];exact n
 have Q:0<=o/Kt o X Y Z:=jA O O;refine go 2 ?_;refine Ym (Yr 3) λbq _=>Ym (Ya 4) λD _=>go 6 ?_;refine Ym (Ya 97) λj _=>go 10 ?_;refine Zg (Xu 2 98 J J J)<|lp (G:=Nat×Value) [0,1,2,7,8,10] [0,1,2,3,4] (λq=>[(11,.int .i64 (q.1:Int))]) (λq=>[(97,box j 89 #[.bool (decide (gcR o X Y Z q.1<0)),q.2]),(98,Ox q.2 (gcR o X Y Z q.1).natAbs)]) (λq=>q.1<=3) (λq=>3-q.1) (0,w) O1 K1 K2 ?_;rintro⟨i,vs⟩ hi;dsimp only at hi;dsimp only;refine go 7 ?_;refine Ze J (λk=>?_) (λk=>?_)
 .refine go 4 ?_;refine Zg (Ni 1 41 (m.getD i T0) J J Zd J) ?_;have d:=l.e i O;have S:(m.getD i T0).2.length=(Zu i X Y Z).length:=by rw [<-Zi,d]
  refine Qf (λ_=>False) [(0,0),(1,0),(2,0),(3,0),(4,0),(5,1),(6,1),(7,3)]<|go 3 ?_;refine Xj J J (Xq (Zv 1 i J J J J Zc Za6 sizeOf47 J))<|Xj J J (Xq (Yz 1 T0 J J J Zc pT))<|Yw (Zm 5 [41] (Zfh (by rw [d];exact(e.s i).mono O3) (by have:=e.l i;omega))) λv _=>Yw (Zm 6 [98,5] (Zuw (gcR o X Y Z i) (Ys (Zb (m.getD i T0).2)) (by rw [d];exact aB (Zbg _ (e.s i)) O3) (aB (Zg8 e O) O3))) λB _=>?_;refine go 9 ⟨O,?_⟩;exact Zs (Xu 6 98 J J J)<|Yh (i+1,B) O1 O1 K1 ⟨by rw [d];rfl,by rw [d];rfl,aA⟩
 .obtain rfl:i=3:=O;refine go 9 ?_;refine cl 85 [2,98] (Le o (y:=gcR o X Y Z 3) (aB e.b O3) (by rw [h];omega) (aB (Zg8 e O3) O3)) λg _=>go 8 ?_;refine Qf (λ_=>False) [(0,0),(1,1),(2,1),(3,0)]<|go 1 ?_;refine Yw (Zm 7 [] (Pu 4294967296 ⟨O3,O3⟩)) λW _=>Yw (Zm 7 [85,7] (Gn (x:=o/(gcR o X Y Z 3)) 4294967296 (aB (Hg s e.b) O3))) λ_ _=>?_;refine Xj J J (Xq (dT (Zbl J J J) (vB (aK ((sgp _).2 (by rw [h];omega))))))<|go 5 ?_;refine dt (Qv [] J aA (λa w hs=>b35_))<|go 6 ?_;exact Nx t () results253 J aA Za
@[reducible,instance] def encCI:EncT prog 33 1 (Nk (α:=List Int)):=⟨pC⟩
theorem Yi7{fr to:Int}(o:Int){j:List TzT}{X:List Int}(N:Row3 j X Y Z)(e:Mdh o X Y Z)(a5:o/(Kt o X Y Z)<=4294967296):Cal prog 253 #[.int .i64 fr,.int .i64 to,v,.agg #[.bool (decide (o<0)),w]] [Xs 1 (Nk (α:=List (Int×SL))) qT v j,Ox w (o).natAbs] true (G:=SL×SL×SL) (λr=>True) (λr=> .tuple #[.agg #[.int .i64 fr,.int .i64 to,.int .i64 (o/(Kt o X Y Z)),Xm r.1,Xm r.2.1,Xm r.2.2],.bool true]) (λr=>[Yx 1 Yi (Xm r.1) (Hu X (Kt o X Y Z)),Yx 1 Yi (Xm r.2.1) (Hu Y (Kt o X Y Z)),Yx 1 Yi (Xm r.2.2) (Hu Z (Kt o X Y Z))]):=by
 refine Zh func253 ntmps253 λw0 sc n a6=>?_;have d7:=N.l;obtain⟨c4,a3,c5⟩:=e.g;have c7:=e.o;have d:=gcR_A e;have a4:gcR o X Y Z 3∣o:=by rw [d];exact a3
 have d6:0<=o/Kt o X Y Z:=jA O O;refine go 2 ?_;refine Ym (Yr 3) λbq _=>Ym (Ya 4) λa9 _=>go 6 ?_;refine Ym (Ya 97) λP _=>go 10 ?_;refine Zg (Xu 2 98 J J J)<|lp (G:=Nat×Value) [0,1,2,7,8,10] [0,1,2,3,4] (λq=>[(11,.int .i64 (q.1:Int))]) (λq=>[(97,box P 89 #[.bool (decide (gcR o X Y Z q.1<0)),q.2]),(98,Ox q.2 (gcR o X Y Z q.1).natAbs)]) (λq=>q.1<=3) (λq=>3-q.1) (0,w) O1 K1 K2 ?_;rintro⟨i,vs⟩ hi;dsimp only at hi;dsimp only;refine go 7 ?_;refine Ze J (λQ=>?_) (λQ=>?_)
 .refine go 4 ?_;refine Zg (Ni 1 41 (j.getD i T0) J J Zd J) ?_;have h:=N.e i O;have a7:(j.getD i T0).2.length=(Zu i X Y Z).length:=by rw [<-Zi,h]
  refine Qf (λ_=>False) [(0,0),(1,0),(2,0),(3,0),(4,0),(5,1),(6,1),(7,3)]<|go 3 ?_;refine Xj J J (Xq (Zv 1 i J J J J Zc Za6 sizeOf47 J))<|Xj J J (Xq (Yz 1 T0 J J J Zc pT))<|Yw (Zm 5 [41] (Zfh (by rw [h];exact(e.s i).mono O3) (by have:=e.l i;omega))) λv _=>Yw (Zm 6 [98,5] (Zuw (gcR o X Y Z i) (Ys (Zb (j.getD i T0).2)) (by rw [h];exact aB (Zbg _ (e.s i)) O3) (aB (Zg8 e O) O3))) λa8 _=>?_;refine go 9 ⟨O,?_⟩;exact Zs (Xu 6 98 J J J)<|Yh (i+1,a8) O1 O1 K1 ⟨by rw [h];rfl,by rw [h];rfl,aA⟩
 .obtain rfl:i=3:=O;refine go 9 ?_;refine cl 85 [2,98] (Le o (y:=gcR o X Y Z 3) (aB e.b O3) (by rw [d];omega) (aB (Zg8 e O3) O3)) λg _=>go 8 ?_;refine Qf (λ_=>False) [(0,0),(1,1),(2,1),(3,0)]<|go 1 ?_;refine Yw (Zm 7 [] (Pu 4294967296 ⟨O3,O3⟩)) λd8 _=>Yw (Zm 7 [85,7] (Gn (x:=o/(gcR o X Y Z 3)) 4294967296 (aB (Hg a4 e.b) O3))) λ_ _=>?_;refine Xj J J (Xq (dF (Zbl J J J) (vB (aN (λh9=>absurd ((sgp _).1 h9) (by rw [d];omega))))))<|go 17 ?_;refine Zg (Qy 74 1 33 (Nk (α:=List Int)))<|Zg (Yo qC 75)<|lp (G:=Nat×Value×List (SL×List Int)) [0,1,2,7,8,10] [0,97,98,1,2,3,4,85,86,7] (λq=>[(13,.int .i64 (q.1:Int)),(12,q.2.1)]) (λq=>[(74,Oa 1 33 (Nk (α:=List Int)) q.2.1 q.2.2),(75,Nj qC q.2.2)]) (λq=>(q.1<=3)/\(q.2.2.length=q.1)/\(∀t,t<q.1->(q.2.2.getD t Z0).2=Hu (Zu t X Y Z) (Kt o X Y Z))) (λq=>3-q.1) (0,.slice none 0 0,[]) ⟨O1,rfl,λt V=>absurd V (cI t)⟩ K2 K2 ?_;rintro⟨i,vo,cs⟩ ⟨hi,m,D⟩;dsimp only at hi m D;dsimp only;have c6:=e.l i;refine go 7 ?_;refine Ze J (λR=>?_) (λR=>?_)
  .refine go 5 ?_;refine Zg (Ni 1 41 (j.getD i T0) J J Zd J) ?_;have h:=N.e i O;have a7:(j.getD i T0).2.length=(Zu i X Y Z).length:=by rw [<-Zi,h]
   refine go 11 ?_;refine Zg (Qy 70 1 3 Yi)<|lp (G:=Nat×Value) [0,1,2,7,8,10,12,13] [0,74,75,97,98,1,2,3,4,85,86,7,41] (λq=>[(15,.int .i64 (q.1:Int)),(14,q.2)]) (λq=>[(70,Oa 1 3 Yi q.2 (((Zu i X Y Z).take q.1).map (· / (gcR o X Y Z 3))))]) (λq=>q.1<=(Zu i X Y Z).length) (λq=>(Zu i X Y Z).length-q.1) (0,.slice none 0 0) O1 K2 ⟨by rw [dS];rfl,aA⟩ ?_;rintro⟨k,vp⟩ hk;dsimp only at hk;dsimp only;have l:((j.getD i T0).2.getD k I0).1=cf (Zu i X Y Z) k:=by rw [Qx,h]
   refine go 6 ?_;refine dt (Zv 1 i J J J J Zc Za6 sizeOf47 J)<|dt (Yz 1 T0 J J J Zc pT)<|go 4 ?_;refine Ze J (λS=>?_) (λS=>?_)
   .refine go 4 ?_;refine jn (G:=Value×Nat) [0,1,2,7,8,10,12,13,14,15] [0,70,74,75,97,98,1,2,3,4,85,86,7,41] (λq=>[(16,.pointer (some ⟨q.2,0,none⟩))]) (λq=>[(83,Ox q.1 (((j.getD i T0).2.getD k I0).1/(gcR o X Y Z 3)).natAbs),(95,box q.2 89 #[.bool (decide (((j.getD i T0).2.getD k I0).1/(gcR o X Y Z 3)<0)),q.1])]) (λq=>True) ?_ ?_
    .refine Po [1,41,97] [15]<|Zj 8 [(0,0),(1,0),(2,0),(3,0),(4,0),(5,0),(6,0),(7,0)]<|go 2 ?_;refine Xj J J (Eg (Zv 1 i J J J J Zc Za6 sizeOf47 J) K3)<|Xj J J (Eg (Yz 1 T0 J J J Zc pT) K3)<|go 1 ?_;refine Xj J J (Eg (Zv 41 k J J J J Zc Km Zat J) K3)<|Xj J J (Eg (Yz 41 I0 J J J Zc pI) K3)<|go 2 ?_;refine Zdw 7 8 12 13 ?_ ?_ ?_
     .refine Kl J J (Xc 83 (Le ((j.getD i T0).2.getD k I0).1 (y:=gcR o X Y Z 3) (by rw [l];exact aB (e.s i k) O3) (by rw [d];omega) (aB (Zg8 e O3) O3)) J J J K2 Kg (Xz 41 J J Zd (Zk 98 J J J Zn)) J n.h) (λb9 _=>?_);refine Zj 4 [(9,0),(10,0),(11,0)]<|go 4 ?_;refine Qw 3 12 13 ?_ ?_
      .refine Ot (Qe 95) λb0 ho=>?_;refine Zj 0 [(13,1),(14,1),(15,3)]<|Yw (Qe 96) λb1 c8=>go 3 ?_;exact Zt<|Od (_,_) aA K1 K2
      .refine Ot (Qe 96) λb2 c9=>?_;refine Zj 0 [(12,1),(14,1),(15,3)]<|Yw (Qe 95) λb3 d0=>go 3 ?_;exact Zt<|Od (_,_) aA K1 K2
     .refine Ot (Qe 95) λb4 d1=>?_;refine Qw 6 8 13 ?_ ?_
      .refine Kl J J (Xc 83 (Le ((j.getD i T0).2.getD k I0).1 (y:=gcR o X Y Z 3) (by rw [l];exact aB (e.s i k) O3) (by rw [d];omega) (aB (Zg8 e O3) O3)) J J J K2 Kg (Xz 41 J J Zd (Zk 98 J J J Zn)) J n.h) (λc0 _=>?_);refine Zj 0 [(9,0),(10,0),(11,0),(13,1),(14,1),(15,3)]<|go 3 ?_;refine Yw (Qe 96) λb5 d2=>go 3 ?_;exact Zt<|Od (_,_) aA K1 K2
      .refine Ot (Qe 96) λW d3=>?_;refine Zj 0 [(8,1),(9,0),(10,0),(11,0),(14,1),(15,3)]<|Kr J (Xc 83 (Le ((j.getD i T0).2.getD k I0).1 (y:=gcR o X Y Z 3) (by rw [l];exact aB (e.s i k) O3) (by rw [d];omega) (aB (Zg8 e O3) O3)) J J J K2 Kg (Xz 41 J J Zd (Zk 98 J J J Zn)) J n.h) λc1 _=>go 6 ?_;exact Zt<|Od (_,_) aA K1 K2
     .refine Ot (Qe 96) λa0 d4=>?_;refine Qw 6 8 12 ?_ ?_
      .refine Kl J J (Xc 83 (Le ((j.getD i T0).2.getD k I0).1 (y:=gcR o X Y Z 3) (by rw [l];exact aB (e.s i k) O3) (by rw [d];omega) (aB (Zg8 e O3) O3)) J J J K2 Kg (Xz 41 J J Zd (Zk 98 J J J Zn)) J n.h) (λc2 _=>?_);refine Zj 0 [(9,0),(10,0),(11,0),(12,1),(14,1),(15,3)]<|go 3 ?_;refine Yw (Qe 95) λa1 d5=>go 3 ?_;exact Zt<|Od (_,_) aA K1 K2
      .refine Ot (Qe 95) λa2 b7=>?_;refine Zj 0 [(8,1),(9,0),(10,0),(11,0),(14,1),(15,3)]<|Kr J (Xc 83 (Le ((j.getD i T0).2.getD k I0).1 (y:=gcR o X Y Z 3) (by rw [l];exact aB (e.s i k) O3) (by rw [d];omega) (aB (Zg8 e O3) O3)) J J J K2 Kg (Xz 41 J J Zd (Zk 98 J J J Zn)) J n.h) λc3 _=>go 6 ?_;exact Zt<|Od (_,_) aA K1 K2
    .rintro⟨qv,b6⟩ -;dsimp only;refine go 3 ?_;refine cl 7 [83] (Ya7 (((j.getD i T0).2.getD k I0).1/(gcR o X Y Z 3)) (by rw [l,d];exact e.fit a5 O k)) λ_ _=>?_;refine tt (Xv [(0,_)] 8 (enc:=Yi) ([((j.getD i T0).2.getD k I0).1/(gcR o X Y Z 3)]:List Int) J J K2 Pp ti3 J J J J J pZ.cells J J n.h) (λd9 _=>?_);refine tt (Px 70 8 8 J J J J J J O3 J (Yb pZ) Pp ti3 J pZ J J J O8 O3 J n.h) (λe0 _=>?_);refine go 9 ⟨O,?_⟩;exact Yh (k+1,_) O1 O1 K2 ⟨by rw [l,<-Zvl O];rfl,aA⟩
   .obtain rfl:k=(Zu i X Y Z).length:=O;rw [bK];refine go 13 ?_;refine Ze J (λs=>?_) (λs=>?_)
    .have H:(Zu i X Y Z).length=0:=by rw [aP]at s;omega
     refine go 1 ?_;refine tt (Xv [(0,_)] 94 (enc:=Yi) ([0]:List Int) J J K2 Pp ti3 J J J J J pZ.cells J J n.h) λe1 _=>go 3 ?_;refine Zg (Xn 94 J J pZ)<|Dn (Xe 94 J Zr) (λB I=>?_);subst I;refine Zg (Np 94 (q:=Yx 1 Yi (Xm B) (Hu (Zu i X Y Z) (Kt o X Y Z))) (aH (Yx 1 Yi (Xm B)) (dvL_0 H).symm) J J)<|go 3 ?_;refine tt (Xv [(0,_)] 9 (enc:=(Nk (α:=List Int))) ([(B,(Hu (Zu i X Y Z) (Kt o X Y Z)))]:List (SL×List Int)) J J K2 Zab ti33 J J J J J pC.cells J J n.h) (λe2 _=>?_);refine tt (Px 74 9 24 J J J J J J O3 J (Yb pC) Zab ti33 J pC J J J O8 O3 J n.h) (λe3 _=>?_);refine go 9 ⟨O,?_⟩;exact Zs (Zp (q:=qC) (z:=(B,(Hu (Zu i X Y Z) (Kt o X Y Z)))) 75 94 75 J J J J J)<|Yh (i+1,_,cs ++ [(B,(Hu (Zu i X Y Z) (Kt o X Y Z)))]) ⟨O1,by rw [aS,m];rfl,λt V=>Zgz (λt=>Hu (Zu t X Y Z) (Kt o X Y Z)) m D rfl V⟩ O1 K2 K2
    .have H:¬(Zu i X Y Z).length=0:=by rw [aP]at s;omega
     refine go 2 ?_;refine Zg (Xn 70 J J pZ)<|Dn (Xe 70 J Zr) (λB I=>?_);subst I;refine Zg (Np 70 (q:=Yx 1 Yi (Xm B) (Hu (Zu i X Y Z) (Kt o X Y Z))) (aH (Yx 1 Yi (Xm B)) (by rw [d];exact(dvL_n H).symm)) J J)<|go 3 ?_;refine tt (Xv [(0,_)] 10 (enc:=(Nk (α:=List Int))) ([(B,(Hu (Zu i X Y Z) (Kt o X Y Z)))]:List (SL×List Int)) J J K2 Zab ti33 J J J J J pC.cells J J n.h) (λe4 _=>?_);refine tt (Px 74 10 24 J J J J J J O3 J (Yb pC) Zab ti33 J pC J J J O8 O3 J n.h) (λb8 _=>?_);refine go 9 ⟨O,?_⟩;exact Zs (Zp (q:=qC) (z:=(B,(Hu (Zu i X Y Z) (Kt o X Y Z)))) 75 70 75 J J J J J)<|Yh (i+1,_,cs ++ [(B,(Hu (Zu i X Y Z) (Kt o X Y Z)))]) ⟨O1,by rw [aS,m];rfl,λt V=>Zgz (λt=>Hu (Zu t X Y Z) (Kt o X Y Z)) m D rfl V⟩ O1 K2 K2
  .obtain rfl:i=3:=O;obtain⟨s1,s2,s3,rfl⟩:=Ykk m D;refine go 6 ?_;refine Zg (Zay 75 81 (s1,Hu X (Kt o X Y Z)) J J O7 J)<|Zg (Zay 75 82 (s2,Hu Y (Kt o X Y Z)) J J O7 J)<|Zg (Zay 75 83 (s3,Hu Z (Kt o X Y Z)) J J O7 J)<|Qf (λ_=>False) [(0,0),(1,0),(2,0),(4,0),(5,0),(6,0),(7,0),(8,0),(9,0),(10,0),(11,0),(12,0),(3,1),(13,0),(14,3),(15,3)]<|go 5 ⟨O7,?_⟩;refine Xj J J (Xq (Yz 74 Z0 J J J (Yb pC) pC O7))<|go 2 ⟨O7,?_⟩;refine Xj J J (Xq (Yz 74 Z0 J J J (Yb pC) pC O7))<|go 2 ⟨O7,?_⟩;refine Xj J J (Xq (Yz 74 Z0 J J J (Yb pC) pC O7))<|Yw (Zm 10 [85] (Ya7 (o/(gcR o X Y Z 3)) (by rw [d];omega))) λ_ _=>?_;refine Xj J J (Xq (Qv [(0,_),(1,_),(2,_),(3,_),(4,_),(5,_)] J K12 (λa w hs=>Zny ((Yj J) a w hs) ((Yj J) a w hs) ((Yj J) a w hs) ((On 81 J Zr) a w hs) ((On 82 J Zr) a w hs) ((On 83 J Zr) a w hs))))<|go 5 ?_;exact Nx a6 (s1,s2,s3) results253 (by rw [d];rfl) aA (Ps 81 (Ps 82 (Ps 83 Za)))
def Zlv(y:Int)(hs:Sz 1000000 (Zb zs))(d:zs.length<=1000)(e:bl y.natAbs<=1000000):Cal Tryz.prog 79 #[v,.agg #[.bool (decide (y<0)),w]] [pp v zs,Ox w y.natAbs] true (G:=SL×List (Int×SL)) (λr=>Zb r.2=Zq (Zb zs) y) (λr=>Xm r.1) (λr=>[pp (Xm r.1) r.2]):=
 (Er (v:=v) (w:=w) (zs:=zs) y hs e d).toS
theorem Dw(n j:Int)(k:Nat)(H:j=(k:Int))(s:Nz n)(I:k<=5):Cal prog 154 #[.int .i64 n,.int .i64 j] [] true (G:=Value) (λr=>True) (λr=> .agg #[.bool (decide (n^k<0)),r]) (λr=>[Ox r (n^k).natAbs]):=by
 refine Zh func154 ntmps154 λR P N l=>?_;have g:=Gt s;have h:=λk=>Zad g k;refine go 2 ?_;refine Ym (Ya 1) λD _=>go 4 ?_;refine cl 98 [] (Pu 1 ⟨O3,O3⟩) λv _=>Ym (Ya 97) λd _=>go 10 ?_;refine lp (G:=Nat×Value) [0,1,4,5] [0,1] (λq=>[(6,.int .i64 (q.1:Int))]) (λq=>[(97,box d 89 #[.bool (decide (n^q.1<0)),q.2]),(98,Ox q.2 (n^q.1).natAbs)]) (λq=>q.1<=k) (λq=>k-q.1) (0,_) O1 K1 ⟨by rw [cL];rfl,by rw [cL];rfl,aA⟩ ?_;rintro⟨i,Q⟩ hi;dsimp only at hi;dsimp only;have t:=h i;refine go 8 ?_;refine Ze J (λe=>?_) (λe=>?_)
 .refine go 4 ?_;refine Qf (λ_=>False) [(0,0),(1,0),(2,1),(3,1),(4,3)]<|go 2 ?_;refine Yw (Zm 2 [] (Pu n s)) λB _=>Yw (Zm 3 [98,2] (Lu (n^i) n)) λm _=>?_;refine go 9 ⟨O,?_⟩;exact Zs (Xu 3 98 J J J)<|Yh (i+1,m) O1 O1 K1 ⟨by rw [dD];rfl,by rw [dD];rfl,aA⟩
 .obtain rfl:i=k:=O;refine go 12 ?_;exact Xo l _ results154 J aA (Ps 98 Za)
end Go.Sky

