/- Rules, arithmetic and contracts: part 17. No conditions but those that each theorem names. -/
import Derived.Test.YteikicbnfbgpnaaGreatEa15
set_option linter.all false
set_option maxHeartbeats 4000000
namespace Go.Sky
open Go.Proofs.Tryz
open Go.Proofs
set_option synthInstance.maxHeartbeats 0
set_option synthInstance.maxSize 100000
set_option maxRecDepth 20000
set_option maxHeartbeats 1000000
set_option linter.unusedSimpArgs false
variable{a b k ov ov2 fr2 to2:Int}{x y z x2 y2 z2 xs q p:List Int}{M:Nat}{zs ys:List (Int×SL)}
theorem Zmf(fr to ov:Int)(sx sy sz:SL)(x y z:List Int)(c1:Qe fr)(c2:Qe to)(l:Qe ov)(m:∀a∈x,Qe a)(o:∀a∈y,Qe a)(r:∀a∈z,Qe a):Qi prog 75 #[.agg #[.int .i64 fr,.int .i64 to,.int .i64 ov,Yy sx,Yy sy,Yy sz]] [Yl 1 Zx (Yy sx) x,Yl 1 Zx (Yy sy) y,Yl 1 Zx (Yy sz) z] (.bool (Hf fr to ov x y z)):=by
 refine Zf func75 ntmps75 λw0 sc D e=>?_;have a2:=Li l;have f:=Ym6 a2;have a3:=λi k=>bl_fc m o r a2 i k;have t:=λi=>a3 i 0;simp only [List.take_zero,Nu]at t;refine go 2 ?_;refine Yp (Yt 4) λbx _=>go 10 ?_;refine Xi (d:=13) J (λb0=>?_) (λb0=>?_)
 .refine go 31 ?_;exact Xu e () results75 (by rw [Aq O]) trivial Za
 .refine go 7 ?_;refine Xi (d:=20) J (λH=>?_) (λH=>?_)
  .refine go 24 ?_;exact Xu e () results75 (by rw [Aq O]) trivial Za
  .refine go 5 ?_;refine Xi (d:=25) J (λI=>?_) (λI=>?_)
   .refine go 19 ?_;exact Xu e () results75 (by rw [Aq O]) trivial Za
   .refine go 5 ?_;refine Xi (d:=30) J (λN=>?_) (λN=>?_)
    .refine go 14 ?_;exact Xu e () results75 (by rw [Aq O]) trivial Za
    .refine go 6 ?_;refine Zc J (λa6=>?_) (λa6=>?_)
     .refine go 7 ?_;exact Xu e () results75 (by rw [Aq O]) trivial Za
     .refine go 6 ?_;refine cl 98 [] (Mw ov l) λv _=>Yp (Zz 97) λs _=>go 3 ?_;refine jn (G:=Nat×Value) [1,3] [0,1,2,3,4,98,97] (λq=>[(4,.pointer (some ⟨q.1,0,none⟩))]) (λq=>[(95,box q.1 89 #[.bool (decide (62914560*ov<0)),q.2]),(96,Gj q.2 (62914560*ov).natAbs)]) (λq=>True) ?_ ?_
      .refine Gp (λ_=>False) [6]<|Ze (n:=5) [(1,0),(2,0)]<|go 3 ?_;refine Xt (n:=4) 0 5 ?_ ?_
       .refine Oc (Zm 5 [] (Mw 62914560 ⟨O3,O3⟩)) λc3 _=>?_;refine Xt (n:=3) 3 5 ?_ ?_
        .refine Oc (Zm 6 [] (Mw ov l)) λc4 _=>?_;refine Xt (n:=2) 4 5 ?_ ?_
         .refine Oc (Zm 96 [5,6] (Bh _ _ 62914560 ov O3)) λb2 _=>?_;refine Ze (n:=0) [(5,1),(6,3)]<|Yz (Zz 95) λS _=>go 2 ?_;exact Zp<|Pn (S,b2) trivial K1 K2
         .refine Oc (Zz 95) λV _=>?_;refine Ze (n:=0) [(4,1),(6,3)]<|Yz (Zm 96 [5,6] (Bh _ _ 62914560 ov O3)) λb3 _=>go 2 ?_;exact Zp<|Pn (V,b3) trivial K1 K2
        .refine Oc (Zz 95) λW _=>?_;refine Ze (n:=0) [(3,1),(4,1),(6,3)]<|Yz (Zm 7 [] (Mw ov l)) λc5 _=>Yz (Zm 96 [5,7] (Bh _ _ 62914560 ov O3)) λb4 _=>go 2 ?_;exact Zp<|Pn (W,b4) trivial K1 K2
       .refine Oc (Zz 95) λY _=>?_;refine Ze (n:=0) [(0,1),(3,1),(4,1),(6,3)]<|Yz (Zm 8 [] (Mw 62914560 ⟨O3,O3⟩)) λc6 _=>Yz (Zm 9 [] (Mw ov l)) λc7 _=>Yz (Zm 96 [8,9] (Bh _ _ 62914560 ov O3)) λa4 _=>go 2 ?_;exact Zp<|Pn (Y,a4) trivial K1 K2
      .rintro⟨b9,vm⟩ -;dsimp only;refine go 3 ?_;refine cl 10 [1,2,3] (Zdx _ _ _ _ _ _ _ _ _) λb5 _=>go 10 ?_;refine lp (G:=Nat×Value) [3,4,5] [0,95,96,1,2,3,4,10] (λq=>[(6,.int .i64 (q.1:Int))]) (λq=>[(97,box s 89 #[.bool (decide ((Nu ov (Md q.1 x y z))<0)),q.2]),(98,Gj q.2 ((Nu ov (Md q.1 x y z))).natAbs)]) (λq=>(q.1<=3)/\(∀k,k<q.1->axB (Zv k x y z) ov=true)) (λq=>3-q.1) (0,_) ⟨O1,λk hk=>absurd hk (Nat.not_lt_zero k)⟩ ⟨J,trivial⟩ ⟨J,J,trivial⟩ ?_;rintro⟨i,vs⟩ ⟨hi,w⟩;dsimp only at hi w;dsimp only;refine go 7 ?_;refine Zc J (λa7=>?_) (λa7=>?_)
       .refine go 5 ?_;refine Zi (Ie 10 40 ([(sx,x),(sy,y),(sz,z)].getD i C0) J J (Zj (show i<3 by omega)) J)<|Zi (Mm 40 (q:=Yl 1 Zx (Yy ([(sx,x),(sy,y),(sz,z)].getD i C0).1) (Zv i x y z)) (congrArg (Yl 1 Zx _) (Zt5 O)) J J)<|go 3 ?_;refine dt (Yh (ii:=10) (i:=i) J J J J Zg Zwq Nf J (show i<3 by omega))<|dt (Qt (ii:=10) C0 J J J Zg pC (show i<3 by omega))<|go 4 ?_;refine jn (G:=Bool) [3,4,5,6,7] [0,97,98,95,96,1,2,3,4,10,40] (λR=>[(74,.bool R)]) (λR=>[]) (λR=>R=axc (Zv i x y z)) ?_ ?_
        .refine go 5 ?_;refine Xi (d:=56) J (λb1=>?_) (λb1=>?_)
         .refine go 19 ?_;exact Pn _ (by first|exact Zzq O|exact Zzp O|exact Zzo O O O|exact Zzn O O O) K1 trivial
         .refine go 5 ?_;refine Xi (d:=61) J (λP=>?_) (λP=>?_)
          .refine go 14 ?_;exact Pn _ (by first|exact Zzq O|exact Zzp O|exact Zzo O O O|exact Zzn O O O) K1 trivial
          .refine go 4 ?_;refine Xi (d:=65) J (λQ=>?_) (λQ=>?_)
           .refine go 4 ⟨O,?_⟩;refine Ep (Yh (ii:=40) (i:=((Zv i x y z).length-1)) J J J J Zd Pk Ha) J J<|go 5 ⟨O,?_⟩;exact Pn _ (by first|exact Zzq O|exact Zzp O|exact Zzo O O O|exact Zzn O O O) K1 trivial
           .refine go 10 ?_;exact Pn _ (by first|exact Zzq O|exact Zzp O|exact Zzo O O O|exact Zzn O O O) K1 trivial
        .rintro R a1;refine My J (λa0=>?_) (λa0=>?_)
         .refine go 12 ?_;exact Xu e () results75 (by rw [Zbw (i:=i) (axc_t a1 ‹_›)]) trivial Za
         .obtain⟨j1,j2,j3⟩:=axc_f a1 a0;refine go 5 ?_;refine cl 11 [40] (Znx _ (Zv i x y z) (Ko m o r i) O O) λg hg=>go 4 ?_;have a9:=congrArg List.length hg;rw [Ph,Yw]at a9;refine go 5 ?_;refine lp (G:=Nat×Value) [3,4,5,6,7,8] [0,95,96,1,2,3,4,10,40,11] (λq=>[(9,.int .i64 (q.1:Int))]) (λq=>[(97,box s 89 #[.bool (decide ((Nu (Nu ov (Md i x y z)) ((Zv i x y z).take q.1))<0)),q.2]),(98,Gj q.2 ((Nu (Nu ov (Md i x y z)) ((Zv i x y z).take q.1))).natAbs)]) (λq=>(q.1<=(Zv i x y z).length)/\(∀j,j<q.1->((ctl (Zv i x y z) j (j+1)).natAbs:Int)<=(62914560*ov))) (λq=>(Zv i x y z).length-q.1) (0,_) ⟨O1,λj hj=>absurd hj (Nat.not_lt_zero j)⟩ ⟨J,trivial⟩ ⟨J,J,trivial⟩ ?_;rintro⟨k,vs⟩ ⟨hk,F⟩;dsimp only at hk F;dsimp only;refine go 9 ?_;refine Zc J (λa8=>?_) (λa8=>?_)
          .refine go 5 ?_;refine Qm (λ_=>False) [(0,0),(1,0),(2,0),(3,0),(4,0),(5,1),(6,1),(7,3)]<|go 3 ?_;refine Qd J J (Qj (Yh (ii:=40) (i:=k) J J J J Zd Pk Ha J))<|go 1 ⟨O2,?_⟩;refine Yz (Zm 12 [] (Mw ((Zv i x y z).getD k 0) (Lv (Ko m o r i) k))) λb6 _=>Yz (Zm 13 [98,12] (r_gcd _ _ (Nu (Nu ov (Md i x y z)) ((Zv i x y z).take k)) ((Zv i x y z).getD k 0) (Nat.le_trans (Li (Lv (Ko m o r i) k)) O3) (Nat.le_trans (a3 i k) O3))) λa5 _=>go 4 ?_;rcases Yl7 (ctl (Zv i x y z) k (k+1)) (62914560*ov)with h|⟨h,B⟩|⟨h,B⟩
           .have c:(g.2.getD k I0).1=(ctl (Zv i x y z) k (k+1)):=by rw [Gq,hg,Lc,if_pos O]
            refine Qm (λ_=>False) [(0,0),(1,0),(2,0),(3,0),(4,0),(5,1),(6,0),(7,0),(8,2),(9,2),(10,2),(11,2),(12,2),(13,2),(14,2),(15,2),(16,0)]<|go 2 ?_;refine Qd J J (Qj (Yh (ii:=11) (i:=k) J J J J Zg Zt8 Zqb J))<|Qd J J (Qj (Qt (ii:=11) I0 J J J Zg pI))<|go 1 ?_;refine Nj J (Of (n:=13) (Cv _ _ _ (62914560*ov) (by rw [c];exact Nat.le_trans (Zcg (Ko m o r i) O O) O3) (Nat.le_trans f O3)) J J J K2 call72 (Fo 11 J J (Zj (i:=k)) (Zh 96 J J J Zn)) J D.h) (λ_ _=>?_);refine Qd J J (Qj (dT (Zhh J J J) (vB (decide_eq_true (by rw [c,Zug];exact h)))))<|go 28 ?_;exact Xu e () results75 (by rw [Zbw (i:=i) (Zlf λh1 h2 h3 Z=>by rw [Zv6 (j:=k) O O]at Z;cases Z)]) trivial Za
           .have c:(g.2.getD k I0).1=(ctl (Zv i x y z) k (k+1)):=by rw [Gq,hg,Lc,if_pos O]
            refine Qm (λ_=>False) [(0,0),(1,0),(2,0),(3,0),(4,0),(5,1),(6,0),(7,0),(8,0),(9,0),(10,0),(11,0),(12,0),(13,1),(14,1),(15,0),(16,0)]<|go 2 ?_;refine Qd J J (Qj (Yh (ii:=11) (i:=k) J J J J Zg Zt8 Zqb J))<|Qd J J (Qj (Qt (ii:=11) I0 J J J Zg pI))<|go 1 ?_;refine Nj J (Of (n:=13) (Cv _ _ _ (62914560*ov) (by rw [c];exact Nat.le_trans (Zcg (Ko m o r i) O O) O3) (Nat.le_trans f O3)) J J J K2 call72 (Fo 11 J J (Zj (i:=k)) (Zh 96 J J J Zn)) J D.h) (λ_ _=>?_);refine Qd J J (Qj (dF (Zhh J J J) (vB (decide_eq_false (by rw [c,Zug];exact h)))))<|go 3 ?_;refine r0g (Qj (Yh (ii:=11) (i:=k) J J J J Zg Zt8 Zqb J)) J J J J J<|r0g (Qj (Qt (ii:=11) I0 J J J Zg pI)) J J J J J<|go 1 ?_;refine Zhm J J J J J (Of (n:=14) (Yea _ (62914560*ov) (Nat.le_trans f O3)) J J J K1 call144 (Zh 96 J J J Zn) J D.h) (λb7 _=>?_);refine Zhm J J J J J (Of (n:=14) (Cv _ _ _ (-(62914560*ov)) (by rw [c];exact Nat.le_trans (Zcg (Ko m o r i) O O) O3) (by rw [Int.natAbs_neg];exact Nat.le_trans f O3)) J J J K2 call72 (Fo 11 J J (Zj (i:=k)) (Zh 14 J J J Zn)) J D.h) (λ_ _=>?_);refine r0g (Qj (dT (Yg9 J J J) (vB (decide_eq_true (by rw [c,Ydc];exact B))))) J J J J J<|go 19 ?_;exact Xu e () results75 (by rw [Zbw (i:=i) (Zlf λh1 h2 h3 Z=>by rw [Zv6 (j:=k) O O]at Z;cases Z)]) trivial Za
           .have c:(g.2.getD k I0).1=(ctl (Zv i x y z) k (k+1)):=by rw [Gq,hg,Lc,if_pos O]
            refine Qm (λ_=>False) [(0,0),(1,0),(2,0),(3,0),(4,0),(5,1),(6,0),(7,0),(8,0),(9,0),(10,0),(11,0),(12,0),(13,1),(14,1),(15,0),(16,0)]<|go 2 ?_;refine Qd J J (Qj (Yh (ii:=11) (i:=k) J J J J Zg Zt8 Zqb J))<|Qd J J (Qj (Qt (ii:=11) I0 J J J Zg pI))<|go 1 ?_;refine Nj J (Of (n:=14) (Cv _ _ _ (62914560*ov) (by rw [c];exact Nat.le_trans (Zcg (Ko m o r i) O O) O3) (Nat.le_trans f O3)) J J J K2 call72 (Fo 11 J J (Zj (i:=k)) (Zh 96 J J J Zn)) J D.h) (λ_ _=>?_);refine Qd J J (Qj (dF (Zhh J J J) (vB (decide_eq_false (by rw [c,Zug];exact h)))))<|go 3 ?_;refine r0g (Qj (Yh (ii:=11) (i:=k) J J J J Zg Zt8 Zqb J)) J J J J J<|r0g (Qj (Qt (ii:=11) I0 J J J Zg pI)) J J J J J<|go 1 ?_;refine Zhm J J J J J (Of (n:=15) (Yea _ (62914560*ov) (Nat.le_trans f O3)) J J J K1 call144 (Zh 96 J J J Zn) J D.h) (λb8 _=>?_);refine Zhm J J J J J (Of (n:=15) (Cv _ _ _ (-(62914560*ov)) (by rw [c];exact Nat.le_trans (Zcg (Ko m o r i) O O) O3) (by rw [Int.natAbs_neg];exact Nat.le_trans f O3)) J J J K2 call72 (Fo 11 J J (Zj (i:=k)) (Zh 15 J J J Zn)) J D.h) (λ_ _=>?_);refine r0g (Qj (dF (Yg9 J J J) (vB (decide_eq_false (by rw [c,Ydc];exact B))))) J J J J J<|go 12 ⟨O,?_⟩;exact Yd (Pz 13 98 J J J)<|Xb (k+1,a5) ⟨O1,λj hj=>by rcases Nat.lt_succ_iff_lt_or_eq.1 hj with u|u;exact F j u;subst u;omega⟩ O1 K1 ⟨by rw [Zan _ O];rfl,by rw [Zan _ O];rfl,trivial⟩
          .obtain rfl:k=(Zv i x y z).length:=O;rw [List.take_length];refine go 11 ⟨O,?_⟩;exact Yd (Pz 98 98 J J J)<|Xb (i+1,vs) ⟨O1,λk hk=>by rcases Nat.lt_succ_iff_lt_or_eq.1 hk with u|u;exact w k u;subst u;exact Zzr j1 j2 j3 (Zv5 λj hj=>by have:=F j hj;omega)⟩ O1 K1 ⟨by rw [Ds x y z O,Hm];rfl,by rw [Ds x y z O,Hm];rfl,trivial⟩
       .obtain rfl:i=3:=O;refine go 6 ?_;refine Qm (λ_=>False) [(0,0),(1,1),(2,1),(3,0),(4,3)]<|go 1 ?_;refine Yz (Zm 16 [] (Mw 1 ⟨O3,O3⟩)) λc0 _=>Yz (Zm 16 [98,16] (Cv _ _ (Nu ov (Md 3 x y z)) 1 (Nat.le_trans (t _) O3))) λ_ _=>go 5 ?_;exact Xu e () results75 (by rw [Ydm O w];exact vB (decide_eq_decide.2 (by rw [Int.sign_eq_zero_iff_zero];omega))) trivial Za
theorem Zrn(v:Value)(l:List Int)(o:∀x∈l,Qe x)(s:l.length<=1000):Cal prog 145 #[v] [Yl 1 Zx v l] true (G:=Value×List (Int×SL)) (λr=>Yi r.2=tzl l) (λr=>r.1) (λr=>[pp r.1 r.2]):=by
 refine Zf func145 ntmps145 λP I u f=>?_;have m:=Zhz o;refine go 17 ?_;refine Zi (Pu 70 2 89 Es)<|Zi (Yr qI 71)<|lp (G:=Nat×Value×List (Int×SL)) [0] [0,1] (λq=>[(4,.int .i64 (q.1:Int)),(3,q.2.1)]) (λq=>[(70,Oj 2 89 Es q.2.1 q.2.2),(71,Ku qI q.2.2)]) (λq=>(q.1<=l.length)/\(Yi q.2.2=mk q.1 (cf l))/\(q.2.2.length=q.1)) (λq=>l.length-q.1) (0,.slice none 0 0,[]) ⟨O1,rfl,rfl⟩ K2 K2 ?_;rintro⟨i,N,F⟩ ⟨hi,d,c⟩;dsimp only at hi d c;dsimp only;refine go 9 ?_;refine Zc J (λe=>?_) (λe=>?_)
 .refine go 8 ?_;refine dt (Yh (ii:=1) (i:=i) J J J J Zd Pk Ha J)<|go 1 ⟨O,?_⟩;refine cl 2 [] (Mw _ (o _ (Zj))) λv _=>?_;refine Zkc (Yc 2 J Zd) (λn h=>?_);subst h;refine tt (Qn (i:=3) (ivs:=[(0,_)]) (enc:=Es) [(l.getD i 0,n)] J J K2 Zdb ti89 J J J J J pI.cells J J u.h) (λB _=>?_);refine tt (Ny (i:=70) (j:=3) (by_:=32) J J J J J J O3 J (Yj pI) Zdb ti89 J pI J J J O8 O3 J u.h) (λD _=>?_);refine go 9 ⟨O,?_⟩;exact Yd (Zk (q:=qI) (z:=(l.getD i 0,n)) 71 2 71 J J J J J)<|Xb (i+1,_,F ++ [(l.getD i 0,n)]) ⟨O1,by rw [Eo,Af,d];dsimp only;rfl,by simp [c]⟩ O1 K2 K2
 .refine go 6 ?_;refine Zi (Ys 70 J J pI)<|Zi (Qy 70 71 72 J J J J)<|go 2 ?_;refine cl 4 [72] (Zcn _ _ (by rw [d];exact Ae λt H=>by have:=m t;omega)) λg w=>go 4 ?_;exact Xu f _ results145 J (by rw [w,d,show i=l.length by omega,Zcz]) (Nb 4 Za)
def Ej(a b k:Int):List Int:=if b-a=0\/k=2 then [a]else if k=1 then [a,b-a]else [a,0,0,10*(b-a),-15*(b-a),6*(b-a)]
def tmL_0(h:b-a=0\/k=2):Ej a b k=[a]:=if_pos h
def tmL_1(h:¬(b-a=0\/k=2))(c:k=1):Ej a b k=[a,b-a]:=(if_neg h).trans (if_pos c)
def tmL_2(h:¬(b-a=0\/k=2))(c:k≠1):Ej a b k=[a,0,0,10*(b-a),-15*(b-a),6*(b-a)]:=(if_neg h).trans (if_neg c)
def lineG(k:Int)(s:SL×SL×SL):Zo:=((0,1000,1),(s.1,Ej 0 300 k),(s.2.1,Ej 0 400 k),(s.2.2,Ej 0 0 k))
def stayG(s:SL×SL×SL):Zo:=((1000,2000,1),(s.1,Ej 0 0 2),(s.2.1,Ej 0 0 2),(s.2.2,Ej 0 0 2))
theorem Oe{l:List Int}(h:l.all (λa=>decide (-9223372036854775808<=a/\a<=9223372036854775807))=true):∀a∈l,Qe a:=λa c=>by have:=List.all_eq_true.1 h a c;simp only [decide_eq_true_eq]at this;exact this
def legZ(d e f g c h k:Int)(s:SL×SL×SL):Zo:=((0,1000,1),(s.1,Ej d g k),(s.2.1,Ej e c k),(s.2.2,Ej f h k))
def sm_bl{x:Int}(h:x.natAbs<=1000000000000000000000000)(c:80<=M):bl x.natAbs<=M:=Nat.le_trans ((Qh 80 _).2 (Nat.lt_of_le_of_lt h O3)) c
theorem i_le{l:List Int}(h:Yi zs=l){n:Nat}(c:l.length<=n):zs.length<=n:=by rw [<-Ph,h];exact c
theorem Zfi{l:List Int}(h:Yi zs=l)(c:Vp l):Sz 1000000 (Yi zs):=by rw [h];exact c.sz.mono O3
def Zfj{l:List Int}(h:Yi zs=l)(d:Vp l){n:Nat}(c:25<=n):zs.length<=n:=i_le h (Nat.le_trans d.len c)
abbrev TzT:=SL×List (Int×SL)
def sqF(ov ov2:Int)(x y z x2 y2 z2:List Int)(i:Nat):List Int:=sqP (Zv i x y z) (Zv i x2 y2 z2) ov ov2
def sqR(ov ov2:Int)(x y z x2 y2 z2:List Int):Nat->List (List Int)
 | 0=>[]
 | i+1=>sqR ov ov2 x y z x2 y2 z2 i ++ [sqF ov ov2 x y z x2 y2 z2 i]
theorem sqR_s{c:List TzT}{i:Nat}{d:TzT}(h:c.map (λz=>Yi z.2)=sqR ov ov2 x y z x2 y2 z2 i)(e:Yi d.2=sqF ov ov2 x y z x2 y2 z2 i):(c ++ [d]).map (λz=>Yi z.2)=sqR ov ov2 x y z x2 y2 z2 (i+1):=by rw [List.map_append,h,List.map_cons,List.map_nil,e];rfl
theorem sqR_at{d:List TzT}(h:d.map (λz=>Yi z.2)=sqR ov ov2 x y z x2 y2 z2 3):d.length=3/\Yi (d.getD 0 T0).2=sqF ov ov2 x y z x2 y2 z2 0/\Yi (d.getD 1 T0).2=sqF ov ov2 x y z x2 y2 z2 1/\Yi (d.getD 2 T0).2=sqF ov ov2 x y z x2 y2 z2 2:=by
 have f:=congrArg List.length h;rw [List.length_map]at f;have f:d.length=3:=f
 match d,f with
 | [a,b,c],_=>
  have e:[Yi a.2,Yi b.2,Yi c.2]=[sqF ov ov2 x y z x2 y2 z2 0,sqF ov ov2 x y z x2 y2 z2 1,sqF ov ov2 x y z x2 y2 z2 2]:=h;injection e with e0 e;injection e with e1 e;injection e with e2 e;exact⟨rfl,e0,e1,e2⟩
def ovW(ov ov2:Int):Int:=ov*ov2*(ov*ov2)
def rfL(d c ov ov2:Int)(x y z x2 y2 z2:List Int):List Int:=Fg (Zq (Fg (sqF ov ov2 x y z x2 y2 z2 0) (sqF ov ov2 x y z x2 y2 z2 1)) (c*c)) (Zq (sqF ov ov2 x y z x2 y2 z2 2) (d*d))
def rfW(c d ov ov2:Int):Int:=c*c*(d*d)*ovW ov ov2
def rfZ(d e c ov ov2:Int)(x y z x2 y2 z2:List Int):List Int:=Cj (rfL e c ov ov2 x y z x2 y2 z2) (tzl [rfW d c ov ov2])
theorem Yc1(p q:List Int)(a b k:Int):sqK p q a b k=Zq (sqP p q a b) (k*k):=by unfold sqK dfK sqP;exact Yah _ _
def Zpv(w:Int):cf [w] 0=w:=rfl
theorem ab_one{w:Int}(h:w.natAbs<=M):Ab M (tzl [w]):=λi=>by
 rw [Kj]
 match i with
 | 0=>rw [Zpv];exact h
 | i+1=>rw [Yq O7];exact Nat.zero_le _
theorem Yaw(w:Int)(i:Nat):cf [w] i=-(cf [-1] i*w):=by
 match i with
 | 0=>rw [Zpv,Zpv];omega
 | i+1=>rw [Yq O7,Yq O7];omega
theorem rf_eq(c f d ov ov2:Int)(x y z x2 y2 z2:List Int):rfZ c f d ov ov2 x y z x2 y2 z2=smZ c f d ov ov2 x y z x2 y2 z2 3:=by
 have h:Tr (smZ c f d ov ov2 x y z x2 y2 z2 3):=by unfold smZ;exact Xx _
 refine(Zel _ _).ext h λi=>?_;unfold rfL smZ;simp only [smP];rw [Db,Cq,Yx,Cq,Yx,Cq,Cq,Cq,Kj];unfold fqZ;rw [Yc1,Yc1,Yc1,Yx,Yx,Yx];have e:cf (cnZ c d ov ov2) i=cf [-1] i*c*c*d*d*ov*ov*ov2*ov2:=by unfold cnZ;simp only [ngC,Yx,List.getD_cons_zero,List.getD_cons_succ]
 have g:=Yaw (rfW c d ov ov2) i;rw [e,g];unfold rfW ovW sqF;simp only [Zv];generalize cf (sqP x x2 ov ov2) i=A;generalize cf (sqP y y2 ov ov2) i=B;generalize cf (sqP z z2 ov ov2) i=C;generalize cf [-1] i=D;grind
structure RfX (zd zn ze ov ov2:Int) (x y z x2 y2 z2:List Int):Prop where
 v0:∀i,Vp (sqF ov ov2 x y z x2 y2 z2 i)
 v1:Vp (Fg (sqF ov ov2 x y z x2 y2 z2 0) (sqF ov ov2 x y z x2 y2 z2 1))
 v2:Vp (Zq (Fg (sqF ov ov2 x y z x2 y2 z2 0) (sqF ov ov2 x y z x2 y2 z2 1)) (ze*ze))
 v3:Vp (Zq (sqF ov ov2 x y z x2 y2 z2 2) (zn*zn))
 v4:Vp (rfL zn ze ov ov2 x y z x2 y2 z2)
 v5:Vp (tzl [rfW zd ze ov ov2])
 v6:Vp (rfZ zd zn ze ov ov2 x y z x2 y2 z2)
 wb:bl (rfW zd ze ov ov2).natAbs<=1000000
 ob:bl (ov*ov2).natAbs<=1000
 oW:bl (ovW ov ov2).natAbs<=1000
 eb:bl (ze*ze).natAbs<=1000
 nb:bl (zn*zn).natAbs<=1000
 db:bl (zd*zd).natAbs<=1000
 xb:bl (zd*zd*(ze*ze)).natAbs<=1000
theorem ov_b{fr e:Int}(d:Sgo fr e ov x y z)(c:Sgo fr2 to2 ov2 x2 y2 z2):bl (ov*ov2).natAbs<=1000000000:=by have f:=d.o1;have g:=d.o2;have h:=c.o1;have i:=c.o2;exact sm_bl (Nat.le_trans (Yfb (x:=ov) (y:=ov2) (A:=4294967296) (B:=4294967296) O O) O3) O3
theorem Yj9{g j i:Int}(h:Yi zs=rfZ g j i ov ov2 x y z x2 y2 z2):zs.length≠0->Yo (Yi zs)≠0:=λc=>by
 have d:Yi zs≠[]:=λe=>c (by rw [<-Ph,e];rfl);have f:Tr (Yi zs):=by rw [h];unfold rfZ;exact Zel _ _
 have:=Zth f d;intro e;rw [e]at this;exact absurd this O3
theorem rf_fin{c e d:Int}(h:Yi ys=Zu (Yi zs))(f:Yi zs=rfZ c e d ov ov2 x y z x2 y2 z2):Yi ys=fmZ c e d ov ov2 x y z x2 y2 z2:=by rw [h,f,rf_eq];unfold fmZ;rfl
theorem Yg4{a b c:Bool}{fr e:Int}(h:¬(a=true/\b=true/\fr=fr2/\e=to2/\c=true)):¬(a=true/\b=true/\fr=fr2/\e=to2)\/((a=true/\b=true/\fr=fr2/\e=to2)/\c=false):=by
 by_cases d:a=true/\b=true/\fr=fr2/\e=to2
 .refine .inr ⟨d,?_⟩;cases c with
  | false=>rfl
  | true=>exact absurd ⟨d.1,d.2.1,d.2.2.1,d.2.2.2,rfl⟩ h
 .exact .inl d
def tpI(n k:Nat):Nat:=n/1000000000^k
def gcR(o:Int)(X Y Z:List Int):Nat->Int
 | 0=>o
 | i+1=>(Int.gcd (gcR o X Y Z i) (Yo (Zv i X Y Z)):Int)
structure Row3 (ws:List TzT) (X Y Z:List Int):Prop where
 l:ws.length=3
 e:∀i,i<3->Yi (ws.getD i T0).2=Zv i X Y Z
def segY(fr c:Int)(g:Zo)(r:SL×SL×SL):Zo:=((cA fr g,cB c g,cO g/cG fr c g),(r.1,Dw (cX fr c g g.2.1.2) (cG fr c g)),(r.2.1,Dw (cX fr c g g.2.2.1.2) (cG fr c g)),(r.2.2,Dw (cX fr c g g.2.2.2.2) (cG fr c g)))
structure RI (xs q:List Int):Prop where
 v:Vp q
 ne:q≠[]
 s:Sz 220 q
 l:q.length<=11
 d:Dp xs (Xg q)
def RI.start(h:Cvd xs)(c:xs≠[]):RI xs xs:=⟨h.v,c,h.s.mono O,h.l,Dp.start h.v.tr c⟩
theorem Ycn{n:Nat}{e:Int}(c:e=1\/e=-1)(h:Sz n q):Sz n (Zq q e):=λi=>by
 rw [Yx];have:=h i;rcases c with rfl|rfl
 .rw [Int.mul_one];exact this
 .rw [Int.mul_neg_one,Int.natAbs_neg];exact this
theorem RI.step(h:Cvd xs)(r:xs≠[])(d:RI xs q) :
  Tr (sqf 13 q)/\Qx (sqf 13 q)<=235/\(sqf 13 q).length<=11/\0<(sqf 13 q).length/\Yo q≠0/\Sz 220 (Zq (Zu q) 1)/\Tr (Zq (Zu q) 1)/\(Zq (Zu q) 1).length=q.length/\pdv (Zq (Zu q) 1) (sqf 13 q)/\
  Vp (Mn 13 q)/\Mn 13 q≠[]/\Sz 220 (Mn 13 q)/\(Mn 13 q).length<=11/\Yo (Mn 13 q)≠0/\Zu (Mn 13 q)=Mn 13 q/\
  Tr (sqf 13 (Mn 13 q))/\Qx (sqf 13 (Mn 13 q))<=235/\(sqf 13 (Mn 13 q)).length<=11/\0<(sqf 13 (Mn 13 q)).length/\pdv (sqf 13 q) (sqf 13 (Mn 13 q))/\Sz 600 (Kr (sqf 13 q) (sqf 13 (Mn 13 q)))/\(Kr (sqf 13 q) (sqf 13 (Mn 13 q))).length<=11/\
  pdv (Mn 13 q) (sqf 13 (Mn 13 q))/\RI xs (Zbi 13 q)/\((sqf 13 q).length≠1->(Zbi 13 q).length<q.length):=by
 have hl:=h.l;have s:=d.d;have f:=(s.ok h.v.tr r h.s O O (show xs.length<=13+1 by omega)).2;have o:Fu 13 q:=by unfold Fu at f ⊢;rwa [s.2.2.1]at f
 have g:=s.next f;have P:Pp 13 (Xg q)=Pp 13 q:=Zie s.2.2.1;have W:sqf 13 (Xg q)=sqf 13 q:=Ey s.2.2.1;rw [P]at g;have c:=(g.ok h.v.tr r h.s O O (show xs.length<=13+1 by omega)).2;have B:=g.next c;obtain⟨⟨e,N,r1,r2,r3,r4,r5,r6⟩,r7,r8,r9,D,Z,a0⟩:=Zji d.v.tr d.ne o c;obtain⟨-,-,-,-,-,-,-,-,-,-,-,j,l,F,-,m,-,-⟩:=Zcp h r s;obtain⟨-,-,-,-,-,-,-,-,-,-,-,n,G,H,-,t,a1,-⟩:=Zcp h r g;rw [W]at j l F m;have V:sqf 13 (Mn 13 q)=sqf 13 (Pp 13 q):=Ey (by rw [r7,g.2.2.1]);obtain⟨g1,g2⟩:=Zfr h r g;obtain⟨g3,g4⟩:=Zfr h r B;have e0:e≠0:=by rcases N with rfl|rfl<;>decide
 have u:Sz 220 (Mn 13 q):=by rw [r3];exact Ycn N g1
 have I:(Mn 13 q).length<=11:=by rw [r3];have:=Nl (Pp 13 q) e;omega
 have v:Vp (Mn 13 q):=⟨u.mono O,r9,O⟩;have w:Sz 220 (Zbi 13 q):=by rw [r6];exact Ycn N g3
 have a2:(Zbi 13 q).length<=(Pp 13 (Pp 13 q)).length:=by rw [r6];exact Nl _ e
 obtain⟨o1,o2,o3,o4⟩:=Dk d.v.tr d.ne o c;have hK:fcs 0 13<=2^15*2^15:=O6;have S:=Er (L:=13) (R:=24) o3 n.tr l m j.tr O O3 hK o2;have Q:=Ol o3 n.tr o4 t;rw [<-o2]at Q;have lb:=List.length_pos_iff.2 t;have la:=List.length_pos_iff.2 m;have lo:=List.length_pos_iff.2 o4;have hm:Zq (Zu q) 1=Zu q:=by refine(Qb _ _).ext (Xc d.v.tr) λi=>?_;rw [Yx,Int.mul_one]
 have hx:=Qu d.v.tr d.ne o;have Y:=Qu g.1 g.2.1 c;rw [V];refine⟨j.tr,Pr l,O,la,d.v.ne d.ne,by rw [hm];exact Fi d.s,Qb _ _,by rw [hm,Zw],by rw [r1];exact r2,v,D,u,I,v.ne D,r4,n.tr,Pr G,H,lb,o1,S.mono O,?_,r5,⟨⟨w.mono O,Z,O⟩,a0,w,O,by rw [r8];exact B⟩,λa3=>?_⟩
 .show(Cb 13 q).length<=11;omega
 .have h1:=hx.2.2.2.2;have h2:=Y.2.2.2.2;omega
theorem Yes{F n:Nat}(B:Tr p)(t:p≠[])(hs:Sz n p)(w:n<=220)(v:p.length<=11)(u:p.length<=F+1):∀(f:Nat) (q:List Int),Dp p q->q.length<=f->∃a:List Int,Tr a/\q=Qf a (Dy F f q):=by
 intro f
 induction f with
 | zero=>intro q c m;have:=List.length_pos_iff.2 c.2.1;omega
 | succ f R=>
  intro q c m;have d:=(c.ok B t hs w v u).2;have g:=c.next d;have e:=(g.ok B t hs w v u).2;have l:=g.next e;unfold Dy;by_cases j:(sqf F q).length=1
  .rw [if_pos j];obtain⟨Z,s2,s3⟩:=Zep c.1 c.2.1 d j;refine⟨[1],.inr (show cf [1] 0≠0 by decide),c.1.ext (Xv _ _) λi=>Ou (λx=>?_) i⟩;rw [Yg,Z,Ykx c.1 c.2.2.1 s2,Pf];push_cast;grind
  .rw [if_neg j];have V:2<=q.length:=by obtain⟨f1,f2,f3,f4,f5,f6⟩:=Oh (F:=F) c.1 c.2.1 d;obtain⟨D,o,r,h,G⟩:=Qu c.1 c.2.1 d;have l1:=List.length_pos_iff.2 f3;have l2:=List.length_pos_iff.2 o;omega
   have W:=Zkg c.1 c.2.1 d V;obtain⟨D,o,r,h,G⟩:=Qu c.1 c.2.1 d;obtain⟨b1,b2,b3,s,b5⟩:=Qu g.1 g.2.1 e;obtain⟨-,t2,t3,-,-,-⟩:=Oh (F:=F) g.1 g.2.1 e;have lb:=List.length_pos_iff.2 t3;obtain⟨A,hA,Q⟩:=R _ l O;obtain⟨-,Y,o3,o4⟩:=Dk c.1 c.2.1 d e;rw [c.2.2.1]at h;rw [r]at s;refine⟨Qf (Qf (sqf F (Pp F q)) (sqf F (Pp F q))) A,Xv _ _,c.1.ext (Xv _ _) λi=>Ou (λx=>?_) i⟩;have H:Zb q x=Zb (sqf F q) x*Zb (Pp F q) x:=by rw [<-Yg,<-h]
   have I:Zb (sqf F q) x=Zb (Cb F q) x*Zb (sqf F (Pp F q)) x:=by rw [<-Yg,<-Y]
   have N:Zb (Pp F q) x=Zb (sqf F (Pp F q)) x*Zb (Pp F (Pp F q)) x:=by rw [<-Yg,<-s]
   have P:Zb (Pp F (Pp F q)) x=Zb A x*Zb (Dy F f (Pp F (Pp F q))) x:=by rw [<-Yg,<-Q]
   rw [Yg,Yg,Yg,Yg,H,I,N,P];show _=_*(Zb (Cb F q) x*_);generalize Zb (sqf F (Pp F q)) x=S;grind
theorem RI.size(h:Cvd xs)(i:xs≠[])(d:RI xs q){f:Nat}(D:q.length<=f):Tr (Zup 13 f q)/\Sz 460 (Zup 13 f q)/\(Zup 13 f q).length<=11:=by
 have G:=h.l;have c:=d.d;have e:Zup 13 f q=Dy 13 f (Xg q):=by rw [Yj8 h.v.tr i h.s O O O f q d.v.tr d.ne c];exact Zrx c.2.2.1.symm f
 have v:=Pi d.v.tr;have u:=d.l;obtain⟨A,r,j⟩:=Yes h.v.tr i h.s O O (show xs.length<=13+1 by omega) f (Xg q) c O;obtain⟨s,B⟩:=Zfr h i c;have g:=(c.ok h.v.tr i h.s O O (show xs.length<=13+1 by omega)).2;have n:=Zn4 (F:=13) (p:=xs) (f:=f) c.1 c.2.1 g;rw [e];have t:fcs 0 13<=2^15*2^15:=O6;have w:Dy 13 f (Xg q)≠[]:=λl=>c.2.1 (by rw [j,l,Za9]);have o:A≠[]:=λl=>c.2.1 (by rw [j,l,Gx]);have m:=Ol r n o w;rw [<-j]at m;have:=List.length_pos_iff.2 o;exact⟨n,(Er (L:=13) (R:=24) n r s c.2.1 c.1 O O3 t (by rw [Cw];exact j)).mono O,O⟩
def pT{α:Type} : Enc Tryz.prog 47 1 (Lx (α:=α)):=Enc.flat Tryz.sizeOf47 Tryz.isAgg47 (λ_=>rfl)
theorem Zgj(a b k:Int)(s:-4194304<=a/\a<=4194304)(t:-4194304<=b/\b<=4194304):Cal prog 125 #[.int .i64 a,.int .i64 b,.int .i64 k] [] true (G:=SL) (λr=>True) (λr=>Yy r) (λr=>[Yl 1 Zx (Yy r) (Ej a b k)]):=by
 refine Zf func125 ntmps125 λw u g f=>?_;refine go 19 ⟨O,?_⟩;refine Xi (d:=13) J (λl=>?_) (λl=>?_)
 .refine go 9 ?_;refine tt (Qn (i:=1) (ivs:=[(0,_)]) (enc:=Zx) ([a]:List Int) J J K2 Pk ti3 J J J J J pZ.cells J J g.h) λv _=>go 5 ?_;refine Yd (Ys 1 J J pZ)<|Zqc (Yc 1 J Zd) (λe c=>?_);subst c;exact Xu f e results125 J trivial (Nb 1 Za (congrArg (Yl 1 Zx (Yy e)) (tmL_0 (a:=a) (b:=b) (k:=k) O).symm))
 .refine go 5 ?_;refine Zc J (λh=>?_) (λh=>?_)
  .refine go 3 ?_;refine tt (Qn (i:=2) (ivs:=[(0,_)]) (enc:=Zx) ([a]:List Int) J J K2 Pk ti3 J J J J J pZ.cells J J g.h) λm _=>go 5 ?_;refine Yd (Ys 2 J J pZ)<|Zqc (Yc 2 J Zd) (λe c=>?_);subst c;exact Xu f e results125 J trivial (Nb 2 Za (congrArg (Yl 1 Zx (Yy e)) (tmL_0 (a:=a) (b:=b) (k:=k) O).symm))
  .refine go 9 ?_;refine Zc J (λj=>?_) (λj=>?_)
   .refine go 4 ?_;refine tt (Qn (i:=3) (ivs:=[(0,_),(1,_)]) (enc:=Zx) ([a,b-a]:List Int) J J K4 Pk ti3 J J J J J pZ.cells J J g.h) λn _=>go 5 ?_;refine Yd (Ys 3 J J pZ)<|Zqc (Yc 3 J Zd) (λe c=>?_);subst c;exact Xu f e results125 J trivial (Nb 3 Za (congrArg (Yl 1 Zx (Yy e)) (tmL_1 (a:=a) (b:=b) (k:=k) O O).symm))
   .refine go 11 ⟨O,O,O,?_⟩;refine tt (Qn (i:=4) (ivs:=[(0,_),(1,_),(2,_),(3,_),(4,_),(5,_)]) (enc:=Zx) ([a,0,0,10*(b-a),-15*(b-a),6*(b-a)]:List Int) J J K12 Pk ti3 J J J J J pZ.cells J J g.h) λo _=>go 4 ?_;refine Yd (Ys 4 J J pZ)<|Zqc (Yc 4 J Zd) (λe c=>?_);subst c;exact Xu f e results125 J trivial (Nb 4 Za (congrArg (Yl 1 Zx (Yy e)) (tmL_2 (a:=a) (b:=b) (k:=k) O O).symm))
theorem Znv(c d e f by_ g fr D k:Int)(m:-4194304<=c/\c<=4194304)(n:-4194304<=d/\d<=4194304)(o:-4194304<=e/\e<=4194304)(s:-4194304<=f/\f<=4194304)(h:-4194304<=by_/\by_<=4194304)(t:-4194304<=g/\g<=4194304):Cal prog 68 #[.agg #[.int .i64 c,.int .i64 d,.int .i64 e],.agg #[.int .i64 f,.int .i64 by_,.int .i64 g],.int .i64 fr,.int .i64 D,.int .i64 k] [] true (G:=SL×SL×SL) (λr=>True) (λr=> .agg #[.int .i64 fr,.int .i64 D,.int .i64 1,Yy r.1,Yy r.2.1,Yy r.2.2]) (λr=>[Yl 1 Zx (Yy r.1) (Ej c f k),Yl 1 Zx (Yy r.2.1) (Ej d by_ k),Yl 1 Zx (Yy r.2.2) (Ej e g k)]):=by refine Zf func68 ntmps68 λP N I u=>go 2 ?_;refine Yp (Yt 1) λH _=>Yp (Yt 2) λv _=>Yp (Zz 3) λB _=>go 3 ?_;refine Qm (λ_=>False) [(0,0),(1,0),(2,0),(3,0),(4,0),(5,0),(6,0),(8,0),(9,0),(10,0),(11,0),(12,0),(14,0),(15,0),(16,0),(17,0),(18,0),(7,1),(13,1),(19,1),(20,0),(21,3)]<|go 17 ?_;refine Yz (Zm 4 [] (Zgj c f k m s)) λF _=>Yz (Zm 5 [] (Zgj d by_ k n h)) λj _=>Yz (Zm 6 [] (Zgj e g k o t)) λl _=>?_;refine Qd J J (Qj (Qv (ivs:=[(0,_),(1,_),(2,_),(3,_),(4,_),(5,_)]) J K12 (λa w hs=>Zwe ((Yk J) a w hs) ((Yk J) a w hs) ((Yk J) a w hs) ((Yv (i:=4) J Zd) a w hs) ((Yv (i:=5) J Zd) a w hs) ((Yv (i:=6) J Zd) a w hs))))<|go 4 ?_;exact Xu u (F,j,l) results68 J trivial (Nb 4 (Nb 5 (Nb 6 Za)))
def Ydz(v u:Value)(zs ys:List (Int×SL))(hs:Sz 1000000 (Yi zs))(d:zs.length<=60)(e:Sz 1000000 (Yi ys))(c:ys.length<=60):Cal Tryz.prog 146 #[v,u] [pp v zs,pp u ys] true (G:=SL×List (Int×SL)) (λr=>Yi r.2=Qf (Yi zs) (Yi ys)) (λr=>Yy r.1) (λr=>[pp (Yy r.1) r.2]):=
 (rp_mul v u zs ys hs e c d).toS
@[reducible,instance] def encCI:EncT prog 33 1 (Lx (α:=List Int)):=⟨pC⟩
end Go.Sky

