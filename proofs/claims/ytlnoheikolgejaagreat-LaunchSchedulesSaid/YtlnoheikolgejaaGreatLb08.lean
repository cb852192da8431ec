/- Rules, arithmetic and contracts: part 9. No conditions but those that each theorem names. -/
import Derived.Test.YtlnoheikolgejaaGreatLb07
set_option linter.all false
set_option maxHeartbeats 4000000
namespace Go.Sky
open Go.Proofs.Tryz
open Go.Proofs
set_option synthInstance.maxHeartbeats 0
set_option synthInstance.maxSize 100000
set_option maxRecDepth 20000
set_option linter.unusedSimpArgs false
variable{v w:Value}{x:Int}{s t:Bool}{listed:Array Bool}{ts:List Nat}{ops:Array Oper}
theorem Ycq{x y:Nat}(hx:bl x<=4000000000)(e2:bl y<=4000000000)(hy:0<y):Cal prog 285 #[v,w] [Dj v x,Dj w y] true (G:=Value×Value) (λr=>True) (λr=> .tuple #[r.1,r.2]) (λr=>[Dj r.1 (x/y),Dj r.2 (x%y)]):=by
 refine Zg func285 ntmps285 λw0 sc p S=>?_;have hX:=Mn x;have hY:=Mn y;refine go 11 ?_;refine cl 2 [1,2] (Zdm O O) λr hr=>go 3<|Zc J (λW=>?_) (λW=>?_)
 .have o:x<y:=hr.1.1 O;refine go 9<|Zn (Qi 9 1 222 Mx) ?_;exact Nb S (.slice none 0 0,v) results285 J aA (gow 9 (Qy 1 Za (by rw [bJ o])) (by rw [cS o];rfl))
 .have c6:y<=x:=by have:=hr.1;omega
  have e1:=Oh c6;refine go 10<|Zc J (λY=>?_) (λY=>?_)
  .have V:y<U:=by have:=(Xn Xz 1 y).1 O;simpa using this
   have m:(dg U y).getD 0 0=y:=by rw [Ht Xz];simp [bJ V]
   refine go 6 ⟨O,O2,?_⟩;refine cl 3 [1] (Ygd O (by rw [m];exact hy) (by rw [m];exact V)) λv _=>go 11 ?_;refine tt (Yx [(0,_)] 4 (enc:=Mx) [x%(dg U y).getD 0 0] J J K2 Oi ti222 J J J J J pU.cells J J p.h) λe4 _=>cl 4 [4] Oq λ_ _=>?_;refine Ye (Zbk 4 J J pU)<|go 6 ?_;exact Nb S (_,_) results285 J aA (Qy 3 (gow 4 Za (by rw [Zin (jL (bF _ (by rw [m];exact hy)) (by rw [m];exact V)),m])) (by rw [m]<;>rfl))
  .refine go 3 ?_;obtain⟨k,hk⟩:∃k,k=(dg U y).length:=⟨_,rfl⟩;have e0:k<=(dg U x).length:=O;obtain⟨b,hb⟩:∃b,b=64-bl ((dg U y).getD (k-1) 0):=⟨_,rfl⟩;obtain⟨b4,_,b3,a4,b1,H⟩:=Yrp hy hk hb;obtain⟨D,c⟩:∃D,D=y*2^b:=⟨_,rfl⟩;have c7:(dg U D).length=k:=by rw [c];exact b4
   have a3:D<U^k:=by rw [c];exact a4
   have a2:U^(k-1)*9223372036854775808<=D:=by rw [c];exact H
   have l:0<D:=by rw [c];exact gY hy (dL b)
   have d9:bl D<=4000000064:=by rw [c,Yal hy];omega
   refine go 5 ⟨O,?_⟩;refine dt (Zv 2 ((dg U y).length-1) J J J J Zm Oi Kp)<|go 1 ⟨O2,?_⟩;refine cl 4 [] (Ztt (Xy Qg (Ny Xz y) _)) λ_ _=>?_;refine Ye (Kf 44 (v':= .int .i64 (b:Int)) J (by rw [hb,hk]))<|go 3 ?_;refine jn (G:=Value×Value) [0,8] [0,1,2] (λq=>[(9,q.1),(10,q.2)]) (λq=>[(81,Dj q.1 D),(82,Oc 1 222 Mx q.2 (List.replicate ((dg U x).length+1) 0))]) (λq=>True) ?_ ?_
   .refine Lv (λ_=>False) [8]<|Zk 4 [(0,0),(1,0),(3,0),(4,0),(5,0)]<|go 6 ⟨O,?_⟩;refine Pk 3 2 6 ?_ ?_
    .refine Nl (Zp 81 [2] Zr5) λe5 _=>?_;refine Zk 0 [(7,0),(6,1),(8,3)]<|go 1 ?_;refine Lm J (Hf 82 ((dg U x).length+1) 8 (enc:=Mx) 0 J J J J Oi ti222 J pU.cells pU.pos J J J p.h) λe6 _=>go 2 ?_;exact Zu<|On (_,_) aA K2 ⟨by rw [c];rfl,rfl,aA⟩
    .refine Kr J J (Hf 82 ((dg U x).length+1) 8 (enc:=Mx) 0 J J J J Oi ti222 J pU.cells pU.pos J J J p.h) (λe7 _=>?_);refine Zk 0 [(2,1),(7,0),(8,3)]<|Ys (Zp 81 [2] Zr5) λe8 _=>go 3 ?_;exact Zu<|On (_,_) aA K2 ⟨by rw [c];rfl,rfl,aA⟩
   .rintro⟨vd,vr⟩ -;dsimp only;refine go 1 ?_;have c9:(dg U (x*2^b)).length<=(dg U x).length+1:=(Xn Xz _ _).2 (by rw [cK];exact iC ((Xn Xz _ x).1 (aH _)) (by rw [Yo8];exact cW O O) Qg);refine go 4 ?_;refine cl 5 [1] Zr5 λe9 _=>?_;refine tt (t_cpy 82 5 0 J J J J J J O3 J Zm Ynb (by rw [aS];exact c9) (by rw [aS];omega) (by rw [aS];omega) Oi pU J p.h) λ_ _=>go 3 ?_;have a6:(spl (List.replicate ((dg U x).length+1) 0) 0 (dg U (x*2^b))).length=(dg U x).length+1:=by rw [Iw _ _ _ (by rw [aS];omega),aS]
    refine go 7 ?_;have d4:(List.replicate ((dg U x).length+1-k) (0:Nat)).length=(dg U x).length+1-k:=aS;refine Zf (Kf 11 (v':= .int .i64 (k:Int)) J (by rw [c7]))<|go 5 ⟨O,?_⟩;refine tt (Hf 6 ((dg U x).length+1-k) 8 (enc:=Mx) 0 J J J J Oi ti222 J pU.cells pU.pos J J J p.h) (λd3 _=>?_);refine go 13 ⟨O,?_⟩;refine lp (G:=Nat×List Nat×List Nat) [8,9,10,11,12] [0,81,1,2,5] (λq=>[(13,.int .i64 ((q.1:Int)-1))]) (λq=>[(82,Oc 1 222 Mx vr q.2.1),(6,Oc 1 222 Mx d3 q.2.2)]) (λq=>(q.1<=(dg U x).length+1-k)/\(q.2.1.length=(dg U x).length+1)/\(∀d∈q.2.1,d<U)/\(q.2.2.length=(dg U x).length+1-k)/\(∀d∈q.2.2,d<U)/\(val U q.2.1<D*U^q.1)/\(val U (q.2.2.drop q.1)*U^q.1*D+val U q.2.1=x*2^b)) (λq=>q.1) ((dg U x).length+1-k,spl (List.replicate ((dg U x).length+1) 0) 0 (dg U (x*2^b)),List.replicate ((dg U x).length+1-k) 0) ⟨aH _,a6,Ztx (Nn Qg) (Ny Xz _) 0,O5,Nn Qg,by rw [Zt9,Mz Xz];exact Ynf ((Xn Xz _ x).1 (aH _)) b1 b3 O a2,by rw [Zt9,Mz Xz];simp [val]⟩ ⟨by rw [aS];rfl,aA⟩ K2 ?_;rintro⟨a,R,q⟩ ⟨hj,a7,e,d0,Q,M,hN⟩;dsimp only at hj a7 e d0 Q M hN;dsimp only;refine go 7<|Zc J (λZ=>?_) (λZ=>?_)
    .refine go 5 ?_;have P:val U R<U^(a-1+k+1):=by refine dU M ?_;rw [show a-1+k+1=k+a by omega,bR];exact aL _ (dI a3)
     have u:tz ((R.drop (a-1)).take (a-1+k+1-(a-1)))=dg U (val U R/U^(a-1)):=Ypn e O (by rw [show a-1+(a-1+k+1-(a-1))=a-1+k+1 by omega];exact P);have a9:val U R/U^(a-1)<D*U:=by rw [bO (cE Qg),eF,<-lT,show(a-1).succ=a by omega];exact M
     have b0:bl (val U R/U^(a-1))<=4294967296:=by have h1:=Oh (dI a9);have h2:=Zoj D U;have h3:bl U<=65:=(Qq 65 U).2 (by simp [U]);omega
     have b7:=Yp0 e (j:=a-1) b3 P O;have b9:(dg U D).getD (k-1) 0*U^(k-1)<=D:=by rw [Ht Xz];exact aB (aL _ (Nat.mod_le _ _)) (lM _ _)
     have c2:val U R/U^(a-1)/D<=18446744073709551615:=by have:=(bO l).2 (show _<U*D by rw [bP];exact a9);simp only [U]at this ⊢;omega
     refine go 4 ?_;refine jn (G:=Nat) [8,9,10,11,12,13] [0,82,6,81,1,2,5] (λg=>[(14,.int .u64 (g:Int))]) (λg=>[]) (λg=>(val U R/U^(a-1)/D<=g)/\(g<U)) ?_ ?_
     .refine go 1<|Qe (λ_=>False) [(0,0),(1,0),(2,0),(3,0),(4,0),(5,0),(6,0),(7,0),(8,0),(9,0),(10,0),(11,0)]<|go 4 ⟨O,?_⟩;refine Xb J J (Qa (Zv 82 (a-1+k) J J J J (Zo pU) Oi Kp))<|go 4 ⟨O2,O,?_⟩;refine Xb J J (Qa (Zv 81 (k-1) J J J J Zm Oi Kp))<|go 4 ⟨O2,?_⟩;refine Zc J (λa0=>?_) (λa0=>?_)
      .refine Qe (λ_=>False) [(0,0),(1,0),(2,0),(3,0),(4,0),(5,0),(6,0),(7,0),(8,0),(9,0),(10,0),(11,0),(12,0),(13,0),(14,0),(15,0),(16,0),(17,0),(18,1),(19,0),(20,0),(21,0),(22,0)]<|go 4 ⟨O,?_⟩;refine Xb J J (Qa (Zv 82 (a-1+k) J J J J (Zo pU) Oi Kp))<|go 6 ⟨O2,O,O,?_⟩;refine Xb J J (Qa (Zv 82 (a-1+k-1) J J J J (Zo pU) Oi Kp))<|go 4 ⟨O2,O,?_⟩;refine Xb J J (Qa (Zv 81 (k-1) J J J J Zm Oi Kp))<|go 1 ⟨O2,?_⟩;refine Ys (Zp 6 [] (Zxx (Xy Qg e _) (Xy Qg (Ny Xz _) _) O)) λ_ _=>go 5 ?_;exact On _ ⟨Ymg b9 O b7,Zw5 (Xy Qg e _) O⟩ K1 aA
      .refine go 1 ?_;exact On 18446744073709551615 ⟨c2,O3⟩ K1 aA
     .rintro g ⟨hg,f⟩;refine go 8 ⟨O,O,?_⟩;refine dt (d_mid (ii:=82) (i:=a-1) (j:=a-1+k+1) J J J J J (Zo pU) Oi Kp O O O O)<|go 7 ?_;refine tt (Yx [(0,_)] 7 (enc:=Mx) [g] J J K2 Oi ti222 J J J J J pU.cells J J p.h) λf0 _=>cl 7 [7] Oq λ_ _=>?_;refine Ye (Zbk 7 J J pU)<|Ye (Zfd 7 (Zin f) J J)<|cl 83 [81,7] (Ycp O (aB ((Qq 64 g).2 f) O)) λd5 _=>go 5 ?_;refine lp (G:=Nat×Value) [8,9,10,11,12,13,15] [0,82,6,81,1,2,5,7] (λq=>[(14,.int .u64 (q.1:Int)),(16,q.2)]) (λq=>[(83,Dj q.2 (D*q.1))]) (λq=>(val U R/U^(a-1)/D<=q.1)/\(q.1<U)) (λq=>q.1) (g,_) ⟨O1,O1⟩ ⟨J,J,aA⟩ ⟨J,aA⟩ ?_;rintro⟨g,vp⟩ ⟨hg,f⟩;dsimp only at hg f;dsimp only;have a5:bl (D*g)<=4294967296:=by have h1:=Zoj D g;have h2:=(Qq 64 g).2 f;omega
      refine go 4 ?_;refine tt (Qm 7 Oq J J J K1 call147 (Zel 82 J J pU (Zku (a-1) (a-1+k+1)) Zlh Zr) J p.h) λ_ _=>go 1 ?_;refine tt (Qm 7 (Zdm b0 a5) J J J K2 call279 (Zel 82 J J pU (Yjm u (by rw [u]) (Zku (a-1) (a-1+k+1))) (by rw [Fb];exact(Zlh)) (Zs 83 J J J Zr)) J p.h) λe3 B=>go 3 ?_;refine Zc J (λa1=>?_) (λa1=>?_)
      .have o:val U R/U^(a-1)<D*g:=B.1.1 O;have b2:1<=g:=by rcases aZ g with h|h;(rw [h,gE]at o;exact absurd o (bG _));exact h
       have b8:D<=D*g:=dJ _ b2;have c3:val U R/U^(a-1)/D<=g-1:=by have:=(bO l).2 (show _<g*D by rw [bP];exact o);omega
       refine go 6 ?_;refine dt (Ze8 (n:=1) J J J)<|go 3 ?_;refine Zf (Kf 14 (v':= .int .u64 ((g-1:Nat):Int)) J (Zb8 (Zxe b2 f)))<|go 3 ?_;refine cl 8 [83,81] (Zhi a5 b8) λd6 _=>go 3<|Zn (Xu 8 83 J J J) ?_;exact Yi (g-1,_) ⟨c3,O8⟩ O1 K2 ⟨by rw [Nat.mul_sub_one];rfl,aA⟩
      .refine go 6 ?_;have hQ:g=val U R/U^(a-1)/D:=by have h1:=B.1;have h2:D*g<=val U R/U^(a-1):=O;exact jG ((iT l).2 (by rw [bP];exact h2)) hg
       refine go 2 ?_;refine tt (Qm 8 Oq J J J K1 call147 (Zel 82 J J pU (Zku (a-1) (a-1+k+1)) Zlh Zr) J p.h) λ_ _=>go 1 ?_;refine tt (Qm 9 (Zhi b0) J J J K2 call280 (Zel 82 J J pU (Yjm u (by rw [u]) (Zku (a-1) (a-1+k+1))) (by rw [Fb];exact(Zlh)) (Zs 83 J J J Zr)) J p.h) λd7 _=>go 4 ?_;have b5:(dg U (val U R/U^(a-1)-D*g)).length<=a-1+k+1-(a-1):=by
        have:val U R/U^(a-1)-D*g<D:=by rw [hQ];have h3:=cQ (val U R/U^(a-1)) D;have h4:=bF (val U R/U^(a-1)) l;omega
        have:=(Xn Xz k _).2 (jL this a3);omega
       refine go 2 ?_;refine tt (t_clr (zv:= .bool false) (i:=82) (z:=0) (a-1) J J J J O3 (Ydw O) O O Oi pU (λw=>zeroValue222 w) J J p.h) λ_ _=>go 6 ?_;refine tt (t_cpy 82 9 (a-1) J J J J J J O3 J Zm (Ydw (by rw [Iw _ _ _ (by rw [aS];omega)];omega)) b5 (by rw [Iw _ _ _ (by rw [aS];omega)];omega) (by rw [Iw _ _ _ (by rw [aS];omega)];omega) Oi pU J p.h) λ_ _=>go 2 ?_;have c0:a-1+(List.replicate (a-1+k+1-(a-1)) 0).length<=R.length:=by rw [aS];omega
       have c8:=Iw R (a-1) _ c0;have c1:a-1+(dg U (val U R/U^(a-1)-D*g)).length<=(spl R (a-1) (List.replicate (a-1+k+1-(a-1)) 0)).length:=O;have F:=Ypu e (j:=a-1) (n:=a-1+k+1-(a-1)) O (by rw [show a-1+(a-1+k+1-(a-1))=a-1+k+1 by omega];exact P) b5;rw [Mz Xz]at F;have b6:=Ynd (j:=a-1) (N:=x*2^b) (Vq:=val U (q.drop a)) l hQ (by rw [show a-1+1=a by omega];exact hN);have a8:=b6.1;have I:=b6.2;rw [<-F]at a8 I;have c5:val U ((q.set (a-1) g).drop (a-1))=g+U*val U (q.drop a):=by rw [drop_set O,show a-1+1=a by omega];rfl
       rw [<-c5]at I;refine go 4 ?_;refine dt (Zv 6 (a-1) J J J J (Zo pU) Oi Kp)<|tt (Ka 6 (enc:=Mx) J J J J J J pU J p.h O3 O2) (λ_ _=>?_);refine go 8 ⟨O,?_⟩;exact Yi (a-1,_,_) ⟨O1,(Iw _ _ _ c1).trans (c8.trans a7),Ztx (Ztx e (Nn Qg) _) (Ny Xz _) _,O9,Lx Q _ f,a8,I⟩ O1 ⟨by rw [show(((a-1:Nat):Int)-1)=(a:Int)-1-1 by omega];rfl,aA⟩ K2
    .refine go 6 ?_;obtain rfl:a=0:=O;rw [fL,jX]at M;have c4:bl (val U R)<=8589934592:=by have:=Oh (dI M);omega
     refine go 2 ?_;refine cl 9 [6] Oq λ_ _=>?_;refine Ye (Zbk 6 J J pU)<|go 1 ?_;refine cl 9 [82] Oq λ_ _=>?_;refine Ye (Zbk 82 J J pU)<|Ye (Zfd 82 (Ko Xz R e).symm J J)<|go 1 ?_;refine cl 10 [82] (Yrs c4 O) λd8 _=>go 5 ?_;rw [fW,fL,jX]at hN;have d1:tz q=dg U (x/y):=by rw [<-Ko Xz _ Q,<-Zpk x y b,<-c,<-hN,bP,gO l,cS M,eN]
     have d2:val U R/2^b=x%y:=by rw [<-Zpj x y b,<-c,<-hN,bP,iN,bJ M]
     exact Nb S (_,_) results285 J aA (gow 6 (Qy 10 Za (by rw [d2])) d1)
theorem Zr6{x y:Nat}(l:bl x<=4000000000:=by omega)(m:bl y<=4000000000:=by omega):Cal prog 277 #[v,w] [Dj v x,Dj w y] true (G:=Value) (λr=>True) (λr=>r) (λr=>[Dj r (Nat.gcd x y)]):=by
 refine Zg func277 ntmps277 λD u p j=>?_;have n:=Mn x;have o:=Mn y;refine go 7<|Zf (Xu 1 91 J J J)<|Zf (Xu 2 92 J J J) ?_;refine lp (G:=Value×Value×Nat×Nat) [] [0,1,2] (λq=>[(0,q.1),(1,q.2.1)]) (λq=>[(91,Dj q.1 q.2.2.1),(92,Dj q.2.1 q.2.2.2)]) (λq=>(Nat.gcd q.2.2.1 q.2.2.2=Nat.gcd x y)/\(bl q.2.2.1<=4000000000)/\(bl q.2.2.2<=4000000000)) (λq=>q.2.2.2) (v,w,x,y) ⟨J,l,m⟩ K2 K2 ?_;rintro⟨z,B,a,b⟩ ⟨i,k,f⟩;dsimp only at i k f;dsimp only;refine go 8<|Zc J (λd=>?_) (λd=>?_)
 .have c:0<b:=by rcases aZ b with h|h;(subst h;simp [Gt]at d);exact h
  refine go 7 ?_;refine cl 3 [91,92] (Ycq k f c) λg _=>go 14 ?_;have e:a%b<b:=bF _ c;exact Zn (Xu 92 91 J J J)<|Zn (Xu 4 92 J J J)<|Yi (_,_,b,a%b) ⟨by dsimp only;rw [<-i,kN b,<-Nat.gcd_rec,kN],f,aB (Oh (dI e)) f⟩ e K2 K2
 .have c:b=0:=(Ol Xz b).1 O;refine go 12 ?_;exact Yq j _ results277 J aA (Qy 91 Za (by rw [<-i,c,mD]))
theorem Zr1(hs:sg s x):Cal prog 212 #[.agg #[.bool s,v]] [Dj v x.natAbs] true (G:=Bool×Value) (λr=>sg r.1 (-x)) (λr=> .agg #[.bool r.1,r.2]) (λr=>[Dj r.2 (-x).natAbs]):=by refine Zg func212 ntmps212 λg f e c=>go 2 ?_;refine Yk (Yf 2) λb _=>Yk (Yh 3) λd _=>go 9 ?_;refine dt (Qf [(0,_),(1,_)] J K4 (λa w hs=>Kw ((Zl J) a w hs) ((Pg 1 J Zm) a w hs)))<|go 4 ?_;exact Yq c (!s,v) results212 J (Yi4 hs) (Qy 1 Za (by rw [dX]))
theorem Zeo{y:Int}(hs:sg s x)(f:sg t y)(g:bl x.natAbs<=4294967296:=by omega)(h:bl y.natAbs<=4294967296:=by omega):Cal prog 340 #[.agg #[.bool s,v],.agg #[.bool t,w]] [Dj v x.natAbs,Dj w y.natAbs] true (G:=Bool×Value) (λr=>sg r.1 (x*y)) (λr=> .agg #[.bool r.1,r.2]) (λr=>[Dj r.2 (x*y).natAbs]):=by refine Zg func340 ntmps340 λk j i c=>go 2 ?_;refine Yk (Yf 3) λb _=>Yk (Yf 4) λd _=>Yk (Yh 5) λe _=>go 3<|Qe (λ_=>False) [(0,0),(1,0),(2,0),(3,0),(4,0),(5,0),(6,0),(7,0),(8,0),(9,1),(10,0),(11,3)]<|go 9<|Ys (Zp 6 [1,2] (Ycp g h)) λv _=>?_;refine Xb J J (Qa (Qf [(0,_),(1,_)] J K4 (λa w hs=>Kw ((Zl J) a w hs) ((Pg 6 J Zm) a w hs))))<|go 4 ?_;exact Yq c (_,_) results340 J (Yi5 hs f) (Qy 6 Za (by rw [bT]))
theorem Zmz(hs:sg s x)(g:bl x.natAbs<=4294967296:=by omega):Cal prog 213 #[.agg #[.bool s,v]] [Dj v x.natAbs] true (G:=Unit) (λ_=>True) (λ_=> .int .i64 x.sign) (λ_=>[]):=by
 refine Zg func213 ntmps213 λi h f d=>?_;have e:=Mn x.natAbs;refine go 2<|Yk (Yf 2) λb _=>go 14<|Zc J (λa=>?_) (λa=>?_)
 .refine go 8 ?_;exact Yq d () results213 (Yfl a) aA Za
 .refine go 7<|Pw J (λc=>?_) (λc=>?_)
  .refine go 8 ?_;exact Yq d () results213 (Yi0 hs c a) aA Za
  .refine go 9 ?_;exact Yq d () results213 (Yiz hs c a) aA Za
theorem Zhg{y:Int}(hs:sg s x)(g:sg t y)(i:bl x.natAbs<=4294967296:=by omega)(j:bl y.natAbs<=4294967296:=by omega):Cal prog 211 #[.agg #[.bool s,v],.agg #[.bool t,w]] [Dj v x.natAbs,Dj w y.natAbs] true (G:=Bool×Value) (λr=>sg r.1 (x+y)) (λr=> .agg #[.bool r.1,r.2]) (λr=>[Dj r.2 (x+y).natAbs]):=by
 refine Zg func211 ntmps211 λu q p f=>go 2 ?_;refine Yk (Yf 3) λb _=>Yk (Yf 4) λl _=>Yk (Yh 5) λm _=>go 14<|Pw J (λd=>?_) (λd=>?_)
 .have c:s=t:=by simpa using d
  refine go 1<|Qe (λ_=>False) [(0,0),(1,0),(2,0),(3,0),(4,0),(5,0),(6,1),(7,0),(8,3)]<|go 6<|Ys (Zp 6 [1,2] (Ycr i j)) λv _=>?_;refine Xb J J (Qa (Qf [(0,_),(1,_)] J K4 (λa w hs=>Kw ((Zl J) a w hs) ((Pg 6 J Zm) a w hs))))<|go 6 ?_;exact Yq f (_,_) results211 J (Ybc hs (c▸g)) (Qy 6 Za (by rw [Zii hs (c▸g)]))
 .have c:s≠t:=by simpa using d
  refine go 6 ?_;refine cl 6 [1,2] (Zdm i j) λr k=>go 4<|Zc J (λh=>?_) (λh=>?_)
  .have e:y.natAbs<=x.natAbs:=by have:=k.1;omega
   refine go 1<|Qe (λ_=>False) [(0,0),(1,0),(2,0),(3,0),(4,0),(5,0),(6,1),(7,0),(8,3)]<|go 6<|Ys (Zp 7 [1,2] (Zhi i)) λn _=>?_;refine Xb J J (Qa (Qf [(0,_),(1,_)] J K4 (λa w hs=>Kw ((Zl J) a w hs) ((Pg 7 J Zm) a w hs))))<|go 6 ?_;exact Yq f (_,_) results211 J (Zkr hs g c e) (Qy 7 Za (by rw [Zb3 hs g c e]))
  .have e:x.natAbs<=y.natAbs:=by have:=k.1;omega
   refine go 4<|Qe (λ_=>False) [(0,0),(1,0),(2,0),(3,0),(4,0),(5,0),(6,1),(7,0),(8,3)]<|go 6<|Ys (Zp 8 [2,1] (Zhi j)) λo _=>?_;refine Xb J J (Qa (Qf [(0,_),(1,_)] J K4 (λa w hs=>Kw ((Zl J) a w hs) ((Pg 8 J Zm) a w hs))))<|go 4 ?_;exact Yq f (_,_) results211 J (by rw [iE];exact Zkr g hs (fB c) e) (Qy 8 Za (by rw [iE,Zb3 g hs (fB c) e]))
theorem Nj(hs:sg s x)(e:bl x.natAbs<=4294967296:=by omega):Cal prog 153 #[.agg #[.bool s,.string (Qw x.natAbs)]] [] true (G:=Bool×Value) (λr=>sg r.1 x) (λr=> .agg #[.bool r.1,r.2]) (λr=>[Dj r.2 x.natAbs]):=by refine Zg func153 ntmps153 λh g f c=>go 2 ?_;refine Yk (Yf 1) λb _=>Yk (Yh 2) λd _=>go 3<|Qe (λ_=>False) [(0,0),(1,0),(2,0),(3,0),(4,1),(5,0),(6,3)]<|go 4<|Ys (Zp 3 [] (Zea e)) λv _=>?_;refine Xb J J (Qa (Qf [(0,_),(1,_)] J K4 (λa w hs=>Kw ((Zl J) a w hs) ((Pg 3 J Zm) a w hs))))<|go 4 ?_;exact Yq c (_,_) results153 J hs (Qy 3 Za J)
theorem Gg(hs:sg s x)(g:bl x.natAbs<=4294967296:=by omega):Xq prog 148 #[.agg #[.bool s,v]] [Dj v x.natAbs] (Ze7 x):=by
 refine Zg func148 ntmps148 λi h f d=>go 2 ?_;refine Yk (Yf 2) λb _=>Yk (Yh 3) λe _=>go 8 ?_;refine cl 3 [1] Zm5 λ_ _=>go 3<|Zc J (λc=>?_) (λc=>?_)
 .refine go 2 ?_;refine dt (Qf [] J aA (λa w hs=>Yov))<|go 6 ?_;exact Nb d () results148 (Ye9 c) aA Za
 .refine go 3 ?_;cases s
  .refine Qe (λ_=>False) [(0,0),(1,0),(2,0),(3,2),(4,2),(5,2),(6,2),(7,0),(8,0),(9,0),(10,1),(11,0),(12,3),(13,3)]<|go 10<|Ys (Zp 3 [1] Zp3) λ_ _=>?_;refine Xb J J (Qa (Qf [(0,_),(1,_)] J K4 (λa w hs=>Ztv ((Zl J) a w hs) ((Zl J) a w hs))))<|go 5 ?_;exact Nb d () results148 (by first|exact Zt4 hs c|exact Zt3 hs c) aA Za
  .refine Qe (λ_=>False) [(0,0),(1,0),(2,0),(3,0),(4,0),(5,0),(6,0),(7,0),(8,0),(9,0),(10,1),(11,0),(12,3),(13,3)]<|go 10<|Ys (Zp 3 [1] Zp3) λ_ _=>?_;refine Xb J J (Qa (Qf [(0,_),(1,_)] J K4 (λa w hs=>Ztv ((Zl J) a w hs) ((Zl J) a w hs))))<|go 5 ?_;exact Nb d () results148 (by first|exact Zt4 hs c|exact Zt3 hs c) aA Za
theorem Zhf(x y:Int)(hs:sg s x)(m:sg t y)(M:bl y.natAbs<=3000000000)(i:y≠0)(I:bl x.natAbs<=3000000000:=by omega):Cal prog 225 #[.agg #[.bool s,v],.agg #[.bool t,w]] [Dj v x.natAbs,Dj w y.natAbs] true (G:=Bool×Value×Value) (λr=>sg r.1 (x/y)) (λr=> .tuple #[.agg #[.bool r.1,r.2.1],.agg #[.bool false,r.2.2]]) (λr=>[Dj r.2.1 (x/y).natAbs,Dj r.2.2 (x%y).natAbs]):=by
 refine Zg func225 ntmps225 λP N z f=>?_;have F:=Mn x.natAbs;have H:=Mn y.natAbs;have j:0<y.natAbs:=O;have l:x.natAbs%y.natAbs<y.natAbs:=bF _ j;have u:=Oh (dI l);have q:=Oh (dR x.natAbs y.natAbs);refine go 2<|Yk (Yf 3) λb _=>Yk (Yf 4) λn _=>Yk (Yh 5) λo _=>Yk (Yh 6) λp _=>go 8 ?_;refine cl 7 [1,2] (Ycq O O j) λg _=>go 13<|Mb 18 J (λe=>?_) (λe=>?_)
 .refine go 6<|Zc J (λc=>?_) (λc=>?_)
  .subst e;have k:0<x.natAbs%y.natAbs:=by rcases aZ (x.natAbs%y.natAbs)with h|h;(rw [h]at c;simp [Gt]at c);exact h
   have d:=divA hs m i k;refine Qe (λ_=>False) [(0,0),(3,0),(4,0),(5,0),(1,1),(2,1),(6,1),(7,0),(8,3)]<|go 4 ?_;refine Lm J (Yx [(0,_)] 9 (enc:=Mx) (dg U 1) J J K2 Oi ti222 J J J J J pU.cells J J z.h) λv _=>Ys (Zp 10 [7,9] (Ycr O (show bl 1<=4294967296 by decide))) λB _=>Ys (Zp 11 [2,8] (Zhi O)) λD _=>go 12 ?_;refine dt (Qf [(0,_),(1,_)] J K4 (λa w hs=>Kw ((Zl J) a w hs) ((Pg 10 J Zm) a w hs)))<|go 1 ?_;refine dt (Qf [(0,_),(1,_)] J K4 (λa w hs=>Kw ((Zl J) a w hs) ((Pg 11 J Zm) a w hs)))<|go 5 ?_;exact Nb f (_,_,_) results225 J d.1 (Qy 10 (Qy 11 Za (by rw [d.2.2]<;>rfl)) (by rw [d.2.1]<;>rfl))
  .have d:=divB hs m i (.inr ((Ol Xz _).1 O));refine go 10 ?_;refine dt (Qf [(0,_),(1,_)] J K4 (λa w hs=>Kw ((Zl J) a w hs) ((Pg 7 J Zm) a w hs)))<|go 1 ?_;refine dt (Qf [(0,_),(1,_)] J K4 (λa w hs=>Kw ((Zl J) a w hs) ((Pg 8 J Zm) a w hs)))<|go 5 ?_;exact Nb f (_,_,_) results225 J d.1 (Qy 7 (Qy 8 Za (by rw [d.2.2]<;>rfl)) (by rw [d.2.1]<;>rfl))
 .have d:=divB hs m i (.inl e);refine go 17 ?_;refine dt (Qf [(0,_),(1,_)] J K4 (λa w hs=>Kw ((Zl J) a w hs) ((Pg 7 J Zm) a w hs)))<|go 1 ?_;refine dt (Qf [(0,_),(1,_)] J K4 (λa w hs=>Kw ((Zl J) a w hs) ((Pg 8 J Zm) a w hs)))<|go 5 ?_;exact Nb f (_,_,_) results225 J d.1 (Qy 7 (Qy 8 Za (by rw [d.2.2]<;>rfl)) (by rw [d.2.1]<;>rfl))
variable {P:Program} {N:Nat} {sc:Nat->Prop} {M:Nat->Prop} {env:Pt} {H:Hp} {Q:Exit->Act->World->Prop}
structure BAct (i:Nat) (A:Prop):Prop where h:A
def bq(i:Nat){A:Prop}(h:A):BAct i A:=⟨h⟩
theorem Ye8 {l:List Oper}  {n:Nat}  (i k:Nat) (a:(Region.noSelect l.toArray && Et l.toArray ts [(i,k)] listed)=true)
  (h:LD P N sc M l.toArray (A P N sc M l.toArray ts Q n (Ba [(i,k)] listed)) [(i,k)] env H):A P N sc M l.toArray ts Q (n+1) listed env H:=
 Zk _ [(i,k)] h (by rw [a,Bool.true_and];show Nat.beq (1+n) (n+1)=true;rw [iQ];exact Nat.beq_refl _)
theorem Yhj    {n:Nat} (i:Nat) (c:((Region.ready .any ops listed == [i]) && !(Dt ops ts listed) && !([i]:List Nat).isEmpty)=true)
  (a:BAct i (Zgh P N sc M ops ts Q n listed env H i)):A P N sc M ops ts Q (n+1) listed env H:=Yo7 [i] c λq b=>by
 rw [cI.1 b];exact a.h
theorem Yaq    {n:Nat} (i j:Nat) (d:((Region.ready .any ops listed == [i,j]) && !(Dt ops ts listed) && !([i,j]:List Nat).isEmpty)=true)
  (b:BAct i (Zgh P N sc M ops ts Q n listed env H i)) (c:BAct j (Zgh P N sc M ops ts Q n listed env H j)):A P N sc M ops ts Q (n+1) listed env H:=Yo7 [i,j] d λq a=>by
 simp only [bD,cM,fA]at a;rcases a with rfl|rfl
 .exact b.h
 .exact c.h
theorem a_b3    {n:Nat} (i j k:Nat) (e:((Region.ready .any ops listed == [i,j,k]) && !(Dt ops ts listed) && !([i,j,k]:List Nat).isEmpty)=true)
  (b:BAct i (Zgh P N sc M ops ts Q n listed env H i)) (c:BAct j (Zgh P N sc M ops ts Q n listed env H j)) (d:BAct k (Zgh P N sc M ops ts Q n listed env H k)):A P N sc M ops ts Q (n+1) listed env H:=Yo7 [i,j,k] e λq a=>by
 simp only [bD,cM,fA]at a;rcases a with rfl|rfl|rfl
 .exact b.h
 .exact c.h
 .exact d.h
end Go.Sky
namespace Go.Sky
open Go.Proofs.Tryz
open Go.Proofs
set_option synthInstance.maxHeartbeats 0
set_option synthInstance.maxSize 100000
set_option maxRecDepth 20000
set_option linter.unusedSimpArgs false
variable{b:Bool}{x y:Int}{t:TypeId}{v u:Value}{xs ys:List Int}{bd:Nat}
theorem Zb7{s:ByteArray}:Xq prog 152 #[.agg #[.bool b,.string s]] [] (.bool (okW b s)):=by
 refine Zg func152 ntmps152 λg f e c=>go 2 ?_;refine Yk (Yf 1) λb _=>go 8 ?_;refine dt (Zz1 J J J J)<|go 2 ?_;refine Zc J (λa=>?_) (λa=>?_)
 .refine go 10 ?_;exact Yq c () results152 (by unfold okW;rw [aM a]) aA Za
 .refine go 6 ?_;refine dt (Yd4 (i:=0) J J J uT9 J O)<|go 2 ?_;refine Yc 13 J (λd=>?_) (λd=>?_)
  .refine go 9 ?_;exact Yq c () results152 (by unfold okW;rw [aJ a];simp_all<;>omega) aA Za
  .refine go 9 ?_;exact Yq c () results152 (by unfold okW;rw [aJ a];simp_all<;>omega) aA Za
def Kl(a:bl x.natAbs<=65536):Cal prog 152 #[wv x] [] false (G:=Unit) (λ_=>True) (λ_=> .bool true) (λ_=>[]):=Zdl a▸Zb7
theorem Zo1(b:Bool)(s:ByteArray)(c:Bool)(t:ByteArray):Xq prog 210 #[.agg #[.bool b,.string s],.agg #[.bool c,.string t]] [] (.bool (okW b s && okW c t)):=by
 refine Zg func210 ntmps210 λh g f a=>go 2 ?_;refine Yk (Yf 1) λb _=>Yk (Yf 2) λe _=>go 6 ?_;refine cl 2 [] Zb7 λ_ _=>go 1<|Mb 7 J (λd=>?_) (λd=>?_)
 .refine go 1 ?_;refine Hx 2 [] Zb7 λ_ _=>go 5 ?_;exact Yq a () results210 O11 aA Za
 .refine go 7 ?_;exact Yq a () results210 O11 aA Za
theorem Il(a:bl x.natAbs<=65536)(c:bl y.natAbs<=65536):Xq prog 210 #[wv x,wv y] [] (.bool true):=by have h:=Zo1 (decide (x<0)) (Qw x.natAbs) (decide (y<0)) (Qw y.natAbs);rw [Zdl a,Zdl c]at h;exact h
theorem Hl(e:bl x.natAbs<=65536):Xq prog 216 #[wv x] [] (.int .i64 x.sign):=by refine Zg func216 ntmps216 λh f d a=>go 2 ?_;refine Yk (Yf 1) λb _=>go 7 ?_;refine cl 1 [] (Kl ‹_›) λ_ _=>go 9 ?_;refine cl 2 [] (Nj (Qs _)) λg c=>cl 2 [2] (Zmz ‹_›) λ_ _=>go 4 ?_;exact Yq a () results216 J aA Za
theorem Zlo(d:bl x.natAbs<=65536):Xq prog 281 #[wv x] [] (.int .i64 (bl x.natAbs:Int)):=by refine Zg func281 ntmps281 λf e c a=>go 2 ?_;refine Yk (Yf 1) λb _=>go 7 ?_;refine cl 1 [] (Kl ‹_›) λ_ _=>go 10 ?_;refine cl 2 [] Zea λv _=>cl 2 [2] Zm5 λ_ _=>go 4 ?_;exact Yq a () results281 J aA Za
theorem Zt8(m:bl x.natAbs<=65536)(n:bl y.natAbs<=65536):Xq prog 155 #[wv x,wv y] [] (Ze7 (x+y)):=by refine Zg func155 ntmps155 λp o l a=>?_;have j:=He x y;refine go 2<|Yk (Yf 1) λb _=>Yk (Yf 2) λe _=>Yk (Yh 3) λf _=>go 8 ?_;refine cl 3 [] (Il ‹_› ‹_›) λ_ _=>go 7<|Qe (λ_=>False) [(0,0),(2,0),(1,1),(3,1),(4,1),(5,1),(6,0),(7,0),(8,3),(9,3)]<|go 2<|Ys (Zp 4 [] (Nj (Qs _))) λg k=>Ys (Zp 5 [] (Nj (Qs _))) λh c=>Ys (Zp 6 [4,5] (Zhg ‹_› ‹_›)) λi d=>Ys (Zp 6 [6] (Gg ‹_›)) λ_ _=>go 7 ?_;exact Nb a () results155 J aA Za
theorem Yhn(p:bl x.natAbs<=65536)(q:bl y.natAbs<=65536):Xq prog 396 #[wv x,wv y] [] (Ze7 (x-y)):=by refine Zg func396 ntmps396 λs r o a=>?_;have m:=Am x y;have l:=Zoi y;refine go 2<|Yk (Yf 1) λb _=>Yk (Yf 2) λf _=>Yk (Yh 3) λh _=>go 8 ?_;refine cl 3 [] (Il ‹_› ‹_›) λ_ _=>go 7<|Qe (λ_=>False) [(0,0),(2,0),(1,1),(3,1),(4,1),(5,1),(6,1),(7,0),(8,0),(9,3),(10,3)]<|go 2<|Ys (Zp 4 [] (Nj (Qs _))) λg n=>Ys (Zp 5 [] (Nj (Qs _))) λi c=>Ys (Zp 6 [5] (Zr1 ‹_›)) λj d=>Ys (Zp 7 [4,6] (Zhg ‹_› ‹_›)) λk e=>Ys (Zp 7 [7] (Gg ‹_› (by rw [<-eP];omega))) λ_ _=>go 7 ?_;exact Nb a () results396 (by rw [eP]<;>rfl) aA Za
theorem Zt5(m:bl x.natAbs<=65536)(n:bl y.natAbs<=65536):Xq prog 283 #[wv x,wv y] [] (Ze7 (x*y)):=by refine Zg func283 ntmps283 λp o l a=>?_;have j:=Yw x y;refine go 2<|Yk (Yf 1) λb _=>Yk (Yf 2) λe _=>Yk (Yh 3) λf _=>go 8 ?_;refine cl 3 [] (Il ‹_› ‹_›) λ_ _=>go 7<|Qe (λ_=>False) [(0,0),(2,0),(1,1),(3,1),(4,1),(5,1),(6,0),(7,0),(8,3),(9,3)]<|go 2<|Ys (Zp 4 [] (Nj (Qs _))) λg k=>Ys (Zp 5 [] (Nj (Qs _))) λh c=>Ys (Zp 6 [4,5] (Zeo ‹_› ‹_›)) λi d=>Ys (Zp 6 [6] (Gg ‹_›)) λ_ _=>go 7 ?_;exact Nb a () results283 J aA Za
theorem Zt7(x y:Int)(j:bl x.natAbs<=65536)(k:bl y.natAbs<=65536):Xq prog 209 #[wv x,wv y] [] (Ze7 (Int.gcd x y:Int)):=by refine Zg func209 ntmps209 λm l i c=>?_;have h:=Ztr x.natAbs y.natAbs;refine go 2<|Yk (Yf 1) λb _=>Yk (Yf 2) λd _=>Yk (Yh 3) λe _=>go 8 ?_;refine cl 3 [] (Il ‹_› ‹_›) λ_ _=>go 7<|Qe (λ_=>False) [(0,0),(1,0),(3,0),(4,0),(2,1),(5,1),(6,1),(7,0),(8,1),(9,0),(10,0),(11,3),(12,3)]<|go 4<|Ys (Zp 4 [] Zea) λv _=>Ys (Zp 5 [] Zea) λf _=>Ys (Zp 6 [4,5] Zr6) λg _=>?_;refine Xb J J (Qa (Qf [(0,_),(1,_)] J K4 (λa w hs=>Kw ((Zl J) a w hs) ((Pg 6 J Zm) a w hs))))<|Ys (Zp 6 [6] (Gg (s:=false) (x:=(Int.gcd x y:Int)) (by simp [sg]) (by show bl (Nat.gcd x.natAbs y.natAbs)<=_;omega))) λ_ _=>go 7 ?_;exact Nb c () results209 J aA Za
theorem Ar(H:bl x.natAbs<=65536)(I:bl y.natAbs<=65536)(c:y≠0):Xq prog 154 #[wv x,wv y] [] (.tuple #[wv (Zbz (x/y)),wv (Zbz (x%y)),.int .i64 0]):=by
 refine Zg func154 ntmps154 λQ P w d=>?_;have D:=Zlk x y;have o:=Ztp x y c;refine go 2<|Yk (Yf 1) λb _=>Yk (Yf 2) λh _=>Yk (Yh 3) λi _=>Yk (Yh 4) λj _=>go 8 ?_;refine cl 4 [] (Il ‹_› ‹_›) λ_ _=>go 11 ?_;refine dt (Zz1 J J J J)<|go 2 ?_;refine Zc J (λa=>?_) (λa=>?_)
 .rw [Ec]at a;exfalso;exact c (by have:=(Ol (by omega:2<=256) y.natAbs).1 a;omega)
 .refine go 2 ?_;refine jn (G:=Bool×Value×Value×Nat×Nat) [4,5] [0,1,2,3,4] (λq=>[(7,.pointer (some ⟨q.2.2.2.1,0,none⟩)),(8,.pointer (some ⟨q.2.2.2.2,0,none⟩))]) (λq=>[(84,Dj q.2.1 (x/y).natAbs),(85,Dj q.2.2.1 (x%y).natAbs),(86,box q.2.2.2.1 228 #[.bool q.1,q.2.1]),(87,box q.2.2.2.2 228 #[.bool false,q.2.2.1])]) (λq=>sg q.1 (x/y)) ?_ ?_
  .refine Qn [1,2] [11]<|Zk 10 [(0,0),(2,0)]<|go 3 ?_
   repeat' first|refine bq 1 ?_;refine Nl (Zp 81 [] (Nj (Qs _))) λg F=>?_|refine bq 3 ?_;refine Nl (Zp 82 [] (Nj (Qs _))) λm e=>?_|refine bq 4 ?_;refine Nl (Zp 84 [81,82] (Zhf _ _ ‹_› ‹_› O c)) λn f=>?_|refine bq 8 ?_;refine Nl (Qo 86) λk p=>?_|refine bq 9 ?_;refine Nl (Qo 87) λl r=>?_|refine bq 10 ?_;refine Kr rfl rfl (Zpc 86 rfl rfl rfl rfl rfl rfl sizeOf228 rfl rfl ⟨Zl rfl,Pg 84 rfl Zm,aA⟩ rfl w.h p.h) (λ_ _=>?_)|refine a_b3 1 8 9 O7 ?_ ?_ ?_|refine Yaq 1 8 O7 ?_ ?_|refine Yhj 1 O7 ?_|refine Yhj 3 O7 ?_|refine Yhj 4 O7 ?_|refine Yhj 10 O7 ?_|refine Yaq 3 8 O7 ?_ ?_|refine Yaq 4 8 O7 ?_ ?_|refine Yhj 8 O7 ?_|refine Yaq 1 9 O7 ?_ ?_|refine Yaq 3 9 O7 ?_ ?_|refine Yaq 4 9 O7 ?_ ?_|refine Yhj 9 O7 ?_|refine a_b3 3 8 9 O7 ?_ ?_ ?_|refine a_b3 4 8 9 O7 ?_ ?_ ?_|refine Yaq 8 9 O7 ?_ ?_|refine Ye8 5 0 O7 ?_;refine go 2 ?_|refine Ye8 6 0 O7 ?_;refine go 2 ?_|refine Ye8 7 0 O7 ?_;refine go 2 ?_|refine Ye8 11 3 O7 ?_;refine go 2 ?_|refine Zu ?_ O7;exact On (_,_,_,_,_) ‹_› ⟨rfl,rfl,aA⟩ ⟨rfl,rfl,rfl,rfl,aA⟩
  .rintro⟨M,qv,N,z,B⟩ s;dsimp only at s;dsimp only;refine go 3 ?_;refine cl 4 [84] (Gg ‹_›) λ_ _=>go 9 ?_;refine cl 4 [85] (Gg (Yqh x c)) λ_ _=>go 7<|Qn [4] [3,4] ?_;refine Zk 0 [(1,0),(0,1),(2,1),(3,3),(4,3)]<|go 6 ?_;exact Zu<|go 2<|xe3 d () results154 J aA Za
theorem Zc4{s t:Bool}{w:Value}(hs:sg s x)(m:sg t y)(k:y≠0)(Y:bl x.natAbs<=1000000000:=by omega)(Z:bl y.natAbs<=1000000000:=by omega):Xq prog 365 #[.agg #[.bool s,v],.agg #[.bool t,w]] [Dj v x.natAbs,Dj w y.natAbs] (Zcf x y):=by
 refine Zg func365 ntmps365 λw0 sc W c=>?_;have S:=Ztr x.natAbs y.natAbs;have e:Kh x y≠0:=Yrz k;have h:sg t (Kh x y):=Yqf m k;have f:=Zho x y;have P:=Zlk x (Kh x y);have Q:=Zlk y (Kh x y);refine go 2<|Yk (Yf 3) λb _=>Yk (Yf 4) λq _=>Yk (Yh 5) λr _=>go 4<|Lv (λ_=>False) [9] ?_;refine Zk 4 [(0,0),(1,0),(2,0),(3,0),(4,0),(5,0)]<|go 7 ?_;refine Pk 3 6 8 ?_ ?_
 .refine Nl (Zp 81 [1,2] Zr6) λv _=>?_;refine Zk 0 [(7,0),(8,1),(9,3)]<|Xb J J (Qa (Qf [(0,_),(1,_)] J K4 (λa w hs=>Kw ((Zl J) a w hs) ((Pg 81 J Zm) a w hs))))<|Ys (Yh 82) λz _=>go 2 ?_;refine Zu<|go 2<|Zf (Oy 81 (Yc4 x y) J J)<|go 3 ?_;refine cl 6 [1,81] (Zhf x (Kh x y) hs h (by rw [f];omega) e) λg V=>go 10 ?_;refine cl 8 [2,81] (Zhf y (Kh x y) m h (by rw [f];omega) e) λI n=>go 9 ?_;refine cl 9 [6] (Gg ‹_›) λ_ _=>go 3<|Yk (Yh 10) λB _=>go 7 ?_;refine cl 10 [8] (Gg ‹_›) λ_ _=>go 3<|Yk (Yh 11) λD _=>go 10<|Yc 43 J (λl=>?_) (λl=>?_)
  .refine go 8 ?_;refine dt (Qf [] J aA (λa w hs=>Zxz))<|go 6 ?_;exact Nb c () results365 (Zce (by unfold Hh;first|exact .inl (Za2 ‹_›)|exact .inr (Za2 ‹_›))) aA Za
  .refine go 5<|Zc J (λj=>?_) (λj=>?_)
   .refine go 2 ?_;refine dt (Qf [] J aA (λa w hs=>Zxz))<|go 6 ?_;exact Nb c () results365 (Zce (by unfold Hh;first|exact .inl (Za2 ‹_›)|exact .inr (Za2 ‹_›))) aA Za
   .refine go 6 ?_;refine dt (Qf [(0,_),(1,_)] J K4 (λa w hs=>Zie))<|go 5 ?_;exact Nb c () results365 (Zvd (bL ‹_›) (bL ‹_›)) aA Za
 .refine Nl (Yh 82) λF _=>?_;refine Zk 0 [(6,1),(7,0),(9,3)]<|Ys (Zp 81 [1,2] Zr6) λR _=>?_;refine Xb J J (Qa (Qf [(0,_),(1,_)] J K4 (λa w hs=>Kw ((Zl J) a w hs) ((Pg 81 J Zm) a w hs))))<|go 2 ?_;refine Zu<|go 2<|Zf (Oy 81 (Yc4 x y) J J)<|go 3 ?_;refine cl 12 [1,81] (Zhf x (Kh x y) hs h (by rw [f];omega) e) λM o=>go 10 ?_;refine cl 14 [2,81] (Zhf y (Kh x y) m h (by rw [f];omega) e) λN p=>go 9 ?_;refine cl 15 [12] (Gg ‹_›) λ_ _=>go 3<|Yk (Yh 16) λG _=>go 7 ?_;refine cl 16 [14] (Gg ‹_›) λ_ _=>go 3<|Yk (Yh 17) λH _=>go 10<|Yc 43 J (λi=>?_) (λi=>?_)
  .refine go 8 ?_;refine dt (Qf [] J aA (λa w hs=>Zxz))<|go 6 ?_;exact Nb c () results365 (Zce (by unfold Hh;first|exact .inl (Za2 ‹_›)|exact .inr (Za2 ‹_›))) aA Za
  .refine go 5<|Zc J (λd=>?_) (λd=>?_)
   .refine go 2 ?_;refine dt (Qf [] J aA (λa w hs=>Zxz))<|go 6 ?_;exact Nb c () results365 (Zce (by unfold Hh;first|exact .inl (Za2 ‹_›)|exact .inr (Za2 ‹_›))) aA Za
   .refine go 6 ?_;refine dt (Qf [(0,_),(1,_)] J K4 (λa w hs=>Zie))<|go 5 ?_;exact Nb c () results365 (Zvd (bL ‹_›) (bL ‹_›)) aA Za
theorem Zfr(l:bl x.natAbs<=65536)(m:bl y.natAbs<=65536)(c:y≠0:=by omega):Xq prog 312 #[wv x,wv y] [] (Zcf x y):=by
 refine Zg func312 ntmps312 λo n k d=>go 2 ?_;refine Yk (Yf 1) λb _=>Yk (Yf 2) λf _=>Yk (Yh 3) λh _=>go 8 ?_;refine cl 3 [] (Il ‹_› ‹_›) λ_ _=>go 11 ?_;refine dt (Zz1 J J J J)<|go 2 ?_;refine Zc J (λa=>?_) (λa=>?_)
 .rw [Ec]at a;exfalso;exact c (by have:=(Ol (by omega:2<=256) y.natAbs).1 a;omega)
 .refine go 3<|Qe (λ_=>False) [(0,0),(2,0),(1,1),(3,1),(4,1),(5,0),(6,0),(7,3),(8,3)]<|go 2<|Ys (Zp 4 [] (Nj (Qs _))) λg j=>Ys (Zp 5 [] (Nj (Qs _))) λi e=>Ys (Zp 5 [4,5] (Zc4 ‹_› ‹_› c)) λ_ _=>go 7 ?_;exact Nb d () results312 J aA Za
theorem Zkb{s:ByteArray}{c:Bool}{t:ByteArray}:Xq prog 305 #[.agg #[.bool b,.string s,.bool c,.string t]] [] (.bool (okR b s c t)):=by
 refine Zg func305 ntmps305 λl k j g=>go 2 ?_;refine Yk (Yf 1) λb _=>go 9 ?_;refine cl 1 [] (Zo1 _ _ _ _) λ_ _=>go 1<|Mb 8 J (λh=>?_) (λh=>?_)
 .have i:okW c t=true:=O11;have d:=Zry i;obtain⟨a,e,f⟩:=Classical.choose_spec d;generalize Classical.choose d=z at a e f ⊢;subst e;subst f
  try clear d
  refine go 2 ?_;refine Hx 1 [] (Hl (x:=z) a) λ_ _=>go 6 ?_;exact Yq g () results305 (by first|rw [Zv0 O11 a]|(unfold okR;simp_all)) aA Za
 .refine go 9 ?_;exact Yq g () results305 (by first|rw [Zv0 O11 a]|(unfold okR;simp_all)) aA Za
def Lo(c:bl x.natAbs<=65536)(d:bl y.natAbs<=65536)(a:0<y):Cal prog 305 #[rX x y] [] false (G:=Unit) (λ_=>True) (λ_=> .bool true) (λ_=>[]):=okR_wv c d a▸Zkb
theorem Zz(x:Int)(f:Mw x:=by exact⟨O,O⟩):Xq prog 80 #[.int .i64 x] [] (wv x):=by
 refine Zg func80 ntmps80 λm l h e=>?_;have i:=f.1;have j:=f.2;have d:x.natAbs<U:=by simp only [U];omega
 have k:bl x.natAbs<=64:=(Qq 64 _).2 (by rw [<-Yo8];exact d);refine go 2<|Yk (Yh 1) λb _=>go 5 ?_;refine dt (Ys5 (r:=x%18446744073709551616) J J uT3 Zbh J)<|go 3 ?_;refine jn (G:=Unit) [0,2] [0,1] (λ_=>[(3,.int .u64 ((x.natAbs:Nat):Int))]) (λ_=>[]) (λ_=>True) ?_ ?_
 .refine go 6<|Zc J (λc=>?_) (λc=>?_)
  .refine go 2 ?_;refine dt (Yhw x.natAbs J J O)<|go 2 ?_;exact On () aA ⟨by first|rfl|(rw [show x%18446744073709551616=((x.natAbs:Nat):Int) by omega];rfl),aA⟩ aA
  .refine go 1 ?_;exact On () aA ⟨by first|rfl|(rw [show x%18446744073709551616=((x.natAbs:Nat):Int) by omega];rfl),aA⟩ aA
 .rintro _ -;refine go 5 ?_;refine tt (Yx [(0,_)] 2 (enc:=Mx) [x.natAbs] J J K2 Oi ti222 J J J J J pU.cells J J h.h) λv _=>cl 2 [2] Oq λ_ _=>?_;refine Ye (Zbk 2 J J pU)<|Ye (Zfd 2 (Zin d) J J)<|dt (Qf [(0,_),(1,_)] J K4 (λa w hs=>Kw ((Zl J) a w hs) ((Pg 2 J (Zo pU)) a w hs)))<|cl 2 [2] (Gg (x:=x) (Qs _)) λ_ _=>go 3 ?_;refine Yk (Yh 3) λg _=>go 11 ?_;exact Yq e () results80 (by rw [Hc O]<;>rfl) aA Za
theorem Zem(hs:Sz 65536 xs):Cal prog 214 #[v] [Ym 2 wv v xs] true (G:=Unit) (λ_=>True) (λ_=>Km v (tzl xs).length) (λ_=>[Ym 2 wv (Km v (tzl xs).length) (tzl xs)]):=by
 refine Zg func214 ntmps214 λp o n d=>?_;refine Xr (Zzs (i:=1) J Zm) (λa=>?_);refine Xr (Ps (i:=1) J Zm) λm=>go 7 ?_;refine lp (G:=Nat) [] [0] (λk=>[(0,Km v k)]) (λk=>[(1,Ym 2 wv (Km v k) (xs.take k))]) (λk=>(k<=xs.length)/\(tzl (xs.take k)=tzl xs)) (λk=>k) xs.length ⟨aH _,by rw [bS]⟩ ⟨by rw [a];rfl,aA⟩ ⟨by rw [a,bS];rfl,aA⟩ ?_;rintro k ⟨h,j⟩;have f:(xs.take k).length=k:=by rw [dG];omega
 refine go 7<|Yc 6 J (λl=>?_) (λl=>?_)
 .refine go 4 ⟨O,?_⟩;refine Bt (Zv 1 (k-1) J J J J Zm Pu Ou) J J<|go 1 ⟨O,?_⟩;refine Hx 1 [] (Hl ((hs.take _).getD _)) λ_ _=>go 4<|Zc J (λg=>?_) (λg=>?_)
  .have c:=Zub h O (Zl0 k O (eI.1 ‹_›):cf xs (k-1)=0);refine go 8 ⟨O,?_⟩;refine dt (Zqf 1 (k-1) J J J J Zm Pu Ou)<|go 3 ?_;exact Zn (Yje 1 1 (k-1) J J)<|Yi (k-1) ⟨O1,by rw [<-j,<-c]⟩ O1 ⟨by rw [<-Fw v k (k-1)];rfl,aA⟩ ⟨by rw [Fw,iB,dQ O];rfl,aA⟩
  .refine go 12 ?_;have e:tzl xs=xs.take k:=by rw [<-j];exact Zgp h (by first|(left;omega)|(right;exact Zgs k O ‹_›))
   exact Yq d () results214 (by rw [e,f]) aA (Qy 1 Za (by rw [e,f]))
 .refine go 24 ?_;have e:tzl xs=xs.take k:=by rw [<-j];exact Zgp h (by first|(left;omega)|(right;exact Zgs k O ‹_›))
  exact Yq d () results214 (by rw [e,f]) aA (Qy 1 Za (by rw [e,f]))
theorem Zy3(v:Value)(r:List (Bool×ByteArray)):Xq prog 215 #[v] [Ym 2 Ysn v r] (.bool (okP r)):=by
 refine Zg func215 ntmps215 λz s p a=>?_;refine Xr (Ps (i:=1) J Zm) λg=>go 14 ?_;refine lp (G:=Nat) [0,5,6] [0,1] (λk=>[(7,.int .i64 (k:Int))]) (λk=>[]) (λk=>(k<=r.length)/\((r.take k).all (λw=>okW w.1 w.2)=true)) (λk=>r.length-k) 0 ⟨O1,O5⟩ K1 aA ?_;rintro k ⟨o,l⟩;refine go 6<|Zc J (λj=>?_) (λj=>?_)
 .refine go 7 ⟨O2,?_⟩;refine dt (Xd 1 (false,⟨#[]⟩) J J J Zm pW O2)<|Yk (Yh 2) λb _=>go 6 ?_;refine cl 2 [] Zb7 λ_ _=>go 3<|Pw J (λf=>?_) (λf=>?_)
  .refine go 11 ?_;exact Yq a () results215 (by rw [Yrm (Zd (i:=k) (d:=(false,⟨#[]⟩)) O) O11]) aA Za
  .refine go 7 ⟨O,?_⟩;exact Yi (k+1) ⟨O1,by rw [Qx (false,⟨#[]⟩) _ _ O,kT,l];simpa using f⟩ O1 K1 aA
 .refine go 6 ?_;obtain rfl:k=r.length:=O;rw [bS]at l;obtain⟨xs,c,rfl⟩:=Yk3 (bZ.1 l);have m:=Sz.of_mem c;rw [aT]at g;refine Zf (Zq8 1 (q:=Ym 2 wv v xs) J J (Yqb v xs) (λ_ h=>fpn h) J)<|go 5<|Yc 18 J (λn=>?_) (λn=>?_)
  .refine go 4<|Yc 22 J (λe=>?_) (λe=>?_)
   .refine go 14 ?_;exact Yq a () results215 (by rw [Zrz c];first|(simp_all;done)|(simp_all;omega)) aA Za
   .refine go 4 ⟨O,?_⟩;refine Bt (Zv 1 (xs.length-1) J J J J Zm Pu Ou) J J<|go 1 ⟨O,?_⟩;refine Hx 2 [] (Hl (m.getD _)) λ_ _=>go 7 ?_;exact Yq a () results215 (by rw [Zrz c];first|(simp_all;done)|(simp_all;omega)) aA Za
  .refine go 18 ?_;exact Yq a () results215 (by rw [Zrz c];first|(simp_all;done)|(simp_all;omega)) aA Za
def Xs(h:Vp xs):Cal prog 215 #[v] [Ym 2 wv v xs] false (G:=Unit) (λ_=>True) (λ_=> .bool true) (λ_=>[]):=okP_wr h▸(Zy3 v (xs.map wr)).imp (slp_wr v xs) (λ_ h=>fpm h)
theorem Mh(hs:Sz 65536 xs):Xq prog 217 #[v] [Ym 2 wv v xs] (.int .i64 (Xw xs:Int)):=by
 refine Zg func217 ntmps217 λh g f c=>?_;refine Xr (Ps (i:=1) J Zm) λd=>go 19 ?_;refine lp (G:=Nat) [6,7] [0,1] (λk=>[(8,.int .i64 (k:Int)),(3,.int .i64 (Xw (xs.take k):Int))]) (λk=>[]) (λk=>k<=xs.length) (λk=>xs.length-k) 0 O1 K2 aA ?_;rintro k e;refine go 6<|Zc J (λa=>?_) (λa=>?_)
 .refine go 8 ⟨O2,O2,?_⟩;refine Yk (Yh 2) λb _=>go 6 ?_;refine cl 2 [] (Zlo (hs.getD _)) λ_ _=>?_;refine dt (Zcz J J J)<|go 8 ⟨O,?_⟩;exact Yi (k+1) O1 O1 ⟨J,by rw [Qx 0 _ _ O,Yll];exact aD some (Zcp O),aA⟩ aA
 .refine go 12 ?_;exact Yq c () results217 (by rw [cC O]) aA Za
theorem Zsy{e f:Int}{n:Bool}{s:ByteArray}:Zd8 prog 282 #[.pointer (some ⟨bd,0,none⟩),.agg #[.bool n,.string s],.int .i64 f] [] false bd t #[.int .i64 e] (G:=Unit) (λ_=>True) (λ_=> .agg #[.bool n,.string s]) (λ_=>#[.int .i64 (if e=0 then f else e)]) (λ_=>[]):=by
 refine De func282 J ntmps282 J aA ?_;intro j i g c;have g:=Hw.mk g;simp only [Po,Xh];refine go 2<|Yk (Yf 2) λb _=>Yk (Yh 3) λh _=>go 12<|Zc J (λd=>?_) (λd=>?_)
 .refine go 15 ?_;exact Ds (.inl J) c () (λa w hs=>Ze5 hs results282 (Gl 3 J J isAgg144 Ou J)) J aA 1 J (by simp_all [Fe]) J J Za
 .refine go 9 ?_;exact Ds (.inl J) c () (λa w hs=>Ze5 hs results282 (Gl 3 J J isAgg144 Ou J)) J aA 1 J (by simp_all [Fe]) J J Za
theorem d_mul_(bd:Nat)(e x y:Int)(h:bl x.natAbs<=65536)(i:bl y.natAbs<=65536):Zd8 prog 218 #[.pointer (some ⟨bd,0,none⟩),wv x,wv y] [] false bd 303 #[.int .i64 e] (G:=Unit) (λ_=>True) (λ_=>wv (Zbz (x*y))) (λ_=>#[.int .i64 (err e (x*y))]) (λ_=>[]):=by refine De func218 J ntmps218 J aA ?_;intro k j d c;have d:=Hw.mk d;simp only [Po,Xh];refine go 2<|Yk (Yf 2) λb _=>Yk (Yf 3) λf _=>Yk (Yh 4) λg _=>go 3<|Qe (λx=>x=bd) [(0,0),(1,0),(2,0),(3,0),(4,0),(5,1),(6,0),(7,0),(8,1),(9,3)]<|go 5<|Ys (Zp 4 [] (Zt5 ‹_› ‹_›)) λ_ _=>go 2 ?_;refine Lm J (Pa 4 1 Zsy J J J K3 call282 J O3 Zr J d.h J) λ_ _=>go 4 ?_;exact Ds (.inl J) c () (λa w hs=>Ze5 hs results218 (Gl 4 J J isAgg144 Ou J)) J aA 1 J J J J Za
theorem Ca(c:bl x.natAbs<=65536)(d:bl y.natAbs<=65536)(a:bl (x*y).natAbs<=65536):Zd8 prog 218 #[.pointer (some ⟨bd,0,none⟩),wv x,wv y] [] false bd 303 #[.int .i64 0] (G:=Unit) (λ_=>True) (λ_=>wv (x*y)) (λ_=>#[.int .i64 0]) (λ_=>[]):=by have h:=d_mul_ bd 0 x y c d;rw [Hc a,Zzv a]at h;exact h
theorem d_add_(bd:Nat)(e x y:Int)(h:bl x.natAbs<=65536)(i:bl y.natAbs<=65536):Zd8 prog 219 #[.pointer (some ⟨bd,0,none⟩),wv x,wv y] [] false bd 303 #[.int .i64 e] (G:=Unit) (λ_=>True) (λ_=>wv (Zbz (x+y))) (λ_=>#[.int .i64 (err e (x+y))]) (λ_=>[]):=by refine De func219 J ntmps219 J aA ?_;intro k j d c;have d:=Hw.mk d;simp only [Po,Xh];refine go 2<|Yk (Yf 2) λb _=>Yk (Yf 3) λf _=>Yk (Yh 4) λg _=>go 3<|Qe (λx=>x=bd) [(0,0),(1,0),(2,0),(3,0),(4,0),(5,1),(6,0),(7,0),(8,1),(9,3)]<|go 5<|Ys (Zp 4 [] (Zt8 ‹_› ‹_›)) λ_ _=>go 2 ?_;refine Lm J (Pa 4 1 Zsy J J J K3 call282 J O3 Zr J d.h J) λ_ _=>go 4 ?_;exact Ds (.inl J) c () (λa w hs=>Ze5 hs results219 (Gl 4 J J isAgg144 Ou J)) J aA 1 J J J J Za
theorem Zn0(c:bl x.natAbs<=65536)(d:bl y.natAbs<=65536)(a:bl (x+y).natAbs<=65536):Zd8 prog 219 #[.pointer (some ⟨bd,0,none⟩),wv x,wv y] [] false bd 303 #[.int .i64 0] (G:=Unit) (λ_=>True) (λ_=>wv (x+y)) (λ_=>#[.int .i64 0]) (λ_=>[]):=by have h:=d_add_ bd 0 x y c d;rw [Hc a,Zzv a]at h;exact h
theorem d_sub_(bd:Nat)(e x y:Int)(h:bl x.natAbs<=65536)(i:bl y.natAbs<=65536):Zd8 prog 370 #[.pointer (some ⟨bd,0,none⟩),wv x,wv y] [] false bd 303 #[.int .i64 e] (G:=Unit) (λ_=>True) (λ_=>wv (Zbz (x-y))) (λ_=>#[.int .i64 (err e (x-y))]) (λ_=>[]):=by refine De func370 J ntmps370 J aA ?_;intro k j d c;have d:=Hw.mk d;simp only [Po,Xh];refine go 2<|Yk (Yf 2) λb _=>Yk (Yf 3) λf _=>Yk (Yh 4) λg _=>go 3<|Qe (λx=>x=bd) [(0,0),(1,0),(2,0),(3,0),(4,0),(5,1),(6,0),(7,0),(8,1),(9,3)]<|go 5<|Ys (Zp 4 [] (Yhn ‹_› ‹_›)) λ_ _=>go 2 ?_;refine Lm J (Pa 4 1 Zsy J J J K3 call282 J O3 Zr J d.h J) λ_ _=>go 4 ?_;exact Ds (.inl J) c () (λa w hs=>Ze5 hs results370 (Gl 4 J J isAgg144 Ou J)) J aA 1 J J J J Za
theorem Zzy(c:bl x.natAbs<=65536)(d:bl y.natAbs<=65536)(a:bl (x-y).natAbs<=65536):Zd8 prog 370 #[.pointer (some ⟨bd,0,none⟩),wv x,wv y] [] false bd 303 #[.int .i64 0] (G:=Unit) (λ_=>True) (λ_=>wv (x-y)) (λ_=>#[.int .i64 0]) (λ_=>[]):=by have h:=d_sub_ bd 0 x y c d;rw [Hc a,Zzv a]at h;exact h
theorem Ynl(hs:Sz 65536 xs):Cal prog 220 #[.pointer (some ⟨bd,0,none⟩),v] [Hr bd 303 #[.int .i64 0],Ym 2 wv v xs] true (G:=Unit) (λ_=>True) (λ_=> .tuple #[Km v (tzl xs).length,.int .i64 0]) (λ_=>[Ym 2 wv (Km v (tzl xs).length) (tzl xs)]):=by
 refine Zg func220 ntmps220 λf e d c=>go 17 ?_;refine Zc J (λa=>?_) (λa=>?_)
 .exfalso;simp_all
 .refine go 5 ?_;refine cl 3 [2] (Zem ‹_›) λ_ _=>go 5 ?_;exact Nb c () results220 J aA (Qy 3 Za)
theorem Na(xs:List Int)(c:Int)(g:Vp xs)(m:bl c.natAbs<=65536)(h:∀i,bl (cf xs i*c).natAbs<=65536):Cal prog 145 #[v,wv c] [Ym 2 wv v xs] true (G:=Value) (λr=>True) (λr=> .tuple #[r,.int .i64 0]) (λr=>[Ym 2 wv r (Zy xs c)]):=by
 refine Zg func145 ntmps145 λp o e d=>?_;have f:=g.len;refine go 2<|Yk (Yf 2) λb _=>go 8 ?_;refine cl 2 [1] (Xs ‹_›) λ_ _=>go 3 ?_;refine Hx 2 [] (Kl ‹_›) λ_ _=>go 9<|Yk (Yh 3) λj _=>go 6 ?_;refine tt (Hf 4 _ 24 (enc:=wv) 0 J J J J Pu ti144 J pV.cells pV.pos J J J e.h J J) λv _=>go 12 ?_;refine lp (G:=Nat) [3,6,7,21,22] [0,1,2,3] (λk=>[(23,.int .i64 (k:Int))]) (λk=>[(4,Oc 2 144 wv v (fill xs.length k (λi=>cf xs i*c)))]) (λk=>k<=xs.length) (λk=>xs.length-k) 0 O1 K1 ⟨by rw [Aq xs.length (λi=>cf xs i*c)];rfl,aA⟩ ?_;rintro k n;refine go 6<|Zc J (λa=>?_) (λa=>?_)
 .refine go 9 ⟨O2,O2,?_⟩;refine Yk (Yh 5) λl _=>go 9 ?_;refine tt (Pa 5 3 (Ca (g.sz.getD _) m (h _)) J J J K3 call218 J O3 Zr J e.h aA) (λ_ _=>?_);refine dt (Zv 4 k J J J J (Zo pV) Pu Ou J (by rw [Oa];omega))<|tt (Ka 4 (enc:=wv) J J J J J J pV J e.h O3 (by rw [Oa];omega)) (λ_ _=>?_);refine go 7 ⟨O,?_⟩;exact Yi (k+1) O1 O1 K1 ⟨by rw [<-Zds O];rfl,aA⟩
 .refine go 6 ?_;obtain rfl:k=xs.length:=O;refine Zf (Yz 4 J J pV)<|Zf (Ziu 3 J J)<|go 2 ?_;refine cl 6 [3,4] (Ynl (by rw [Ez];exact Br λi _=>h i)) λ_ _=>go 7 ?_;exact Nb d _ results145 J aA (Qy 6 Za (by rw [Yf4]<;>rfl))
theorem Zau(e:Vp xs)(h:∀i,bl (cf xs (i+1)*((i:Int)+1)).natAbs<=65536):Cal prog 309 #[v] [Ym 2 wv v xs] true (G:=Value) (λr=>True) (λr=> .tuple #[r,.int .i64 0]) (λr=>[Ym 2 wv r (Xg xs)]):=by
 refine Zg func309 ntmps309 λo m f d=>?_;have g:=e.len;refine go 10 ?_;refine cl 1 [1] (Xs ‹_›) λ_ _=>go 14<|Zc J (λa=>?_) (λa=>?_)
 .refine go 8 ?_;exact Nb d _ results309 J aA (Pi (Yku O) Za)
 .refine go 4<|Yk (Yh 2) λb _=>?_;refine go 7 ⟨O,?_⟩;refine tt (Hf 3 (xs.length-1) 24 (enc:=wv) 0 J J J J Pu ti144 J pV.cells pV.pos J J J f.h) λv _=>go 12 ?_;refine lp (G:=Nat) [0,4,5,18] [0,1,2] (λk=>[(19,.int .i64 (k:Int))]) (λk=>[(3,Oc 2 144 wv v (fill (xs.length-1) k (λi=>cf xs (i+1)*((i:Int)+1))))]) (λk=>k<=xs.length-1) (λk=>xs.length-1-k) 0 O1 K1 ⟨by rw [Aq (xs.length-1) (λi=>cf xs (i+1)*((i:Int)+1))];rfl,aA⟩ ?_;rintro k l;have j:(fill (xs.length-1) k (λi=>cf xs (i+1)*((i:Int)+1))).length=xs.length-1:=Oa _ _ _;refine go 6<|Zc J (λc=>?_) (λc=>?_)
  .try rw [aS]at *
   refine go 10<|Qe (λx=>x=b) [(0,0),(1,0),(2,0),(3,0),(4,0),(5,0),(6,0),(7,0),(8,0),(9,1),(10,1),(11,0),(12,3)]<|go 5 ⟨O,?_⟩;refine Xb J J (st1 2 J (Zv 1 (k+1) J J J J Zm Pu Ou))<|go 3 ⟨O,O,?_⟩;refine Ys (Zp 3 [] (Zz _ (by first|assumption|exact⟨O,O⟩))) λ_ _=>?_;refine Lm J (Pa 3 2 (Ca (x:=cf xs (k+1)) (y:=((k:Int)+1)) (e.sz _) (aB (Oh (n:=32) O) O3) (h k)) J J J K3 call218 J O3 Zr J f.h J) (λ_ _=>?_);refine Xb J J (st1 2 J (Zv 3 k J J J J (Zo pV) Pu Ou J (by rw [Oa];omega)))<|r3' J (Ka 3 (enc:=wv) J J J J J J pV J f.h O3 (by rw [Oa];omega)) (λ_ _=>?_);refine go 7 ⟨O,?_⟩;exact Yi (k+1) O1 O1 K1 ⟨by rw [<-Zds O];rfl,aA⟩
  .try rw [aS]at *
   refine go 6 ?_;obtain rfl:k=xs.length-1:=O;refine Zf (Yz 3 J J pV)<|Zf (Ziu 2 J J)<|go 2 ?_;refine cl 4 [2,3] (Ynl (by rw [Ez];exact Br λi _=>h i)) λ_ _=>go 7 ?_;exact Nb d _ results309 J aA (Qy 4 Za (by rw [Yrg e.tr]<;>rfl))
theorem Zrs(j:Vp xs):Xq prog 356 #[v] [Ym 2 wv v xs] (.tuple #[wv (Yv xs),.int .i64 0]):=by
 refine Zg func356 ntmps356 λr q n i=>?_;have l:=j.len;have d:∀k,bl (Yv (xs.take k)).natAbs<=65536:=λk=>Zbr _ (j.sz.take k);refine go 2<|Yk (Yh 2) λb _=>go 7 ?_;refine cl 2 [1] (Xs ‹_›) λ_ _=>go 8<|Yk (Yh 3) λf _=>go 4<|Yk (Yh 4) λg _=>go 11 ?_;refine lp (G:=Nat) [2,4,5,12,13] [0,1,2] (λk=>[(14,.int .i64 (k:Int))]) (λk=>[(4,box g 144 #[.bool (decide (Yv (xs.take k)<0)),.string (Qw (Yv (xs.take k)).natAbs)]),(3,box f 303 #[.int .i64 0])]) (λk=>k<=xs.length) (λk=>xs.length-k) 0 O1 K1 K2 ?_;rintro k o;have e:=λh=>Lb (p:=xs) (k:=k) h;refine go 6<|Zc J (λc=>?_) (λc=>?_)
 .refine go 8 ⟨O2,O2,?_⟩;refine Yk (Yh 5) λm _=>go 7 ?_;refine cl 5 [] (Zt7 (Yv (xs.take k)) (xs.getD k 0) (d _) (j.sz.getD _)) λ_ _=>go 2 ?_;refine tt (Pa 5 3 Zsy J J J K3 call282 J O3 Zr J n.h aA) (λ_ _=>?_);refine go 8 ⟨O,?_⟩;have a:=d (k+1);rw [e O]at a;exact Yi (k+1) O1 O1 K1 ⟨by rw [e O];simp only [Hc a];rfl,by simp only [Zsp a];rfl,aA⟩
 .refine go 6<|Qn [3,4] [5] ?_;refine Zk 0 [(0,0),(1,0),(2,0),(3,0),(4,1),(5,3)]<|go 7 ?_;refine Zu<|go 2 ?_;exact Nb i () results356 (by rw [show k=xs.length by omega,bS]<;>rfl) aA Za
theorem Zox{c:Int}(l:Sz 65536 xs)(j:xs.length<=1000)(q:bl c.natAbs<=65536)(s:∀i,c∣cf xs i)(f:xs≠[]->c≠0):Cal prog 357 #[v,wv c] [Ym 2 wv v xs] true (G:=Value) (λr=>True) (λr=> .tuple #[r,.int .i64 0]) (λr=>[Ym 2 wv r (xs.map (· / c))]):=by
 refine Zg func357 ntmps357 λB z m h=>go 2 ?_;refine Yk (Yf 2) λb _=>go 8 ?_;refine tt (Hf 3 _ 24 (enc:=wv) 0 J J J J Pu ti144 J pV.cells pV.pos J J J m.h J J) λv _=>go 12 ?_;refine lp (G:=Nat) [3,6,15,16] [0,1,2] (λk=>[(17,.int .i64 (k:Int))]) (λk=>[(3,Oc 2 144 wv v (fill xs.length k (λi=>cf xs i/c)))]) (λk=>k<=xs.length) (λk=>xs.length-k) 0 O1 K1 ⟨by rw [Aq xs.length (λi=>cf xs i/c)];rfl,aA⟩ ?_;rintro k w;have g:Zbz (xs.getD k 0/c)=cf xs k/c:=Hc (Ha (s k) (l k));refine go 6<|Zc J (λa=>?_) (λa=>?_)
 .refine go 9 ⟨O2,O2,?_⟩;refine Yk (Yh 4) λn _=>go 8 ?_;refine cl 4 [] (Ar (l.getD _) q (f (by intro e;rw [e]at a;simp at a;omega))) λ_ _=>go 4<|Yk (Yh 5) λo _=>Yk (Yh 6) λp _=>go 12<|Zc J (λd=>?_) (λd=>?_)
  .exfalso;simp_all
  .refine go 6 ?_;refine dt (Zv 3 k J J J J (Zo pV) Pu Ou J (by rw [Oa];omega))<|tt (Ka 3 (enc:=wv) J J J J J J pV J m.h O3 (by rw [Oa];omega)) (λ_ _=>?_);refine go 7 ⟨O,?_⟩;exact Yi (k+1) O1 O1 K1 ⟨by rw [<-Zds O];simp only [g];rfl,aA⟩
 .refine go 13 ?_;obtain rfl:k=xs.length:=O;exact Nb h _ results357 J aA (gow 3 Za (by rw [Ez,Zr8 xs (· / c)]<;>rfl))
theorem Nr(c:Vp xs):Cal prog 304 #[v] [Ym 2 wv v xs] true (G:=Value) (λr=>True) (λr=> .tuple #[r,.int .i64 0]) (λr=>[Ym 2 wv r (Yg xs)]):=by
 refine Zg func304 ntmps304 λh g f d=>?_;have e:=c.len;refine go 9 ?_;refine cl 1 [1] (Zrs ‹_›) λ_ _=>go 3<|Yk (Yh 2) λb _=>go 11<|Zc J (λa=>?_) (λa=>?_)
 .exfalso;simp_all
 .refine go 6 ?_;refine cl 3 [1] (Zox c.sz O (Zbr _ c.sz) (Kc _) c.ne) λ_ _=>go 7 ?_;exact Nb d _ results304 J aA (Qy 3 Za J)
theorem Yf8(n:Vp xs)(S:bl x.natAbs<=65536)(hy:bl y.natAbs<=65536)(a8:0<y):Xq prog 395 #[v,rX x y] [Ym 2 wv v xs] (.tuple #[wv (evv xs x y),.int .i64 (eve xs x y)]):=by
 refine Zg func395 ntmps395 λw0 sc p o=>?_;have c:=n.len;refine go 2<|Yk (Yf 2) λb _=>Yk (Yh 3) λZ _=>go 7 ?_;refine cl 3 [1] (Xs ‹_›) λ_ _=>go 3 ?_;refine Hx 3 [] (Lo ‹_› ‹_› ‹_›) λ_ _=>go 15<|Zc J (λj=>?_) (λj=>?_)
 .refine go 2 ?_;refine dt (Qf [] J aA (λa w hs=>Yov))<|go 6 ?_;exact Nb o () results395 (by rw [aC (l:=xs) O];rfl) aA Za
 .have M:xs≠[]:=λe=>by rw [e]at j;simp at j
  have a6:=Qv n.sz;have g:Sz 65536 [x,y]:=Sz.of_mem (by intro z V;simp at V;rcases V with rfl|rfl<;>assumption);have I:=Qv g;have a7:(xs.length-1)*Xw [x,y]<=24*65536:=aO O I;have f:((xs.length:Int)-1)*(Xw [x,y]:Int)=(((xs.length-1)*Xw [x,y]:Nat):Int):=by rw [gP];congr 1;omega
  refine go 3 ?_;refine jn (G:=Unit) [0,3,4] [0,1,2,3] (λ_=>[(37,.bool (decide ((65536:Int)<(Xw xs:Int)+((xs.length:Int)-1)*(Xw [x,y]:Int)+8)))]) (λ_=>[]) (λ_=>True) ?_ ?_
  .refine Lv (λ_=>False) []<|Zk 7 [(0,0),(2,0),(3,0),(4,0),(5,0),(6,0),(7,0),(8,0)]<|go 9 ⟨O,?_⟩;refine Pk 6 1 9 ?_ ?_
   .refine Nl (Zp 3 [1] (Mh (by first|exact n.sz|exact g))) λ_ _=>?_;refine Zk 0 [(9,1),(10,1),(11,0),(12,0),(13,0),(14,0)]<|Lm J (Yx [(0,_),(1,_)] 90 (enc:=wv) [x,y] J J K4 Yax ti144 J J J J J pV.cells J J p.h) λv _=>Ys (Zp 3 [90] (Mh (by first|exact n.sz|exact g))) λ_ _=>?_;refine go 5 ⟨by rw [f];exact⟨O,O⟩,by rw [f];exact⟨O,O⟩,by rw [f];exact⟨O,O⟩,?_⟩;exact Zu<|On () aA K1 aA
   .refine Kr J J (Yx [(0,_),(1,_)] 90 (enc:=wv) [x,y] J J K4 Yax ti144 J J J J J pV.cells J J p.h) (λa9 _=>?_);refine Zk 0 [(1,1),(10,1),(11,0),(12,0),(13,0),(14,0)]<|Ys (Zp 3 [1] (Mh (by first|exact n.sz|exact g))) λ_ _=>Ys (Zp 3 [90] (Mh (by first|exact n.sz|exact g))) λ_ _=>?_;refine go 5 ⟨by rw [f];exact⟨O,O⟩,by rw [f];exact⟨O,O⟩,by rw [f];exact⟨O,O⟩,?_⟩;exact Zu<|On () aA K1 aA
  .rintro _ -;refine Zc J (λm=>?_) (λm=>?_)
   .have B:Iy xs x y:=⟨M,by rw [f]at m;omega⟩;refine go 2 ?_;refine dt (Qf [] J aA (λa w hs=>Yov))<|go 6 ?_;exact Nb o () results395 (by unfold evv eve;rw [aM B,aM B]<;>rfl) aA Za
   .have i:Xw xs+(xs.length-1)*Xw [x,y]+8<=65536:=by rw [f]at m;omega
    refine go 4<|Yk (Yh 4) λH _=>go 2 ?_;refine jn (G:=Nat×Nat) [0,3,4,6] [0,1,2,3,4] (λq=>[(7,.pointer (some ⟨q.1,0,none⟩)),(8,.pointer (some ⟨q.2,0,none⟩))]) (λq=>[(97,box q.1 144 (wc (xs.getD (xs.length-1) 0))),(98,box q.2 144 (wc 1))]) (λq=>True) ?_ ?_
    .refine Lv (λ_=>False) [9,10]<|Zk 5 [(0,0),(1,0),(2,0),(3,0),(4,0),(5,0)]<|go 4 ⟨O,?_⟩;refine Xb J J (Qa (Zv 1 (xs.length-1) J J J J Zm Pu Ou))<|go 2 ⟨O,?_⟩;refine Zfo 4 6 7 8 ?_ ?_ ?_
     .refine Nl (Zp 4 [] (Zz _ (by first|assumption|exact⟨O,O⟩))) λ_ _=>?_;refine Pk 3 7 8 ?_ ?_
      .refine Nl (Yh 97) λa0 _=>?_;refine Zk 0 [(8,1),(9,3),(10,3)]<|Ys (Yh 98) λa1 _=>go 3 ?_;exact Zu<|On (_,_) aA K2 K2
      .refine Nl (Yh 98) λa2 _=>?_;refine Zk 0 [(7,1),(9,3),(10,3)]<|Ys (Yh 97) λa3 _=>go 3 ?_;exact Zu<|On (_,_) aA K2 K2
     .refine Nl (Yh 97) λa4 _=>?_;refine Pk 3 6 8 ?_ ?_
      .refine Nl (Zp 4 [] (Zz _ (by first|assumption|exact⟨O,O⟩))) λ_ _=>?_;refine Zk 0 [(8,1),(9,3),(10,3)]<|Ys (Yh 98) λa5 _=>go 3 ?_;exact Zu<|On (_,_) aA K2 K2
      .refine Nl (Yh 98) λN _=>?_;refine Zk 0 [(6,1),(9,3),(10,3)]<|Ys (Zp 4 [] (Zz _ (by first|assumption|exact⟨O,O⟩))) λ_ _=>go 3 ?_;exact Zu<|On (_,_) aA K2 K2
     .refine Nl (Yh 98) λP _=>?_;refine Pk 3 6 7 ?_ ?_
      .refine Nl (Zp 4 [] (Zz _ (by first|assumption|exact⟨O,O⟩))) λ_ _=>?_;refine Zk 0 [(7,1),(9,3),(10,3)]<|Ys (Yh 97) λQ _=>go 3 ?_;exact Zu<|On (_,_) aA K2 K2
      .refine Nl (Yh 97) λR _=>?_;refine Zk 0 [(6,1),(9,3),(10,3)]<|Ys (Zp 4 [] (Zz _ (by first|assumption|exact⟨O,O⟩))) λ_ _=>go 3 ?_;exact Zu<|On (_,_) aA K2 K2
    .rintro⟨W,Y⟩ -;dsimp only;refine go 10 ⟨O,?_⟩;refine lp (G:=Nat) [0,3,4,6,7,8] [0,1,2,3,4] (λk=>[(9,.int .i64 ((k:Int)-1))]) (λk=>[(97,box W 144 (wc (Eh xs x y k))),(98,box Y 144 (wc (y^(xs.length-1-k))))]) (λk=>k<=xs.length-1) (λk=>k) (xs.length-1) O1 ⟨by rw [show((xs.length-1:Nat):Int)-1=(xs.length:Int)-2 by omega];rfl,aA⟩ ⟨by rw [Ysb x y O];rfl,by rw [gF,dC];rfl,aA⟩ ?_;rintro k D;refine go 7<|Zc J (λr=>?_) (λr=>?_)
     .have d:y^(xs.length-1-k)*y=y^(xs.length-1-(k-1)):=Ykl y O D;have F:Eh xs x y k*x+xs.getD (k-1) 0*y^(xs.length-1-(k-1))=Eh xs x y (k-1):=Ygv x y O D;refine go 9 ?_;refine tt (Pa 4 4 (Ca (Zs0 i) hy (by rw [d];exact Zs0 i)) J J J K3 call218 J O3 Zr J p.h aA) λ_ _=>go 3 ?_;refine Qe (λx=>x=H) [(0,0),(1,0),(2,0),(4,0),(5,0),(6,0),(7,0),(8,0),(3,1),(9,1),(10,1),(11,3)]<|go 5 ?_;refine Xb J J (st1 4 J (Zv 1 (k-1) J J J J Zm Pu Ou))<|go 2 ⟨O,?_⟩;refine Lm J (Pa 4 4 (Ca (by first|exact Zs1 i c _|exact n.sz.getD _) (by first|exact S|(rw [d];exact Zs0 i)) (by first|exact Zzt i c O D|(rw [d];exact Zsz i))) J J J K3 call218 J O3 Zr J p.h J) (λ_ _=>?_);refine Lm J (Pa 4 4 (Ca (by first|exact Zs1 i c _|exact n.sz.getD _) (by first|exact S|(rw [d];exact Zs0 i)) (by first|exact Zzt i c O D|(rw [d];exact Zsz i))) J J J K3 call218 J O3 Zr J p.h J) (λ_ _=>?_);refine Lm J (Pa 4 4 (Zn0 (Zzt i c O D) (by rw [d];exact Zsz i) (by rw [d,F];exact Zs1 i c _)) J J J K3 call219 J O3 Zr J p.h J) (λ_ _=>?_);refine go 9 ⟨O,?_⟩;exact Yi (k-1) O1 O1 ⟨by rw [show((k-1:Nat):Int)-1=(k:Int)-1-1 by omega];rfl,aA⟩ ⟨by rw [d,F];rfl,by rw [d];rfl,aA⟩
     .refine go 14<|Zc J (λs=>?_) (λs=>?_)
      .exfalso;simp_all
      .refine go 10 ?_;obtain rfl:k=0:=O;have B:¬Iy xs x y:=λh=>by have:=h.2;omega
       exact Nb o () results395 (by unfold evv eve;rw [aJ B,aJ B,<-Zwt]<;>rfl) aA Za
theorem Zvs(e:Vp xs)(g:bl x.natAbs<=65536)(h:bl y.natAbs<=65536)(d:0<y):Xq prog 367 #[v,rX x y] [Ym 2 wv v xs] (.tuple #[.int .i64 (evv xs x y).sign,.int .i64 (eve xs x y)]):=by refine Zg func367 ntmps367 λk j i c=>?_;have a:=e.len;refine go 2<|Yk (Yf 2) λb _=>go 8 ?_;refine cl 2 [1] (Yf8 e g h d) λ_ _=>go 3<|Yk (Yh 3) λf _=>go 7 ?_;refine cl 3 [] (Hl (evv_bl a)) λ_ _=>go 6 ?_;exact Nb c () results367 J aA Za
theorem Zbx(hs:Sz 65536 xs):Zd8 prog 220 #[.pointer (some ⟨bd,0,none⟩),v] [Ym 2 wv v xs] true bd 303 #[.int .i64 0] (G:=Unit) (λ_=>True) (λ_=> .tuple #[Km v (tzl xs).length,.int .i64 0]) (λ_=>#[.int .i64 0]) (λ_=>[Ym 2 wv (Km v (tzl xs).length) (tzl xs)]):=by
 refine De func220 J ntmps220 J K1 ?_;intro g f e d;have e:=Hw.mk e;simp only [Po,Xh];refine go 17<|Zc J (λc=>?_) (λc=>?_)
 .exfalso;simp_all
 .refine go 5 ?_;refine cl 3 [2] (Zem ‹_›) λ_ _=>go 5 ?_;exact Ds (.inl J) d () (λa w hs=>Ziz hs results220 J J) J aA 1 J J J J (Gr 3 J J J Za)
theorem Yei(h:xs.length*24<=140737488355328:=by omega):Yug prog 392 #[v] [Ym 2 wv v xs] (G:=Value) (λr=>True) (λr=>r) (λr=>Oc 2 144 wv r xs):=by
 refine Yer func392 J ntmps392 J K1 ?_;intro k j e f;have e:=Hw.mk e;simp only [Po,Xh];refine Xr (f_nil (i:=1) J Zm) λd=>go 9 ?_;refine dt (Yd5 J J J (i:=1) J Zm Pu)<|go 2 ?_;refine Pw J (λc=>?_) (λc=>?_)
 .refine go 7 ?_;obtain rfl:xs=[]:=d (by simpa using c);exact Zn (Qi 9 2 144 wv)<|Zqr (.inl J) (.slice none 0 0) (λa w hs=>Ze5 hs results392 J) J aA J 9 J J J
 .refine go 4 ?_;refine tt (Yh5 2 (enc:=wv) J J J Pu pV J e.h) λv _=>go 1 ?_;refine tt (Qr 2 1 24 J J J J J J O3 J Zm Pu ti144 J pV J J J O9 O3 J e.h) λg _=>go 4 ?_;exact Zqr (.inl J) _ (λa w hs=>Ze5 hs results392 J) J aA J 2 J (by rfl) J
theorem Zjy(d:Vp xs):Xq prog 386 #[v] [Ym 2 wv v xs] (.tuple #[.int .i64 ((xs.length:Int)-1),.int .i64 0]):=by refine Zg func386 ntmps386 λg f e a=>?_;have c:=d.len;refine go 10 ?_;refine cl 1 [1] (Xs ‹_›) λ_ _=>?_;refine go 16 ⟨O,?_⟩;exact Nb a () results386 J aA Za
theorem Zpw(c:Vp xs):Xq prog 387 #[v] [Ym 2 wv v xs] (.tuple #[.int .i64 (Xw xs:Int),.int .i64 0]):=by refine Zg func387 ntmps387 λf e d a=>go 10 ?_;refine cl 1 [1] (Xs ‹_›) λ_ _=>go 9 ?_;refine cl 1 [1] (Mh c.sz) λ_ _=>go 5 ?_;exact Nb a () results387 J aA Za
theorem Zxo(n:Vp xs)(m:Vp ys)(o:∀i,bl (cf xs i+cf ys i).natAbs<=65536):Zd8 prog 355 #[v,u,.pointer (some ⟨bd,0,none⟩),.func (.func 219) #[.pointer (some ⟨bd,0,none⟩)] #[]] [Ym 2 wv v xs,Ym 2 wv u ys] true bd 303 #[.int .i64 0] (G:=Value) (λr=>True) (λr=> .tuple #[r,.int .i64 0]) (λr=>#[.int .i64 0]) (λr=>[Ym 2 wv r (Gw xs ys)]):=by
 refine De func355 J ntmps355 J K2 ?_;intro B z c j;have c:=Hw.mk c;simp only [Po,Xh];have l:=n.len;have h:=m.len;refine go 10 ?_;refine cl 3 [2] (Xs ‹_›) λ_ _=>go 3 ?_;refine Hx 3 [3] (Xs ‹_›) λ_ _=>go 13 ?_;refine dt (Zcz J J J)<|tt (Hf 4 (max xs.length ys.length) 24 (enc:=wv) 0 J J J J Pu ti144 J pV.cells pV.pos J J J c.h) λv _=>go 12 ?_;refine lp (G:=Nat) [0,1,2,3,10,29] [0,1,2,3] (λk=>[(30,.int .i64 (k:Int))]) (λk=>[(4,Oc 2 144 wv v (fill (max xs.length ys.length) k (λi=>cf xs i+cf ys i)))]) (λk=>k<=max xs.length ys.length) (λk=>max xs.length ys.length-k) 0 O1 K1 ⟨by rw [Aq (max xs.length ys.length) (λi=>cf xs i+cf ys i)];rfl,aA⟩ ?_;rintro k s;have q:(fill (max xs.length ys.length) k (λi=>cf xs i+cf ys i)).length=max xs.length ys.length:=Oa _ _ _;refine go 6<|Zc J (λd=>?_) (λd=>?_)
 .try rw [aS]at *
  refine go 12<|Yk (Yh 5) λb _=>Yk (Yh 6) λg _=>go 2 ?_;refine jn (G:=Unit) [0,1,2,3,10,11,12,13,29,30] [0,4,1,2,3,6] (λ_=>[]) (λ_=>[(5,box b 144 (wc (cf xs k)))]) (λ_=>True) ?_ ?_
  .refine go 8<|Zc J (λe=>?_) (λe=>?_)
   .refine go 7 ⟨O2,O2,?_⟩;exact On () aA aA ⟨by first|rfl|(rw [Yr (p:=xs) O];rfl),aA⟩
   .refine go 1 ?_;exact On () aA aA ⟨by first|rfl|(rw [Yr (p:=xs) O];rfl),aA⟩
  .rintro _ -;refine jn (G:=Unit) [0,1,2,3,10,11,12,13,29,30] [0,5,4,1,2,3] (λ_=>[]) (λ_=>[(6,box g 144 (wc (cf ys k)))]) (λ_=>True) ?_ ?_
   .refine go 8<|Zc J (λf=>?_) (λf=>?_)
    .refine go 7 ⟨O2,O2,?_⟩;exact On () aA aA ⟨by first|rfl|(rw [Yr (p:=ys) O];rfl),aA⟩
    .refine go 1 ?_;exact On () aA aA ⟨by first|rfl|(rw [Yr (p:=ys) O];rfl),aA⟩
   .rintro _ -;refine go 6 ?_;refine tt (Zuf 6 1 [_] [_,_] (Zn0 (n.sz _) (m.sz _) (o _)) J J J J K2 call219 J O3 Zr J c.h aA) (λ_ _=>?_);refine dt (Zv 4 k J J J J (Zo pV) Pu Ou J (by rw [Oa];omega))<|tt (Ka 4 (enc:=wv) J J J J J J pV J c.h O3 (by rw [Oa];omega)) (λ_ _=>?_);refine go 7 ⟨O,?_⟩;exact Yi (k+1) O1 O1 K1 ⟨by rw [<-Zds O];rfl,aA⟩
 .try rw [aS]at *
  refine go 6 ?_;obtain rfl:k=max xs.length ys.length:=O;refine Zf (Yz 4 J J pV)<|go 3 ?_;refine tt (Pa 7 1 (Zbx (by rw [Ez];exact Br λi _=>o i)) J J J K2 call220 J O3 (Zs 4 J J J Zr) J c.h aA) λ_ _=>go 7 ?_;exact Ds (.inl J) j _ (λa w hs=>Ziz hs results355 J J) J aA 1 J J J J (Znr 7 J J J (by rw [Ez]<;>rfl) Za)
theorem Zxn(n:Vp xs)(m:Vp ys)(o:∀i,bl (cf xs i-cf ys i).natAbs<=65536):Zd8 prog 355 #[v,u,.pointer (some ⟨bd,0,none⟩),.func (.func 370) #[.pointer (some ⟨bd,0,none⟩)] #[]] [Ym 2 wv v xs,Ym 2 wv u ys] true bd 303 #[.int .i64 0] (G:=Value) (λr=>True) (λr=> .tuple #[r,.int .i64 0]) (λr=>#[.int .i64 0]) (λr=>[Ym 2 wv r (Bj xs ys)]):=by
 refine De func355 J ntmps355 J K2 ?_;intro B z c j;have c:=Hw.mk c;simp only [Po,Xh];have l:=n.len;have h:=m.len;refine go 10 ?_;refine cl 3 [2] (Xs ‹_›) λ_ _=>go 3 ?_;refine Hx 3 [3] (Xs ‹_›) λ_ _=>go 13 ?_;refine dt (Zcz J J J)<|tt (Hf 4 (max xs.length ys.length) 24 (enc:=wv) 0 J J J J Pu ti144 J pV.cells pV.pos J J J c.h) λv _=>go 12 ?_;refine lp (G:=Nat) [0,1,2,3,10,29] [0,1,2,3] (λk=>[(30,.int .i64 (k:Int))]) (λk=>[(4,Oc 2 144 wv v (fill (max xs.length ys.length) k (λi=>cf xs i-cf ys i)))]) (λk=>k<=max xs.length ys.length) (λk=>max xs.length ys.length-k) 0 O1 K1 ⟨by rw [Aq (max xs.length ys.length) (λi=>cf xs i-cf ys i)];rfl,aA⟩ ?_;rintro k s;have q:(fill (max xs.length ys.length) k (λi=>cf xs i-cf ys i)).length=max xs.length ys.length:=Oa _ _ _;refine go 6<|Zc J (λd=>?_) (λd=>?_)
 .try rw [aS]at *
  refine go 12<|Yk (Yh 5) λb _=>Yk (Yh 6) λg _=>go 2 ?_;refine jn (G:=Unit) [0,1,2,3,10,11,12,13,29,30] [0,4,1,2,3,6] (λ_=>[]) (λ_=>[(5,box b 144 (wc (cf xs k)))]) (λ_=>True) ?_ ?_
  .refine go 8<|Zc J (λe=>?_) (λe=>?_)
   .refine go 7 ⟨O2,O2,?_⟩;exact On () aA aA ⟨by first|rfl|(rw [Yr (p:=xs) O];rfl),aA⟩
   .refine go 1 ?_;exact On () aA aA ⟨by first|rfl|(rw [Yr (p:=xs) O];rfl),aA⟩
  .rintro _ -;refine jn (G:=Unit) [0,1,2,3,10,11,12,13,29,30] [0,5,4,1,2,3] (λ_=>[]) (λ_=>[(6,box g 144 (wc (cf ys k)))]) (λ_=>True) ?_ ?_
   .refine go 8<|Zc J (λf=>?_) (λf=>?_)
    .refine go 7 ⟨O2,O2,?_⟩;exact On () aA aA ⟨by first|rfl|(rw [Yr (p:=ys) O];rfl),aA⟩
    .refine go 1 ?_;exact On () aA aA ⟨by first|rfl|(rw [Yr (p:=ys) O];rfl),aA⟩
   .rintro _ -;refine go 6 ?_;refine tt (Zuf 6 1 [_] [_,_] (Zzy (n.sz _) (m.sz _) (o _)) J J J J K2 call370 J O3 Zr J c.h aA) (λ_ _=>?_);refine dt (Zv 4 k J J J J (Zo pV) Pu Ou J (by rw [Oa];omega))<|tt (Ka 4 (enc:=wv) J J J J J J pV J c.h O3 (by rw [Oa];omega)) (λ_ _=>?_);refine go 7 ⟨O,?_⟩;exact Yi (k+1) O1 O1 K1 ⟨by rw [<-Zds O];rfl,aA⟩
 .try rw [aS]at *
  refine go 6 ?_;obtain rfl:k=max xs.length ys.length:=O;refine Zf (Yz 4 J J pV)<|go 3 ?_;refine tt (Pa 7 1 (Zbx (by rw [Ez];exact Br λi _=>o i)) J J J K2 call220 J O3 (Zs 4 J J J Zr) J c.h aA) λ_ _=>go 7 ?_;exact Ds (.inl J) j _ (λa w hs=>Ziz hs results355 J J) J aA 1 J J J J (Znr 7 J J J (by rw [Ez]<;>rfl) Za)
theorem Zvu(xs ys:List Int)(e:Vp xs)(d:Vp ys)(f:∀i,bl (cf xs i+cf ys i).natAbs<=65536):Cal prog 303 #[v,u] [Ym 2 wv v xs,Ym 2 wv u ys] true (G:=Value) (λr=>True) (λr=> .tuple #[r,.int .i64 0]) (λr=>[Ym 2 wv r (Gw xs ys)]):=by refine Zg func303 ntmps303 λh g c a=>go 8 ?_;refine Yk (Yh 3) λb _=>go 6 ?_;refine dt (d_mkf [_] J K1)<|tt (Pa 4 3 (Zxo ‹_› ‹_› ‹_›) J J J K4 call355 J O3 (Zs 1 J J J (Zs 2 J J J Zr)) J c.h aA) λ_ _=>go 7 ?_;exact Nb a _ results303 J aA (Qy 4 Za)
theorem Zvr(xs ys:List Int)(e:Vp xs)(d:Vp ys)(f:∀i,bl (cf xs i-cf ys i).natAbs<=65536):Cal prog 317 #[v,u] [Ym 2 wv v xs,Ym 2 wv u ys] true (G:=Value) (λr=>True) (λr=> .tuple #[r,.int .i64 0]) (λr=>[Ym 2 wv r (Bj xs ys)]):=by refine Zg func317 ntmps317 λh g c a=>go 8 ?_;refine Yk (Yh 3) λb _=>go 6 ?_;refine dt (d_mkf [_] J K1)<|tt (Pa 4 3 (Zxn ‹_› ‹_› ‹_›) J J J K4 call355 J O3 (Zs 1 J J J (Zs 2 J J J Zr)) J c.h aA) λ_ _=>go 7 ?_;exact Nb a _ results317 J aA (Qy 4 Za)
theorem Zmt(xs ys:List Int)(B:Vp xs)(z:Vp ys)(M:¬Zav xs ys):Cal prog 302 #[v,u] [Ym 2 wv v xs,Ym 2 wv u ys] true (G:=Value) (λr=>True) (λr=> .tuple #[r,.int .i64 0]) (λr=>[Ym 2 wv r (Qz xs ys)]):=by
 refine Zg func302 ntmps302 λw0 sc D f=>?_;have N:=B.len;have I:=z.len;have V:=Qv B.sz;have W:=Qv z.sz;refine go 10 ?_;refine cl 2 [1] (Xs ‹_›) λ_ _=>go 3 ?_;refine Hx 2 [2] (Xs ‹_›) λ_ _=>go 14<|Yc 23 J (λF=>?_) (λF=>?_)
 .refine go 15 ?_;exact Nb f _ results302 J aA (Pi (Zbp (p:=xs) (q:=ys) (by first|(left;omega)|(right;omega))) Za)
 .refine go 6<|Zc J (λg=>?_) (λg=>?_)
  .refine go 8 ?_;exact Nb f _ results302 J aA (Pi (Zbp (p:=xs) (q:=ys) (by first|(left;omega)|(right;omega))) Za)
  .have c:xs≠[]:=by intro e;subst e;simp_all
   have d:ys≠[]:=by intro e;subst e;simp_all
   have R:0<xs.length:=aI.2 c;have S:0<ys.length:=aI.2 d;refine go 13 ⟨O,O,?_⟩;refine Yc 35 J (λH=>?_) (λH=>?_)
   .exfalso;exact M ⟨c,d,.inl O⟩
   .refine go 1 ?_;refine Hx 2 [1] (Mh (by first|exact B.sz|exact z.sz)) λ_ _=>go 1 ?_;refine Hx 2 [2] (Mh (by first|exact B.sz|exact z.sz)) λ_ _=>?_;refine go 6 ⟨O,O,?_⟩;refine Zc J (λk=>?_) (λk=>?_)
    .exfalso;exact M ⟨c,d,by first|(left;omega)|(right;omega)⟩
    .have Y:Xw xs+Xw ys+5<=65536:=O;have s:∀i j,bl (cf xs i*cf ys j).natAbs<=65536:=λi j=>by have:=Yw (cf xs i) (cf ys j);have:=Pd xs i;have:=Pd ys j;omega
     have n:∀i j t,i<25->bl (Zb2 xs ys i j t).natAbs<=65536:=λi j t hi=>by have:=Yt6 (i:=i) (j:=j) (t:=t) (Pd xs) (Pd ys) O;omega
     have o:∀t,bl (acc xs ys xs.length t).natAbs<=65536:=λt=>by have:=bl_acc (i:=xs.length) (t:=t) (Pd xs) (Pd ys) O;omega
     have w:∀i j,i<25->bl (Zb2 xs ys i j (i+j)+cf xs i*cf ys j).natAbs<=65536:=λi j hi=>by rw [<-Yhi];exact n i (j+1) _ hi
     refine go 4<|Yk (Yh 3) λb _=>?_;refine go 10 ⟨O,O,?_⟩;refine tt (Hf 4 (xs.length+ys.length-1) 24 (enc:=wv) 0 J J J J Pu ti144 J pV.cells pV.pos J J J D.h) λv _=>go 12 ?_;refine lp (G:=Nat) [1,6,7,51,52] [0,1,2,3] (λi=>[(53,.int .i64 (i:Int))]) (λi=>[(4,Oc 2 144 wv v (mk (xs.length+ys.length-1) (acc xs ys i)))]) (λi=>i<=xs.length) (λi=>xs.length-i) 0 O1 K1 ⟨by rw [Zrh];rfl,aA⟩ ?_;rintro i hi;refine go 6<|Zc J (λl=>?_) (λl=>?_)
     .refine go 9 ⟨O2,O2,?_⟩;refine Yk (Yh 5) λP _=>go 12 ?_;refine lp (G:=Nat) [1,6,7,8,9,51,52,53,58,59] [0,1,2,3,5] (λj=>[(60,.int .i64 (j:Int))]) (λj=>[(4,Oc 2 144 wv v (mk (xs.length+ys.length-1) (Zb2 xs ys i j)))]) (λj=>j<=ys.length) (λj=>ys.length-j) 0 O1 K1 ⟨by rw [Yhh];rfl,aA⟩ ?_;rintro j Z;have a:i+j<xs.length+ys.length-1->(mk (xs.length+ys.length-1) (Zb2 xs ys i j)).getD (i+j) 0=Zb2 xs ys i j (i+j):=λh=>Zew h;refine go 6<|Zc J (λm=>?_) (λm=>?_)
      .refine go 9 ⟨O2,O2,?_⟩;refine Yk (Yh 6) λQ _=>go 4<|Qe (λx=>x=b) [(0,0),(1,0),(2,0),(3,0),(4,0),(5,0),(6,0),(7,0),(8,0),(9,0),(10,0),(11,0),(12,1),(13,1),(14,0),(15,3)]<|go 8 ⟨O,O,?_⟩;refine Xb J J (st1 3 J (Zv 4 (i+j) J J J J (Zo pV) Pu Ou O (by rw [Xc];omega)))<|go 3 ⟨by rw [Xc];omega,?_⟩;refine Lm J (Pa 6 3 (Ca (B.sz _) (z.sz _) (s i j)) J J J K3 call218 J O3 Zr J D.h J) (λ_ _=>?_);refine Lm J (Pa 6 3 (Zn0 (by rw [a O];exact n i j _ O) (s i j) (by rw [a O];exact w i j O)) J J J K3 call219 J O3 Zr J D.h J) (λ_ _=>?_);refine Xb J J (st1 3 J (Zv 4 (i+j) J J J J (Zo pV) Pu Ou O (by rw [Xc];omega)))<|r3' J (Ka 4 (enc:=wv) J J J J J J pV J D.h O3 (by rw [Xc];omega)) (λ_ _=>?_);refine go 7 ⟨O,?_⟩;exact Yi (j+1) O1 O1 K1 ⟨by rw [<-Yo3 O,<-a O];rfl,aA⟩
      .refine go 10 ⟨O,?_⟩;obtain rfl:j=ys.length:=O;exact Yi (i+1) O1 O1 K1 ⟨by rw [<-Yo4];rfl,aA⟩
     .refine go 6 ?_;obtain rfl:i=xs.length:=O;refine Zf (Yz 4 J J pV)<|go 2 ?_;refine tt (Pa 7 3 (Zbx (Br λt _=>o t)) J J J K2 call220 J O3 (Zs 4 J J J Zr) J D.h aA) λ_ _=>go 7 ?_;exact Nb f _ results302 J aA (Qy 7 Za (by rw [Yko]<;>rfl))
end Go.Sky

