/- Rules, arithmetic and contracts: part 12. No conditions but those that each theorem names. -/
import Derived.Test.YteikicbnfbgpnaaGreatEf10
set_option linter.all false
set_option maxHeartbeats 4000000
namespace Go.Sky
open Go.Proofs.Tryz
open Go.Proofs
set_option synthInstance.maxHeartbeats 0
set_option synthInstance.maxSize 100000
set_option maxRecDepth 20000
set_option linter.unusedSimpArgs false
variable{v w:Value}{x:Int}{s t:Bool}{listed:Array Bool}{ts:List Nat}{ops:Array Oper}
theorem Yb5{x y:Nat}(hx:bl x<=4000000000)(e2:bl y<=4000000000)(hy:0<y):Cal prog 267 #[v,w] [Dr v x,Dr w y] true (G:=Value×Value) (λr=>True) (λr=> .tuple #[r.1,r.2]) (λr=>[Dr r.1 (x/y),Dr r.2 (x%y)]):=by
 refine Zh func267 ntmps267 λw0 sc p S=>?_;have hX:=Mo x;have hY:=Mo y;refine go 11 ?_;refine cl 2 [1,2] (Zdg O O) λr hr=>go 3 ?_;refine Ze J (λW=>?_) (λW=>?_)
 .have o:x<y:=hr.1.1 O;refine go 9 ?_;exact Zs (Qw 9 1 232 Lc)<|Mj S (.slice none 0 0,v) results267 J aA (gow 9 (Pq 1 Za (by rw [bG o])) (by rw [cM o];rfl))
 .have c6:y<=x:=by have:=hr.1;omega
  have e1:=Og c6;refine go 10 ?_;refine Ze J (λY=>?_) (λY=>?_)
  .have V:y<U:=by have:=(Xt Qc 1 y).1 O;simpa using this
   have m:(dg U y).getD 0 0=y:=by rw [Hr Qc];simp [bG V]
   refine go 6 ⟨O,O2,?_⟩;refine cl 3 [1] (Yfr O (by rw [m];exact hy) (by rw [m];exact V)) λv _=>go 11 ?_;refine tt (Xs [(0,_)] 4 (enc:=Lc) [x%(dg U y).getD 0 0] J J K2 Oh ti232 J J J J J pU.cells J J p.h) λe4 _=>cl 4 [4] Oq λ_ _=>?_;refine Xe (Zbh 4 J J pU)<|go 6 ?_;exact Mj S (_,_) results267 J aA (Pq 3 (gow 4 Za (by rw [Zib (kS (bJ _ (by rw [m];exact hy)) (by rw [m];exact V)),m])) (by rw [m]<;>rfl))
  .refine go 3 ?_;obtain⟨k,hk⟩:∃k,k=(dg U y).length:=⟨_,rfl⟩;have e0:k<=(dg U x).length:=O;obtain⟨b,hb⟩:∃b,b=64-bl ((dg U y).getD (k-1) 0):=⟨_,rfl⟩;obtain⟨b4,_,b3,a4,b1,H⟩:=Yqx hy hk hb;obtain⟨D,c⟩:∃D,D=y*2^b:=⟨_,rfl⟩;have c7:(dg U D).length=k:=by rw [c];exact b4
   have a3:D<U^k:=by rw [c];exact a4
   have a2:U^(k-1)*9223372036854775808<=D:=by rw [c];exact H
   have l:0<D:=by rw [c];exact fJ hy (dK b)
   have d9:bl D<=4000000064:=by rw [c,Zz0 hy];omega
   refine go 5 ⟨O,?_⟩;refine dt (Zv 2 ((dg U y).length-1) J J J J Zq Oh Ic)<|go 1 ⟨O2,?_⟩;refine cl 4 [] (Ztm (Qb Qh (Nx Qc y) _)) λ_ _=>?_;refine Xe (Kf 44 (v':= .int .i64 (b:Int)) J (by rw [hb,hk]))<|go 3 ?_;refine jn (G:=Value×Value) [0,8] [0,1,2] (λq=>[(9,q.1),(10,q.2)]) (λq=>[(81,Dr q.1 D),(82,Of 1 232 Lc q.2 (List.replicate ((dg U x).length+1) 0))]) (λq=>True) ?_ ?_
   .refine Kr (λ_=>False) [8]<|Zj 4 [(0,0),(1,0),(3,0),(4,0),(5,0)]<|go 6 ⟨O,?_⟩;refine Qy 3 2 6 ?_ ?_
    .refine Ou (Zm 81 [2] Zrr) λe5 _=>?_;refine Zj 0 [(7,0),(6,1),(8,3)]<|go 1 ?_;refine Ko J (Hg 82 ((dg U x).length+1) 8 (enc:=Lc) 0 J J J J Oh ti232 J pU.cells pU.pos J J J p.h) λe6 _=>go 2 ?_;exact Zt<|Oe (_,_) aA K2 ⟨by rw [c];rfl,rfl,aA⟩
    .refine Kg J J (Hg 82 ((dg U x).length+1) 8 (enc:=Lc) 0 J J J J Oh ti232 J pU.cells pU.pos J J J p.h) (λe7 _=>?_);refine Zj 0 [(2,1),(7,0),(8,3)]<|Yv (Zm 81 [2] Zrr) λe8 _=>go 3 ?_;exact Zt<|Oe (_,_) aA K2 ⟨by rw [c];rfl,rfl,aA⟩
   .rintro⟨vd,vr⟩ -;dsimp only;refine go 1 ?_;have c9:(dg U (x*2^b)).length<=(dg U x).length+1:=(Xt Qc _ _).2 (by rw [cH];exact iR ((Xt Qc _ x).1 (aI _)) (by rw [Yod];exact cQ O O) Qh);refine go 4 ?_;refine cl 5 [1] Zrr λe9 _=>?_;refine tt (t_cpy 82 5 0 J J J J J J O3 J Zq Yml (by rw [aO];exact c9) (by rw [aO];omega) (by rw [aO];omega) Oh pU J p.h) λ_ _=>go 3 ?_;have a6:(spl (List.replicate ((dg U x).length+1) 0) 0 (dg U (x*2^b))).length=(dg U x).length+1:=by rw [Ha _ _ _ (by rw [aO];omega),aO]
    refine go 7 ?_;have d4:(List.replicate ((dg U x).length+1-k) (0:Nat)).length=(dg U x).length+1-k:=aO;refine Zf (Kf 11 (v':= .int .i64 (k:Int)) J (by rw [c7]))<|go 5 ⟨O,?_⟩;refine tt (Hg 6 ((dg U x).length+1-k) 8 (enc:=Lc) 0 J J J J Oh ti232 J pU.cells pU.pos J J J p.h) (λd3 _=>?_);refine go 13 ⟨O,?_⟩;refine lp (G:=Nat×List Nat×List Nat) [8,9,10,11,12] [0,81,1,2,5] (λq=>[(13,.int .i64 ((q.1:Int)-1))]) (λq=>[(82,Of 1 232 Lc vr q.2.1),(6,Of 1 232 Lc d3 q.2.2)]) (λq=>(q.1<=(dg U x).length+1-k)/\(q.2.1.length=(dg U x).length+1)/\(∀d∈q.2.1,d<U)/\(q.2.2.length=(dg U x).length+1-k)/\(∀d∈q.2.2,d<U)/\(Yq U q.2.1<D*U^q.1)/\(Yq U (q.2.2.drop q.1)*U^q.1*D+Yq U q.2.1=x*2^b)) (λq=>q.1) ((dg U x).length+1-k,spl (List.replicate ((dg U x).length+1) 0) 0 (dg U (x*2^b)),List.replicate ((dg U x).length+1-k) 0) ⟨aI _,a6,Ztr (Nn Qh) (Nx Qc _) 0,O5,Nn Qh,by rw [Zt4,Lj Qc];exact Ymp ((Xt Qc _ x).1 (aI _)) b1 b3 O a2,by rw [Zt4,Lj Qc];simp [Yq]⟩ ⟨by rw [aO];rfl,aA⟩ K2 ?_;rintro⟨a,R,q⟩ ⟨hj,a7,e,d0,Q,M,hN⟩;dsimp only at hj a7 e d0 Q M hN;dsimp only;refine go 7 ?_;refine Ze J (λZ=>?_) (λZ=>?_)
    .refine go 5 ?_;have P:Yq U R<U^(a-1+k+1):=by refine dL M ?_;rw [show a-1+k+1=k+a by omega,cC];exact aL _ (dO a3)
     have u:tz ((R.drop (a-1)).take (a-1+k+1-(a-1)))=dg U (Yq U R/U^(a-1)):=Yop e O (by rw [show a-1+(a-1+k+1-(a-1))=a-1+k+1 by omega];exact P);have a9:Yq U R/U^(a-1)<D*U:=by rw [bW (bZ Qh),dH,<-mU,show(a-1).succ=a by omega];exact M
     have b0:bl (Yq U R/U^(a-1))<=4294967296:=by have h1:=Og (dO a9);have h2:=Zny D U;have h3:bl U<=65:=(Qo 65 U).2 (by simp [U]);omega
     have b7:=Yo1 e (j:=a-1) b3 P O;have b9:(dg U D).getD (k-1) 0*U^(k-1)<=D:=by rw [Hr Qc];exact aB (aL _ (Nat.mod_le _ _)) (mP _ _)
     have c2:Yq U R/U^(a-1)/D<=18446744073709551615:=by have:=(bW l).2 (show _<U*D by rw [bD];exact a9);simp only [U]at this ⊢;omega
     refine go 4 ?_;refine jn (G:=Nat) [8,9,10,11,12,13] [0,82,6,81,1,2,5] (λg=>[(14,.int .u64 (g:Int))]) (λg=>[]) (λg=>(Yq U R/U^(a-1)/D<=g)/\(g<U)) ?_ ?_
     .refine go 1 ?_;refine Qd (λ_=>False) [(0,0),(1,0),(2,0),(3,0),(4,0),(5,0),(6,0),(7,0),(8,0),(9,0),(10,0),(11,0)]<|go 4 ⟨O,?_⟩;refine Xh J J (Xm (Zv 82 (a-1+k) J J J J (Ya pU) Oh Ic))<|go 4 ⟨O2,O,?_⟩;refine Xh J J (Xm (Zv 81 (k-1) J J J J Zq Oh Ic))<|go 4 ⟨O2,?_⟩;refine Ze J (λa0=>?_) (λa0=>?_)
      .refine Qd (λ_=>False) [(0,0),(1,0),(2,0),(3,0),(4,0),(5,0),(6,0),(7,0),(8,0),(9,0),(10,0),(11,0),(12,0),(13,0),(14,0),(15,0),(16,0),(17,0),(18,1),(19,0),(20,0),(21,0),(22,0)]<|go 4 ⟨O,?_⟩;refine Xh J J (Xm (Zv 82 (a-1+k) J J J J (Ya pU) Oh Ic))<|go 6 ⟨O2,O,O,?_⟩;refine Xh J J (Xm (Zv 82 (a-1+k-1) J J J J (Ya pU) Oh Ic))<|go 4 ⟨O2,O,?_⟩;refine Xh J J (Xm (Zv 81 (k-1) J J J J Zq Oh Ic))<|go 1 ⟨O2,?_⟩;refine Yv (Zm 6 [] (Zxh (Qb Qh e _) (Qb Qh (Nx Qc _) _) O)) λ_ _=>go 5 ?_;exact Oe _ ⟨Ylp b9 O b7,Zwo (Qb Qh e _) O⟩ K1 aA
      .refine go 1 ?_;exact Oe 18446744073709551615 ⟨c2,O3⟩ K1 aA
     .rintro g ⟨hg,f⟩;refine go 8 ⟨O,O,?_⟩;refine dt (d_mid (ii:=82) (i:=a-1) (j:=a-1+k+1) J J J J J (Ya pU) Oh Ic O O O O)<|go 7 ?_;refine tt (Xs [(0,_)] 7 (enc:=Lc) [g] J J K2 Oh ti232 J J J J J pU.cells J J p.h) λf0 _=>cl 7 [7] Oq λ_ _=>?_;refine Xe (Zbh 7 J J pU)<|Xe (Ze8 7 (Zib f) J J)<|cl 83 [81,7] (Yb4 O (aB ((Qo 64 g).2 f) O)) λd5 _=>go 5 ?_;refine lp (G:=Nat×Value) [8,9,10,11,12,13,15] [0,82,6,81,1,2,5,7] (λq=>[(14,.int .u64 (q.1:Int)),(16,q.2)]) (λq=>[(83,Dr q.2 (D*q.1))]) (λq=>(Yq U R/U^(a-1)/D<=q.1)/\(q.1<U)) (λq=>q.1) (g,_) ⟨O1,O1⟩ ⟨J,J,aA⟩ ⟨J,aA⟩ ?_;rintro⟨g,vp⟩ ⟨hg,f⟩;dsimp only at hg f;dsimp only;have a5:bl (D*g)<=4294967296:=by have h1:=Zny D g;have h2:=(Qo 64 g).2 f;omega
      refine go 4 ?_;refine tt (Xa 7 Oq J J J K1 call183 (Zei 82 J J pU (Zkm (a-1) (a-1+k+1)) Zk9 Zn) J p.h) λ_ _=>go 1 ?_;refine tt (Xa 7 (Zdg b0 a5) J J J K2 call223 (Zei 82 J J pU (Yi2 u (by rw [u]) (Zkm (a-1) (a-1+k+1))) (by rw [Gz];exact(Zk9)) (Zk 83 J J J Zn)) J p.h) λe3 B=>go 3 ?_;refine Ze J (λa1=>?_) (λa1=>?_)
      .have o:Yq U R/U^(a-1)<D*g:=B.1.1 O;have b2:1<=g:=by rcases aV g with h|h;(rw [h,gJ]at o;exact absurd o (bN _));exact h
       have b8:D<=D*g:=cZ _ b2;have c3:Yq U R/U^(a-1)/D<=g-1:=by have:=(bW l).2 (show _<g*D by rw [bD];exact o);omega
       refine go 6 ?_;refine dt (Ze6 (n:=1) J J J)<|go 3 ?_;refine Zf (Kf 14 (v':= .int .u64 ((g-1:Nat):Int)) J (Zb5 (Zwx b2 f)))<|go 3 ?_;refine cl 8 [83,81] (Zg6 a5 b8) λd6 _=>go 3 ?_;exact Zs (Xu 8 83 J J J)<|Yf (g-1,_) ⟨c3,O9⟩ O1 K2 ⟨by rw [Nat.mul_sub_one];rfl,aA⟩
      .refine go 6 ?_;have hQ:g=Yq U R/U^(a-1)/D:=by have h1:=B.1;have h2:D*g<=Yq U R/U^(a-1):=O;exact jH ((iJ l).2 (by rw [bD];exact h2)) hg
       refine go 2 ?_;refine tt (Xa 8 Oq J J J K1 call183 (Zei 82 J J pU (Zkm (a-1) (a-1+k+1)) Zk9 Zn) J p.h) λ_ _=>go 1 ?_;refine tt (Xa 9 (Zg6 b0) J J J K2 call224 (Zei 82 J J pU (Yi2 u (by rw [u]) (Zkm (a-1) (a-1+k+1))) (by rw [Gz];exact(Zk9)) (Zk 83 J J J Zn)) J p.h) λd7 _=>go 4 ?_;have b5:(dg U (Yq U R/U^(a-1)-D*g)).length<=a-1+k+1-(a-1):=by
        have:Yq U R/U^(a-1)-D*g<D:=by rw [hQ];have h3:=cL (Yq U R/U^(a-1)) D;have h4:=bJ (Yq U R/U^(a-1)) l;omega
        have:=(Xt Qc k _).2 (kS this a3);omega
       refine go 2 ?_;refine tt (t_clr (zv:= .bool false) (i:=82) (z:=0) (a-1) J J J J O3 (Yc6 O) O O Oh pU (λw=>zeroValue232 w) J J p.h) λ_ _=>go 6 ?_;refine tt (t_cpy 82 9 (a-1) J J J J J J O3 J Zq (Yc6 (by rw [Ha _ _ _ (by rw [aO];omega)];omega)) b5 (by rw [Ha _ _ _ (by rw [aO];omega)];omega) (by rw [Ha _ _ _ (by rw [aO];omega)];omega) Oh pU J p.h) λ_ _=>go 2 ?_;have c0:a-1+(List.replicate (a-1+k+1-(a-1)) 0).length<=R.length:=by rw [aO];omega
       have c8:=Ha R (a-1) _ c0;have c1:a-1+(dg U (Yq U R/U^(a-1)-D*g)).length<=(spl R (a-1) (List.replicate (a-1+k+1-(a-1)) 0)).length:=O;have F:=You e (j:=a-1) (n:=a-1+k+1-(a-1)) O (by rw [show a-1+(a-1+k+1-(a-1))=a-1+k+1 by omega];exact P) b5;rw [Lj Qc]at F;have b6:=Ymn (j:=a-1) (N:=x*2^b) (Vq:=Yq U (q.drop a)) l hQ (by rw [show a-1+1=a by omega];exact hN);have a8:=b6.1;have I:=b6.2;rw [<-F]at a8 I;have c5:Yq U ((q.set (a-1) g).drop (a-1))=g+U*Yq U (q.drop a):=by rw [drop_set O,show a-1+1=a by omega];rfl
       rw [<-c5]at I;refine go 4 ?_;refine dt (Zv 6 (a-1) J J J J (Ya pU) Oh Ic)<|tt (Ke 6 (enc:=Lc) J J J J J J pU J p.h O3 O2) (λ_ _=>?_);refine go 8 ⟨O,?_⟩;exact Yf (a-1,_,_) ⟨O1,(Ha _ _ _ c1).trans (c8.trans a7),Ztr (Ztr e (Nn Qh) _) (Nx Qc _) _,O8,Kc Q _ f,a8,I⟩ O1 ⟨by rw [show(((a-1:Nat):Int)-1)=(a:Int)-1-1 by omega];rfl,aA⟩ K2
    .refine go 6 ?_;obtain rfl:a=0:=O;rw [gF,lE]at M;have c4:bl (Yq U R)<=8589934592:=by have:=Og (dO M);omega
     refine go 2 ?_;refine cl 9 [6] Oq λ_ _=>?_;refine Xe (Zbh 6 J J pU)<|go 1 ?_;refine cl 9 [82] Oq λ_ _=>?_;refine Xe (Zbh 82 J J pU)<|Xe (Ze8 82 (Ia Qc R e).symm J J)<|go 1 ?_;refine cl 10 [82] (Yq1 c4 O) λd8 _=>go 5 ?_;rw [gU,gF,lE]at hN;have d1:tz q=dg U (x/y):=by rw [<-Ia Qc _ Q,<-Zo3 x y b,<-c,<-hN,bD,fP l,cM M,eP]
     have d2:Yq U R/2^b=x%y:=by rw [<-Zo2 x y b,<-c,<-hN,bD,gD,bG M]
     exact Mj S (_,_) results267 J aA (gow 6 (Pq 10 Za (by rw [d2])) d1)
theorem Zrs{x y:Nat}(l:bl x<=4000000000:=by omega)(m:bl y<=4000000000:=by omega):Cal prog 217 #[v,w] [Dr v x,Dr w y] true (G:=Value) (λr=>True) (λr=>r) (λr=>[Dr r (Nat.gcd x y)]):=by
 refine Zh func217 ntmps217 λD u p j=>?_;have n:=Mo x;have o:=Mo y;refine go 7 ?_;refine Zf (Xu 1 91 J J J)<|Zf (Xu 2 92 J J J)<|lp (G:=Value×Value×Nat×Nat) [] [0,1,2] (λq=>[(0,q.1),(1,q.2.1)]) (λq=>[(91,Dr q.1 q.2.2.1),(92,Dr q.2.1 q.2.2.2)]) (λq=>(Nat.gcd q.2.2.1 q.2.2.2=Nat.gcd x y)/\(bl q.2.2.1<=4000000000)/\(bl q.2.2.2<=4000000000)) (λq=>q.2.2.2) (v,w,x,y) ⟨J,l,m⟩ K2 K2 ?_;rintro⟨z,B,a,b⟩ ⟨i,k,f⟩;dsimp only at i k f;dsimp only;refine go 8 ?_;refine Ze J (λd=>?_) (λd=>?_)
 .have c:0<b:=by rcases aV b with h|h;(subst h;simp [Gq]at d);exact h
  refine go 7 ?_;refine cl 3 [91,92] (Yb5 k f c) λg _=>go 14 ?_;have e:a%b<b:=bJ _ c;exact Zs (Xu 92 91 J J J)<|Zs (Xu 4 92 J J J)<|Yf (_,_,b,a%b) ⟨by dsimp only;rw [<-i,lX b,<-Nat.gcd_rec,lX],f,aB (Og (dO e)) f⟩ e K2 K2
 .have c:b=0:=(Ok Qc b).1 O;refine go 12 ?_;exact Xj j _ results217 J aA (Pq 91 Za (by rw [<-i,c,nE]))
theorem Zro(hs:sg s x):Cal prog 235 #[.agg #[.bool s,v]] [Dr v x.natAbs] true (G:=Bool×Value) (λr=>sg r.1 (-x)) (λr=> .agg #[.bool r.1,r.2]) (λr=>[Dr r.2 (-x).natAbs]):=by refine Zh func235 ntmps235 λg f e c=>go 2 ?_;refine Yg (Yp 2) λb _=>Yg (Zy 3) λd _=>go 9 ?_;refine dt (Qf [(0,_),(1,_)] J K4 (λa w hs=>Ii ((Yd J) a w hs) ((Oo 1 J Zq) a w hs)))<|go 4 ?_;exact Xj c (!s,v) results235 J (Yii hs) (Pq 1 Za (by rw [dM]))
theorem Zel{y:Int}(hs:sg s x)(f:sg t y)(g:bl x.natAbs<=4294967296:=by omega)(h:bl y.natAbs<=4294967296:=by omega):Cal prog 167 #[.agg #[.bool s,v],.agg #[.bool t,w]] [Dr v x.natAbs,Dr w y.natAbs] true (G:=Bool×Value) (λr=>sg r.1 (x*y)) (λr=> .agg #[.bool r.1,r.2]) (λr=>[Dr r.2 (x*y).natAbs]):=by refine Zh func167 ntmps167 λk j i c=>go 2 ?_;refine Yg (Yp 3) λb _=>Yg (Yp 4) λd _=>Yg (Zy 5) λe _=>go 3 ?_;refine Qd (λ_=>False) [(0,0),(1,0),(2,0),(3,0),(4,0),(5,0),(6,0),(7,0),(8,0),(9,1),(10,0),(11,3)]<|go 9 ?_;refine Yv (Zm 6 [1,2] (Yb4 g h)) λv _=>?_;refine Xh J J (Xm (Qf [(0,_),(1,_)] J K4 (λa w hs=>Ii ((Yd J) a w hs) ((Oo 6 J Zq) a w hs))))<|go 4 ?_;exact Xj c (_,_) results167 J (Yij hs f) (Pq 6 Za (by rw [bX]))
theorem Zmm(hs:sg s x)(g:bl x.natAbs<=4294967296:=by omega):Cal prog 236 #[.agg #[.bool s,v]] [Dr v x.natAbs] true (G:=Unit) (λ_=>True) (λ_=> .int .i64 x.sign) (λ_=>[]):=by
 refine Zh func236 ntmps236 λi h f d=>?_;have e:=Mo x.natAbs;refine go 2 ?_;refine Yg (Yp 2) λb _=>go 14 ?_;refine Ze J (λa=>?_) (λa=>?_)
 .refine go 8 ?_;exact Xj d () results236 (Ye0 a) aA Za
 .refine go 7 ?_;refine Nu J (λc=>?_) (λc=>?_)
  .refine go 8 ?_;exact Xj d () results236 (Yid hs c a) aA Za
  .refine go 9 ?_;exact Xj d () results236 (Yic hs c a) aA Za
theorem Zg4{y:Int}(hs:sg s x)(g:sg t y)(i:bl x.natAbs<=4294967296:=by omega)(j:bl y.natAbs<=4294967296:=by omega):Cal prog 170 #[.agg #[.bool s,v],.agg #[.bool t,w]] [Dr v x.natAbs,Dr w y.natAbs] true (G:=Bool×Value) (λr=>sg r.1 (x+y)) (λr=> .agg #[.bool r.1,r.2]) (λr=>[Dr r.2 (x+y).natAbs]):=by
 refine Zh func170 ntmps170 λu q p f=>go 2 ?_;refine Yg (Yp 3) λb _=>Yg (Yp 4) λl _=>Yg (Zy 5) λm _=>go 14 ?_;refine Nu J (λd=>?_) (λd=>?_)
 .have c:s=t:=by simpa using d
  refine go 1 ?_;refine Qd (λ_=>False) [(0,0),(1,0),(2,0),(3,0),(4,0),(5,0),(6,1),(7,0),(8,3)]<|go 6 ?_;refine Yv (Zm 6 [1,2] (Yb6 i j)) λv _=>?_;refine Xh J J (Xm (Qf [(0,_),(1,_)] J K4 (λa w hs=>Ii ((Yd J) a w hs) ((Oo 6 J Zq) a w hs))))<|go 6 ?_;exact Xj f (_,_) results170 J (Yay hs (c▸g)) (Pq 6 Za (by rw [Zh4 hs (c▸g)]))
 .have c:s≠t:=by simpa using d
  refine go 6 ?_;refine cl 6 [1,2] (Zdg i j) λr k=>go 4 ?_;refine Ze J (λh=>?_) (λh=>?_)
  .have e:y.natAbs<=x.natAbs:=by have:=k.1;omega
   refine go 1 ?_;refine Qd (λ_=>False) [(0,0),(1,0),(2,0),(3,0),(4,0),(5,0),(6,1),(7,0),(8,3)]<|go 6 ?_;refine Yv (Zm 7 [1,2] (Zg6 i)) λn _=>?_;refine Xh J J (Xm (Qf [(0,_),(1,_)] J K4 (λa w hs=>Ii ((Yd J) a w hs) ((Oo 7 J Zq) a w hs))))<|go 6 ?_;exact Xj f (_,_) results170 J (Zki hs g c e) (Pq 7 Za (by rw [Zbz hs g c e]))
  .have e:x.natAbs<=y.natAbs:=by have:=k.1;omega
   refine go 4 ?_;refine Qd (λ_=>False) [(0,0),(1,0),(2,0),(3,0),(4,0),(5,0),(6,1),(7,0),(8,3)]<|go 6 ?_;refine Yv (Zm 8 [2,1] (Zg6 j)) λo _=>?_;refine Xh J J (Xm (Qf [(0,_),(1,_)] J K4 (λa w hs=>Ii ((Yd J) a w hs) ((Oo 8 J Zq) a w hs))))<|go 4 ?_;exact Xj f (_,_) results170 J (by rw [iV];exact Zki g hs (gX c) e) (Pq 8 Za (by rw [iV,Zbz g hs (gX c) e]))
theorem Nj(hs:sg s x)(e:bl x.natAbs<=4294967296:=by omega):Cal prog 166 #[.agg #[.bool s,.string (Qq x.natAbs)]] [] true (G:=Bool×Value) (λr=>sg r.1 x) (λr=> .agg #[.bool r.1,r.2]) (λr=>[Dr r.2 x.natAbs]):=by refine Zh func166 ntmps166 λh g f c=>go 2 ?_;refine Yg (Yp 1) λb _=>Yg (Zy 2) λd _=>go 3 ?_;refine Qd (λ_=>False) [(0,0),(1,0),(2,0),(3,0),(4,1),(5,0),(6,3)]<|go 4 ?_;refine Yv (Zm 3 [] (Zd5 e)) λv _=>?_;refine Xh J J (Xm (Qf [(0,_),(1,_)] J K4 (λa w hs=>Ii ((Yd J) a w hs) ((Oo 3 J Zq) a w hs))))<|go 4 ?_;exact Xj c (_,_) results166 J hs (Pq 3 Za J)
theorem Gd(hs:sg s x)(g:bl x.natAbs<=4294967296:=by omega):Qa prog 184 #[.agg #[.bool s,v]] [Dr v x.natAbs] (Ze5 x):=by
 refine Zh func184 ntmps184 λi h f d=>go 2 ?_;refine Yg (Yp 2) λb _=>Yg (Zy 3) λe _=>go 8 ?_;refine cl 3 [1] Zmn λ_ _=>go 3 ?_;refine Ze J (λc=>?_) (λc=>?_)
 .refine go 2 ?_;refine dt (Qf [] J aA (λa w hs=>b80_))<|go 6 ?_;exact Mj d () results184 (Yem c) aA Za
 .refine go 3 ?_;cases s
  .refine Qd (λ_=>False) [(0,0),(1,0),(2,0),(3,2),(4,2),(5,2),(6,2),(7,0),(8,0),(9,0),(10,1),(11,0),(12,3),(13,3)]<|go 10 ?_;refine Yv (Zm 3 [1] Zpm) λ_ _=>?_;refine Xh J J (Xm (Qf [(0,_),(1,_)] J K4 (λa w hs=>Zz3 ((Yd J) a w hs) ((Yd J) a w hs))))<|go 5 ?_;exact Mj d () results184 (by first|exact Zty hs c|exact Ztx hs c) aA Za
  .refine Qd (λ_=>False) [(0,0),(1,0),(2,0),(3,0),(4,0),(5,0),(6,0),(7,0),(8,0),(9,0),(10,1),(11,0),(12,3),(13,3)]<|go 10 ?_;refine Yv (Zm 3 [1] Zpm) λ_ _=>?_;refine Xh J J (Xm (Qf [(0,_),(1,_)] J K4 (λa w hs=>Zz3 ((Yd J) a w hs) ((Yd J) a w hs))))<|go 5 ?_;exact Mj d () results184 (by first|exact Zty hs c|exact Ztx hs c) aA Za
theorem Zg3(x y:Int)(hs:sg s x)(m:sg t y)(M:bl y.natAbs<=3000000000)(i:y≠0)(I:bl x.natAbs<=3000000000:=by omega):Cal prog 218 #[.agg #[.bool s,v],.agg #[.bool t,w]] [Dr v x.natAbs,Dr w y.natAbs] true (G:=Bool×Value×Value) (λr=>sg r.1 (x/y)) (λr=> .tuple #[.agg #[.bool r.1,r.2.1],.agg #[.bool false,r.2.2]]) (λr=>[Dr r.2.1 (x/y).natAbs,Dr r.2.2 (x%y).natAbs]):=by
 refine Zh func218 ntmps218 λP N z f=>?_;have F:=Mo x.natAbs;have H:=Mo y.natAbs;have j:0<y.natAbs:=O;have l:x.natAbs%y.natAbs<y.natAbs:=bJ _ j;have u:=Og (dO l);have q:=Og (dX x.natAbs y.natAbs);refine go 2 ?_;refine Yg (Yp 3) λb _=>Yg (Yp 4) λn _=>Yg (Zy 5) λo _=>Yg (Zy 6) λp _=>go 8 ?_;refine cl 7 [1,2] (Yb5 O O j) λg _=>go 13 ?_;refine Zhg 18 J (λe=>?_) (λe=>?_)
 .refine go 6 ?_;refine Ze J (λc=>?_) (λc=>?_)
  .subst e;have k:0<x.natAbs%y.natAbs:=by rcases aV (x.natAbs%y.natAbs)with h|h;(rw [h]at c;simp [Gq]at c);exact h
   have d:=divA hs m i k;refine Qd (λ_=>False) [(0,0),(3,0),(4,0),(5,0),(1,1),(2,1),(6,1),(7,0),(8,3)]<|go 4 ?_;refine Ko J (Xs [(0,_)] 9 (enc:=Lc) (dg U 1) J J K2 Oh ti232 J J J J J pU.cells J J z.h) λv _=>Yv (Zm 10 [7,9] (Yb6 O (show bl 1<=4294967296 by decide))) λB _=>Yv (Zm 11 [2,8] (Zg6 O)) λD _=>go 12 ?_;refine dt (Qf [(0,_),(1,_)] J K4 (λa w hs=>Ii ((Yd J) a w hs) ((Oo 10 J Zq) a w hs)))<|go 1 ?_;refine dt (Qf [(0,_),(1,_)] J K4 (λa w hs=>Ii ((Yd J) a w hs) ((Oo 11 J Zq) a w hs)))<|go 5 ?_;exact Mj f (_,_,_) results218 J d.1 (Pq 10 (Pq 11 Za (by rw [d.2.2]<;>rfl)) (by rw [d.2.1]<;>rfl))
  .have d:=divB hs m i (.inr ((Ok Qc _).1 O));refine go 10 ?_;refine dt (Qf [(0,_),(1,_)] J K4 (λa w hs=>Ii ((Yd J) a w hs) ((Oo 7 J Zq) a w hs)))<|go 1 ?_;refine dt (Qf [(0,_),(1,_)] J K4 (λa w hs=>Ii ((Yd J) a w hs) ((Oo 8 J Zq) a w hs)))<|go 5 ?_;exact Mj f (_,_,_) results218 J d.1 (Pq 7 (Pq 8 Za (by rw [d.2.2]<;>rfl)) (by rw [d.2.1]<;>rfl))
 .have d:=divB hs m i (.inl e);refine go 17 ?_;refine dt (Qf [(0,_),(1,_)] J K4 (λa w hs=>Ii ((Yd J) a w hs) ((Oo 7 J Zq) a w hs)))<|go 1 ?_;refine dt (Qf [(0,_),(1,_)] J K4 (λa w hs=>Ii ((Yd J) a w hs) ((Oo 8 J Zq) a w hs)))<|go 5 ?_;exact Mj f (_,_,_) results218 J d.1 (Pq 7 (Pq 8 Za (by rw [d.2.2]<;>rfl)) (by rw [d.2.1]<;>rfl))
variable {P:Program} {N:Nat} {sc:Nat->Prop} {M:Nat->Prop} {env:Pu} {H:Hp} {Q:Exit->Act->World->Prop}
structure BAct (i:Nat) (A:Prop):Prop where h:A
def bq(i:Nat){A:Prop}(h:A):BAct i A:=⟨h⟩
theorem Yej {l:List Oper}  {n:Nat}  (i k:Nat) (a:(Region.noSelect l.toArray && Fq l.toArray ts [(i,k)] listed)=true)
  (h:LD P N sc M l.toArray (A P N sc M l.toArray ts Q n (Ev [(i,k)] listed)) [(i,k)] env H):A P N sc M l.toArray ts Q (n+1) listed env H:=
 Zj _ [(i,k)] h (by rw [a,mV];show Nat.beq (1+n) (n+1)=true;rw [iC];exact Nat.beq_refl _)
theorem Ygy    {n:Nat} (i:Nat) (c:((Region.ready .any ops listed == [i]) && !(Fm ops ts listed) && !([i]:List Nat).isEmpty)=true)
  (a:BAct i (Zf8 P N sc M ops ts Q n listed env H i)):A P N sc M ops ts Q (n+1) listed env H:=Yoc [i] c λq b=>by
 rw [bI.1 b];exact a.h
theorem Zz8    {n:Nat} (i j:Nat) (d:((Region.ready .any ops listed == [i,j]) && !(Fm ops ts listed) && !([i,j]:List Nat).isEmpty)=true)
  (b:BAct i (Zf8 P N sc M ops ts Q n listed env H i)) (c:BAct j (Zf8 P N sc M ops ts Q n listed env H j)):A P N sc M ops ts Q (n+1) listed env H:=Yoc [i,j] d λq a=>by
 simp only [bB,dI,gR]at a;rcases a with rfl|rfl
 .exact b.h
 .exact c.h
theorem a_b3    {n:Nat} (i j k:Nat) (e:((Region.ready .any ops listed == [i,j,k]) && !(Fm ops ts listed) && !([i,j,k]:List Nat).isEmpty)=true)
  (b:BAct i (Zf8 P N sc M ops ts Q n listed env H i)) (c:BAct j (Zf8 P N sc M ops ts Q n listed env H j)) (d:BAct k (Zf8 P N sc M ops ts Q n listed env H k)):A P N sc M ops ts Q (n+1) listed env H:=Yoc [i,j,k] e λq a=>by
 simp only [bB,dI,gR]at a;rcases a with rfl|rfl|rfl
 .exact b.h
 .exact c.h
 .exact d.h
end Go.Sky
namespace Go.Sky
open Go.Proofs.Tryz
open Go.Proofs
set_option synthInstance.maxHeartbeats 0
set_option synthInstance.maxSize 100000
set_option maxRecDepth 20000
set_option linter.unusedSimpArgs false
variable{b:Bool}{x y:Int}{t:TypeId}{v u:Value}{xs ys:List Int}{bd:Nat}
theorem Zb4{s:ByteArray}:Qa prog 178 #[.agg #[.bool b,.string s]] [] (.bool (okW b s)):=by
 refine Zh func178 ntmps178 λg f e c=>go 2 ?_;refine Yg (Yp 1) λb _=>go 8 ?_;refine dt (Zzh J J J J)<|go 2 ?_;refine Ze J (λa=>?_) (λa=>?_)
 .refine go 10 ?_;exact Xj c () results178 (by unfold okW;rw [aM a]) aA Za
 .refine go 6 ?_;refine dt (Yde (i:=0) J J J uT9 J O)<|go 2 ?_;refine Xd 13 J (λd=>?_) (λd=>?_)
  .refine go 9 ?_;exact Xj c () results178 (by unfold okW;rw [aG a];simp_all<;>omega) aA Za
  .refine go 9 ?_;exact Xj c () results178 (by unfold okW;rw [aG a];simp_all<;>omega) aA Za
def Kt(a:bl x.natAbs<=65536):Cal prog 178 #[wv x] [] false (G:=Unit) (λ_=>True) (λ_=> .bool true) (λ_=>[]):=Zdf a▸Zb4
theorem Zon(b:Bool)(s:ByteArray)(c:Bool)(t:ByteArray):Qa prog 228 #[.agg #[.bool b,.string s],.agg #[.bool c,.string t]] [] (.bool (okW b s && okW c t)):=by
 refine Zh func228 ntmps228 λh g f a=>go 2 ?_;refine Yg (Yp 1) λb _=>Yg (Yp 2) λe _=>go 6 ?_;refine cl 2 [] Zb4 λ_ _=>go 1 ?_;refine Zhg 7 J (λd=>?_) (λd=>?_)
 .refine go 1 ?_;refine Dm 2 [] Zb4 λ_ _=>go 5 ?_;exact Xj a () results228 O10 aA Za
 .refine go 7 ?_;exact Xj a () results228 O10 aA Za
theorem Iv(a:bl x.natAbs<=65536)(c:bl y.natAbs<=65536):Qa prog 228 #[wv x,wv y] [] (.bool true):=by have h:=Zon (decide (x<0)) (Qq x.natAbs) (decide (y<0)) (Qq y.natAbs);rw [Zdf a,Zdf c]at h;exact h
theorem Hl(e:bl x.natAbs<=65536):Qa prog 237 #[wv x] [] (.int .i64 x.sign):=by refine Zh func237 ntmps237 λh f d a=>go 2 ?_;refine Yg (Yp 1) λb _=>go 7 ?_;refine cl 1 [] (Kt ‹_›) λ_ _=>go 9 ?_;refine cl 2 [] (Nj (Qr _)) λg c=>cl 2 [2] (Zmm ‹_›) λ_ _=>go 4 ?_;exact Xj a () results237 J aA Za
theorem Zlf(d:bl x.natAbs<=65536):Qa prog 240 #[wv x] [] (.int .i64 (bl x.natAbs:Int)):=by refine Zh func240 ntmps240 λf e c a=>go 2 ?_;refine Yg (Yp 1) λb _=>go 7 ?_;refine cl 1 [] (Kt ‹_›) λ_ _=>go 10 ?_;refine cl 2 [] Zd5 λv _=>cl 2 [2] Zmn λ_ _=>go 4 ?_;exact Xj a () results240 J aA Za
theorem Zt2(m:bl x.natAbs<=65536)(n:bl y.natAbs<=65536):Qa prog 180 #[wv x,wv y] [] (Ze5 (x+y)):=by refine Zh func180 ntmps180 λp o l a=>?_;have j:=He x y;refine go 2 ?_;refine Yg (Yp 1) λb _=>Yg (Yp 2) λe _=>Yg (Zy 3) λf _=>go 8 ?_;refine cl 3 [] (Iv ‹_› ‹_›) λ_ _=>go 7 ?_;refine Qd (λ_=>False) [(0,0),(2,0),(1,1),(3,1),(4,1),(5,1),(6,0),(7,0),(8,3),(9,3)]<|go 2 ?_;refine Yv (Zm 4 [] (Nj (Qr _))) λg k=>Yv (Zm 5 [] (Nj (Qr _))) λh c=>Yv (Zm 6 [4,5] (Zg4 ‹_› ‹_›)) λi d=>Yv (Zm 6 [6] (Gd ‹_›)) λ_ _=>go 7 ?_;exact Mj a () results180 J aA Za
theorem Yg6(p:bl x.natAbs<=65536)(q:bl y.natAbs<=65536):Qa prog 239 #[wv x,wv y] [] (Ze5 (x-y)):=by refine Zh func239 ntmps239 λs r o a=>?_;have m:=Aa x y;have l:=Znx y;refine go 2 ?_;refine Yg (Yp 1) λb _=>Yg (Yp 2) λf _=>Yg (Zy 3) λh _=>go 8 ?_;refine cl 3 [] (Iv ‹_› ‹_›) λ_ _=>go 7 ?_;refine Qd (λ_=>False) [(0,0),(2,0),(1,1),(3,1),(4,1),(5,1),(6,1),(7,0),(8,0),(9,3),(10,3)]<|go 2 ?_;refine Yv (Zm 4 [] (Nj (Qr _))) λg n=>Yv (Zm 5 [] (Nj (Qr _))) λi c=>Yv (Zm 6 [5] (Zro ‹_›)) λj d=>Yv (Zm 7 [4,6] (Zg4 ‹_› ‹_›)) λk e=>Yv (Zm 7 [7] (Gd ‹_› (by rw [<-eU];omega))) λ_ _=>go 7 ?_;exact Mj a () results239 (by rw [eU]<;>rfl) aA Za
theorem Ztz(m:bl x.natAbs<=65536)(n:bl y.natAbs<=65536):Qa prog 234 #[wv x,wv y] [] (Ze5 (x*y)):=by refine Zh func234 ntmps234 λp o l a=>?_;have j:=Yr x y;refine go 2 ?_;refine Yg (Yp 1) λb _=>Yg (Yp 2) λe _=>Yg (Zy 3) λf _=>go 8 ?_;refine cl 3 [] (Iv ‹_› ‹_›) λ_ _=>go 7 ?_;refine Qd (λ_=>False) [(0,0),(2,0),(1,1),(3,1),(4,1),(5,1),(6,0),(7,0),(8,3),(9,3)]<|go 2 ?_;refine Yv (Zm 4 [] (Nj (Qr _))) λg k=>Yv (Zm 5 [] (Nj (Qr _))) λh c=>Yv (Zm 6 [4,5] (Zel ‹_› ‹_›)) λi d=>Yv (Zm 6 [6] (Gd ‹_›)) λ_ _=>go 7 ?_;exact Mj a () results234 J aA Za
theorem Zt1(x y:Int)(j:bl x.natAbs<=65536)(k:bl y.natAbs<=65536):Qa prog 188 #[wv x,wv y] [] (Ze5 (Int.gcd x y:Int)):=by refine Zh func188 ntmps188 λm l i c=>?_;have h:=Ztk x.natAbs y.natAbs;refine go 2 ?_;refine Yg (Yp 1) λb _=>Yg (Yp 2) λd _=>Yg (Zy 3) λe _=>go 8 ?_;refine cl 3 [] (Iv ‹_› ‹_›) λ_ _=>go 7 ?_;refine Qd (λ_=>False) [(0,0),(1,0),(3,0),(4,0),(2,1),(5,1),(6,1),(7,0),(8,1),(9,0),(10,0),(11,3),(12,3)]<|go 4 ?_;refine Yv (Zm 4 [] Zd5) λv _=>Yv (Zm 5 [] Zd5) λf _=>Yv (Zm 6 [4,5] Zrs) λg _=>?_;refine Xh J J (Xm (Qf [(0,_),(1,_)] J K4 (λa w hs=>Ii ((Yd J) a w hs) ((Oo 6 J Zq) a w hs))))<|Yv (Zm 6 [6] (Gd (s:=false) (x:=(Int.gcd x y:Int)) (by simp [sg]) (by show bl (Nat.gcd x.natAbs y.natAbs)<=_;omega))) λ_ _=>go 7 ?_;exact Mj c () results188 J aA Za
theorem Ai(I:bl x.natAbs<=65536)(M:bl y.natAbs<=65536)(c:y≠0):Qa prog 179 #[wv x,wv y] [] (.tuple #[wv (Zbv (x/y)),wv (Zbv (x%y)),.int .i64 0]):=by
 refine Zh func179 ntmps179 λR Q z d=>?_;have F:=Zld x y;have p:=Ztj x y c;refine go 2 ?_;refine Yg (Yp 1) λb _=>Yg (Yp 2) λh _=>Yg (Zy 3) λj _=>Yg (Zy 4) λk _=>go 8 ?_;refine cl 4 [] (Iv ‹_› ‹_›) λ_ _=>go 11 ?_;refine dt (Zzh J J J J)<|go 2 ?_;refine Ze J (λa=>?_) (λa=>?_)
 .rw [Ee]at a;exfalso;exact c (by have:=(Ok (by omega:2<=256) y.natAbs).1 a;omega)
 .refine go 2 ?_;refine jn (G:=Bool×Value×Value×Nat×Nat) [4,5] [0,1,2,3,4] (λq=>[(7,.pointer (some ⟨q.2.2.2.1,0,none⟩)),(8,.pointer (some ⟨q.2.2.2.2,0,none⟩))]) (λq=>[(84,Dr q.2.1 (x/y).natAbs),(85,Dr q.2.2.1 (x%y).natAbs),(86,box q.2.2.2.1 219 #[.bool q.1,q.2.1]),(87,box q.2.2.2.2 219 #[.bool false,q.2.2.1])]) (λq=>sg q.1 (x/y)) ?_ ?_
  .refine Pm [1,2] [11]<|Zj 10 [(0,0),(2,0)]<|go 3 ?_
   repeat' first|refine bq 1 ?_;refine Ou (Zm 81 [] (Nj (Qr _))) λg H=>?_|refine bq 3 ?_;refine Ou (Zm 82 [] (Nj (Qr _))) λn e=>?_|refine bq 4 ?_;refine Ou (Zm 84 [81,82] (Zg3 _ _ ‹_› ‹_› O c)) λo f=>?_|refine bq 8 ?_;refine Ou (Qe 86) λl r=>?_|refine bq 9 ?_;refine Ou (Qe 87) λm s=>?_|refine bq 10 ?_;refine Kg rfl rfl (t_stw (i:=86) rfl rfl rfl rfl rfl O3 rfl sizeOf219 rfl rfl ⟨Yd rfl,Oo 84 rfl Zq,aA⟩ rfl z.h r.h) (λ_ _=>?_)|refine a_b3 1 8 9 O7 ?_ ?_ ?_|refine Zz8 1 8 O7 ?_ ?_|refine Ygy 1 O7 ?_|refine Ygy 3 O7 ?_|refine Ygy 4 O7 ?_|refine Ygy 10 O7 ?_|refine Zz8 3 8 O7 ?_ ?_|refine Zz8 4 8 O7 ?_ ?_|refine Ygy 8 O7 ?_|refine Zz8 1 9 O7 ?_ ?_|refine Zz8 3 9 O7 ?_ ?_|refine Zz8 4 9 O7 ?_ ?_|refine Ygy 9 O7 ?_|refine a_b3 3 8 9 O7 ?_ ?_ ?_|refine a_b3 4 8 9 O7 ?_ ?_ ?_|refine Zz8 8 9 O7 ?_ ?_|refine Yej 5 0 O7 ?_;refine go 2 ?_|refine Yej 6 0 O7 ?_;refine go 2 ?_|refine Yej 7 0 O7 ?_;refine go 2 ?_|refine Yej 11 3 O7 ?_;refine go 2 ?_|refine Zt ?_ O7;exact Oe (_,_,_,_,_) ‹_› ⟨rfl,rfl,aA⟩ ⟨rfl,rfl,rfl,rfl,aA⟩
  .rintro⟨N,qv,P,B,D⟩ w;dsimp only at w;dsimp only;refine go 3 ?_;refine cl 4 [84] (Gd ‹_›) λ_ _=>go 9 ?_;refine cl 4 [85] (Gd (Ypq x c)) λ_ _=>go 7 ?_;refine Pm [4] [3,4]<|Zj 0 [(1,0),(0,1),(2,1),(3,3),(4,3)]<|go 6 ?_;refine Zt<|go 2 ?_;exact xe3 d () results179 J aA Za
theorem Zcz{s t:Bool}{w:Value}(hs:sg s x)(m:sg t y)(k:y≠0)(Y:bl x.natAbs<=1000000000:=by omega)(Z:bl y.natAbs<=1000000000:=by omega):Qa prog 165 #[.agg #[.bool s,v],.agg #[.bool t,w]] [Dr v x.natAbs,Dr w y.natAbs] (Zcf x y):=by
 refine Zh func165 ntmps165 λw0 sc W c=>?_;have S:=Ztk x.natAbs y.natAbs;have e:Kq x y≠0:=Yq7 k;have h:sg t (Kq x y):=Ypo m k;have f:=Zdh x y;have P:=Zld x (Kq x y);have Q:=Zld y (Kq x y);refine go 2 ?_;refine Yg (Yp 3) λb _=>Yg (Yp 4) λq _=>Yg (Zy 5) λr _=>go 4 ?_;refine Kr (λ_=>False) [9]<|Zj 4 [(0,0),(1,0),(2,0),(3,0),(4,0),(5,0)]<|go 7 ?_;refine Qy 3 6 8 ?_ ?_
 .refine Ou (Zm 81 [1,2] Zrs) λv _=>?_;refine Zj 0 [(7,0),(8,1),(9,3)]<|Xh J J (Xm (Qf [(0,_),(1,_)] J K4 (λa w hs=>Ii ((Yd J) a w hs) ((Oo 81 J Zq) a w hs))))<|Yv (Zy 82) λz _=>go 2 ?_;refine Zt<|go 2 ?_;refine Zf (Nq 81 (Ycc x y) J J)<|go 3 ?_;refine cl 6 [1,81] (Zg3 x (Kq x y) hs h (by rw [f];omega) e) λg V=>go 10 ?_;refine cl 8 [2,81] (Zg3 y (Kq x y) m h (by rw [f];omega) e) λI n=>go 9 ?_;refine cl 9 [6] (Gd ‹_›) λ_ _=>go 3 ?_;refine Yg (Zy 10) λB _=>go 7 ?_;refine cl 10 [8] (Gd ‹_›) λ_ _=>go 3 ?_;refine Yg (Zy 11) λD _=>go 10 ?_;refine Xd 43 J (λl=>?_) (λl=>?_)
  .refine go 8 ?_;refine dt (Qf [] J aA (λa w hs=>Ygv))<|go 6 ?_;exact Mj c () results165 (Zce (by unfold Ij;first|exact .inl (Zau ‹_›)|exact .inr (Zau ‹_›))) aA Za
  .refine go 5 ?_;refine Ze J (λj=>?_) (λj=>?_)
   .refine go 2 ?_;refine dt (Qf [] J aA (λa w hs=>Ygv))<|go 6 ?_;exact Mj c () results165 (Zce (by unfold Ij;first|exact .inl (Zau ‹_›)|exact .inr (Zau ‹_›))) aA Za
   .refine go 6 ?_;refine dt (Qf [(0,_),(1,_)] J K4 (λa w hs=>Zn1))<|go 5 ?_;exact Mj c () results165 (Zu5 (bR ‹_›) (bR ‹_›)) aA Za
 .refine Ou (Zy 82) λF _=>?_;refine Zj 0 [(6,1),(7,0),(9,3)]<|Yv (Zm 81 [1,2] Zrs) λR _=>?_;refine Xh J J (Xm (Qf [(0,_),(1,_)] J K4 (λa w hs=>Ii ((Yd J) a w hs) ((Oo 81 J Zq) a w hs))))<|go 2 ?_;refine Zt<|go 2 ?_;refine Zf (Nq 81 (Ycc x y) J J)<|go 3 ?_;refine cl 12 [1,81] (Zg3 x (Kq x y) hs h (by rw [f];omega) e) λM o=>go 10 ?_;refine cl 14 [2,81] (Zg3 y (Kq x y) m h (by rw [f];omega) e) λN p=>go 9 ?_;refine cl 15 [12] (Gd ‹_›) λ_ _=>go 3 ?_;refine Yg (Zy 16) λG _=>go 7 ?_;refine cl 16 [14] (Gd ‹_›) λ_ _=>go 3 ?_;refine Yg (Zy 17) λH _=>go 10 ?_;refine Xd 43 J (λi=>?_) (λi=>?_)
  .refine go 8 ?_;refine dt (Qf [] J aA (λa w hs=>Ygv))<|go 6 ?_;exact Mj c () results165 (Zce (by unfold Ij;first|exact .inl (Zau ‹_›)|exact .inr (Zau ‹_›))) aA Za
  .refine go 5 ?_;refine Ze J (λd=>?_) (λd=>?_)
   .refine go 2 ?_;refine dt (Qf [] J aA (λa w hs=>Ygv))<|go 6 ?_;exact Mj c () results165 (Zce (by unfold Ij;first|exact .inl (Zau ‹_›)|exact .inr (Zau ‹_›))) aA Za
   .refine go 6 ?_;refine dt (Qf [(0,_),(1,_)] J K4 (λa w hs=>Zn1))<|go 5 ?_;exact Mj c () results165 (Zu5 (bR ‹_›) (bR ‹_›)) aA Za
theorem Zfk(l:bl x.natAbs<=65536)(m:bl y.natAbs<=65536)(c:y≠0:=by omega):Qa prog 221 #[wv x,wv y] [] (Zcf x y):=by
 refine Zh func221 ntmps221 λo n k d=>go 2 ?_;refine Yg (Yp 1) λb _=>Yg (Yp 2) λf _=>Yg (Zy 3) λh _=>go 8 ?_;refine cl 3 [] (Iv ‹_› ‹_›) λ_ _=>go 11 ?_;refine dt (Zzh J J J J)<|go 2 ?_;refine Ze J (λa=>?_) (λa=>?_)
 .rw [Ee]at a;exfalso;exact c (by have:=(Ok (by omega:2<=256) y.natAbs).1 a;omega)
 .refine go 3 ?_;refine Qd (λ_=>False) [(0,0),(2,0),(1,1),(3,1),(4,1),(5,0),(6,0),(7,3),(8,3)]<|go 2 ?_;refine Yv (Zm 4 [] (Nj (Qr _))) λg j=>Yv (Zm 5 [] (Nj (Qr _))) λi e=>Yv (Zm 5 [4,5] (Zcz ‹_› ‹_› c)) λ_ _=>go 7 ?_;exact Mj d () results221 J aA Za
theorem Zj2{s:ByteArray}{c:Bool}{t:ByteArray}:Qa prog 216 #[.agg #[.bool b,.string s,.bool c,.string t]] [] (.bool (okR b s c t)):=by
 refine Zh func216 ntmps216 λl k j g=>go 2 ?_;refine Yg (Yp 1) λb _=>go 9 ?_;refine cl 1 [] (Zon _ _ _ _) λ_ _=>go 1 ?_;refine Zhg 8 J (λh=>?_) (λh=>?_)
 .have i:okW c t=true:=O10;have d:=Zrl i;obtain⟨a,e,f⟩:=Classical.choose_spec d;generalize Classical.choose d=z at a e f ⊢;subst e;subst f
  try clear d
  refine go 2 ?_;refine Dm 1 [] (Hl (x:=z) a) λ_ _=>go 6 ?_;exact Xj g () results216 (by first|rw [Zvn O10 a]|(unfold okR;simp_all)) aA Za
 .refine go 9 ?_;exact Xj g () results216 (by first|rw [Zvn O10 a]|(unfold okR;simp_all)) aA Za
def Lv(c:bl x.natAbs<=65536)(d:bl y.natAbs<=65536)(a:0<y):Cal prog 216 #[rX x y] [] false (G:=Unit) (λ_=>True) (λ_=> .bool true) (λ_=>[]):=okR_wv c d a▸Zj2
theorem Yb(x:Int)(f:Nw x:=by exact⟨O,O⟩):Qa prog 131 #[.int .i64 x] [] (wv x):=by
 refine Zh func131 ntmps131 λm l h e=>?_;have i:=f.1;have j:=f.2;have d:x.natAbs<U:=by simp only [U];omega
 have k:bl x.natAbs<=64:=(Qo 64 _).2 (by rw [<-Yod];exact d);refine go 2 ?_;refine Yg (Zy 1) λb _=>go 5 ?_;refine dt (Yr7 (r:=x%18446744073709551616) J J uT3 Zbb J)<|go 3 ?_;refine jn (G:=Unit) [0,2] [0,1] (λ_=>[(3,.int .u64 ((x.natAbs:Nat):Int))]) (λ_=>[]) (λ_=>True) ?_ ?_
 .refine go 6 ?_;refine Ze J (λc=>?_) (λc=>?_)
  .refine go 2 ?_;refine dt (Yhe x.natAbs J J O)<|go 2 ?_;exact Oe () aA ⟨by first|rfl|(rw [show x%18446744073709551616=((x.natAbs:Nat):Int) by omega];rfl),aA⟩ aA
  .refine go 1 ?_;exact Oe () aA ⟨by first|rfl|(rw [show x%18446744073709551616=((x.natAbs:Nat):Int) by omega];rfl),aA⟩ aA
 .rintro _ -;refine go 5 ?_;refine tt (Xs [(0,_)] 2 (enc:=Lc) [x.natAbs] J J K2 Oh ti232 J J J J J pU.cells J J h.h) λv _=>cl 2 [2] Oq λ_ _=>?_;refine Xe (Zbh 2 J J pU)<|Xe (Ze8 2 (Zib d) J J)<|dt (Qf [(0,_),(1,_)] J K4 (λa w hs=>Ii ((Yd J) a w hs) ((Oo 2 J (Ya pU)) a w hs)))<|cl 2 [2] (Gd (x:=x) (Qr _)) λ_ _=>go 3 ?_;refine Yg (Zy 3) λg _=>go 11 ?_;exact Xj e () results131 (by rw [Hd O]<;>rfl) aA Za
theorem Zej(hs:Sz 65536 xs):Cal prog 189 #[v] [Yy 2 wv v xs] true (G:=Unit) (λ_=>True) (λ_=>Kw v (tzl xs).length) (λ_=>[Yy 2 wv (Kw v (tzl xs).length) (tzl xs)]):=by
 refine Zh func189 ntmps189 λp o n d=>?_;refine Qi (Zy7 (i:=1) J Zq) (λa=>?_);refine Qi (Od (i:=1) J Zq) λm=>go 7 ?_;refine lp (G:=Nat) [] [0] (λk=>[(0,Kw v k)]) (λk=>[(1,Yy 2 wv (Kw v k) (xs.take k))]) (λk=>(k<=xs.length)/\(tzl (xs.take k)=tzl xs)) (λk=>k) xs.length ⟨aI _,by rw [bQ]⟩ ⟨by rw [a];rfl,aA⟩ ⟨by rw [a,bQ];rfl,aA⟩ ?_;rintro k ⟨h,j⟩;have f:(xs.take k).length=k:=by rw [cD];omega
 refine go 7 ?_;refine Xd 6 J (λl=>?_) (λl=>?_)
 .refine go 4 ⟨O,?_⟩;refine Fj (Zv 1 (k-1) J J J J Zq Mu Kl) J J<|go 1 ⟨O,?_⟩;refine Dm 1 [] (Hl ((hs.take _).getD _)) λ_ _=>go 4 ?_;refine Ze J (λg=>?_) (λg=>?_)
  .have c:=Zt6 h O (Zlp k O (eD.1 ‹_›):cf xs (k-1)=0);refine go 8 ⟨O,?_⟩;refine dt (Ydc 1 (k-1) J J J J Zq Mu Kl)<|go 3 ?_;exact Zs (Yit 1 1 (k-1) J J)<|Yf (k-1) ⟨O1,by rw [<-j,<-c]⟩ O1 ⟨by rw [<-Fx v k (k-1)];rfl,aA⟩ ⟨by rw [Fx,gP,dJ O];rfl,aA⟩
  .refine go 12 ?_;have e:tzl xs=xs.take k:=by rw [<-j];exact Zgg h (by first|(left;omega)|(right;exact Zgj k O ‹_›))
   exact Xj d () results189 (by rw [e,f]) aA (Pq 1 Za (by rw [e,f]))
 .refine go 24 ?_;have e:tzl xs=xs.take k:=by rw [<-j];exact Zgg h (by first|(left;omega)|(right;exact Zgj k O ‹_›))
  exact Xj d () results189 (by rw [e,f]) aA (Pq 1 Za (by rw [e,f]))
theorem Zyl(v:Value)(r:List (Bool×ByteArray)):Qa prog 190 #[v] [Yy 2 Zzc v r] (.bool (okP r)):=by
 refine Zh func190 ntmps190 λz s p a=>?_;refine Qi (Od (i:=1) J Zq) λg=>go 14 ?_;refine lp (G:=Nat) [0,5,6] [0,1] (λk=>[(7,.int .i64 (k:Int))]) (λk=>[]) (λk=>(k<=r.length)/\((r.take k).all (λw=>okW w.1 w.2)=true)) (λk=>r.length-k) 0 ⟨O1,O5⟩ K1 aA ?_;rintro k ⟨o,l⟩;refine go 6 ?_;refine Ze J (λj=>?_) (λj=>?_)
 .refine go 7 ⟨O2,?_⟩;refine dt (Ys 1 (false,⟨#[]⟩) J J J Zq pW O2)<|Yg (Zy 2) λb _=>go 6 ?_;refine cl 2 [] Zb4 λ_ _=>go 3 ?_;refine Nu J (λf=>?_) (λf=>?_)
  .refine go 11 ?_;exact Xj a () results190 (by rw [Yqt (Zd (i:=k) (d:=(false,⟨#[]⟩)) O) O10]) aA Za
  .refine go 7 ⟨O,?_⟩;exact Yf (k+1) ⟨O1,by rw [Po (false,⟨#[]⟩) _ _ O,mC,l];simpa using f⟩ O1 K1 aA
 .refine go 6 ?_;obtain rfl:k=r.length:=O;rw [bQ]at l;obtain⟨xs,c,rfl⟩:=Zvm (cJ.1 l);have m:=Sz.of_mem c;rw [aT]at g;refine Zf (Zqp 1 (q:=Yy 2 wv v xs) J J (Ypi v xs) (λ_ h=>fpn h) J)<|go 5 ?_;refine Xd 18 J (λn=>?_) (λn=>?_)
  .refine go 4 ?_;refine Xd 22 J (λe=>?_) (λe=>?_)
   .refine go 14 ?_;exact Xj a () results190 (by rw [Zrm c];first|(simp_all;done)|(simp_all;omega)) aA Za
   .refine go 4 ⟨O,?_⟩;refine Fj (Zv 1 (xs.length-1) J J J J Zq Mu Kl) J J<|go 1 ⟨O,?_⟩;refine Dm 2 [] (Hl (m.getD _)) λ_ _=>go 7 ?_;exact Xj a () results190 (by rw [Zrm c];first|(simp_all;done)|(simp_all;omega)) aA Za
  .refine go 18 ?_;exact Xj a () results190 (by rw [Zrm c];first|(simp_all;done)|(simp_all;omega)) aA Za
def Xw(h:Vp xs):Cal prog 190 #[v] [Yy 2 wv v xs] false (G:=Unit) (λ_=>True) (λ_=> .bool true) (λ_=>[]):=okP_wr h▸(Zyl v (xs.map wr)).imp (Zxx v xs) (λ_ h=>fpm h)
theorem Mg(hs:Sz 65536 xs):Qa prog 195 #[v] [Yy 2 wv v xs] (.int .i64 (Xz xs:Int)):=by
 refine Zh func195 ntmps195 λh g f c=>?_;refine Qi (Od (i:=1) J Zq) λd=>go 19 ?_;refine lp (G:=Nat) [6,7] [0,1] (λk=>[(8,.int .i64 (k:Int)),(3,.int .i64 (Xz (xs.take k):Int))]) (λk=>[]) (λk=>k<=xs.length) (λk=>xs.length-k) 0 O1 K2 aA ?_;rintro k e;refine go 6 ?_;refine Ze J (λa=>?_) (λa=>?_)
 .refine go 8 ⟨O2,O2,?_⟩;refine Yg (Zy 2) λb _=>go 6 ?_;refine cl 2 [] (Zlf (hs.getD _)) λ_ _=>?_;refine dt (Zcu J J J)<|go 8 ⟨O,?_⟩;exact Yf (k+1) O1 O1 ⟨J,by rw [Po 0 _ _ O,Yk0];exact aE some (Zck O),aA⟩ aA
 .refine go 12 ?_;exact Xj c () results195 (by rw [cI O]) aA Za
theorem Zsj{e f:Int}{n:Bool}{s:ByteArray}:Zd3 prog 238 #[.pointer (some ⟨bd,0,none⟩),.agg #[.bool n,.string s],.int .i64 f] [] false bd t #[.int .i64 e] (G:=Unit) (λ_=>True) (λ_=> .agg #[.bool n,.string s]) (λ_=>#[.int .i64 (if e=0 then f else e)]) (λ_=>[]):=by
 refine Dk func238 J ntmps238 J aA ?_;intro j i g c;have g:=Hw.mk g;simp only [Qv,Yz];refine go 2 ?_;refine Yg (Yp 2) λb _=>Yg (Zy 3) λh _=>go 12 ?_;refine Ze J (λd=>?_) (λd=>?_)
 .refine go 15 ?_;exact Dt (.inl J) c () (λa w hs=>Zcd hs results238 (Eo 3 J J isAgg80 Kl J)) J aA 1 J (by simp_all [Fc]) J J Za
 .refine go 9 ?_;exact Dt (.inl J) c () (λa w hs=>Zcd hs results238 (Eo 3 J J isAgg80 Kl J)) J aA 1 J (by simp_all [Fc]) J J Za
theorem d_mul_(bd:Nat)(e x y:Int)(h:bl x.natAbs<=65536)(i:bl y.natAbs<=65536):Zd3 prog 191 #[.pointer (some ⟨bd,0,none⟩),wv x,wv y] [] false bd 250 #[.int .i64 e] (G:=Unit) (λ_=>True) (λ_=>wv (Zbv (x*y))) (λ_=>#[.int .i64 (err e (x*y))]) (λ_=>[]):=by refine Dk func191 J ntmps191 J aA ?_;intro k j d c;have d:=Hw.mk d;simp only [Qv,Yz];refine go 2 ?_;refine Yg (Yp 2) λb _=>Yg (Yp 3) λf _=>Yg (Zy 4) λg _=>go 3 ?_;refine Qd (λx=>x=bd) [(0,0),(1,0),(2,0),(3,0),(4,0),(5,1),(6,0),(7,0),(8,1),(9,3)]<|go 5 ?_;refine Yv (Zm 4 [] (Ztz ‹_› ‹_›)) λ_ _=>go 2 ?_;refine Ko J (Pb 4 1 Zsj J J J K3 call238 J O3 Zn J d.h J) λ_ _=>go 4 ?_;exact Dt (.inl J) c () (λa w hs=>Zcd hs results191 (Eo 4 J J isAgg80 Kl J)) J aA 1 J J J J Za
theorem Ce(c:bl x.natAbs<=65536)(d:bl y.natAbs<=65536)(a:bl (x*y).natAbs<=65536):Zd3 prog 191 #[.pointer (some ⟨bd,0,none⟩),wv x,wv y] [] false bd 250 #[.int .i64 0] (G:=Unit) (λ_=>True) (λ_=>wv (x*y)) (λ_=>#[.int .i64 0]) (λ_=>[]):=by have h:=d_mul_ bd 0 x y c d;rw [Hd a,Zza a]at h;exact h
theorem d_add_(bd:Nat)(e x y:Int)(h:bl x.natAbs<=65536)(i:bl y.natAbs<=65536):Zd3 prog 196 #[.pointer (some ⟨bd,0,none⟩),wv x,wv y] [] false bd 250 #[.int .i64 e] (G:=Unit) (λ_=>True) (λ_=>wv (Zbv (x+y))) (λ_=>#[.int .i64 (err e (x+y))]) (λ_=>[]):=by refine Dk func196 J ntmps196 J aA ?_;intro k j d c;have d:=Hw.mk d;simp only [Qv,Yz];refine go 2 ?_;refine Yg (Yp 2) λb _=>Yg (Yp 3) λf _=>Yg (Zy 4) λg _=>go 3 ?_;refine Qd (λx=>x=bd) [(0,0),(1,0),(2,0),(3,0),(4,0),(5,1),(6,0),(7,0),(8,1),(9,3)]<|go 5 ?_;refine Yv (Zm 4 [] (Zt2 ‹_› ‹_›)) λ_ _=>go 2 ?_;refine Ko J (Pb 4 1 Zsj J J J K3 call238 J O3 Zn J d.h J) λ_ _=>go 4 ?_;exact Dt (.inl J) c () (λa w hs=>Zcd hs results196 (Eo 4 J J isAgg80 Kl J)) J aA 1 J J J J Za
theorem Znf(c:bl x.natAbs<=65536)(d:bl y.natAbs<=65536)(a:bl (x+y).natAbs<=65536):Zd3 prog 196 #[.pointer (some ⟨bd,0,none⟩),wv x,wv y] [] false bd 250 #[.int .i64 0] (G:=Unit) (λ_=>True) (λ_=>wv (x+y)) (λ_=>#[.int .i64 0]) (λ_=>[]):=by have h:=d_add_ bd 0 x y c d;rw [Hd a,Zza a]at h;exact h
theorem d_sub_(bd:Nat)(e x y:Int)(h:bl x.natAbs<=65536)(i:bl y.natAbs<=65536):Zd3 prog 194 #[.pointer (some ⟨bd,0,none⟩),wv x,wv y] [] false bd 250 #[.int .i64 e] (G:=Unit) (λ_=>True) (λ_=>wv (Zbv (x-y))) (λ_=>#[.int .i64 (err e (x-y))]) (λ_=>[]):=by refine Dk func194 J ntmps194 J aA ?_;intro k j d c;have d:=Hw.mk d;simp only [Qv,Yz];refine go 2 ?_;refine Yg (Yp 2) λb _=>Yg (Yp 3) λf _=>Yg (Zy 4) λg _=>go 3 ?_;refine Qd (λx=>x=bd) [(0,0),(1,0),(2,0),(3,0),(4,0),(5,1),(6,0),(7,0),(8,1),(9,3)]<|go 5 ?_;refine Yv (Zm 4 [] (Yg6 ‹_› ‹_›)) λ_ _=>go 2 ?_;refine Ko J (Pb 4 1 Zsj J J J K3 call238 J O3 Zn J d.h J) λ_ _=>go 4 ?_;exact Dt (.inl J) c () (λa w hs=>Zcd hs results194 (Eo 4 J J isAgg80 Kl J)) J aA 1 J J J J Za
theorem Zze(c:bl x.natAbs<=65536)(d:bl y.natAbs<=65536)(a:bl (x-y).natAbs<=65536):Zd3 prog 194 #[.pointer (some ⟨bd,0,none⟩),wv x,wv y] [] false bd 250 #[.int .i64 0] (G:=Unit) (λ_=>True) (λ_=>wv (x-y)) (λ_=>#[.int .i64 0]) (λ_=>[]):=by have h:=d_sub_ bd 0 x y c d;rw [Hd a,Zza a]at h;exact h
theorem Ymz(hs:Sz 65536 xs):Cal prog 192 #[.pointer (some ⟨bd,0,none⟩),v] [Kv bd 250 #[.int .i64 0],Yy 2 wv v xs] true (G:=Unit) (λ_=>True) (λ_=> .tuple #[Kw v (tzl xs).length,.int .i64 0]) (λ_=>[Yy 2 wv (Kw v (tzl xs).length) (tzl xs)]):=by
 refine Zh func192 ntmps192 λf e d c=>go 17 ?_;refine Ze J (λa=>?_) (λa=>?_)
 .exfalso;simp_all
 .refine go 5 ?_;refine cl 3 [2] (Zej ‹_›) λ_ _=>go 5 ?_;exact Mj c () results192 J aA (Pq 3 Za)
theorem Kx(c:Int)(g:Vp xs)(m:bl c.natAbs<=65536)(h:∀i,bl (cf xs i*c).natAbs<=65536):Cal prog 136 #[v,wv c] [Yy 2 wv v xs] true (G:=Value) (λr=>True) (λr=> .tuple #[r,.int .i64 0]) (λr=>[Yy 2 wv r (Zr xs c)]):=by
 refine Zh func136 ntmps136 λp o e d=>?_;have f:=g.len;refine go 2 ?_;refine Yg (Yp 2) λb _=>go 8 ?_;refine cl 2 [1] (Xw ‹_›) λ_ _=>go 3 ?_;refine Dm 2 [] (Kt ‹_›) λ_ _=>go 9 ?_;refine Yg (Zy 3) λj _=>go 6 ?_;refine tt (Hg 4 _ 24 (enc:=wv) 0 J J J J Mu ti80 J pV.cells pV.pos J J J e.h J J) λv _=>go 12 ?_;refine lp (G:=Nat) [3,6,7,21,22] [0,1,2,3] (λk=>[(23,.int .i64 (k:Int))]) (λk=>[(4,Of 2 80 wv v (fill xs.length k (λi=>cf xs i*c)))]) (λk=>k<=xs.length) (λk=>xs.length-k) 0 O1 K1 ⟨by rw [Ag xs.length (λi=>cf xs i*c)];rfl,aA⟩ ?_;rintro k n;refine go 6 ?_;refine Ze J (λa=>?_) (λa=>?_)
 .refine go 9 ⟨O2,O2,?_⟩;refine Yg (Zy 5) λl _=>go 9 ?_;refine tt (Pb 5 3 (Ce (g.sz.getD _) m (h _)) J J J K3 call191 J O3 Zn J e.h aA) (λ_ _=>?_);refine dt (Zv 4 k J J J J (Ya pV) Mu Kl J (by rw [Pz];omega))<|tt (Ke 4 (enc:=wv) J J J J J J pV J e.h O3 (by rw [Pz];omega)) (λ_ _=>?_);refine go 7 ⟨O,?_⟩;exact Yf (k+1) O1 O1 K1 ⟨by rw [<-Zdl O];rfl,aA⟩
 .refine go 6 ?_;obtain rfl:k=xs.length:=O;refine Zf (Xn 4 J J pV)<|Zf (Zfr 3 J J)<|go 2 ?_;refine cl 6 [3,4] (Ymz (by rw [Db];exact Bj λi _=>h i)) λ_ _=>go 7 ?_;exact Mj d _ results136 J aA (Pq 6 Za (by rw [Yfg]<;>rfl))
theorem Zao(e:Vp xs)(h:∀i,bl (cf xs (i+1)*((i:Int)+1)).natAbs<=65536):Cal prog 260 #[v] [Yy 2 wv v xs] true (G:=Value) (λr=>True) (λr=> .tuple #[r,.int .i64 0]) (λr=>[Yy 2 wv r (Xf xs)]):=by
 refine Zh func260 ntmps260 λo m f d=>?_;have g:=e.len;refine go 10 ?_;refine cl 1 [1] (Xw ‹_›) λ_ _=>go 14 ?_;refine Ze J (λa=>?_) (λa=>?_)
 .refine go 8 ?_;exact Mj d _ results260 J aA (Lg (Yka O) Za)
 .refine go 4 ?_;refine Yg (Zy 2) λb _=>?_;refine go 7 ⟨O,?_⟩;refine tt (Hg 3 (xs.length-1) 24 (enc:=wv) 0 J J J J Mu ti80 J pV.cells pV.pos J J J f.h) λv _=>go 12 ?_;refine lp (G:=Nat) [0,4,5,18] [0,1,2] (λk=>[(19,.int .i64 (k:Int))]) (λk=>[(3,Of 2 80 wv v (fill (xs.length-1) k (λi=>cf xs (i+1)*((i:Int)+1))))]) (λk=>k<=xs.length-1) (λk=>xs.length-1-k) 0 O1 K1 ⟨by rw [Ag (xs.length-1) (λi=>cf xs (i+1)*((i:Int)+1))];rfl,aA⟩ ?_;rintro k l;have j:(fill (xs.length-1) k (λi=>cf xs (i+1)*((i:Int)+1))).length=xs.length-1:=Pz _ _ _;refine go 6 ?_;refine Ze J (λc=>?_) (λc=>?_)
  .try rw [aO]at *
   refine go 10 ?_;refine Qd (λx=>x=b) [(0,0),(1,0),(2,0),(3,0),(4,0),(5,0),(6,0),(7,0),(8,0),(9,1),(10,1),(11,0),(12,3)]<|go 5 ⟨O,?_⟩;refine Xh J J (st1 2 J (Zv 1 (k+1) J J J J Zq Mu Kl))<|go 3 ⟨O,O,?_⟩;refine Yv (Zm 3 [] (Yb _ (by first|assumption|exact⟨O,O⟩))) λ_ _=>?_;refine Ko J (Pb 3 2 (Ce (x:=cf xs (k+1)) (y:=((k:Int)+1)) (e.sz _) (aB (Og (n:=32) O) O3) (h k)) J J J K3 call191 J O3 Zn J f.h J) (λ_ _=>?_);refine Xh J J (st1 2 J (Zv 3 k J J J J (Ya pV) Mu Kl J (by rw [Pz];omega)))<|r3' J (Ke 3 (enc:=wv) J J J J J J pV J f.h O3 (by rw [Pz];omega)) (λ_ _=>?_);refine go 7 ⟨O,?_⟩;exact Yf (k+1) O1 O1 K1 ⟨by rw [<-Zdl O];rfl,aA⟩
  .try rw [aO]at *
   refine go 6 ?_;obtain rfl:k=xs.length-1:=O;refine Zf (Xn 3 J J pV)<|Zf (Zfr 2 J J)<|go 2 ?_;refine cl 4 [2,3] (Ymz (by rw [Db];exact Bj λi _=>h i)) λ_ _=>go 7 ?_;exact Mj d _ results260 J aA (Pq 4 Za (by rw [Yqo e.tr]<;>rfl))
theorem Zre(j:Vp xs):Qa prog 197 #[v] [Yy 2 wv v xs] (.tuple #[wv (Yw xs),.int .i64 0]):=by
 refine Zh func197 ntmps197 λr q n i=>?_;have l:=j.len;have d:∀k,bl (Yw (xs.take k)).natAbs<=65536:=λk=>Zbp _ (j.sz.take k);refine go 2 ?_;refine Yg (Zy 2) λb _=>go 7 ?_;refine cl 2 [1] (Xw ‹_›) λ_ _=>go 8 ?_;refine Yg (Zy 3) λf _=>go 4 ?_;refine Yg (Zy 4) λg _=>go 11 ?_;refine lp (G:=Nat) [2,4,5,12,13] [0,1,2] (λk=>[(14,.int .i64 (k:Int))]) (λk=>[(4,box g 80 #[.bool (decide (Yw (xs.take k)<0)),.string (Qq (Yw (xs.take k)).natAbs)]),(3,box f 250 #[.int .i64 0])]) (λk=>k<=xs.length) (λk=>xs.length-k) 0 O1 K1 K2 ?_;rintro k o;have e:=λh=>Ll (p:=xs) (k:=k) h;refine go 6 ?_;refine Ze J (λc=>?_) (λc=>?_)
 .refine go 8 ⟨O2,O2,?_⟩;refine Yg (Zy 5) λm _=>go 7 ?_;refine cl 5 [] (Zt1 (Yw (xs.take k)) (xs.getD k 0) (d _) (j.sz.getD _)) λ_ _=>go 2 ?_;refine tt (Pb 5 3 Zsj J J J K3 call238 J O3 Zn J n.h aA) (λ_ _=>?_);refine go 8 ⟨O,?_⟩;have a:=d (k+1);rw [e O]at a;exact Yf (k+1) O1 O1 K1 ⟨by rw [e O];simp only [Hd a];rfl,by simp only [Zsa a];rfl,aA⟩
 .refine go 6 ?_;refine Pm [3,4] [5]<|Zj 0 [(0,0),(1,0),(2,0),(3,0),(4,1),(5,3)]<|go 7 ?_;refine Zt<|go 2 ?_;exact Mj i () results197 (by rw [show k=xs.length by omega,bQ]<;>rfl) aA Za
theorem Zoi{c:Int}(l:Sz 65536 xs)(j:xs.length<=1000)(q:bl c.natAbs<=65536)(s:∀i,c∣cf xs i)(f:xs≠[]->c≠0):Cal prog 198 #[v,wv c] [Yy 2 wv v xs] true (G:=Value) (λr=>True) (λr=> .tuple #[r,.int .i64 0]) (λr=>[Yy 2 wv r (xs.map (· / c))]):=by
 refine Zh func198 ntmps198 λB z m h=>go 2 ?_;refine Yg (Yp 2) λb _=>go 8 ?_;refine tt (Hg 3 _ 24 (enc:=wv) 0 J J J J Mu ti80 J pV.cells pV.pos J J J m.h J J) λv _=>go 12 ?_;refine lp (G:=Nat) [3,6,15,16] [0,1,2] (λk=>[(17,.int .i64 (k:Int))]) (λk=>[(3,Of 2 80 wv v (fill xs.length k (λi=>cf xs i/c)))]) (λk=>k<=xs.length) (λk=>xs.length-k) 0 O1 K1 ⟨by rw [Ag xs.length (λi=>cf xs i/c)];rfl,aA⟩ ?_;rintro k w;have g:Zbv (xs.getD k 0/c)=cf xs k/c:=Hd (Hc (s k) (l k));refine go 6 ?_;refine Ze J (λa=>?_) (λa=>?_)
 .refine go 9 ⟨O2,O2,?_⟩;refine Yg (Zy 4) λn _=>go 8 ?_;refine cl 4 [] (Ai (l.getD _) q (f (by intro e;rw [e]at a;simp at a;omega))) λ_ _=>go 4 ?_;refine Yg (Zy 5) λo _=>Yg (Zy 6) λp _=>go 12 ?_;refine Ze J (λd=>?_) (λd=>?_)
  .exfalso;simp_all
  .refine go 6 ?_;refine dt (Zv 3 k J J J J (Ya pV) Mu Kl J (by rw [Pz];omega))<|tt (Ke 3 (enc:=wv) J J J J J J pV J m.h O3 (by rw [Pz];omega)) (λ_ _=>?_);refine go 7 ⟨O,?_⟩;exact Yf (k+1) O1 O1 K1 ⟨by rw [<-Zdl O];simp only [g];rfl,aA⟩
 .refine go 13 ?_;obtain rfl:k=xs.length:=O;exact Mj h _ results198 J aA (gow 3 Za (by rw [Db,Zrt xs (· / c)]<;>rfl))
theorem My(c:Vp xs):Cal prog 140 #[v] [Yy 2 wv v xs] true (G:=Value) (λr=>True) (λr=> .tuple #[r,.int .i64 0]) (λr=>[Yy 2 wv r (Zz xs)]):=by
 refine Zh func140 ntmps140 λh g f d=>?_;have e:=c.len;refine go 9 ?_;refine cl 1 [1] (Zre ‹_›) λ_ _=>go 3 ?_;refine Yg (Zy 2) λb _=>go 11 ?_;refine Ze J (λa=>?_) (λa=>?_)
 .exfalso;simp_all
 .refine go 6 ?_;refine cl 3 [1] (Zoi c.sz O (Zbp _ c.sz) (Kj _) c.ne) λ_ _=>go 7 ?_;exact Mj d _ results140 J aA (Pq 3 Za J)
theorem Yfk(n:Vp xs)(S:bl x.natAbs<=65536)(hy:bl y.natAbs<=65536)(a8:0<y):Qa prog 308 #[v,rX x y] [Yy 2 wv v xs] (.tuple #[wv (evv xs x y),.int .i64 (eve xs x y)]):=by
 refine Zh func308 ntmps308 λw0 sc p o=>?_;have c:=n.len;refine go 2 ?_;refine Yg (Yp 2) λb _=>Yg (Zy 3) λZ _=>go 7 ?_;refine cl 3 [1] (Xw ‹_›) λ_ _=>go 3 ?_;refine Dm 3 [] (Lv ‹_› ‹_› ‹_›) λ_ _=>go 15 ?_;refine Ze J (λj=>?_) (λj=>?_)
 .refine go 2 ?_;refine dt (Qf [] J aA (λa w hs=>b80_))<|go 6 ?_;exact Mj o () results308 (by rw [aC (l:=xs) O];rfl) aA Za
 .have M:xs≠[]:=λe=>by rw [e]at j;simp at j
  have a6:=Qx n.sz;have g:Sz 65536 [x,y]:=Sz.of_mem (by intro z V;simp at V;rcases V with rfl|rfl<;>assumption);have I:=Qx g;have a7:(xs.length-1)*Xz [x,y]<=24*65536:=aP O I;have f:((xs.length:Int)-1)*(Xz [x,y]:Int)=(((xs.length-1)*Xz [x,y]:Nat):Int):=by rw [iH];congr 1;omega
  refine go 3 ?_;refine jn (G:=Unit) [0,3,4] [0,1,2,3] (λ_=>[(37,.bool (decide ((65536:Int)<(Xz xs:Int)+((xs.length:Int)-1)*(Xz [x,y]:Int)+8)))]) (λ_=>[]) (λ_=>True) ?_ ?_
  .refine Kr (λ_=>False) []<|Zj 7 [(0,0),(2,0),(3,0),(4,0),(5,0),(6,0),(7,0),(8,0)]<|go 9 ⟨O,?_⟩;refine Qy 6 1 9 ?_ ?_
   .refine Ou (Zm 3 [1] (Mg (by first|exact n.sz|exact g))) λ_ _=>?_;refine Zj 0 [(9,1),(10,1),(11,0),(12,0),(13,0),(14,0)]<|Ko J (Xs [(0,_),(1,_)] 90 (enc:=wv) [x,y] J J K4 Yow ti80 J J J J J pV.cells J J p.h) λv _=>Yv (Zm 3 [90] (Mg (by first|exact n.sz|exact g))) λ_ _=>?_;refine go 5 ⟨by rw [f];exact⟨O,O⟩,by rw [f];exact⟨O,O⟩,by rw [f];exact⟨O,O⟩,?_⟩;exact Zt<|Oe () aA K1 aA
   .refine Kg J J (Xs [(0,_),(1,_)] 90 (enc:=wv) [x,y] J J K4 Yow ti80 J J J J J pV.cells J J p.h) (λa9 _=>?_);refine Zj 0 [(1,1),(10,1),(11,0),(12,0),(13,0),(14,0)]<|Yv (Zm 3 [1] (Mg (by first|exact n.sz|exact g))) λ_ _=>Yv (Zm 3 [90] (Mg (by first|exact n.sz|exact g))) λ_ _=>?_;refine go 5 ⟨by rw [f];exact⟨O,O⟩,by rw [f];exact⟨O,O⟩,by rw [f];exact⟨O,O⟩,?_⟩;exact Zt<|Oe () aA K1 aA
  .rintro _ -;refine Ze J (λm=>?_) (λm=>?_)
   .have B:Kz xs x y:=⟨M,by rw [f]at m;omega⟩;refine go 2 ?_;refine dt (Qf [] J aA (λa w hs=>b80_))<|go 6 ?_;exact Mj o () results308 (by unfold evv eve;rw [aM B,aM B]<;>rfl) aA Za
   .have i:Xz xs+(xs.length-1)*Xz [x,y]+8<=65536:=by rw [f]at m;omega
    refine go 4 ?_;refine Yg (Zy 4) λH _=>go 2 ?_;refine jn (G:=Nat×Nat) [0,3,4,6] [0,1,2,3,4] (λq=>[(7,.pointer (some ⟨q.1,0,none⟩)),(8,.pointer (some ⟨q.2,0,none⟩))]) (λq=>[(97,box q.1 80 (wc (xs.getD (xs.length-1) 0))),(98,box q.2 80 (wc 1))]) (λq=>True) ?_ ?_
    .refine Kr (λ_=>False) [9,10]<|Zj 5 [(0,0),(1,0),(2,0),(3,0),(4,0),(5,0)]<|go 4 ⟨O,?_⟩;refine Xh J J (Xm (Zv 1 (xs.length-1) J J J J Zq Mu Kl))<|go 2 ⟨O,?_⟩;refine Zd1 4 6 7 8 ?_ ?_ ?_
     .refine Ou (Zm 4 [] (Yb _ (by first|assumption|exact⟨O,O⟩))) λ_ _=>?_;refine Qy 3 7 8 ?_ ?_
      .refine Ou (Zy 97) λa0 _=>?_;refine Zj 0 [(8,1),(9,3),(10,3)]<|Yv (Zy 98) λa1 _=>go 3 ?_;exact Zt<|Oe (_,_) aA K2 K2
      .refine Ou (Zy 98) λa2 _=>?_;refine Zj 0 [(7,1),(9,3),(10,3)]<|Yv (Zy 97) λa3 _=>go 3 ?_;exact Zt<|Oe (_,_) aA K2 K2
     .refine Ou (Zy 97) λa4 _=>?_;refine Qy 3 6 8 ?_ ?_
      .refine Ou (Zm 4 [] (Yb _ (by first|assumption|exact⟨O,O⟩))) λ_ _=>?_;refine Zj 0 [(8,1),(9,3),(10,3)]<|Yv (Zy 98) λa5 _=>go 3 ?_;exact Zt<|Oe (_,_) aA K2 K2
      .refine Ou (Zy 98) λN _=>?_;refine Zj 0 [(6,1),(9,3),(10,3)]<|Yv (Zm 4 [] (Yb _ (by first|assumption|exact⟨O,O⟩))) λ_ _=>go 3 ?_;exact Zt<|Oe (_,_) aA K2 K2
     .refine Ou (Zy 98) λP _=>?_;refine Qy 3 6 7 ?_ ?_
      .refine Ou (Zm 4 [] (Yb _ (by first|assumption|exact⟨O,O⟩))) λ_ _=>?_;refine Zj 0 [(7,1),(9,3),(10,3)]<|Yv (Zy 97) λQ _=>go 3 ?_;exact Zt<|Oe (_,_) aA K2 K2
      .refine Ou (Zy 97) λR _=>?_;refine Zj 0 [(6,1),(9,3),(10,3)]<|Yv (Zm 4 [] (Yb _ (by first|assumption|exact⟨O,O⟩))) λ_ _=>go 3 ?_;exact Zt<|Oe (_,_) aA K2 K2
    .rintro⟨W,Y⟩ -;dsimp only;refine go 10 ⟨O,?_⟩;refine lp (G:=Nat) [0,3,4,6,7,8] [0,1,2,3,4] (λk=>[(9,.int .i64 ((k:Int)-1))]) (λk=>[(97,box W 80 (wc (Hf xs x y k))),(98,box Y 80 (wc (y^(xs.length-1-k))))]) (λk=>k<=xs.length-1) (λk=>k) (xs.length-1) O1 ⟨by rw [show((xs.length-1:Nat):Int)-1=(xs.length:Int)-2 by omega];rfl,aA⟩ ⟨by rw [Yrg x y O];rfl,by rw [fI,dE];rfl,aA⟩ ?_;rintro k D;refine go 7 ?_;refine Ze J (λr=>?_) (λr=>?_)
     .have d:y^(xs.length-1-k)*y=y^(xs.length-1-(k-1)):=Yj0 y O D;have F:Hf xs x y k*x+xs.getD (k-1) 0*y^(xs.length-1-(k-1))=Hf xs x y (k-1):=Yga x y O D;refine go 9 ?_;refine tt (Pb 4 4 (Ce (Zsl i) hy (by rw [d];exact Zsl i)) J J J K3 call191 J O3 Zn J p.h aA) λ_ _=>go 3 ?_;refine Qd (λx=>x=H) [(0,0),(1,0),(2,0),(4,0),(5,0),(6,0),(7,0),(8,0),(3,1),(9,1),(10,1),(11,3)]<|go 5 ?_;refine Xh J J (st1 4 J (Zv 1 (k-1) J J J J Zq Mu Kl))<|go 2 ⟨O,?_⟩;refine Ko J (Pb 4 4 (Ce (by first|exact Zsm i c _|exact n.sz.getD _) (by first|exact S|(rw [d];exact Zsl i)) (by first|exact Zy8 i c O D|(rw [d];exact Zsk i))) J J J K3 call191 J O3 Zn J p.h J) (λ_ _=>?_);refine Ko J (Pb 4 4 (Ce (by first|exact Zsm i c _|exact n.sz.getD _) (by first|exact S|(rw [d];exact Zsl i)) (by first|exact Zy8 i c O D|(rw [d];exact Zsk i))) J J J K3 call191 J O3 Zn J p.h J) (λ_ _=>?_);refine Ko J (Pb 4 4 (Znf (Zy8 i c O D) (by rw [d];exact Zsk i) (by rw [d,F];exact Zsm i c _)) J J J K3 call196 J O3 Zn J p.h J) (λ_ _=>?_);refine go 9 ⟨O,?_⟩;exact Yf (k-1) O1 O1 ⟨by rw [show((k-1:Nat):Int)-1=(k:Int)-1-1 by omega];rfl,aA⟩ ⟨by rw [d,F];rfl,by rw [d];rfl,aA⟩
     .refine go 14 ?_;refine Ze J (λs=>?_) (λs=>?_)
      .exfalso;simp_all
      .refine go 10 ?_;obtain rfl:k=0:=O;have B:¬Kz xs x y:=λh=>by have:=h.2;omega
       exact Mj o () results308 (by unfold evv eve;rw [aG B,aG B,<-Zwf]<;>rfl) aA Za
theorem Zvf(e:Vp xs)(g:bl x.natAbs<=65536)(h:bl y.natAbs<=65536)(d:0<y):Qa prog 291 #[v,rX x y] [Yy 2 wv v xs] (.tuple #[.int .i64 (evv xs x y).sign,.int .i64 (eve xs x y)]):=by refine Zh func291 ntmps291 λk j i c=>?_;have a:=e.len;refine go 2 ?_;refine Yg (Yp 2) λb _=>go 8 ?_;refine cl 2 [1] (Yfk e g h d) λ_ _=>go 3 ?_;refine Yg (Zy 3) λf _=>go 7 ?_;refine cl 3 [] (Hl (evv_bl a)) λ_ _=>go 6 ?_;exact Mj c () results291 J aA Za
theorem Zbu(hs:Sz 65536 xs):Zd3 prog 192 #[.pointer (some ⟨bd,0,none⟩),v] [Yy 2 wv v xs] true bd 250 #[.int .i64 0] (G:=Unit) (λ_=>True) (λ_=> .tuple #[Kw v (tzl xs).length,.int .i64 0]) (λ_=>#[.int .i64 0]) (λ_=>[Yy 2 wv (Kw v (tzl xs).length) (tzl xs)]):=by
 refine Dk func192 J ntmps192 J K1 ?_;intro g f e d;have e:=Hw.mk e;simp only [Qv,Yz];refine go 17 ?_;refine Ze J (λc=>?_) (λc=>?_)
 .exfalso;simp_all
 .refine go 5 ?_;refine cl 3 [2] (Zej ‹_›) λ_ _=>go 5 ?_;exact Dt (.inl J) d () (λa w hs=>Yfd hs results192 J J) J aA 1 J J J J (Gp 3 J J J Za)
theorem Yds(h:xs.length*24<=140737488355328:=by omega):Yol prog 305 #[v] [Yy 2 wv v xs] (G:=Value) (λr=>True) (λr=>r) (λr=>Of 2 80 wv r xs):=by
 refine Ztd func305 J ntmps305 J K1 ?_;intro k j e f;have e:=Hw.mk e;simp only [Qv,Yz];refine Qi (Yma (i:=1) J Zq) λd=>go 9 ?_;refine dt (Zsw J J J (i:=1) J Zq Mu)<|go 2 ?_;refine Nu J (λc=>?_) (λc=>?_)
 .refine go 7 ?_;obtain rfl:xs=[]:=d (by simpa using c);exact Zs (Qw 9 2 80 wv)<|Zh6 (.inl J) (.slice none 0 0) (λa w hs=>Zcd hs results305 J) J aA J 9 J J J
 .refine go 4 ?_;refine tt (Yhm 2 (enc:=wv) J J J Mu pV J e.h) λv _=>go 1 ?_;refine tt (Pt 2 1 24 J J J J J J O3 J Zq Mu ti80 J pV J J J O8 O3 J e.h) λg _=>go 4 ?_;exact Zh6 (.inl J) _ (λa w hs=>Zcd hs results305 J) J aA J 2 J (by rfl) J
theorem Zjt(d:Vp xs):Qa prog 301 #[v] [Yy 2 wv v xs] (.tuple #[.int .i64 ((xs.length:Int)-1),.int .i64 0]):=by refine Zh func301 ntmps301 λg f e a=>?_;have c:=d.len;refine go 10 ?_;refine cl 1 [1] (Xw ‹_›) λ_ _=>?_;refine go 16 ⟨O,?_⟩;exact Mj a () results301 J aA Za
theorem Zpi(c:Vp xs):Qa prog 302 #[v] [Yy 2 wv v xs] (.tuple #[.int .i64 (Xz xs:Int),.int .i64 0]):=by refine Zh func302 ntmps302 λf e d a=>go 10 ?_;refine cl 1 [1] (Xw ‹_›) λ_ _=>go 9 ?_;refine cl 1 [1] (Mg c.sz) λ_ _=>go 5 ?_;exact Mj a () results302 J aA Za
theorem Zw8(n:Vp xs)(m:Vp ys)(o:∀i,bl (cf xs i+cf ys i).natAbs<=65536):Zd3 prog 193 #[v,u,.pointer (some ⟨bd,0,none⟩),.func (.func 196) #[.pointer (some ⟨bd,0,none⟩)] #[]] [Yy 2 wv v xs,Yy 2 wv u ys] true bd 250 #[.int .i64 0] (G:=Value) (λr=>True) (λr=> .tuple #[r,.int .i64 0]) (λr=>#[.int .i64 0]) (λr=>[Yy 2 wv r (Ht xs ys)]):=by
 refine Dk func193 J ntmps193 J K2 ?_;intro B z c j;have c:=Hw.mk c;simp only [Qv,Yz];have l:=n.len;have h:=m.len;refine go 10 ?_;refine cl 3 [2] (Xw ‹_›) λ_ _=>go 3 ?_;refine Dm 3 [3] (Xw ‹_›) λ_ _=>go 13 ?_;refine dt (Zcu J J J)<|tt (Hg 4 (max xs.length ys.length) 24 (enc:=wv) 0 J J J J Mu ti80 J pV.cells pV.pos J J J c.h) λv _=>go 12 ?_;refine lp (G:=Nat) [0,1,2,3,10,29] [0,1,2,3] (λk=>[(30,.int .i64 (k:Int))]) (λk=>[(4,Of 2 80 wv v (fill (max xs.length ys.length) k (λi=>cf xs i+cf ys i)))]) (λk=>k<=max xs.length ys.length) (λk=>max xs.length ys.length-k) 0 O1 K1 ⟨by rw [Ag (max xs.length ys.length) (λi=>cf xs i+cf ys i)];rfl,aA⟩ ?_;rintro k s;have q:(fill (max xs.length ys.length) k (λi=>cf xs i+cf ys i)).length=max xs.length ys.length:=Pz _ _ _;refine go 6 ?_;refine Ze J (λd=>?_) (λd=>?_)
 .try rw [aO]at *
  refine go 12 ?_;refine Yg (Zy 5) λb _=>Yg (Zy 6) λg _=>go 2 ?_;refine jn (G:=Unit) [0,1,2,3,10,11,12,13,29,30] [0,4,1,2,3,6] (λ_=>[]) (λ_=>[(5,box b 80 (wc (cf xs k)))]) (λ_=>True) ?_ ?_
  .refine go 8 ?_;refine Ze J (λe=>?_) (λe=>?_)
   .refine go 7 ⟨O2,O2,?_⟩;exact Oe () aA aA ⟨by first|rfl|(rw [Yn (p:=xs) O];rfl),aA⟩
   .refine go 1 ?_;exact Oe () aA aA ⟨by first|rfl|(rw [Yn (p:=xs) O];rfl),aA⟩
  .rintro _ -;refine jn (G:=Unit) [0,1,2,3,10,11,12,13,29,30] [0,5,4,1,2,3] (λ_=>[]) (λ_=>[(6,box g 80 (wc (cf ys k)))]) (λ_=>True) ?_ ?_
   .refine go 8 ?_;refine Ze J (λf=>?_) (λf=>?_)
    .refine go 7 ⟨O2,O2,?_⟩;exact Oe () aA aA ⟨by first|rfl|(rw [Yn (p:=ys) O];rfl),aA⟩
    .refine go 1 ?_;exact Oe () aA aA ⟨by first|rfl|(rw [Yn (p:=ys) O];rfl),aA⟩
   .rintro _ -;refine go 6 ?_;refine tt (Zua 6 1 [_] [_,_] (Znf (n.sz _) (m.sz _) (o _)) J J J J K2 call196 J O3 Zn J c.h aA) (λ_ _=>?_);refine dt (Zv 4 k J J J J (Ya pV) Mu Kl J (by rw [Pz];omega))<|tt (Ke 4 (enc:=wv) J J J J J J pV J c.h O3 (by rw [Pz];omega)) (λ_ _=>?_);refine go 7 ⟨O,?_⟩;exact Yf (k+1) O1 O1 K1 ⟨by rw [<-Zdl O];rfl,aA⟩
 .try rw [aO]at *
  refine go 6 ?_;obtain rfl:k=max xs.length ys.length:=O;refine Zf (Xn 4 J J pV)<|go 3 ?_;refine tt (Pb 7 1 (Zbu (by rw [Db];exact Bj λi _=>o i)) J J J K2 call192 J O3 (Zk 4 J J J Zn) J c.h aA) λ_ _=>go 7 ?_;exact Dt (.inl J) j _ (λa w hs=>Yfd hs results193 J J) J aA 1 J J J J (Zm6 7 J J J (by rw [Db]<;>rfl) Za)
theorem Zw7(n:Vp xs)(m:Vp ys)(o:∀i,bl (cf xs i-cf ys i).natAbs<=65536):Zd3 prog 193 #[v,u,.pointer (some ⟨bd,0,none⟩),.func (.func 194) #[.pointer (some ⟨bd,0,none⟩)] #[]] [Yy 2 wv v xs,Yy 2 wv u ys] true bd 250 #[.int .i64 0] (G:=Value) (λr=>True) (λr=> .tuple #[r,.int .i64 0]) (λr=>#[.int .i64 0]) (λr=>[Yy 2 wv r (Ei xs ys)]):=by
 refine Dk func193 J ntmps193 J K2 ?_;intro B z c j;have c:=Hw.mk c;simp only [Qv,Yz];have l:=n.len;have h:=m.len;refine go 10 ?_;refine cl 3 [2] (Xw ‹_›) λ_ _=>go 3 ?_;refine Dm 3 [3] (Xw ‹_›) λ_ _=>go 13 ?_;refine dt (Zcu J J J)<|tt (Hg 4 (max xs.length ys.length) 24 (enc:=wv) 0 J J J J Mu ti80 J pV.cells pV.pos J J J c.h) λv _=>go 12 ?_;refine lp (G:=Nat) [0,1,2,3,10,29] [0,1,2,3] (λk=>[(30,.int .i64 (k:Int))]) (λk=>[(4,Of 2 80 wv v (fill (max xs.length ys.length) k (λi=>cf xs i-cf ys i)))]) (λk=>k<=max xs.length ys.length) (λk=>max xs.length ys.length-k) 0 O1 K1 ⟨by rw [Ag (max xs.length ys.length) (λi=>cf xs i-cf ys i)];rfl,aA⟩ ?_;rintro k s;have q:(fill (max xs.length ys.length) k (λi=>cf xs i-cf ys i)).length=max xs.length ys.length:=Pz _ _ _;refine go 6 ?_;refine Ze J (λd=>?_) (λd=>?_)
 .try rw [aO]at *
  refine go 12 ?_;refine Yg (Zy 5) λb _=>Yg (Zy 6) λg _=>go 2 ?_;refine jn (G:=Unit) [0,1,2,3,10,11,12,13,29,30] [0,4,1,2,3,6] (λ_=>[]) (λ_=>[(5,box b 80 (wc (cf xs k)))]) (λ_=>True) ?_ ?_
  .refine go 8 ?_;refine Ze J (λe=>?_) (λe=>?_)
   .refine go 7 ⟨O2,O2,?_⟩;exact Oe () aA aA ⟨by first|rfl|(rw [Yn (p:=xs) O];rfl),aA⟩
   .refine go 1 ?_;exact Oe () aA aA ⟨by first|rfl|(rw [Yn (p:=xs) O];rfl),aA⟩
  .rintro _ -;refine jn (G:=Unit) [0,1,2,3,10,11,12,13,29,30] [0,5,4,1,2,3] (λ_=>[]) (λ_=>[(6,box g 80 (wc (cf ys k)))]) (λ_=>True) ?_ ?_
   .refine go 8 ?_;refine Ze J (λf=>?_) (λf=>?_)
    .refine go 7 ⟨O2,O2,?_⟩;exact Oe () aA aA ⟨by first|rfl|(rw [Yn (p:=ys) O];rfl),aA⟩
    .refine go 1 ?_;exact Oe () aA aA ⟨by first|rfl|(rw [Yn (p:=ys) O];rfl),aA⟩
   .rintro _ -;refine go 6 ?_;refine tt (Zua 6 1 [_] [_,_] (Zze (n.sz _) (m.sz _) (o _)) J J J J K2 call194 J O3 Zn J c.h aA) (λ_ _=>?_);refine dt (Zv 4 k J J J J (Ya pV) Mu Kl J (by rw [Pz];omega))<|tt (Ke 4 (enc:=wv) J J J J J J pV J c.h O3 (by rw [Pz];omega)) (λ_ _=>?_);refine go 7 ⟨O,?_⟩;exact Yf (k+1) O1 O1 K1 ⟨by rw [<-Zdl O];rfl,aA⟩
 .try rw [aO]at *
  refine go 6 ?_;obtain rfl:k=max xs.length ys.length:=O;refine Zf (Xn 4 J J pV)<|go 3 ?_;refine tt (Pb 7 1 (Zbu (by rw [Db];exact Bj λi _=>o i)) J J J K2 call192 J O3 (Zk 4 J J J Zn) J c.h aA) λ_ _=>go 7 ?_;exact Dt (.inl J) j _ (λa w hs=>Yfd hs results193 J J) J aA 1 J J J J (Zm6 7 J J J (by rw [Db]<;>rfl) Za)
theorem Yj2(xs ys:List Int)(e:Vp xs)(d:Vp ys)(f:∀i,bl (cf xs i+cf ys i).natAbs<=65536):Cal prog 139 #[v,u] [Yy 2 wv v xs,Yy 2 wv u ys] true (G:=Value) (λr=>True) (λr=> .tuple #[r,.int .i64 0]) (λr=>[Yy 2 wv r (Ht xs ys)]):=by refine Zh func139 ntmps139 λh g c a=>go 8 ?_;refine Yg (Zy 3) λb _=>go 6 ?_;refine dt (d_mkf [_] J K1)<|tt (Pb 4 3 (Zw8 ‹_› ‹_› ‹_›) J J J K4 call193 J O3 (Zk 1 J J J (Zk 2 J J J Zn)) J c.h aA) λ_ _=>go 7 ?_;exact Mj a _ results139 J aA (Pq 4 Za)
theorem Yj1(xs ys:List Int)(e:Vp xs)(d:Vp ys)(f:∀i,bl (cf xs i-cf ys i).natAbs<=65536):Cal prog 137 #[v,u] [Yy 2 wv v xs,Yy 2 wv u ys] true (G:=Value) (λr=>True) (λr=> .tuple #[r,.int .i64 0]) (λr=>[Yy 2 wv r (Ei xs ys)]):=by refine Zh func137 ntmps137 λh g c a=>go 8 ?_;refine Yg (Zy 3) λb _=>go 6 ?_;refine dt (d_mkf [_] J K1)<|tt (Pb 4 3 (Zw7 ‹_› ‹_› ‹_›) J J J K4 call193 J O3 (Zk 1 J J J (Zk 2 J J J Zn)) J c.h aA) λ_ _=>go 7 ?_;exact Mj a _ results137 J aA (Pq 4 Za)
theorem Zvg(xs ys:List Int)(B:Vp xs)(z:Vp ys)(M:¬Zap xs ys):Cal prog 138 #[v,u] [Yy 2 wv v xs,Yy 2 wv u ys] true (G:=Value) (λr=>True) (λr=> .tuple #[r,.int .i64 0]) (λr=>[Yy 2 wv r (Qt xs ys)]):=by
 refine Zh func138 ntmps138 λw0 sc D f=>?_;have N:=B.len;have I:=z.len;have V:=Qx B.sz;have W:=Qx z.sz;refine go 10 ?_;refine cl 2 [1] (Xw ‹_›) λ_ _=>go 3 ?_;refine Dm 2 [2] (Xw ‹_›) λ_ _=>go 14 ?_;refine Xd 23 J (λF=>?_) (λF=>?_)
 .refine go 15 ?_;exact Mj f _ results138 J aA (Lg (Zbn (p:=xs) (q:=ys) (by first|(left;omega)|(right;omega))) Za)
 .refine go 6 ?_;refine Ze J (λg=>?_) (λg=>?_)
  .refine go 8 ?_;exact Mj f _ results138 J aA (Lg (Zbn (p:=xs) (q:=ys) (by first|(left;omega)|(right;omega))) Za)
  .have c:xs≠[]:=by intro e;subst e;simp_all
   have d:ys≠[]:=by intro e;subst e;simp_all
   have R:0<xs.length:=aD.2 c;have S:0<ys.length:=aD.2 d;refine go 13 ⟨O,O,?_⟩;refine Xd 35 J (λH=>?_) (λH=>?_)
   .exfalso;exact M ⟨c,d,.inl O⟩
   .refine go 1 ?_;refine Dm 2 [1] (Mg (by first|exact B.sz|exact z.sz)) λ_ _=>go 1 ?_;refine Dm 2 [2] (Mg (by first|exact B.sz|exact z.sz)) λ_ _=>?_;refine go 6 ⟨O,O,?_⟩;refine Ze J (λk=>?_) (λk=>?_)
    .exfalso;exact M ⟨c,d,by first|(left;omega)|(right;omega)⟩
    .have Y:Xz xs+Xz ys+5<=65536:=O;have s:∀i j,bl (cf xs i*cf ys j).natAbs<=65536:=λi j=>by have:=Yr (cf xs i) (cf ys j);have:=Pd xs i;have:=Pd ys j;omega
     have n:∀i j t,i<25->bl (Zby xs ys i j t).natAbs<=65536:=λi j t hi=>by have:=Ys9 (i:=i) (j:=j) (t:=t) (Pd xs) (Pd ys) O;omega
     have o:∀t,bl (acc xs ys xs.length t).natAbs<=65536:=λt=>by have:=bl_acc (i:=xs.length) (t:=t) (Pd xs) (Pd ys) O;omega
     have w:∀i j,i<25->bl (Zby xs ys i j (i+j)+cf xs i*cf ys j).natAbs<=65536:=λi j hi=>by rw [<-Ygx];exact n i (j+1) _ hi
     refine go 4 ?_;refine Yg (Zy 3) λb _=>?_;refine go 10 ⟨O,O,?_⟩;refine tt (Hg 4 (xs.length+ys.length-1) 24 (enc:=wv) 0 J J J J Mu ti80 J pV.cells pV.pos J J J D.h) λv _=>go 12 ?_;refine lp (G:=Nat) [1,6,7,51,52] [0,1,2,3] (λi=>[(53,.int .i64 (i:Int))]) (λi=>[(4,Of 2 80 wv v (mk (xs.length+ys.length-1) (acc xs ys i)))]) (λi=>i<=xs.length) (λi=>xs.length-i) 0 O1 K1 ⟨by rw [Zq3];rfl,aA⟩ ?_;rintro i hi;refine go 6 ?_;refine Ze J (λl=>?_) (λl=>?_)
     .refine go 9 ⟨O2,O2,?_⟩;refine Yg (Zy 5) λP _=>go 12 ?_;refine lp (G:=Nat) [1,6,7,8,9,51,52,53,58,59] [0,1,2,3,5] (λj=>[(60,.int .i64 (j:Int))]) (λj=>[(4,Of 2 80 wv v (mk (xs.length+ys.length-1) (Zby xs ys i j)))]) (λj=>j<=ys.length) (λj=>ys.length-j) 0 O1 K1 ⟨by rw [Ygw];rfl,aA⟩ ?_;rintro j Z;have a:i+j<xs.length+ys.length-1->(mk (xs.length+ys.length-1) (Zby xs ys i j)).getD (i+j) 0=Zby xs ys i j (i+j):=λh=>Zet h;refine go 6 ?_;refine Ze J (λm=>?_) (λm=>?_)
      .refine go 9 ⟨O2,O2,?_⟩;refine Yg (Zy 6) λQ _=>go 4 ?_;refine Qd (λx=>x=b) [(0,0),(1,0),(2,0),(3,0),(4,0),(5,0),(6,0),(7,0),(8,0),(9,0),(10,0),(11,0),(12,1),(13,1),(14,0),(15,3)]<|go 8 ⟨O,O,?_⟩;refine Xh J J (st1 3 J (Zv 4 (i+j) J J J J (Ya pV) Mu Kl O (by rw [Yt];omega)))<|go 3 ⟨by rw [Yt];omega,?_⟩;refine Ko J (Pb 6 3 (Ce (B.sz _) (z.sz _) (s i j)) J J J K3 call191 J O3 Zn J D.h J) (λ_ _=>?_);refine Ko J (Pb 6 3 (Znf (by rw [a O];exact n i j _ O) (s i j) (by rw [a O];exact w i j O)) J J J K3 call196 J O3 Zn J D.h J) (λ_ _=>?_);refine Xh J J (st1 3 J (Zv 4 (i+j) J J J J (Ya pV) Mu Kl O (by rw [Yt];omega)))<|r3' J (Ke 4 (enc:=wv) J J J J J J pV J D.h O3 (by rw [Yt];omega)) (λ_ _=>?_);refine go 7 ⟨O,?_⟩;exact Yf (j+1) O1 O1 K1 ⟨by rw [<-Yn8 O,<-a O];rfl,aA⟩
      .refine go 10 ⟨O,?_⟩;obtain rfl:j=ys.length:=O;exact Yf (i+1) O1 O1 K1 ⟨by rw [<-Yn9];rfl,aA⟩
     .refine go 6 ?_;obtain rfl:i=xs.length:=O;refine Zf (Xn 4 J J pV)<|go 2 ?_;refine tt (Pb 7 3 (Zbu (Bj λt _=>o t)) J J J K2 call192 J O3 (Zk 4 J J J Zn) J D.h aA) λ_ _=>go 7 ?_;exact Mj f _ results138 J aA (Pq 7 Za (by rw [Yj5]<;>rfl))
end Go.Sky

