/- Rules, arithmetic and contracts: part 14. No conditions but those that each theorem names. -/
import Derived.Test.YthennaflbbajkaaGreatAk12
set_option linter.all false
set_option maxHeartbeats 4000000
namespace Go.Sky
open Go.Proofs.Tryz
open Go.Proofs
set_option synthInstance.maxHeartbeats 0
set_option synthInstance.maxSize 100000
set_option maxRecDepth 20000
set_option linter.unusedSimpArgs false
variable{v w:Value}{xs ts:List Nat}{y:Nat}{x:Int}{s t:Bool}{listed:Array Bool}{ops:Array Oper}
theorem Yef(g:xs.length*8<=140737488355328):Ymj prog 246 #[v] [Yt 1 Mn v xs] (G:=Value) (λr=>True) (λr=>r) (λr=>Nk 1 87 Mn r xs):=by
 refine Zr1 func246 J ntmps246 J K1 ?_;intro j h d e;have d:=Hw.mk d;simp only [Ql,Yn];refine Mm (Yjw (i:=1) J Zl) λc=>go 9 ?_;refine dt (Zrn J J J (i:=1) J Zl Po)<|go 2 ?_;refine Yq J (λb=>?_) (λb=>?_)
 .refine go 7 ?_;obtain rfl:xs=[]:=c (by simpa using b);exact Xh (Gg 9 1 87 Mn)<|Zho (.inl J) (.slice none 0 0) (λa w hs=>Fw hs results246 J) J aA J 9 J J J
 .refine go 4 ?_;refine tt (Yfd 2 (enc:=Mn) J J J Po pU J d.h) λv _=>go 1 ?_;refine tt (Er 2 1 8 J J J J J J O4 J Zl Po ti87 J pU J J J O10 O4 J d.h) λf _=>go 4 ?_;exact Zho (.inl J) _ (λa w hs=>Fw hs results246 J) J aA J 2 J (by rfl) J
theorem Zv3{h l:Nat}(hl:l<U)(hy:y<U)(hh:h<y):Xf prog 224 #[.int .u64 (h:Int),.int .u64 (l:Int),.int .u64 (y:Int)] [] (.tuple #[.int .u64 (((h*U+l)/y:Nat):Int),.int .u64 (((h*U+l)%y:Nat):Int)]):=by
 refine Ze func224 ntmps224 λw0 sc hw a8=>?_;have c0:U=18446744073709551616:=rfl;have hp:0<y:=O1;have c1:bl y<=64:=(Qs 64 y).2 hy;obtain⟨s,hs⟩:∃s,s=64-bl y:=⟨_,rfl⟩;obtain⟨Y,g⟩:∃Y,Y=y*2^s:=⟨_,rfl⟩;obtain⟨b6,S⟩:=Yhw hp hy hs;rw [<-g]at b6 S;have V:=S;obtain⟨D,hD⟩:∃D,D=(h*U+l)*2^s:=⟨_,rfl⟩;obtain⟨u,Z⟩:∃u,u=D/U:=⟨_,rfl⟩;obtain⟨v,a0⟩:∃v,v=D%U:=⟨_,rfl⟩;obtain⟨v1,Q⟩:∃x,x=v/4294967296:=⟨_,rfl⟩;obtain⟨v0,P⟩:∃x,x=v%4294967296:=⟨_,rfl⟩;obtain⟨d,b1⟩:∃x,x=Y/4294967296:=⟨_,rfl⟩;obtain⟨N,a9⟩:∃x,x=Y%4294967296:=⟨_,rfl⟩;have e:Y=d*4294967296+N:=O1;have b7:=shl_lt hh (show y*2^s<U by rw [<-g];exact S);have c3:u<Y:=by rw [Z,hD,g];exact top_lt hl hh
 have hu:u<d*4294967296+N:=O1;have c4:v<U:=by rw [a0];exact bK _ Xt
 have b0:2147483648<=d:=O1;have i:d<4294967296:=O1;have f:N<4294967296:=O1;have M:v1<4294967296:=O1;have I:v0<4294967296:=O1;obtain⟨Q1,m⟩:∃x,x=(u*4294967296+v1)/Y:=⟨_,rfl⟩;obtain⟨t,H⟩:∃x,x=(u*4294967296+v1)%Y:=⟨_,rfl⟩;have c2:t<Y:=by rw [H];exact bK _ O1
 have ht:t<d*4294967296+N:=O1;obtain⟨Q0,k⟩:∃x,x=(t*4294967296+v0)/Y:=⟨_,rfl⟩;have R:0<Y:=O1;obtain⟨a6,a7⟩:=dv_two (D:=D) R Z a0 Q P;rw [<-m,<-H,<-k]at a6;rw [<-H]at a7;have b8:Q0<4294967296:=by rw [k,e];exact dv_Q I ht
 have b9:Q1<4294967296:=by rw [m,e];exact dv_Q M hu
 refine go 13<|Zb J (λa1=>?_) (λa1=>?_)
 .exfalso;omega
 .refine go 10<|Zb J (λa2=>?_) (λa2=>?_)
  .exfalso;omega
  .refine go 9<|Zb J (λa3=>?_) (λa3=>?_)
   .refine go 1<|Pg (λ_=>False) [(0,0),(1,0),(2,0),(3,0),(4,0),(5,0),(6,0),(7,3)]<|go 2 ?_;refine Qb J J (Pj (Ye5 J J J))<|go 2 ?_;refine Qb J J (Pj (u_rem J J J O1))<|go 6 ?_;exact Nn a8 () results224 (by have h0:h=0:=O1;rw [h0];simp) aA Za
   .refine go 5 ?_;refine cl 0 [] (Zsa hy) λ_ _=>?_;refine dt (Zrp J J uT3 underlying221 (by simp only [U];omega))<|go 4 ?_;refine Zq (Km 8 (v':= .int .u64 (s:Int)) J (by rw [hs]))<|go 3 ?_;refine dt (Zno J J J J)<|go 4 ?_;refine Zq (Km 2 (v':= .int .u64 (Y:Int)) J (by rw [g,bE (by rw [<-g];exact V)]))<|go 2 ?_;refine dt (Fu 4294967296 (n:=32) J J J J J)<|go 6 ?_;refine dt (Zsu J J J)<|go 7 ?_;refine dt (Zno J J J J)<|go 2 ?_;refine dt (Zeu J J J (by first|exact bK _ Xt|omega))<|dt (Znn J J (n:=64-s) J (by simp only [U];omega))<|dt (Ymz J J J (bK _ Xt) (aY (fF _ _) hl))<|go 4 ?_;refine Zq (Km 11 (v':= .int .u64 (u:Int)) J (by rw [Z,hD,Yhh O1 b7 hl]))<|go 3 ?_;refine dt (Zno J J J J)<|go 4 ?_;refine Zq (Km 12 (v':= .int .u64 (v:Int)) J (by rw [a0,hD,Ydl h l s]))<|go 2 ?_;refine dt (Fu 4294967296 (n:=32) J J J J J)<|go 4 ?_;refine Zq (Km 13 (v':= .int .u64 (v1:Int)) J (by rw [Q]))<|go 2 ?_;refine dt (Zsu J J J)<|go 4 ?_;refine Zq (Km 14 (v':= .int .u64 (v0:Int)) J (by rw [Zv9,P]))<|Zq (Km 9 (v':= .int .u64 (d:Int)) J (by rw [b1]))<|Zq (Km 10 (v':= .int .u64 (N:Int)) J (by rw [Zv9,a9]))<|go 3 ?_;refine dt (Ye5 J J J)<|go 8 ?_;refine dt (Bh J J J)<|dt (Zeu J J J (by first|exact bK _ Xt|omega))<|go 3 ?_;refine jn (G:=Unit) [2,8,9,10,11,13,14] [0] (λ_=>[(15,.int .u64 ((Q1:Nat):Int))]) (λ_=>[]) (λ_=>True) ?_ ?_
    .refine go 1<|Zq (Km 16 (v':= .int .u64 ((u%d:Nat):Int)) J (by rw [rsub O1 O1])) ?_;refine lp (G:=Nat×Nat) [2,8,9,10,11,13,14] [0] (λq=>[(15,.int .u64 (q.1:Int)),(16,.int .u64 (q.2:Int))]) (λq=>[]) (λq=>(dvI u v1 d N q.1 q.2)/\(q.2<4294967296)) (λq=>q.1) (u/d,u%d) ⟨dv0 b0 i f M hu,iR (bK _ O1) i⟩ K2 aA ?_;rintro⟨a,r⟩ ⟨j,hr⟩;dsimp only at j hr;dsimp only;have b4:=j.1;have b5:=j.2.1;refine go 6<|Zk 69 J (λb2=>?_) (λb2=>?_)
     .refine go 16 ?_;have b:=Zj1 O1 j M hu O1;have c:=b.1;refine go 2 ?_;refine dt (Zeu (n:=1) J J J)<|go 4 ?_;refine Zq (Km 15 (v':= .int .u64 ((a-1:Nat):Int)) J (Zbx (Zvf c O1)))<|go 3 ?_;refine dt (Aj J J J)<|go 4 ?_;refine Zq (Km 16 (v':= .int .u64 ((r+d:Nat):Int)) J (Zbx (bE O1)))<|go 5<|Zb J (λa4=>?_) (λa4=>?_)
      .refine go 4 ?_;have z:Q1=a-1:=by rw [m,e];exact(Zhc O1 f b.2 O1 O1).symm
       exact Fb () aA ⟨by rw [z];rfl,aA⟩ aA
      .refine go 2 ?_;exact Yj (a-1,r+d) ⟨b.2,O12⟩ O2 K2 aA
     .have W:=Zt9 (show a<4294967296 by omega) f;have e1:=bE (show a*N<U from W);have e2:=bE (show 4294967296*r<U by omega);have e3:=bE (show 4294967296*r+v1<U by omega);refine go 2 ?_;refine Hz (Bh J J J) J J<|go 1 ?_;refine Hz (Bh J J J) J J<|go 1 ?_;refine Hz (Aj J J J) J J<|go 4 ?_;refine Zb J (λo=>?_) (λo=>?_)
      .rw [e1,e2,e3]at o;refine go 4 ?_;have b:=Zj1 O1 j M hu O1;have c:=b.1;refine go 2 ?_;refine dt (Zeu (n:=1) J J J)<|go 4 ?_;refine Zq (Km 15 (v':= .int .u64 ((a-1:Nat):Int)) J (Zbx (Zvf c O1)))<|go 3 ?_;refine dt (Aj J J J)<|go 4 ?_;refine Zq (Km 16 (v':= .int .u64 ((r+d:Nat):Int)) J (Zbx (bE O1)))<|go 5<|Zb J (λB=>?_) (λB=>?_)
       .refine go 4 ?_;have z:Q1=a-1:=by rw [m,e];exact(Zhc O1 f b.2 O1 O1).symm
        exact Fb () aA ⟨by rw [z];rfl,aA⟩ aA
       .refine go 2 ?_;exact Yj (a-1,r+d) ⟨b.2,O12⟩ O2 K2 aA
      .rw [e1,e2,e3]at o;refine go 4 ?_;have z:Q1=a:=by rw [m,e];exact(Zrj O1 j O1).symm
       exact Fb () aA ⟨by rw [z];rfl,aA⟩ aA
    .rintro _ -;refine go 3 ?_;refine dt (Bh J J J)<|go 1 ?_;refine dt (Aj J J J)<|go 2 ?_;refine dt (Bh J J J)<|dt (Zeu J J J (by first|exact bK _ Xt|omega))<|go 4 ?_;refine Zq (Km 17 (v':= .int .u64 (t:Int)) J (by rw [H,m,Ybe R V]))<|go 3 ?_;refine dt (Ye5 J J J)<|go 8 ?_;refine dt (Bh J J J)<|dt (Zeu J J J (by first|exact bK _ Xt|omega))<|go 3 ?_;refine jn (G:=Unit) [2,8,14,15,17] [0] (λ_=>[(18,.int .u64 ((Q0:Nat):Int))]) (λ_=>[]) (λ_=>True) ?_ ?_
     .refine go 1<|Zq (Km 16 (v':= .int .u64 ((t%d:Nat):Int)) J (by rw [rsub O1 O1])) ?_;refine lp (G:=Nat×Nat) [2,8,9,10,14,15,17] [0] (λq=>[(18,.int .u64 (q.1:Int)),(16,.int .u64 (q.2:Int))]) (λq=>[]) (λq=>(dvI t v0 d N q.1 q.2)/\(q.2<4294967296)) (λq=>q.1) (t/d,t%d) ⟨dv0 b0 i f I ht,iR (bK _ O1) i⟩ K2 aA ?_;rintro⟨a,r⟩ ⟨j,hr⟩;dsimp only at j hr;dsimp only;have b4:=j.1;have b5:=j.2.1;refine go 6<|Zk 104 J (λb3=>?_) (λb3=>?_)
      .refine go 16 ?_;have b:=Zj1 O1 j I ht O1;have c:=b.1;refine go 2 ?_;refine dt (Zeu (n:=1) J J J)<|go 4 ?_;refine Zq (Km 18 (v':= .int .u64 ((a-1:Nat):Int)) J (Zbx (Zvf c O1)))<|go 3 ?_;refine dt (Aj J J J)<|go 4 ?_;refine Zq (Km 16 (v':= .int .u64 ((r+d:Nat):Int)) J (Zbx (bE O1)))<|go 5<|Zb J (λa5=>?_) (λa5=>?_)
       .refine go 4 ?_;have z:Q0=a-1:=by rw [k,e];exact(Zhc O1 f b.2 O1 O1).symm
        exact Fb () aA ⟨by rw [z];rfl,aA⟩ aA
       .refine go 2 ?_;exact Yj (a-1,r+d) ⟨b.2,O12⟩ O2 K2 aA
      .have W:=Zt9 (show a<4294967296 by omega) f;have e1:=bE (show a*N<U from W);have e2:=bE (show 4294967296*r<U by omega);have e3:=bE (show 4294967296*r+v0<U by omega);refine go 2 ?_;refine Hz (Bh J J J) J J<|go 1 ?_;refine Hz (Bh J J J) J J<|go 1 ?_;refine Hz (Aj J J J) J J<|go 4 ?_;refine Zb J (λp=>?_) (λp=>?_)
       .rw [e1,e2,e3]at p;refine go 4 ?_;have b:=Zj1 O1 j I ht O1;have c:=b.1;refine go 2 ?_;refine dt (Zeu (n:=1) J J J)<|go 4 ?_;refine Zq (Km 18 (v':= .int .u64 ((a-1:Nat):Int)) J (Zbx (Zvf c O1)))<|go 3 ?_;refine dt (Aj J J J)<|go 4 ?_;refine Zq (Km 16 (v':= .int .u64 ((r+d:Nat):Int)) J (Zbx (bE O1)))<|go 5<|Zb J (λF=>?_) (λF=>?_)
        .refine go 4 ?_;have z:Q0=a-1:=by rw [k,e];exact(Zhc O1 f b.2 O1 O1).symm
         exact Fb () aA ⟨by rw [z];rfl,aA⟩ aA
        .refine go 2 ?_;exact Yj (a-1,r+d) ⟨b.2,O12⟩ O2 K2 aA
       .rw [e1,e2,e3]at p;refine go 4 ?_;have z:Q0=a:=by rw [k,e];exact(Zrj O1 j O1).symm
        exact Fb () aA ⟨by rw [z];rfl,aA⟩ aA
     .rintro _ -;refine go 3 ?_;refine dt (Bh J J J)<|go 1 ?_;refine dt (Aj J J J)<|go 1 ?_;refine dt (Bh J J J)<|go 1 ?_;refine dt (Aj J J J)<|go 2 ?_;refine dt (Bh J J J)<|dt (Zeu J J J (by first|exact bK _ Xt|omega))<|go 1 ?_;refine dt (Znn J J J J)<|go 5 ?_;have hA:(Q1*4294967296%U+Q0)%U=(h*U+l)/y:=by rw [<-Zny _ y s,<-hD,<-g,a6];simp only [U];omega
      have hB:((t*4294967296%U+v0)%U+(U-(Q0*Y)%U))%U/2^s=(h*U+l)%y:=by rw [<-Znx _ y s,<-hD,<-g,a7,k,Ybe R V]
      exact Nn a8 () results224 (by rw [hA,hB]) aA Za
theorem Ydh{x d:Nat}(u:bl x<=8589934592)(f:0<d)(g:d<U):Cal prog 222 #[v,.int .u64 (d:Int)] [Dq v x] false (G:=Value) (λr=>True) (λr=> .tuple #[r,.int .u64 ((x%d:Nat):Int)]) (λr=>[Dq r (x/d)]):=by
 refine Ze func222 ntmps222 λB z j i=>?_;have p:=Mb x;refine go 10 ?_;refine tt (Dt 2 ((dg U x).length) 8 (enc:=Mn) 0 J J J J Po ti87 J pU.cells pU.pos J J J j.h) (λv _=>?_);refine go 18 ⟨O1,?_⟩;refine lp (G:=Nat×List Nat×Nat) [0,1,6] [0,1] (λq=>[(8,.int .i64 ((q.1:Int)-1)),(7,.int .u64 (q.2.2:Int))]) (λq=>[(2,Nk 1 87 Mn v q.2.1)]) (λq=>(q.1<=(dg U x).length)/\(q.2.1.length=(dg U x).length)/\(q.2.2<d)/\(∀d∈q.2.1,d<U)/\(val U (q.2.1.drop q.1)*d+q.2.2=val U ((dg U x).drop q.1))) (λq=>q.1) ((dg U x).length,List.replicate (dg U x).length 0,0) ⟨aI _,O8,O2,Lk Xt,by simp [val]⟩ K2 K1 ?_;rintro⟨k,o,r⟩ ⟨l,h,c,a,e⟩;dsimp only at l h c a e;dsimp only;refine go 7<|Zb J (λb=>?_) (λb=>?_)
 .refine go 10 ?_;refine dt (Yk 1 (k-1) J J J J Zl Po Dl)<|go 2 ⟨O3,?_⟩;refine cl 2 [] (Zv3 (Pn Xt (Fk Xp _) _) g c) λ_ _=>go 3 ?_;refine dt (Yk 2 (k-1) J J J J (Yu pU) Po Dl)<|tt (Lu 2 (enc:=Mn) J J J J J J pU J j.h O4 O3) (λ_ _=>?_);refine go 9 ⟨O1,?_⟩;exact Yj (k-1,_,_) ⟨O2,O10,bK _ f,Iy a _ _ (Zu7 (Pn Xt (Fk Xp x) _) c),Zwp f O1 O1 (by rw [show k-1+1=k by omega];exact e)⟩ O2 ⟨by rw [show(((k-1:Nat):Int)-1)=(k:Int)-1-1 by omega];rfl,rfl,aA⟩ K1
 .refine go 8 ?_;refine cl 2 [2] Px λ_ _=>?_;refine Ng (Zk3 2 J J pU)<|go 6 ?_;obtain rfl:k=0:=O1;rw [kK,kK,Fd Xp]at e;have n:tz o=dg U (x/d):=by rw [<-Bf Xp _ a,<-e,cI,iZ f,dZ c,gN]
  have m:r=x%d:=by rw [<-e,cI,jV,bE c]
  exact Nn i _ results222 (by rw [m]) aA (gow 2 Za n)
theorem Zqd{x s:Nat}(Y:bl x<=4294967296:=by omega)(hs:s<=4294967296:=by omega):Cal prog 223 #[v,.int .i64 (s:Int)] [Dq v x] false (G:=Value) (λr=>True) (λr=>r) (λr=>[Dq r (x*2^s)]):=by
 refine Ze func223 ntmps223 λw0 Z M D=>?_;obtain⟨w,V⟩:∃w,w=s/64:=⟨_,rfl⟩;obtain⟨b,R⟩:∃b,b=s%64:=⟨_,rfl⟩;have W:=Mb x;refine go 13<|Zb J (λm=>?_) (λm=>?_)
 .refine go 7<|Xh (Gg 9 1 87 Mn) ?_;have N:x=0:=(Ny Xp x).1 O1;exact Yv D (.slice none 0 0) results223 J aA (gow 9 Za (by rw [N,iM];rfl))
 .refine go 5 ?_;refine dt (Zmr J J J O1 O1 O1)<|go 1 ?_;refine dt (Ko J J J O1 O1)<|go 5 ?_;refine Zq (Km 5 (v':= .int .i64 (w:Int)) J (by congr 1;omega))<|Zq (Km 6 (v':= .int .i64 (b:Int)) J (by congr 1;omega))<|go 6 ⟨O1,O1,?_⟩;refine tt (Dt 2 ((dg U x).length+w+1) 8 (enc:=Mn) 0 J J J J Po ti87 J pU.cells pU.pos J J J M.h) λv _=>go 12 ?_;refine lp (G:=Nat×List Nat) [5,6,7,23,24] [0,1] (λq=>[(25,.int .i64 (q.1:Int))]) (λq=>[(2,Nk 1 87 Mn v q.2)]) (λq=>(q.1<=(dg U x).length)/\(q.2.length=(dg U x).length+w+1)/\(q.2.getD (w+q.1) 0<2^b)/\(∀j,w+q.1<j->q.2.getD j 0=0)/\(∀d∈q.2,d<U)/\(val U (q.2.take ((dg U x).length+w+1))=val U ((dg U x).take q.1)*2^b*U^w)) (λq=>(dg U x).length-q.1) (0,List.replicate ((dg U x).length+w+1) 0) ⟨O2,O8,by rw [Dc];exact dM b,λj _=>Dc _ j,Lk Xt,by rw [mI,Cj];simp [val]⟩ K1 K1 ?_;rintro⟨i,o⟩ ⟨hi,B,Q,l,a,H⟩;dsimp only at hi B Q l a H;dsimp only;have F:i<(dg U x).length->_:=λS=>Yf6 (xs:=dg U x) (show b<=63 by omega) B.symm (show w+i+1<_ by omega) Q (l (w+i+1) O1) (Pn Xt (Fk Xp x) i) H;refine go 6<|Zb J (λp=>?_) (λp=>?_)
  .refine go 14 ⟨O3,O3,?_⟩;have f:=Pn Xt (Fk Xp x) i;refine Pg (λ_=>False) [(0,0),(1,0),(2,0),(3,0),(4,0),(5,0),(6,0),(7,0),(8,0),(9,0),(10,0),(11,3)]<|go 4 ⟨O1,?_⟩;refine Qb J J (Pj (Yk 2 (w+i) J J J J (Yu pU) Po Dl))<|go 3 ⟨O3,?_⟩;refine Qb J J (Pj (Zno J J (n:=b) J J))<|Qb J J (Pj (Ymz J J J (Pn Xt a _) (bK _ Xt)))<|Qb J J (Pj (Yk 2 (w+i) J J J J (Yu pU) Po Dl))<|r3' J (Lu 2 (enc:=Mn) J J J J J J pU J M.h O4 O3) λ_ _=>go 8 ?_;refine Zb J (λu=>?_) (λu=>?_)
   .have c:=Iy (Iy a (w+i) (o.getD (w+i) 0 ||| (dg U x).getD i 0*2^b%U) (jH (n:=64) (Pn Xt a _) (bK _ Xt))) (w+i+1) ((dg U x).getD i 0/2^(64-b)) (aY (fF _ _) f);have g:((o.set (w+i) (o.getD (w+i) 0 ||| (dg U x).getD i 0*2^b%U)).set (w+i+1) ((dg U x).getD i 0/2^(64-b))).getD (w+i+1) 0<2^b:=by rw [Ml O10,aO rfl];exact Zfv O1 f
    have k:∀j,w+i+1<j->((o.set (w+i) (o.getD (w+i) 0 ||| (dg U x).getD i 0*2^b%U)).set (w+i+1) ((dg U x).getD i 0/2^(64-b))).getD j 0=0:=λj z=>by rw [Ml O10,aF O1,Ml O1,aF O1];exact l j O1
    have e:=F O1;refine go 9 ⟨O1,O1,O1,?_⟩;refine dt (Znn J J (n:=64-b) J O1)<|dt (Yk 2 (w+i+1) J J J J (Yu pU) Po Dl O1 (by simp only [cH];omega))<|tt (Lu 2 (enc:=Mn) J J J J J J pU J M.h O4 (by simp only [cH];omega)) (λ_ _=>?_);refine go 7 ⟨O1,?_⟩;exact Yj (i+1,_) ⟨O2,O10,by dsimp only;rw [show w+(i+1)=w+i+1 by omega];exact g,λj z=>by have I:w+(i+1)<j:=z;dsimp only;exact k j O1,c,e⟩ O2 K1 K1
   .obtain rfl:b=0:=O1;have c:=Iy a (w+i) (o.getD (w+i) 0 ||| (dg U x).getD i 0*2^0%U) (jH (n:=64) (Pn Xt a _) (bK _ Xt));have g:(o.set (w+i) (o.getD (w+i) 0 ||| (dg U x).getD i 0*2^0%U)).getD (w+i+1) 0<2^0:=by rw [Ml O1,aF O1,l _ O1];exact dM 0
    have k:∀j,w+i+1<j->(o.set (w+i) (o.getD (w+i) 0 ||| (dg U x).getD i 0*2^0%U)).getD j 0=0:=λj z=>by rw [Ml O1,aF O1];exact l j O1
    have e:=F O1;rw [show(dg U x).getD i 0/2^(64-0)=0 from dZ f]at e;have h:=Znf (o.set (w+i) (o.getD (w+i) 0 ||| (dg U x).getD i 0*2^0%U)) (w+i+1) (by rw [Ml O1,aF O1,l _ O1]);rw [h]at e;refine go 7 ⟨O1,?_⟩;exact Yj (i+1,_) ⟨O2,O10,by dsimp only;rw [show w+(i+1)=w+i+1 by omega];exact g,λj z=>by have I:w+(i+1)<j:=z;dsimp only;exact k j O1,c,e⟩ O2 K1 K1
  .refine go 8 ?_;refine cl 2 [2] Px λ_ _=>?_;refine Ng (Zk3 2 J J pU)<|go 4 ?_;obtain rfl:i=(dg U x).length:=O1;have P:tz o=dg U (x*2^s):=by rw [<-Bf Xp _ a];congr 1;rw [Iq U o O1,cN (aI _),Fd Xp,Zdv,fB,<-bQ,show b+64*w=s by omega]at H;exact H
   exact Yv D _ results223 J aA (gow 2 Za P)
theorem Yop{x s:Nat}(S:bl x<=8589934592)(hs:s<=8589934592):Cal prog 225 #[v,.int .i64 (s:Int)] [Dq v x] false (G:=Value) (λr=>True) (λr=>r) (λr=>[Dq r (x/2^s)]):=by
 refine Ze func225 ntmps225 λW V H F=>?_;obtain⟨w,m⟩:∃w,w=s/64:=⟨_,rfl⟩;obtain⟨b,k⟩:∃b,b=s%64:=⟨_,rfl⟩;have R:=Mb x;have P:((dg U x).drop w).length=(dg U x).length-w:=jM;refine go 8 ?_;refine dt (Zmr J J J O1 O1 O1)<|go 1 ?_;refine dt (Ko J J J O1 O1)<|go 6 ?_;refine Zq (Km 5 (v':= .int .i64 (w:Int)) J (by congr 1;omega))<|Zq (Km 6 (v':= .int .i64 (b:Int)) J (by congr 1;omega))<|go 7<|Zb J (λz=>?_) (λz=>?_)
 .refine go 7<|Xh (Gg 9 1 87 Mn) ?_;have I:x/2^s=0:=by rw [Zbc m k,dZ ((Qd Xp w x).1 O1),Nat.zero_div]
  exact Yv F (.slice none 0 0) results225 J aA (gow 9 Za (by rw [I];rfl))
 .refine go 6 ?_;refine dt (d_suf 1 w J J J J Zl Po Dl O1)<|Ng (s_suf 1 2 w J J)<|tt (Zjg 3 (Yef (by simp only [jM];omega)) J J J K1 call246 (Yc 2 J J J Zo) J H.h) λv _=>go 3 ?_;refine jn (G:=List Nat) [7] [0,1,2] (λo=>[]) (λo=>[(3,Nk 1 87 Mn v o)]) (λo=>(o.length=(dg U x).length-w)/\(∀j,j<o.length->o.getD j 0=x/2^s/U^j%U)) ?_ ?_
  .refine go 6<|Zb J (λB=>?_) (λB=>?_)
   .refine go 8 ?_;refine lp (G:=Nat×List Nat) [0,5,6,7,24] [0,1,2] (λq=>[(25,.int .i64 (q.1:Int))]) (λq=>[(3,Nk 1 87 Mn v q.2)]) (λq=>(q.1<=(dg U x).length-w)/\(q.2.length=(dg U x).length-w)/\(∀j,j<q.1->q.2.getD j 0=x/2^s/U^j%U)/\(∀j,q.1<=j->q.2.getD j 0=x/U^w/U^j%U)/\(∀d∈q.2,d<U)) (λq=>(dg U x).length-w-q.1) (0,(dg U x).drop w) ⟨bI _,O8,λj f=>absurd f (bJ j),λj _=>Ybh x w j,λd N=>Fk Xp x d (mA N)⟩ K1 K1 ?_;rintro⟨i,o⟩ ⟨hi,u,p,l,a⟩;dsimp only at hi u p l a;dsimp only;refine go 6<|Zb J (λD=>?_) (λD=>?_)
    .refine go 17 ⟨O3,O3,?_⟩;refine dt (Znn J J (n:=b) J J)<|go 1 ⟨O3,?_⟩;refine tt (Lu 3 (enc:=Mn) J J J J J J pU J H.h O4 O3) (λ_ _=>?_);refine go 11 ⟨O1,?_⟩;refine Zb J (λg=>?_) (λg=>?_)
     .simp only [cH]at g;have c:∀j,((o.set i (o.getD i 0/2^b)).set i ((o.set i (o.getD i 0/2^b)).getD i 0 ||| ((dg U x).getD (w+i+1) 0*2^(64-b))%U)).getD j 0=if i=j then x/2^s/U^i%U else o.getD j 0:=λj=>by
       rw [Ml O10,Ml O1,Ml O1];split
       .rw [aO rfl,l i (aI _),Ft Xp,Zbc m k,Zu9,show x/U^(w+i+1)=x/U^w/U^i/U by rw [aV,aV,<-dH,<-bQ];rfl,Zs9 _ _ O1]
       .rfl
      have h:=Iy (Iy a i (o.getD i 0/2^b) (aY (fF _ _) (Pn Xt a _))) i ((o.set i (o.getD i 0/2^b)).getD i 0 ||| ((dg U x).getD (w+i+1) 0*2^(64-b))%U) (jH (n:=64) (Pn Xt (Iy a _ _ (aY (fF _ _) (Pn Xt a _))) _) (bK _ Xt));refine Pg (λ_=>False) [(0,0),(1,0),(2,0),(3,0),(4,0),(5,0),(6,0),(7,0),(8,0),(9,0),(10,0),(11,0),(12,0),(13,0),(14,0),(15,0),(16,3)]<|go 9 ⟨O3,O3,O1,O1,?_⟩;refine Qb J J (Pj (Yk 1 (w+i+1) J J J J Zl Po Dl O1 O3))<|go 3 ⟨O3,O1,?_⟩;refine Qb J J (Pj (Zno J J (n:=64-b) J O1))<|Qb J J (Pj (Ymz J J J (Pn Xt (Iy a _ _ (aY (fF _ _) (Pn Xt a _))) _) (bK _ Xt)))<|go 1 ⟨O3,?_⟩;refine r3' J (Lu 3 (enc:=Mn) J J J J J J pU J H.h O4 O3) (λ_ _=>?_);refine go 7 ⟨O1,?_⟩;exact Yj (i+1,_) ⟨O2,O10,λj f=>by dsimp only;rw [c j];split;(· rename_i e;rw [<-e]);exact p j (by have:j<i+1:=f;omega),λj f=>by dsimp only;rw [c j,aF (by have:i+1<=j:=f;omega)];exact l j (by have:i+1<=j:=f;omega),h⟩ O2 K1 K1
     .have c:∀j,(o.set i (o.getD i 0/2^b)).getD j 0=if i=j then x/2^s/U^i%U else o.getD j 0:=λj=>by
       rw [Ml O1];split
       .rw [l i (aI _),Zbc m k,Zu9,Ycz O1];rw [aV,<-dH];exact dZ (Yao (by simp only [cH]at g;omega))
       .rfl
      have h:=Iy a i (o.getD i 0/2^b) (aY (fF _ _) (Pn Xt a _));refine go 7 ⟨O1,?_⟩;exact Yj (i+1,_) ⟨O2,O10,λj f=>by dsimp only;rw [c j];split;(· rename_i e;rw [<-e]);exact p j (by have:j<i+1:=f;omega),λj f=>by dsimp only;rw [c j,aF (by have:i+1<=j:=f;omega)];exact l j (by have:i+1<=j:=f;omega),h⟩ O2 K1 K1
    .refine go 4 ?_;exact Fb _ ⟨O1,by intro j f;rw [p j O1]⟩ aA K1
   .refine go 1 ?_;exact Fb _ ⟨O8,by intro j f;rw [Ybh,Zbc m k,show b=0 by omega,jZ,Nat.div_one]⟩ aA K1
  .rintro o ⟨u,Q⟩;refine go 3 ?_;refine cl 3 [3] Px λ_ _=>?_;refine Ng (Zk3 3 J J pU)<|go 4 ?_;have M:tz o=dg U (x/2^s):=Zwk Xp Q (by rw [u,Zbc m k];exact aY (fF _ _) (Yao O1));exact Yv F _ results225 J aA (gow 3 Za M)
theorem Zob{x:Nat}(z:bl x<=4294967296:=by omega):Xf prog 186 #[v] [Dq v x] (.string (Xo x)):=by
 refine Ze func186 ntmps186 λD B h g=>?_;have u:=Mb x;have p:=Zxf x;have r:=lenU x;have m:(List.replicate (dg 256 x).length (0:Nat)).length=(dg 256 x).length:=aX;refine go 8 ?_;refine cl 1 [1] Zls λ_ _=>?_;refine go 1 ⟨O1,?_⟩;refine dt (Zmr J J J O1 O1 O1)<|tt (Dt 2 ((dg 256 x).length) 1 (enc:=Yd4) 0 J J J J uT259 ti5 J pB.cells pB.pos J J J h.h) λv _=>go 12 ?_;refine lp (G:=Nat×List Nat) [0,3,12] [0,1] (λq=>[(13,.int .i64 (q.1:Int))]) (λq=>[(2,Nk 1 5 Yd4 v q.2)]) (λq=>(q.1<=(dg 256 x).length)/\(q.2.length=(dg 256 x).length)/\(∀j,j<q.1->q.2.getD j 0=x/256^((dg 256 x).length-1-j)%256)) (λq=>(dg 256 x).length-q.1) (0,List.replicate (dg 256 x).length 0) ⟨O2,O8,λj d=>absurd d (bJ j)⟩ K1 K1 ?_;rintro⟨i,o⟩ ⟨hi,f,b⟩;dsimp only at hi f b;dsimp only;refine go 6<|Zb J (λc=>?_) (λc=>?_)
 .refine go 20 ⟨O1,O1,?_⟩;refine Zq (Km 5 (v':= .int .i64 (((dg 256 x).length-1-i:Nat):Int)) J (by congr 1;omega)) ?_;have a:=Zr3 x ((dg 256 x).length-1-i);rw [<-Ft Xp]at a;refine go 5 ?_;refine dt (Zmr J J J O1 O1 O1)<|dt (Yk 1 (((dg 256 x).length-1-i)/8) J J J J Zl Po Dl)<|go 2 ⟨O1,?_⟩;refine dt (Ko J J J O1 O1)<|go 1 ⟨O1,?_⟩;refine dt (Znn J J (n:=((dg 256 x).length-1-i)%8*8) J O1)<|dt (Zhh J J Zhr uT5)<|go 1 ⟨O3,?_⟩;refine tt (Lu 2 (enc:=Yd4) J J J J J J pB J h.h O4 O3) (λ_ _=>?_);refine go 7 ⟨O1,?_⟩;exact Yj (i+1,_) ⟨O2,O10,λj d=>by dsimp only;rw [Ml O1];split;(· rename_i e;rw [<-e];exact a);exact b j O1⟩ O2 K1 K1
 .refine go 8 ?_;refine dt (d_b2s J J (i:=2) J (Yu pB) uT259 uT9 uT5)<|go 4 ?_;have k:Xo x=⟨(o.map UInt8.ofNat).toArray⟩:=by
   have l:o=(dg 256 x).reverse:=by refine Zft O10 (λj d=>?_);rw [b j O1,Zqw O1,Ft O1]
   rw [l];rfl
  exact Yv g () results186 (by rw [k]) aA Za
theorem Zdz{x:Nat}(H:bl x<=4294967296:=by omega):Cal prog 166 #[.string (Xo x)] [] false (G:=Value) (λr=>True) (λr=>r) (λr=>[Dq r x]):=by
 refine Ze func166 ntmps166 λM I b m=>?_;have F:=Mb x;have B:=Zxf x;have D:=lenU x;have p:=Eh x;refine go 10 ⟨O1,?_⟩;refine dt (Zmr J J J O1 O1 O1)<|tt (Dt 1 ((dg U x).length) 8 (enc:=Mn) 0 J J J J Po ti87 J pU.cells pU.pos J J J b.h) λv _=>go 12 ?_;refine lp (G:=Nat×List Nat) [0,3,12] [0] (λq=>[(13,.int .i64 (q.1:Int))]) (λq=>[(1,Nk 1 87 Mn v q.2)]) (λq=>(q.1<=(dg 256 x).length)/\(q.2.length=(dg U x).length)/\(∀w,w<q.2.length->q.2.getD w 0=hi x ((dg 256 x).length-q.1) w)) (λq=>(dg 256 x).length-q.1) (0,List.replicate (dg U x).length 0) ⟨O2,O8,λw b=>by dsimp only at *;rw [aX]at b;rw [Dc,hi_top O1]⟩ K1 K1 ?_;rintro⟨i,o⟩ ⟨l,f,a⟩;dsimp only at l f a;dsimp only;refine go 6<|Zb J (λk=>?_) (λk=>?_)
 .refine go 20 ⟨O1,O1,?_⟩;refine Zq (Km 5 (v':= .int .i64 (((dg 256 x).length-1-i:Nat):Int)) J (by congr 1;omega)) ?_;have c:=Zv1 x i O1;have h:=a (((dg 256 x).length-1-i)/8) O1;have d:o.getD (((dg 256 x).length-1-i)/8) 0<U:=by rw [h];exact bK _ Xt
  have g:∀w,w<o.length->(o.set (((dg 256 x).length-1-i)/8) (o.getD (((dg 256 x).length-1-i)/8) 0 ||| (((Xo x).data.toList.getD i 0).toNat*2^(((dg 256 x).length-1-i)%8*8))%U)).getD w 0=hi x ((dg 256 x).length-(i+1)) w:=λw b=>by
   rw [c,h,show(dg 256 x).length-i=(dg 256 x).length-1-i+1 by omega,Ypc,Ml O1,show(dg 256 x).length-(i+1)=(dg 256 x).length-1-i by omega];split
   .rename_i e;rw [e]
   .rename_i e;rw [a w b,show(dg 256 x).length-i=(dg 256 x).length-1-i+1 by omega];exact Yix e
  refine Pg (λ_=>False) [(0,0),(1,0),(2,0),(3,0),(4,0),(5,0),(6,0),(7,0),(8,0),(9,0),(10,0),(11,0),(12,0),(13,0),(14,0),(15,3)]<|go 2 ?_;refine Qb J J (Pj (Zmr J J J O1 O1 O1))<|Qb J J (Pj (Yk 1 (((dg 256 x).length-1-i)/8) J J J J (Yu pU) Po Dl))<|go 3 ⟨O3,?_⟩;refine Qb J J (Pj (Ykj J J J uT9 J O1))<|Qb J J (Pj (Zrp J J uT5 Zhr (by have:=(((Xo x).data.toList.getD i 0).toNat_lt);simp only [U];omega)))<|go 1 ?_;refine Qb J J (Pj (Ko J J J O1 O1))<|go 1 ⟨O1,?_⟩;refine Qb J J (Pj (Zno J J (n:=((dg 256 x).length-1-i)%8*8) J O1))<|Qb J J (Pj (Ymz J J J d (bK _ Xt)))<|Qb J J (Pj (Yk 1 (((dg 256 x).length-1-i)/8) J J J J (Yu pU) Po Dl))<|r3' J (Lu 1 (enc:=Mn) J J J J J J pU J b.h O4 O3) (λ_ _=>?_);refine go 7 ⟨O1,?_⟩;exact Yj (i+1,_) ⟨O2,O10,λw b=>g w (by simpa using b)⟩ O2 K1 K1
 .refine go 12 ?_;have z:o=dg U x:=Zft f (λj u=>by rw [a j u,Ft Xp,hi_ge O1]);exact Yv m _ results166 J aA (gow 1 Za z)
theorem Yag{x:Nat}(hx:bl x<=4000000000)(e2:bl y<=4000000000)(hy:0<y):Cal prog 196 #[v,w] [Dq v x,Dq w y] true (G:=Value×Value) (λr=>True) (λr=> .tuple #[r.1,r.2]) (λr=>[Dq r.1 (x/y),Dq r.2 (x%y)]):=by
 refine Ze func196 ntmps196 λw0 sc p S=>?_;have hX:=Mb x;have hY:=Mb y;refine go 11 ?_;refine cl 2 [1,2] (Zda O1 O1) λr hr=>go 3<|Zb J (λW=>?_) (λW=>?_)
 .have o:x<y:=hr.1.1 O1;refine go 9<|Xh (Gg 9 1 87 Mn) ?_;exact Nn S (.slice none 0 0,v) results196 J aA (gow 9 (Kk 1 Za (by rw [bE o])) (by rw [dZ o];rfl))
 .have c6:y<=x:=by have:=hr.1;omega
  have e1:=Lq c6;refine go 10<|Zb J (λY=>?_) (λY=>?_)
  .have V:y<U:=by have:=(Qd Xp 1 y).1 O1;simpa using this
   have m:(dg U y).getD 0 0=y:=by rw [Ft Xp];simp [bE V]
   refine go 6 ⟨O1,O3,?_⟩;refine cl 3 [1] (Ydh O1 (by rw [m];exact hy) (by rw [m];exact V)) λv _=>go 11 ?_;refine tt (Oj [(0,_)] 4 (enc:=Mn) [x%(dg U y).getD 0 0] J J K2 Po ti87 J J J J J pU.cells J J p.h) λe4 _=>cl 4 [4] Px λ_ _=>?_;refine Ng (Zk3 4 J J pU)<|go 6 ?_;exact Nn S (_,_) results196 J aA (Kk 3 (gow 4 Za (by rw [Zhs (iR (bK _ (by rw [m];exact hy)) (by rw [m];exact V)),m])) (by rw [m]<;>rfl))
  .refine go 3 ?_;obtain⟨k,hk⟩:∃k,k=(dg U y).length:=⟨_,rfl⟩;have e0:k<=(dg U x).length:=O1;obtain⟨b,hb⟩:∃b,b=64-bl ((dg U y).getD (k-1) 0):=⟨_,rfl⟩;obtain⟨b4,_,b3,a4,b1,H⟩:=Yom hy hk hb;obtain⟨D,c⟩:∃D,D=y*2^b:=⟨_,rfl⟩;have c7:(dg U D).length=k:=by rw [c];exact b4
   have a3:D<U^k:=by rw [c];exact a4
   have a2:U^(k-1)*9223372036854775808<=D:=by rw [c];exact H
   have l:0<D:=by rw [c];exact gY hy (dM b)
   have d9:bl D<=4000000064:=by rw [c,Zyl hy];omega
   refine go 5 ⟨O1,?_⟩;refine dt (Yk 2 ((dg U y).length-1) J J J J Zl Po Dl)<|go 1 ⟨O3,?_⟩;refine cl 4 [] (Zsa (Pn Xt (Fk Xp y) _)) λ_ _=>?_;refine Ng (Km 44 (v':= .int .i64 (b:Int)) J (by rw [hb,hk]))<|go 3 ?_;refine jn (G:=Value×Value) [0,8] [0,1,2] (λq=>[(9,q.1),(10,q.2)]) (λq=>[(81,Dq q.1 D),(82,Nk 1 87 Mn q.2 (List.replicate ((dg U x).length+1) 0))]) (λq=>True) ?_ ?_
   .refine Bu (λ_=>False) [8]<|Zw 4 [(0,0),(1,0),(3,0),(4,0),(5,0)]<|go 6 ⟨O1,?_⟩;refine Nm 3 2 6 ?_ ?_
    .refine Ha (Zz 81 [2] Zqd) λe5 _=>?_;refine Zw 0 [(7,0),(6,1),(8,3)]<|go 1 ?_;refine Bc J (Dt 82 ((dg U x).length+1) 8 (enc:=Mn) 0 J J J J Po ti87 J pU.cells pU.pos J J J p.h) λe6 _=>go 2 ?_;exact Yr<|Fb (_,_) aA K2 ⟨by rw [c];rfl,rfl,aA⟩
    .refine Za0 J J (Dt 82 ((dg U x).length+1) 8 (enc:=Mn) 0 J J J J Po ti87 J pU.cells pU.pos J J J p.h) (λe7 _=>?_);refine Zw 0 [(2,1),(7,0),(8,3)]<|Qn (Zz 81 [2] Zqd) λe8 _=>go 3 ?_;exact Yr<|Fb (_,_) aA K2 ⟨by rw [c];rfl,rfl,aA⟩
   .rintro⟨vd,vr⟩ -;dsimp only;refine go 1 ?_;have c9:(dg U (x*2^b)).length<=(dg U x).length+1:=(Qd Xp _ _).2 (by rw [dH];exact iC ((Qd Xp _ x).1 (aI _)) (by rw [Yl9];exact dC O1 O1) Xt);refine go 4 ?_;refine cl 5 [1] Zqd λe9 _=>?_;refine tt (t_cpy 82 5 0 J J J J J J O4 J Zl Yj9 (by rw [aX];exact c9) (by rw [aX];omega) (by rw [aX];omega) Po pU J p.h) λ_ _=>go 3 ?_;have a6:(spl (List.replicate ((dg U x).length+1) 0) 0 (dg U (x*2^b))).length=(dg U x).length+1:=by rw [Iu _ _ _ (by rw [aX];omega),aX]
    refine go 7 ?_;have d4:(List.replicate ((dg U x).length+1-k) (0:Nat)).length=(dg U x).length+1-k:=aX;refine Zq (Km 11 (v':= .int .i64 (k:Int)) J (by rw [c7]))<|go 5 ⟨O1,?_⟩;refine tt (Dt 6 ((dg U x).length+1-k) 8 (enc:=Mn) 0 J J J J Po ti87 J pU.cells pU.pos J J J p.h) (λd3 _=>?_);refine go 13 ⟨O1,?_⟩;refine lp (G:=Nat×List Nat×List Nat) [8,9,10,11,12] [0,81,1,2,5] (λq=>[(13,.int .i64 ((q.1:Int)-1))]) (λq=>[(82,Nk 1 87 Mn vr q.2.1),(6,Nk 1 87 Mn d3 q.2.2)]) (λq=>(q.1<=(dg U x).length+1-k)/\(q.2.1.length=(dg U x).length+1)/\(∀d∈q.2.1,d<U)/\(q.2.2.length=(dg U x).length+1-k)/\(∀d∈q.2.2,d<U)/\(val U q.2.1<D*U^q.1)/\(val U (q.2.2.drop q.1)*U^q.1*D+val U q.2.1=x*2^b)) (λq=>q.1) ((dg U x).length+1-k,spl (List.replicate ((dg U x).length+1) 0) 0 (dg U (x*2^b)),List.replicate ((dg U x).length+1-k) 0) ⟨aI _,a6,Zse (Lk Xt) (Fk Xp _) 0,O8,Lk Xt,by rw [Zst,Fd Xp];exact Yke ((Qd Xp _ x).1 (aI _)) b1 b3 O1 a2,by rw [Zst,Fd Xp];simp [val]⟩ ⟨by rw [aX];rfl,aA⟩ K2 ?_;rintro⟨a,R,q⟩ ⟨hj,a7,e,d0,Q,M,hN⟩;dsimp only at hj a7 e d0 Q M hN;dsimp only;refine go 7<|Zb J (λZ=>?_) (λZ=>?_)
    .refine go 5 ?_;have P:val U R<U^(a-1+k+1):=by refine cZ M ?_;rw [show a-1+k+1=k+a by omega,bQ];exact aQ _ (eD a3)
     have u:tz ((R.drop (a-1)).take (a-1+k+1-(a-1)))=dg U (val U R/U^(a-1)):=Ymp e O1 (by rw [show a-1+(a-1+k+1-(a-1))=a-1+k+1 by omega];exact P);have a9:val U R/U^(a-1)<D*U:=by rw [bT (cD Xt),fB,<-mJ,show(a-1).succ=a by omega];exact M
     have b0:bl (val U R/U^(a-1))<=4294967296:=by have h1:=Lq (eD a9);have h2:=Zym D U;have h3:bl U<=65:=(Qs 65 U).2 (by simp [U]);omega
     have b7:=Ym3 e (j:=a-1) b3 P O1;have b9:(dg U D).getD (k-1) 0*U^(k-1)<=D:=by rw [Ft Xp];exact aB (aQ _ (Nat.mod_le _ _)) (Nat.div_mul_le_self _ _)
     have c2:val U R/U^(a-1)/D<=18446744073709551615:=by have:=(bT l).2 (show _<U*D by rw [cI];exact a9);simp only [U]at this ⊢;omega
     refine go 4 ?_;refine jn (G:=Nat) [8,9,10,11,12,13] [0,82,6,81,1,2,5] (λg=>[(14,.int .u64 (g:Int))]) (λg=>[]) (λg=>(val U R/U^(a-1)/D<=g)/\(g<U)) ?_ ?_
     .refine go 1<|Pg (λ_=>False) [(0,0),(1,0),(2,0),(3,0),(4,0),(5,0),(6,0),(7,0),(8,0),(9,0),(10,0),(11,0)]<|go 4 ⟨O1,?_⟩;refine Qb J J (Pj (Yk 82 (a-1+k) J J J J (Yu pU) Po Dl))<|go 4 ⟨O3,O1,?_⟩;refine Qb J J (Pj (Yk 81 (k-1) J J J J Zl Po Dl))<|go 4 ⟨O3,?_⟩;refine Zb J (λa0=>?_) (λa0=>?_)
      .refine Pg (λ_=>False) [(0,0),(1,0),(2,0),(3,0),(4,0),(5,0),(6,0),(7,0),(8,0),(9,0),(10,0),(11,0),(12,0),(13,0),(14,0),(15,0),(16,0),(17,0),(18,1),(19,0),(20,0),(21,0),(22,0)]<|go 4 ⟨O1,?_⟩;refine Qb J J (Pj (Yk 82 (a-1+k) J J J J (Yu pU) Po Dl))<|go 6 ⟨O3,O1,O1,?_⟩;refine Qb J J (Pj (Yk 82 (a-1+k-1) J J J J (Yu pU) Po Dl))<|go 4 ⟨O3,O1,?_⟩;refine Qb J J (Pj (Yk 81 (k-1) J J J J Zl Po Dl))<|go 1 ⟨O3,?_⟩;refine Qn (Zz 6 [] (Zv3 (Pn Xt e _) (Pn Xt (Fk Xp _) _) O1)) λ_ _=>go 5 ?_;exact Fb _ ⟨Yiz b9 O1 b7,Zu7 (Pn Xt e _) O1⟩ K1 aA
      .refine go 1 ?_;exact Fb 18446744073709551615 ⟨c2,O4⟩ K1 aA
     .rintro g ⟨hg,f⟩;refine go 8 ⟨O1,O1,?_⟩;refine dt (d_mid (ii:=82) (i:=a-1) (j:=a-1+k+1) J J J J J (Yu pU) Po Dl O1 O1 O1 O1)<|go 7 ?_;refine tt (Oj [(0,_)] 7 (enc:=Mn) [g] J J K2 Po ti87 J J J J J pU.cells J J p.h) λf0 _=>cl 7 [7] Px λ_ _=>?_;refine Ng (Zk3 7 J J pU)<|Ng (Ygh 7 (Zhs f) J J)<|cl 83 [81,7] (Yaf O1 (aB ((Qs 64 g).2 f) O1)) λd5 _=>go 5 ?_;refine lp (G:=Nat×Value) [8,9,10,11,12,13,15] [0,82,6,81,1,2,5,7] (λq=>[(14,.int .u64 (q.1:Int)),(16,q.2)]) (λq=>[(83,Dq q.2 (D*q.1))]) (λq=>(val U R/U^(a-1)/D<=q.1)/\(q.1<U)) (λq=>q.1) (g,_) ⟨O2,O2⟩ ⟨J,J,aA⟩ ⟨J,aA⟩ ?_;rintro⟨g,vp⟩ ⟨hg,f⟩;dsimp only at hg f;dsimp only;have a5:bl (D*g)<=4294967296:=by have h1:=Zym D g;have h2:=(Qs 64 g).2 f;omega
      refine go 4 ?_;refine tt (Ov 7 Px J J J K1 call150 (Zd2 82 J J pU (Zjo (a-1) (a-1+k+1)) Zj5 Zo) J p.h) λ_ _=>go 1 ?_;refine tt (Ov 7 (Zda b0 a5) J J J K2 call154 (Zd2 82 J J pU (Ygn u (by rw [u]) (Zjo (a-1) (a-1+k+1))) (by rw [Fh];exact(Zj5)) (Yc 83 J J J Zo)) J p.h) λe3 B=>go 3 ?_;refine Zb J (λa1=>?_) (λa1=>?_)
      .have o:val U R/U^(a-1)<D*g:=B.1.1 O1;have b2:1<=g:=by rcases bB g with h|h;(rw [h,Nat.mul_zero]at o;exact absurd o (bJ _));exact h
       have b8:D<=D*g:=eN _ b2;have c3:val U R/U^(a-1)/D<=g-1:=by have:=(bT l).2 (show _<g*D by rw [cI];exact o);omega
       refine go 6 ?_;refine dt (Zeu (n:=1) J J J)<|go 3 ?_;refine Zq (Km 14 (v':= .int .u64 ((g-1:Nat):Int)) J (Zbx (Zvf b2 f)))<|go 3 ?_;refine cl 8 [83,81] (Zgw a5 b8) λd6 _=>go 3<|Xh (Kn 8 83 J J J) ?_;exact Yj (g-1,_) ⟨c3,O12⟩ O2 K2 ⟨by rw [Nat.mul_sub_one];rfl,aA⟩
      .refine go 6 ?_;have hQ:g=val U R/U^(a-1)/D:=by have h1:=B.1;have h2:D*g<=val U R/U^(a-1):=O1;exact jT ((lQ l).2 (by rw [cI];exact h2)) hg
       refine go 2 ?_;refine tt (Ov 8 Px J J J K1 call150 (Zd2 82 J J pU (Zjo (a-1) (a-1+k+1)) Zj5 Zo) J p.h) λ_ _=>go 1 ?_;refine tt (Ov 9 (Zgw b0) J J J K2 call155 (Zd2 82 J J pU (Ygn u (by rw [u]) (Zjo (a-1) (a-1+k+1))) (by rw [Fh];exact(Zj5)) (Yc 83 J J J Zo)) J p.h) λd7 _=>go 4 ?_;have b5:(dg U (val U R/U^(a-1)-D*g)).length<=a-1+k+1-(a-1):=by
        have:val U R/U^(a-1)-D*g<D:=by rw [hQ];have h3:=dG (val U R/U^(a-1)) D;have h4:=bK (val U R/U^(a-1)) l;omega
        have:=(Qd Xp k _).2 (iR this a3);omega
       refine go 2 ?_;refine tt (t_clr (zv:= .bool false) (i:=82) (z:=0) (a-1) J J J J O4 (Ybf O1) O1 O1 Po pU (λw=>zeroValue87 w) J J p.h) λ_ _=>go 6 ?_;refine tt (t_cpy 82 9 (a-1) J J J J J J O4 J Zl (Ybf (by rw [Iu _ _ _ (by rw [aX];omega)];omega)) b5 (by rw [Iu _ _ _ (by rw [aX];omega)];omega) (by rw [Iu _ _ _ (by rw [aX];omega)];omega) Po pU J p.h) λ_ _=>go 2 ?_;have c0:a-1+(List.replicate (a-1+k+1-(a-1)) 0).length<=R.length:=by rw [aX];omega
       have c8:=Iu R (a-1) _ c0;have c1:a-1+(dg U (val U R/U^(a-1)-D*g)).length<=(spl R (a-1) (List.replicate (a-1+k+1-(a-1)) 0)).length:=O1;have F:=Ymy e (j:=a-1) (n:=a-1+k+1-(a-1)) O1 (by rw [show a-1+(a-1+k+1-(a-1))=a-1+k+1 by omega];exact P) b5;rw [Fd Xp]at F;have b6:=Ykd (j:=a-1) (N:=x*2^b) (Vq:=val U (q.drop a)) l hQ (by rw [show a-1+1=a by omega];exact hN);have a8:=b6.1;have I:=b6.2;rw [<-F]at a8 I;have c5:val U ((q.set (a-1) g).drop (a-1))=g+U*val U (q.drop a):=by rw [drop_set O1,show a-1+1=a by omega];rfl
       rw [<-c5]at I;refine go 4 ?_;refine dt (Yk 6 (a-1) J J J J (Yu pU) Po Dl)<|tt (Lu 6 (enc:=Mn) J J J J J J pU J p.h O4 O3) (λ_ _=>?_);refine go 8 ⟨O1,?_⟩;exact Yj (a-1,_,_) ⟨O2,(Iu _ _ _ c1).trans (c8.trans a7),Zse (Zse e (Lk Xt) _) (Fk Xp _) _,O10,Iy Q _ _ f,a8,I⟩ O2 ⟨by rw [show(((a-1:Nat):Int)-1)=(a:Int)-1-1 by omega];rfl,aA⟩ K2
    .refine go 6 ?_;obtain rfl:a=0:=O1;rw [jZ,jD]at M;have c4:bl (val U R)<=8589934592:=by have:=Lq (eD M);omega
     refine go 2 ?_;refine cl 9 [6] Px λ_ _=>?_;refine Ng (Zk3 6 J J pU)<|go 1 ?_;refine cl 9 [82] Px λ_ _=>?_;refine Ng (Zk3 82 J J pU)<|Ng (Ygh 82 (Bf Xp R e).symm J J)<|go 1 ?_;refine cl 10 [82] (Yop c4 O1) λd8 _=>go 5 ?_;rw [kK,jZ,jD]at hN;have d1:tz q=dg U (x/y):=by rw [<-Bf Xp _ Q,<-Zny x y b,<-c,<-hN,cI,iZ l,dZ M,gN]
     have d2:val U R/2^b=x%y:=by rw [<-Znx x y b,<-c,<-hN,cI,jV,bE M]
     exact Nn S (_,_) results196 J aA (gow 6 (Kk 10 Za (by rw [d2])) d1)
theorem Zqe{x:Nat}(l:bl x<=4000000000:=by omega)(m:bl y<=4000000000:=by omega):Cal prog 184 #[v,w] [Dq v x,Dq w y] true (G:=Value) (λr=>True) (λr=>r) (λr=>[Dq r (Nat.gcd x y)]):=by
 refine Ze func184 ntmps184 λD u p j=>?_;have n:=Mb x;have o:=Mb y;refine go 7<|Zq (Kn 1 91 J J J)<|Zq (Kn 2 92 J J J) ?_;refine lp (G:=Value×Value×Nat×Nat) [] [0,1,2] (λq=>[(0,q.1),(1,q.2.1)]) (λq=>[(91,Dq q.1 q.2.2.1),(92,Dq q.2.1 q.2.2.2)]) (λq=>(Nat.gcd q.2.2.1 q.2.2.2=Nat.gcd x y)/\(bl q.2.2.1<=4000000000)/\(bl q.2.2.2<=4000000000)) (λq=>q.2.2.2) (v,w,x,y) ⟨J,l,m⟩ K2 K2 ?_;rintro⟨z,B,a,b⟩ ⟨i,k,f⟩;dsimp only at i k f;dsimp only;refine go 8<|Zb J (λd=>?_) (λd=>?_)
 .have c:0<b:=by rcases bB b with h|h;(subst h;simp [Dg]at d);exact h
  refine go 7 ?_;refine cl 3 [91,92] (Yag k f c) λg _=>go 14 ?_;have e:a%b<b:=bK _ c;exact Xh (Kn 92 91 J J J)<|Xh (Kn 4 92 J J J)<|Yj (_,_,b,a%b) ⟨by dsimp only;rw [<-i,Nat.gcd_comm b,<-Nat.gcd_rec,Nat.gcd_comm],f,aB (Lq (eD e)) f⟩ e K2 K2
 .have c:b=0:=(Ny Xp b).1 O1;refine go 12 ?_;exact Yv j _ results184 J aA (Kk 91 Za (by rw [<-i,c,Nat.gcd_zero_right]))
theorem Zp7(hs:sg s x):Cal prog 113 #[.agg #[.bool s,v]] [Dq v x.natAbs] true (G:=Bool×Value) (λr=>sg r.1 (-x)) (λr=> .agg #[.bool r.1,r.2]) (λr=>[Dq r.2 (-x).natAbs]):=by refine Ze func113 ntmps113 λg f e c=>go 2 ?_;refine Zx (Zr 2) λb _=>Zx (Zv 3) λd _=>go 9 ?_;refine dt (Xr [(0,_),(1,_)] J K4 (λa w hs=>Ku ((Zj J) a w hs) ((Ow 1 J Zl) a w hs)))<|go 4 ?_;exact Yv c (!s,v) results113 J (sg_neg hs) (Kk 1 Za (by rw [iD]))
theorem Zd7{y:Int}(hs:sg s x)(f:sg t y)(g:bl x.natAbs<=4294967296:=by omega)(h:bl y.natAbs<=4294967296:=by omega):Cal prog 152 #[.agg #[.bool s,v],.agg #[.bool t,w]] [Dq v x.natAbs,Dq w y.natAbs] true (G:=Bool×Value) (λr=>sg r.1 (x*y)) (λr=> .agg #[.bool r.1,r.2]) (λr=>[Dq r.2 (x*y).natAbs]):=by refine Ze func152 ntmps152 λk j i c=>go 2 ?_;refine Zx (Zr 3) λb _=>Zx (Zr 4) λd _=>Zx (Zv 5) λe _=>go 3<|Pg (λ_=>False) [(0,0),(1,0),(2,0),(3,0),(4,0),(5,0),(6,0),(7,0),(8,0),(9,1),(10,0),(11,3)]<|go 9<|Qn (Zz 6 [1,2] (Yaf g h)) λv _=>?_;refine Qb J J (Pj (Xr [(0,_),(1,_)] J K4 (λa w hs=>Ku ((Zj J) a w hs) ((Ow 6 J Zl) a w hs))))<|go 4 ?_;exact Yv c (_,_) results152 J (sg_mul hs f) (Kk 6 Za (by rw [bR]))
theorem Zln(hs:sg s x)(g:bl x.natAbs<=4294967296:=by omega):Cal prog 114 #[.agg #[.bool s,v]] [Dq v x.natAbs] true (G:=Unit) (λ_=>True) (λ_=> .int .i64 x.sign) (λ_=>[]):=by
 refine Ze func114 ntmps114 λi h f d=>?_;have e:=Mb x.natAbs;refine go 2<|Zx (Zr 2) λb _=>go 14<|Zb J (λa=>?_) (λa=>?_)
 .refine go 8 ?_;exact Yv d () results114 (Ycy a) aA Za
 .refine go 7<|Yq J (λc=>?_) (λc=>?_)
  .refine go 8 ?_;exact Yv d () results114 (Yf5 hs c a) aA Za
  .refine go 9 ?_;exact Yv d () results114 (Yf4 hs c a) aA Za
theorem Zgv{y:Int}(hs:sg s x)(g:sg t y)(i:bl x.natAbs<=4294967296:=by omega)(j:bl y.natAbs<=4294967296:=by omega):Cal prog 112 #[.agg #[.bool s,v],.agg #[.bool t,w]] [Dq v x.natAbs,Dq w y.natAbs] true (G:=Bool×Value) (λr=>sg r.1 (x+y)) (λr=> .agg #[.bool r.1,r.2]) (λr=>[Dq r.2 (x+y).natAbs]):=by
 refine Ze func112 ntmps112 λu q p f=>go 2 ?_;refine Zx (Zr 3) λb _=>Zx (Zr 4) λl _=>Zx (Zv 5) λm _=>go 14<|Yq J (λd=>?_) (λd=>?_)
 .have c:s=t:=by simpa using d
  refine go 1<|Pg (λ_=>False) [(0,0),(1,0),(2,0),(3,0),(4,0),(5,0),(6,1),(7,0),(8,3)]<|go 6<|Qn (Zz 6 [1,2] (Yah i j)) λv _=>?_;refine Qb J J (Pj (Xr [(0,_),(1,_)] J K4 (λa w hs=>Ku ((Zj J) a w hs) ((Ow 6 J Zl) a w hs))))<|go 6 ?_;exact Yv f (_,_) results112 J (Ynn hs (c▸g)) (Kk 6 Za (by rw [Yl3 hs (c▸g)]))
 .have c:s≠t:=by simpa using d
  refine go 6 ?_;refine cl 6 [1,2] (Zda i j) λr k=>go 4<|Zb J (λh=>?_) (λh=>?_)
  .have e:y.natAbs<=x.natAbs:=by have:=k.1;omega
   refine go 1<|Pg (λ_=>False) [(0,0),(1,0),(2,0),(3,0),(4,0),(5,0),(6,1),(7,0),(8,3)]<|go 6<|Qn (Zz 7 [1,2] (Zgw i)) λn _=>?_;refine Qb J J (Pj (Xr [(0,_),(1,_)] J K4 (λa w hs=>Ku ((Zj J) a w hs) ((Ow 7 J Zl) a w hs))))<|go 6 ?_;exact Yv f (_,_) results112 J (Zzj hs g c e) (Kk 7 Za (by rw [Zwe hs g c e]))
  .have e:x.natAbs<=y.natAbs:=by have:=k.1;omega
   refine go 4<|Pg (λ_=>False) [(0,0),(1,0),(2,0),(3,0),(4,0),(5,0),(6,1),(7,0),(8,3)]<|go 6<|Qn (Zz 8 [2,1] (Zgw j)) λo _=>?_;refine Qb J J (Pj (Xr [(0,_),(1,_)] J K4 (λa w hs=>Ku ((Zj J) a w hs) ((Ow 8 J Zl) a w hs))))<|go 4 ?_;exact Yv f (_,_) results112 J (by rw [lA];exact Zzj g hs (jF c) e) (Kk 8 Za (by rw [lA,Zwe g hs (jF c) e]))
theorem Ou(hs:sg s x)(e:bl x.natAbs<=4294967296:=by omega):Cal prog 127 #[.agg #[.bool s,.string (Xo x.natAbs)]] [] true (G:=Bool×Value) (λr=>sg r.1 x) (λr=> .agg #[.bool r.1,r.2]) (λr=>[Dq r.2 x.natAbs]):=by refine Ze func127 ntmps127 λh g f c=>go 2 ?_;refine Zx (Zr 1) λb _=>Zx (Zv 2) λd _=>go 3<|Pg (λ_=>False) [(0,0),(1,0),(2,0),(3,0),(4,1),(5,0),(6,3)]<|go 4<|Qn (Zz 3 [] (Zdz e)) λv _=>?_;refine Qb J J (Pj (Xr [(0,_),(1,_)] J K4 (λa w hs=>Ku ((Zj J) a w hs) ((Ow 3 J Zl) a w hs))))<|go 4 ?_;exact Yv c (_,_) results127 J hs (Kk 3 Za J)
theorem Gi(hs:sg s x)(g:bl x.natAbs<=4294967296:=by omega):Xf prog 151 #[.agg #[.bool s,v]] [Dq v x.natAbs] (Zes x):=by
 refine Ze func151 ntmps151 λi h f d=>go 2 ?_;refine Zx (Zr 2) λb _=>Zx (Zv 3) λe _=>go 8 ?_;refine cl 3 [1] Zls λ_ _=>go 3<|Zb J (λc=>?_) (λc=>?_)
 .refine go 2 ?_;refine dt (Xr [] J aA (λa w hs=>Ylv))<|go 6 ?_;exact Nn d () results151 (Ycl c) aA Za
 .refine go 3 ?_;cases s
  .refine Pg (λ_=>False) [(0,0),(1,0),(2,0),(3,2),(4,2),(5,2),(6,2),(7,0),(8,0),(9,0),(10,1),(11,0),(12,3),(13,3)]<|go 10<|Qn (Zz 3 [1] Zob) λ_ _=>?_;refine Qb J J (Pj (Xr [(0,_),(1,_)] J K4 (λa w hs=>Yce ((Zj J) a w hs) ((Zj J) a w hs))))<|go 5 ?_;exact Nn d () results151 (by first|exact Zsm hs c|exact Zsl hs c) aA Za
  .refine Pg (λ_=>False) [(0,0),(1,0),(2,0),(3,0),(4,0),(5,0),(6,0),(7,0),(8,0),(9,0),(10,1),(11,0),(12,3),(13,3)]<|go 10<|Qn (Zz 3 [1] Zob) λ_ _=>?_;refine Qb J J (Pj (Xr [(0,_),(1,_)] J K4 (λa w hs=>Yce ((Zj J) a w hs) ((Zj J) a w hs))))<|go 5 ?_;exact Nn d () results151 (by first|exact Zsm hs c|exact Zsl hs c) aA Za
theorem Zgu(x y:Int)(hs:sg s x)(m:sg t y)(M:bl y.natAbs<=3000000000)(i:y≠0)(I:bl x.natAbs<=3000000000:=by omega):Cal prog 167 #[.agg #[.bool s,v],.agg #[.bool t,w]] [Dq v x.natAbs,Dq w y.natAbs] true (G:=Bool×Value×Value) (λr=>sg r.1 (x/y)) (λr=> .tuple #[.agg #[.bool r.1,r.2.1],.agg #[.bool false,r.2.2]]) (λr=>[Dq r.2.1 (x/y).natAbs,Dq r.2.2 (x%y).natAbs]):=by
 refine Ze func167 ntmps167 λP N z f=>?_;have F:=Mb x.natAbs;have H:=Mb y.natAbs;have j:0<y.natAbs:=O1;have l:x.natAbs%y.natAbs<y.natAbs:=bK _ j;have u:=Lq (eD l);have q:=Lq (fF x.natAbs y.natAbs);refine go 2<|Zx (Zr 3) λb _=>Zx (Zr 4) λn _=>Zx (Zv 5) λo _=>Zx (Zv 6) λp _=>go 8 ?_;refine cl 7 [1,2] (Yag O1 O1 j) λg _=>go 13<|Xw 18 J (λe=>?_) (λe=>?_)
 .refine go 6<|Zb J (λc=>?_) (λc=>?_)
  .subst e;have k:0<x.natAbs%y.natAbs:=by rcases bB (x.natAbs%y.natAbs)with h|h;(rw [h]at c;simp [Dg]at c);exact h
   have d:=divA hs m i k;refine Pg (λ_=>False) [(0,0),(3,0),(4,0),(5,0),(1,1),(2,1),(6,1),(7,0),(8,3)]<|go 4 ?_;refine Bc J (Oj [(0,_)] 9 (enc:=Mn) (dg U 1) J J K2 Po ti87 J J J J J pU.cells J J z.h) λv _=>Qn (Zz 10 [7,9] (Yah O1 (show bl 1<=4294967296 by decide))) λB _=>Qn (Zz 11 [2,8] (Zgw O1)) λD _=>go 12 ?_;refine dt (Xr [(0,_),(1,_)] J K4 (λa w hs=>Ku ((Zj J) a w hs) ((Ow 10 J Zl) a w hs)))<|go 1 ?_;refine dt (Xr [(0,_),(1,_)] J K4 (λa w hs=>Ku ((Zj J) a w hs) ((Ow 11 J Zl) a w hs)))<|go 5 ?_;exact Nn f (_,_,_) results167 J d.1 (Kk 10 (Kk 11 Za (by rw [d.2.2]<;>rfl)) (by rw [d.2.1]<;>rfl))
  .have d:=divB hs m i (.inr ((Ny Xp _).1 O1));refine go 10 ?_;refine dt (Xr [(0,_),(1,_)] J K4 (λa w hs=>Ku ((Zj J) a w hs) ((Ow 7 J Zl) a w hs)))<|go 1 ?_;refine dt (Xr [(0,_),(1,_)] J K4 (λa w hs=>Ku ((Zj J) a w hs) ((Ow 8 J Zl) a w hs)))<|go 5 ?_;exact Nn f (_,_,_) results167 J d.1 (Kk 7 (Kk 8 Za (by rw [d.2.2]<;>rfl)) (by rw [d.2.1]<;>rfl))
 .have d:=divB hs m i (.inl e);refine go 17 ?_;refine dt (Xr [(0,_),(1,_)] J K4 (λa w hs=>Ku ((Zj J) a w hs) ((Ow 7 J Zl) a w hs)))<|go 1 ?_;refine dt (Xr [(0,_),(1,_)] J K4 (λa w hs=>Ku ((Zj J) a w hs) ((Ow 8 J Zl) a w hs)))<|go 5 ?_;exact Nn f (_,_,_) results167 J d.1 (Kk 7 (Kk 8 Za (by rw [d.2.2]<;>rfl)) (by rw [d.2.1]<;>rfl))
variable {P:Program} {N:Nat} {sc:Nat->Prop} {M:Nat->Prop} {env:Qm} {H:Hp} {Q:Exit->Act->World->Prop}
structure BAct (i:Nat) (A:Prop):Prop where h:A
def bq(i:Nat){A:Prop}(h:A):BAct i A:=⟨h⟩
theorem Ycj {l:List Oper}  {n:Nat}  (i k:Nat) (a:(Region.noSelect l.toArray && Fx l.toArray ts [(i,k)] listed)=true)
  (h:LD P N sc M l.toArray (A P N sc M l.toArray ts Q n (Ey [(i,k)] listed)) [(i,k)] env H):A P N sc M l.toArray ts Q (n+1) listed env H:=
 Zw _ [(i,k)] h (by rw [a,eV];show Nat.beq (1+n) (n+1)=true;rw [iO];exact Nat.beq_refl _)
theorem Yen    {n:Nat} (i:Nat) (c:((Region.ready .any ops listed == [i]) && !(Fv ops ts listed) && !([i]:List Nat).isEmpty)=true)
  (a:BAct i (Zf1 P N sc M ops ts Q n listed env H i)):A P N sc M ops ts Q (n+1) listed env H:=Yl8 [i] c λq b=>by
 rw [cE.1 b];exact a.h
theorem Zyy    {n:Nat} (i j:Nat) (d:((Region.ready .any ops listed == [i,j]) && !(Fv ops ts listed) && !([i,j]:List Nat).isEmpty)=true)
  (b:BAct i (Zf1 P N sc M ops ts Q n listed env H i)) (c:BAct j (Zf1 P N sc M ops ts Q n listed env H j)):A P N sc M ops ts Q (n+1) listed env H:=Yl8 [i,j] d λq a=>by
 simp only [aW,dA,fR]at a;rcases a with rfl|rfl
 .exact b.h
 .exact c.h
theorem a_b3    {n:Nat} (i j k:Nat) (e:((Region.ready .any ops listed == [i,j,k]) && !(Fv ops ts listed) && !([i,j,k]:List Nat).isEmpty)=true)
  (b:BAct i (Zf1 P N sc M ops ts Q n listed env H i)) (c:BAct j (Zf1 P N sc M ops ts Q n listed env H j)) (d:BAct k (Zf1 P N sc M ops ts Q n listed env H k)):A P N sc M ops ts Q (n+1) listed env H:=Yl8 [i,j,k] e λq a=>by
 simp only [aW,dA,fR]at a;rcases a with rfl|rfl|rfl
 .exact b.h
 .exact c.h
 .exact d.h
end Go.Sky
namespace Go.Sky
open Go.Proofs.Tryz
open Go.Proofs
set_option synthInstance.maxHeartbeats 0
set_option synthInstance.maxSize 100000
set_option maxRecDepth 20000
set_option linter.unusedSimpArgs false
variable{b:Bool}{x y:Int}{t:TypeId}{v:Value}{xs:List Int}{bd:Nat}
theorem Zbw{s:ByteArray}:Xf prog 126 #[.agg #[.bool b,.string s]] [] (.bool (okW b s)):=by
 refine Ze func126 ntmps126 λg f e c=>go 2 ?_;refine Zx (Zr 1) λb _=>go 8 ?_;refine dt (Zx5 J J J J)<|go 2 ?_;refine Zb J (λa=>?_) (λa=>?_)
 .refine go 10 ?_;exact Yv c () results126 (by unfold okW;rw [aO a]) aA Za
 .refine go 6 ?_;refine dt (Ykj (i:=0) J J J uT9 J O1)<|go 2 ?_;refine Zk 13 J (λd=>?_) (λd=>?_)
  .refine go 9 ?_;exact Yv c () results126 (by unfold okW;rw [aF a];simp_all<;>omega) aA Za
  .refine go 9 ?_;exact Yv c () results126 (by unfold okW;rw [aF a];simp_all<;>omega) aA Za
def Kd(a:bl x.natAbs<=65536):Cal prog 126 #[wv x] [] false (G:=Unit) (λ_=>True) (λ_=> .bool true) (λ_=>[]):=Zc9 a▸Zbw
theorem Znj(b:Bool)(s:ByteArray)(c:Bool)(t:ByteArray):Xf prog 147 #[.agg #[.bool b,.string s],.agg #[.bool c,.string t]] [] (.bool (okW b s && okW c t)):=by
 refine Ze func147 ntmps147 λh g f a=>go 2 ?_;refine Zx (Zr 1) λb _=>Zx (Zr 2) λe _=>go 6 ?_;refine cl 2 [] Zbw λ_ _=>go 1<|Xw 7 J (λd=>?_) (λd=>?_)
 .refine go 1 ?_;refine Ln 2 [] Zbw λ_ _=>go 5 ?_;exact Yv a () results147 O11 aA Za
 .refine go 7 ?_;exact Yv a () results147 O11 aA Za
theorem Ip(a:bl x.natAbs<=65536)(c:bl y.natAbs<=65536):Xf prog 147 #[wv x,wv y] [] (.bool true):=by have h:=Znj (decide (x<0)) (Xo x.natAbs) (decide (y<0)) (Xo y.natAbs);rw [Zc9 a,Zc9 c]at h;exact h
theorem Hi(e:bl x.natAbs<=65536):Xf prog 148 #[wv x] [] (.int .i64 x.sign):=by refine Ze func148 ntmps148 λh f d a=>go 2 ?_;refine Zx (Zr 1) λb _=>go 7 ?_;refine cl 1 [] (Kd ‹_›) λ_ _=>go 9 ?_;refine cl 2 [] (Ou Mw) λg c=>cl 2 [2] (Zln ‹_›) λ_ _=>go 4 ?_;exact Yv a () results148 J aA Za
theorem Zkd(d:bl x.natAbs<=65536):Xf prog 227 #[wv x] [] (.int .i64 (bl x.natAbs:Int)):=by refine Ze func227 ntmps227 λf e c a=>go 2 ?_;refine Zx (Zr 1) λb _=>go 7 ?_;refine cl 1 [] (Kd ‹_›) λ_ _=>go 10 ?_;refine cl 2 [] Zdz λv _=>cl 2 [2] Zls λ_ _=>go 4 ?_;exact Yv a () results227 J aA Za
theorem Zso(m:bl x.natAbs<=65536)(n:bl y.natAbs<=65536):Xf prog 129 #[wv x,wv y] [] (Zes (x+y)):=by refine Ze func129 ntmps129 λp o l a=>?_;have j:=Aa x y;refine go 2<|Zx (Zr 1) λb _=>Zx (Zr 2) λe _=>Zx (Zv 3) λf _=>go 8 ?_;refine cl 3 [] (Ip ‹_› ‹_›) λ_ _=>go 7<|Pg (λ_=>False) [(0,0),(2,0),(1,1),(3,1),(4,1),(5,1),(6,0),(7,0),(8,3),(9,3)]<|go 2<|Qn (Zz 4 [] (Ou Mw)) λg k=>Qn (Zz 5 [] (Ou Mw)) λh c=>Qn (Zz 6 [4,5] (Zgv ‹_› ‹_›)) λi d=>Qn (Zz 6 [6] (Gi ‹_›)) λ_ _=>go 7 ?_;exact Nn a () results129 J aA Za
theorem Yew(p:bl x.natAbs<=65536)(q:bl y.natAbs<=65536):Xf prog 228 #[wv x,wv y] [] (Zes (x-y)):=by refine Ze func228 ntmps228 λs r o a=>?_;have m:=Zj8 x y;have l:=Zyk y;refine go 2<|Zx (Zr 1) λb _=>Zx (Zr 2) λf _=>Zx (Zv 3) λh _=>go 8 ?_;refine cl 3 [] (Ip ‹_› ‹_›) λ_ _=>go 7<|Pg (λ_=>False) [(0,0),(2,0),(1,1),(3,1),(4,1),(5,1),(6,1),(7,0),(8,0),(9,3),(10,3)]<|go 2<|Qn (Zz 4 [] (Ou Mw)) λg n=>Qn (Zz 5 [] (Ou Mw)) λi c=>Qn (Zz 6 [5] (Zp7 ‹_›)) λj d=>Qn (Zz 7 [4,6] (Zgv ‹_› ‹_›)) λk e=>Qn (Zz 7 [7] (Gi ‹_› (by rw [<-cS];omega))) λ_ _=>go 7 ?_;exact Nn a () results228 (by rw [cS]<;>rfl) aA Za
theorem Zkc(x y:Int)(m:bl x.natAbs<=65536)(n:bl y.natAbs<=65536):Xf prog 146 #[wv x,wv y] [] (Zes (x*y)):=by refine Ze func146 ntmps146 λp o l a=>?_;have j:=Xz x y;refine go 2<|Zx (Zr 1) λb _=>Zx (Zr 2) λe _=>Zx (Zv 3) λf _=>go 8 ?_;refine cl 3 [] (Ip ‹_› ‹_›) λ_ _=>go 7<|Pg (λ_=>False) [(0,0),(2,0),(1,1),(3,1),(4,1),(5,1),(6,0),(7,0),(8,3),(9,3)]<|go 2<|Qn (Zz 4 [] (Ou Mw)) λg k=>Qn (Zz 5 [] (Ou Mw)) λh c=>Qn (Zz 6 [4,5] (Zd7 ‹_› ‹_›)) λi d=>Qn (Zz 6 [6] (Gi ‹_›)) λ_ _=>go 7 ?_;exact Nn a () results146 J aA Za
theorem Zsn(x y:Int)(j:bl x.natAbs<=65536)(k:bl y.natAbs<=65536):Xf prog 162 #[wv x,wv y] [] (Zes (Int.gcd x y:Int)):=by refine Ze func162 ntmps162 λm l i c=>?_;have h:=Zr8 x.natAbs y.natAbs;refine go 2<|Zx (Zr 1) λb _=>Zx (Zr 2) λd _=>Zx (Zv 3) λe _=>go 8 ?_;refine cl 3 [] (Ip ‹_› ‹_›) λ_ _=>go 7<|Pg (λ_=>False) [(0,0),(1,0),(3,0),(4,0),(2,1),(5,1),(6,1),(7,0),(8,1),(9,0),(10,0),(11,3),(12,3)]<|go 4<|Qn (Zz 4 [] Zdz) λv _=>Qn (Zz 5 [] Zdz) λf _=>Qn (Zz 6 [4,5] Zqe) λg _=>?_;refine Qb J J (Pj (Xr [(0,_),(1,_)] J K4 (λa w hs=>Ku ((Zj J) a w hs) ((Ow 6 J Zl) a w hs))))<|Qn (Zz 6 [6] (Gi (s:=false) (x:=(Int.gcd x y:Int)) (by simp [sg]) (by show bl (Nat.gcd x.natAbs y.natAbs)<=_;omega))) λ_ _=>go 7 ?_;exact Nn c () results162 J aA Za
theorem Ai(H:bl x.natAbs<=65536)(I:bl y.natAbs<=65536)(c:y≠0):Xf prog 128 #[wv x,wv y] [] (.tuple #[wv (Aw (x/y)),wv (Aw (x%y)),.int .i64 0]):=by
 refine Ze func128 ntmps128 λQ P w d=>?_;have D:=Zj9 x y;have p:=Yca x y c;refine go 2<|Zx (Zr 1) λb _=>Zx (Zr 2) λh _=>Zx (Zv 3) λj _=>Zx (Zv 4) λk _=>go 8 ?_;refine cl 4 [] (Ip ‹_› ‹_›) λ_ _=>go 11 ?_;refine dt (Zx5 J J J J)<|go 2 ?_;refine Zb J (λa=>?_) (λa=>?_)
 .rw [Eh]at a;exfalso;exact c (by have:=(Ny (by omega:2<=256) y.natAbs).1 a;omega)
 .refine go 2 ?_;refine jn (G:=Bool×Value×Value×Nat×Nat) [4,5] [0,1,2,3,4] (λq=>[(7,.pointer (some ⟨q.2.2.2.1,0,none⟩)),(8,.pointer (some ⟨q.2.2.2.2,0,none⟩))]) (λq=>[(84,Dq q.2.1 (x/y).natAbs),(85,Dq q.2.2.1 (x%y).natAbs),(86,box q.2.2.2.1 188 #[.bool q.1,q.2.1]),(87,box q.2.2.2.2 188 #[.bool false,q.2.2.1])]) (λq=>sg q.1 (x/y)) ?_ ?_
  .refine Nh [1,2] [11]<|Zw 10 [(0,0),(2,0)]<|go 3 ?_
   repeat' first|refine bq 1 ?_;refine Ha (Zz 81 [] (Ou Mw)) λg F=>?_|refine bq 3 ?_;refine Ha (Zz 82 [] (Ou Mw)) λn e=>?_|refine bq 4 ?_;refine Ha (Zz 84 [81,82] (Zgu _ _ ‹_› ‹_› O1 c)) λo f=>?_|refine bq 8 ?_;refine Ha (Mh 86) λl r=>?_|refine bq 9 ?_;refine Ha (Mh 87) λm s=>?_|refine bq 10 ?_;refine Za0 rfl rfl (t_stw (i:=86) rfl rfl rfl rfl rfl rfl sizeOf188 rfl rfl ⟨Zj rfl,Ow 84 rfl Zl,aA⟩ rfl w.h r.h) (λ_ _=>?_)|refine a_b3 1 8 9 O9 ?_ ?_ ?_|refine Zyy 1 8 O9 ?_ ?_|refine Yen 1 O9 ?_|refine Yen 3 O9 ?_|refine Yen 4 O9 ?_|refine Yen 10 O9 ?_|refine Zyy 3 8 O9 ?_ ?_|refine Zyy 4 8 O9 ?_ ?_|refine Yen 8 O9 ?_|refine Zyy 1 9 O9 ?_ ?_|refine Zyy 3 9 O9 ?_ ?_|refine Zyy 4 9 O9 ?_ ?_|refine Yen 9 O9 ?_|refine a_b3 3 8 9 O9 ?_ ?_ ?_|refine a_b3 4 8 9 O9 ?_ ?_ ?_|refine Zyy 8 9 O9 ?_ ?_|refine Ycj 5 0 O9 ?_;refine go 2 ?_|refine Ycj 6 0 O9 ?_;refine go 2 ?_|refine Ycj 7 0 O9 ?_;refine go 2 ?_|refine Ycj 11 3 O9 ?_;refine go 2 ?_|refine Yr ?_ O9;exact Fb (_,_,_,_,_) ‹_› ⟨rfl,rfl,aA⟩ ⟨rfl,rfl,rfl,rfl,aA⟩
  .rintro⟨M,qv,N,z,B⟩ u;dsimp only at u;dsimp only;refine go 3 ?_;refine cl 4 [84] (Gi ‹_›) λ_ _=>go 9 ?_;refine cl 4 [85] (Gi (Ynm x c)) λ_ _=>go 7<|Nh [4] [3,4] ?_;refine Zw 0 [(1,0),(0,1),(2,1),(3,3),(4,3)]<|go 6 ?_;exact Yr<|go 2<|xe3 d () results128 J aA Za
theorem Zct{s t:Bool}{w:Value}(hs:sg s x)(m:sg t y)(k:y≠0)(W:bl x.natAbs<=1000000000:=by omega)(Y:bl y.natAbs<=1000000000:=by omega):Xf prog 149 #[.agg #[.bool s,v],.agg #[.bool t,w]] [Dq v x.natAbs,Dq w y.natAbs] (Zb5 x y):=by
 refine Ze func149 ntmps149 λw0 Z V c=>?_;have R:=Zr8 x.natAbs y.natAbs;have e:Nw x y≠0:=Zqm k;have h:sg t (Nw x y):=Ynk m k;have f:=Zg1 x y;have N:=Zj9 x (Nw x y);have P:=Zj9 y (Nw x y);refine go 2<|Zx (Zr 3) λb _=>Zx (Zr 4) λq _=>Zx (Zv 5) λr _=>go 4<|Bu (λ_=>False) [9] ?_;refine Zw 4 [(0,0),(1,0),(2,0),(3,0),(4,0),(5,0)]<|go 7 ?_;refine Nm 3 6 8 ?_ ?_
 .refine Ha (Zz 81 [1,2] Zqe) λv _=>?_;refine Zw 0 [(7,0),(8,1),(9,3)]<|Qb J J (Pj (Xr [(0,_),(1,_)] J K4 (λa w hs=>Ku ((Zj J) a w hs) ((Ow 81 J Zl) a w hs))))<|Qn (Zv 82) λu _=>go 2 ?_;refine Yr<|go 2<|Zq (Qc 81 (Yan x y) J J)<|go 3 ?_;refine cl 6 [1,81] (Zgu x (Nw x y) hs h (by rw [f];omega) e) λg S=>go 10 ?_;refine cl 8 [2,81] (Zgu y (Nw x y) m h (by rw [f];omega) e) λH n=>go 9 ?_;refine cl 9 [6] (Gi ‹_›) λ_ _=>go 3<|Zx (Zv 10) λz _=>go 7 ?_;refine cl 10 [8] (Gi ‹_›) λ_ _=>go 3<|Zx (Zv 11) λB _=>go 10<|Zk 43 J (λl=>?_) (λl=>?_)
  .refine go 8 ?_;refine dt (Xr [] J aA (λa w hs=>Zv6))<|go 6 ?_;exact Nn c () results149 (Zb4 (by unfold Li;first|exact .inl (Zau ‹_›)|exact .inr (Zau ‹_›))) aA Za
  .refine go 5<|Zb J (λj=>?_) (λj=>?_)
   .refine go 2 ?_;refine dt (Xr [] J aA (λa w hs=>Zv6))<|go 6 ?_;exact Nn c () results149 (Zb4 (by unfold Li;first|exact .inl (Zau ‹_›)|exact .inr (Zau ‹_›))) aA Za
   .refine go 6 ?_;refine dt (Xr [(0,_),(1,_)] J K4 (λa w hs=>Zhl))<|go 5 ?_;exact Nn c () results149 (Ztq (aR ‹_›) (aR ‹_›)) aA Za
 .refine Ha (Zv 82) λD _=>?_;refine Zw 0 [(6,1),(7,0),(9,3)]<|Qn (Zz 81 [1,2] Zqe) λQ _=>?_;refine Qb J J (Pj (Xr [(0,_),(1,_)] J K4 (λa w hs=>Ku ((Zj J) a w hs) ((Ow 81 J Zl) a w hs))))<|go 2 ?_;refine Yr<|go 2<|Zq (Qc 81 (Yan x y) J J)<|go 3 ?_;refine cl 12 [1,81] (Zgu x (Nw x y) hs h (by rw [f];omega) e) λI o=>go 10 ?_;refine cl 14 [2,81] (Zgu y (Nw x y) m h (by rw [f];omega) e) λM p=>go 9 ?_;refine cl 15 [12] (Gi ‹_›) λ_ _=>go 3<|Zx (Zv 16) λF _=>go 7 ?_;refine cl 16 [14] (Gi ‹_›) λ_ _=>go 3<|Zx (Zv 17) λG _=>go 10<|Zk 43 J (λi=>?_) (λi=>?_)
  .refine go 8 ?_;refine dt (Xr [] J aA (λa w hs=>Zv6))<|go 6 ?_;exact Nn c () results149 (Zb4 (by unfold Li;first|exact .inl (Zau ‹_›)|exact .inr (Zau ‹_›))) aA Za
  .refine go 5<|Zb J (λd=>?_) (λd=>?_)
   .refine go 2 ?_;refine dt (Xr [] J aA (λa w hs=>Zv6))<|go 6 ?_;exact Nn c () results149 (Zb4 (by unfold Li;first|exact .inl (Zau ‹_›)|exact .inr (Zau ‹_›))) aA Za
   .refine go 6 ?_;refine dt (Xr [(0,_),(1,_)] J K4 (λa w hs=>Zhl))<|go 5 ?_;exact Nn c () results149 (Ztq (aR ‹_›) (aR ‹_›)) aA Za
theorem Dy(x y:Int)(l:bl x.natAbs<=65536)(m:bl y.natAbs<=65536)(c:y≠0):Xf prog 108 #[wv x,wv y] [] (Zb5 x y):=by
 refine Ze func108 ntmps108 λo n k d=>go 2 ?_;refine Zx (Zr 1) λb _=>Zx (Zr 2) λf _=>Zx (Zv 3) λh _=>go 8 ?_;refine cl 3 [] (Ip ‹_› ‹_›) λ_ _=>go 11 ?_;refine dt (Zx5 J J J J)<|go 2 ?_;refine Zb J (λa=>?_) (λa=>?_)
 .rw [Eh]at a;exfalso;exact c (by have:=(Ny (by omega:2<=256) y.natAbs).1 a;omega)
 .refine go 3<|Pg (λ_=>False) [(0,0),(2,0),(1,1),(3,1),(4,1),(5,0),(6,0),(7,3),(8,3)]<|go 2<|Qn (Zz 4 [] (Ou Mw)) λg j=>Qn (Zz 5 [] (Ou Mw)) λi e=>Qn (Zz 5 [4,5] (Zct ‹_› ‹_› c)) λ_ _=>go 7 ?_;exact Nn d () results108 J aA Za
theorem Bb{s:ByteArray}{c:Bool}{t:ByteArray}:Xf prog 107 #[.agg #[.bool b,.string s,.bool c,.string t]] [] (.bool (okR b s c t)):=by
 refine Ze func107 ntmps107 λl k j g=>go 2 ?_;refine Zx (Zr 1) λb _=>go 9 ?_;refine cl 1 [] (Znj _ _ _ _) λ_ _=>go 1<|Xw 8 J (λh=>?_) (λh=>?_)
 .have i:okW c t=true:=O11;have d:=Zp4 i;obtain⟨a,e,f⟩:=Classical.choose_spec d;generalize Classical.choose d=z at a e f ⊢;subst e;subst f
  try clear d
  refine go 2 ?_;refine Ln 1 [] (Hi (x:=z) a) λ_ _=>go 6 ?_;exact Yv g () results107 (by first|rw [Zt4 O11 a]|(unfold okR;simp_all)) aA Za
 .refine go 9 ?_;exact Yv g () results107 (by first|rw [Zt4 O11 a]|(unfold okR;simp_all)) aA Za
def On(x y:Int)(c:bl x.natAbs<=65536)(d:bl y.natAbs<=65536)(a:0<y):Cal prog 107 #[rX x y] [] false (G:=Unit) (λ_=>True) (λ_=> .bool true) (λ_=>[]):=okR_wv c d a▸Bb
theorem Zm(x:Int)(f:La x:=by exact⟨O1,O1⟩):Xf prog 109 #[.int .i64 x] [] (wv x):=by
 refine Ze func109 ntmps109 λm l h e=>?_;have i:=f.1;have j:=f.2;have d:x.natAbs<U:=by simp only [U];omega
 have k:bl x.natAbs<=64:=(Qs 64 _).2 (by rw [<-Yl9];exact d);refine go 2<|Zx (Zv 1) λb _=>go 5 ?_;refine dt (Yp9 (r:=x%18446744073709551616) J J uT3 Zhr J)<|go 3 ?_;refine jn (G:=Unit) [0,2] [0,1] (λ_=>[(3,.int .u64 ((x.natAbs:Nat):Int))]) (λ_=>[]) (λ_=>True) ?_ ?_
 .refine go 6<|Zb J (λc=>?_) (λc=>?_)
  .refine go 2 ?_;refine dt (Ye6 x.natAbs J J O1)<|go 2 ?_;exact Fb () aA ⟨by first|rfl|(rw [show x%18446744073709551616=((x.natAbs:Nat):Int) by omega];rfl),aA⟩ aA
  .refine go 1 ?_;exact Fb () aA ⟨by first|rfl|(rw [show x%18446744073709551616=((x.natAbs:Nat):Int) by omega];rfl),aA⟩ aA
 .rintro _ -;refine go 5 ?_;refine tt (Oj [(0,_)] 2 (enc:=Mn) [x.natAbs] J J K2 Po ti87 J J J J J pU.cells J J h.h) λv _=>cl 2 [2] Px λ_ _=>?_;refine Ng (Zk3 2 J J pU)<|Ng (Ygh 2 (Zhs d) J J)<|dt (Xr [(0,_),(1,_)] J K4 (λa w hs=>Ku ((Zj J) a w hs) ((Ow 2 J (Yu pU)) a w hs)))<|cl 2 [2] (Gi (x:=x) Mw) λ_ _=>go 3 ?_;refine Zx (Zv 3) λg _=>go 11 ?_;exact Yv e () results109 (by rw [Nr O1]<;>rfl) aA Za
theorem Zd4(hs:Sz 65536 xs):Cal prog 197 #[v] [Yt 2 wv v xs] true (G:=Unit) (λ_=>True) (λ_=>Gv v (tzl xs).length) (λ_=>[Yt 2 wv (Gv v (tzl xs).length) (tzl xs)]):=by
 refine Ze func197 ntmps197 λp o n d=>?_;refine Mm (Yjv (i:=1) J Zl) (λa=>?_);refine Mm (Fj (i:=1) J Zl) λm=>go 7 ?_;refine lp (G:=Nat) [] [0] (λk=>[(0,Gv v k)]) (λk=>[(1,Yt 2 wv (Gv v k) (xs.take k))]) (λk=>(k<=xs.length)/\(tzl (xs.take k)=tzl xs)) (λk=>k) xs.length ⟨aI _,by rw [cK]⟩ ⟨by rw [a];rfl,aA⟩ ⟨by rw [a,cK];rfl,aA⟩ ?_;rintro k ⟨h,j⟩;have f:(xs.take k).length=k:=by rw [dX];omega
 refine go 7<|Zk 6 J (λl=>?_) (λl=>?_)
 .refine go 4 ⟨O1,?_⟩;refine Hz (Yk 1 (k-1) J J J J Zl Mv Oc) J J<|go 1 ⟨O1,?_⟩;refine Ln 1 [] (Hi ((hs.take _).getD _)) λ_ _=>go 4<|Zb J (λg=>?_) (λg=>?_)
  .have c:=Ye7 h O1 (Zwm (k:=k) O1 (fV.1 ‹_›):cf xs (k-1)=0);refine go 8 ⟨O1,?_⟩;refine dt (d_pre 1 (i:=k-1) J J J J Zl Mv Oc)<|go 3 ?_;exact Xh (s_pre 1 1 (k-1) J J)<|Yj (k-1) ⟨O2,by rw [<-j,<-c]⟩ O2 ⟨by rw [<-Zd3 v k (k-1)];rfl,aA⟩ ⟨by rw [Zd3,kE,eQ O1];rfl,aA⟩
  .refine go 12 ?_;have e:tzl xs=xs.take k:=by rw [<-j];exact Zsv h (by first|(left;omega)|(right;exact Zsw k O1 ‹_›))
   exact Yv d () results197 (by rw [e,f]) aA (Kk 1 Za (by rw [e,f]))
 .refine go 24 ?_;have e:tzl xs=xs.take k:=by rw [<-j];exact Zsv h (by first|(left;omega)|(right;exact Zsw k O1 ‹_›))
  exact Yv d () results197 (by rw [e,f]) aA (Kk 1 Za (by rw [e,f]))
theorem Zw6(v:Value)(r:List (Bool×ByteArray)):Xf prog 198 #[v] [Yt 2 Yj3 v r] (.bool (okP r)):=by
 refine Ze func198 ntmps198 λu s p a=>?_;refine Mm (Fj (i:=1) J Zl) λg=>go 14 ?_;refine lp (G:=Nat) [0,5,6] [0,1] (λk=>[(7,.int .i64 (k:Int))]) (λk=>[]) (λk=>(k<=r.length)/\((r.take k).all (λw=>okW w.1 w.2)=true)) (λk=>r.length-k) 0 ⟨O2,O8⟩ K1 aA ?_;rintro k ⟨o,l⟩;refine go 6<|Zb J (λj=>?_) (λj=>?_)
 .refine go 7 ⟨O3,?_⟩;refine dt (Pr 1 (false,⟨#[]⟩) J J J Zl pW O3)<|Zx (Zv 2) λb _=>go 6 ?_;refine cl 2 [] Zbw λ_ _=>go 3<|Yq J (λf=>?_) (λf=>?_)
  .refine go 11 ?_;exact Yv a () results198 (by rw [Yoi (Zg (i:=k) (d:=(false,⟨#[]⟩)) O1) O11]) aA Za
  .refine go 7 ⟨O1,?_⟩;exact Yj (k+1) ⟨O2,by rw [Pu (false,⟨#[]⟩) _ _ O1,List.all_append,l];simpa using f⟩ O2 K1 aA
 .refine go 6 ?_;obtain rfl:k=r.length:=O1;rw [cK]at l;obtain⟨xs,c,rfl⟩:=Zt3 (bC.1 l);have m:=Sz.of_mem c;rw [bM]at g;refine Zq (Zpl 1 (q:=Yt 2 wv v xs) J J (Ynh v xs) (λ_ h=>fpn h) J)<|go 5<|Zk 18 J (λn=>?_) (λn=>?_)
  .refine go 4<|Zk 22 J (λe=>?_) (λe=>?_)
   .refine go 14 ?_;exact Yv a () results198 (by rw [Zp5 c];first|(simp_all;done)|(simp_all;omega)) aA Za
   .refine go 4 ⟨O1,?_⟩;refine Hz (Yk 1 (xs.length-1) J J J J Zl Mv Oc) J J<|go 1 ⟨O1,?_⟩;refine Ln 2 [] (Hi (m.getD _)) λ_ _=>go 7 ?_;exact Yv a () results198 (by rw [Zp5 c];first|(simp_all;done)|(simp_all;omega)) aA Za
  .refine go 18 ?_;exact Yv a () results198 (by rw [Zp5 c];first|(simp_all;done)|(simp_all;omega)) aA Za
def Xm(h:Vp xs):Cal prog 198 #[v] [Yt 2 wv v xs] false (G:=Unit) (λ_=>True) (λ_=> .bool true) (λ_=>[]):=okP_wr h▸(Zw6 v (xs.map wr)).imp (slp_wr v xs) (λ_ h=>fpm h)
theorem Nv(hs:Sz 65536 xs):Xf prog 201 #[v] [Yt 2 wv v xs] (.int .i64 (Pd xs:Int)):=by
 refine Ze func201 ntmps201 λh g f c=>?_;refine Mm (Fj (i:=1) J Zl) λd=>go 19 ?_;refine lp (G:=Nat) [6,7] [0,1] (λk=>[(8,.int .i64 (k:Int)),(3,.int .i64 (Pd (xs.take k):Int))]) (λk=>[]) (λk=>k<=xs.length) (λk=>xs.length-k) 0 O2 K2 aA ?_;rintro k e;refine go 6<|Zb J (λa=>?_) (λa=>?_)
 .refine go 8 ⟨O3,O3,?_⟩;refine Zx (Zv 2) λb _=>go 6 ?_;refine cl 2 [] (Zkd (hs.getD _)) λ_ _=>?_;refine dt (Zbk J J J)<|go 8 ⟨O1,?_⟩;exact Yj (k+1) O2 O2 ⟨J,by rw [Pu 0 _ _ O1,Yh4];exact aH some (Yit O1),aA⟩ aA
 .refine go 12 ?_;exact Yv c () results201 (by rw [cN O1]) aA Za
theorem Zq7{e f:Int}{n:Bool}{s:ByteArray}:Zdx prog 226 #[.pointer (some ⟨bd,0,none⟩),.agg #[.bool n,.string s],.int .i64 f] [] false bd t #[.int .i64 e] (G:=Unit) (λ_=>True) (λ_=> .agg #[.bool n,.string s]) (λ_=>#[.int .i64 (if e=0 then f else e)]) (λ_=>[]):=by
 refine Dj func226 J ntmps226 J aA ?_;intro j i g c;have g:=Hw.mk g;simp only [Ql,Yn];refine go 2<|Zx (Zr 2) λb _=>Zx (Zv 3) λh _=>go 12<|Zb J (λd=>?_) (λd=>?_)
 .refine go 15 ?_;exact Dx (.inl J) c () (λa w hs=>Fw hs results226 (Fq 3 J J isAgg130 Oc J)) J aA 1 J (by simp_all [Fi]) J J Za
 .refine go 9 ?_;exact Dx (.inl J) c () (λa w hs=>Fw hs results226 (Fq 3 J J isAgg130 Oc J)) J aA 1 J (by simp_all [Fi]) J J Za
theorem d_mul_(bd:Nat)(e x y:Int)(h:bl x.natAbs<=65536)(i:bl y.natAbs<=65536):Zdx prog 199 #[.pointer (some ⟨bd,0,none⟩),wv x,wv y] [] false bd 284 #[.int .i64 e] (G:=Unit) (λ_=>True) (λ_=>wv (Aw (x*y))) (λ_=>#[.int .i64 (err e (x*y))]) (λ_=>[]):=by refine Dj func199 J ntmps199 J aA ?_;intro k j d c;have d:=Hw.mk d;simp only [Ql,Yn];refine go 2<|Zx (Zr 2) λb _=>Zx (Zr 3) λf _=>Zx (Zv 4) λg _=>go 3<|Pg (λx=>x=bd) [(0,0),(1,0),(2,0),(3,0),(4,0),(5,1),(6,0),(7,0),(8,1),(9,3)]<|go 5<|Qn (Zz 4 [] (Zkc _ _ ‹_› ‹_›)) λ_ _=>go 2 ?_;refine Bc J (Qo 4 1 Zq7 J J J K3 call226 J O4 Zo J d.h J) λ_ _=>go 4 ?_;exact Dx (.inl J) c () (λa w hs=>Fw hs results199 (Fq 4 J J isAgg130 Oc J)) J aA 1 J J J J Za
theorem Cf(c:bl x.natAbs<=65536)(d:bl y.natAbs<=65536)(a:bl (x*y).natAbs<=65536):Zdx prog 199 #[.pointer (some ⟨bd,0,none⟩),wv x,wv y] [] false bd 284 #[.int .i64 0] (G:=Unit) (λ_=>True) (λ_=>wv (x*y)) (λ_=>#[.int .i64 0]) (λ_=>[]):=by have h:=d_mul_ bd 0 x y c d;rw [Nr a,Zxv a]at h;exact h
theorem d_add_(bd:Nat)(e x y:Int)(h:bl x.natAbs<=65536)(i:bl y.natAbs<=65536):Zdx prog 202 #[.pointer (some ⟨bd,0,none⟩),wv x,wv y] [] false bd 284 #[.int .i64 e] (G:=Unit) (λ_=>True) (λ_=>wv (Aw (x+y))) (λ_=>#[.int .i64 (err e (x+y))]) (λ_=>[]):=by refine Dj func202 J ntmps202 J aA ?_;intro k j d c;have d:=Hw.mk d;simp only [Ql,Yn];refine go 2<|Zx (Zr 2) λb _=>Zx (Zr 3) λf _=>Zx (Zv 4) λg _=>go 3<|Pg (λx=>x=bd) [(0,0),(1,0),(2,0),(3,0),(4,0),(5,1),(6,0),(7,0),(8,1),(9,3)]<|go 5<|Qn (Zz 4 [] (Zso ‹_› ‹_›)) λ_ _=>go 2 ?_;refine Bc J (Qo 4 1 Zq7 J J J K3 call226 J O4 Zo J d.h J) λ_ _=>go 4 ?_;exact Dx (.inl J) c () (λa w hs=>Fw hs results202 (Fq 4 J J isAgg130 Oc J)) J aA 1 J J J J Za
theorem Zmp(c:bl x.natAbs<=65536)(d:bl y.natAbs<=65536)(a:bl (x+y).natAbs<=65536):Zdx prog 202 #[.pointer (some ⟨bd,0,none⟩),wv x,wv y] [] false bd 284 #[.int .i64 0] (G:=Unit) (λ_=>True) (λ_=>wv (x+y)) (λ_=>#[.int .i64 0]) (λ_=>[]):=by have h:=d_add_ bd 0 x y c d;rw [Nr a,Zxv a]at h;exact h
theorem d_sub_(bd:Nat)(e x y:Int)(h:bl x.natAbs<=65536)(i:bl y.natAbs<=65536):Zdx prog 204 #[.pointer (some ⟨bd,0,none⟩),wv x,wv y] [] false bd 284 #[.int .i64 e] (G:=Unit) (λ_=>True) (λ_=>wv (Aw (x-y))) (λ_=>#[.int .i64 (err e (x-y))]) (λ_=>[]):=by refine Dj func204 J ntmps204 J aA ?_;intro k j d c;have d:=Hw.mk d;simp only [Ql,Yn];refine go 2<|Zx (Zr 2) λb _=>Zx (Zr 3) λf _=>Zx (Zv 4) λg _=>go 3<|Pg (λx=>x=bd) [(0,0),(1,0),(2,0),(3,0),(4,0),(5,1),(6,0),(7,0),(8,1),(9,3)]<|go 5<|Qn (Zz 4 [] (Yew ‹_› ‹_›)) λ_ _=>go 2 ?_;refine Bc J (Qo 4 1 Zq7 J J J K3 call226 J O4 Zo J d.h J) λ_ _=>go 4 ?_;exact Dx (.inl J) c () (λa w hs=>Fw hs results204 (Fq 4 J J isAgg130 Oc J)) J aA 1 J J J J Za
theorem Zx2(c:bl x.natAbs<=65536)(d:bl y.natAbs<=65536)(a:bl (x-y).natAbs<=65536):Zdx prog 204 #[.pointer (some ⟨bd,0,none⟩),wv x,wv y] [] false bd 284 #[.int .i64 0] (G:=Unit) (λ_=>True) (λ_=>wv (x-y)) (λ_=>#[.int .i64 0]) (λ_=>[]):=by have h:=d_sub_ bd 0 x y c d;rw [Nr a,Zxv a]at h;exact h
theorem Ykm(hs:Sz 65536 xs):Cal prog 200 #[.pointer (some ⟨bd,0,none⟩),v] [Oq bd 284 #[.int .i64 0],Yt 2 wv v xs] true (G:=Unit) (λ_=>True) (λ_=> .tuple #[Gv v (tzl xs).length,.int .i64 0]) (λ_=>[Yt 2 wv (Gv v (tzl xs).length) (tzl xs)]):=by
 refine Ze func200 ntmps200 λf e d c=>go 17 ?_;refine Zb J (λa=>?_) (λa=>?_)
 .exfalso;simp_all
 .refine go 5 ?_;refine cl 3 [2] (Zd4 ‹_›) λ_ _=>go 5 ?_;exact Nn c () results200 J aA (Kk 3 Za)
theorem Kh(c:Int)(g:Vp xs)(m:bl c.natAbs<=65536)(h:∀i,bl (cf xs i*c).natAbs<=65536):Cal prog 172 #[v,wv c] [Yt 2 wv v xs] true (G:=Value) (λr=>True) (λr=> .tuple #[r,.int .i64 0]) (λr=>[Yt 2 wv r (Yo xs c)]):=by
 refine Ze func172 ntmps172 λp o e d=>?_;have f:=g.len;refine go 2<|Zx (Zr 2) λb _=>go 8 ?_;refine cl 2 [1] (Xm ‹_›) λ_ _=>go 3 ?_;refine Ln 2 [] (Kd ‹_›) λ_ _=>go 9<|Zx (Zv 3) λj _=>go 6 ?_;refine tt (Dt 4 _ 24 (enc:=wv) 0 J J J J Mv ti130 J pV.cells pV.pos J J J e.h J J) λv _=>go 12 ?_;refine lp (G:=Nat) [3,6,7,21,22] [0,1,2,3] (λk=>[(23,.int .i64 (k:Int))]) (λk=>[(4,Nk 2 130 wv v (fill xs.length k (λi=>cf xs i*c)))]) (λk=>k<=xs.length) (λk=>xs.length-k) 0 O2 K1 ⟨by rw [Ae xs.length (λi=>cf xs i*c)];rfl,aA⟩ ?_;rintro k n;refine go 6<|Zb J (λa=>?_) (λa=>?_)
 .refine go 9 ⟨O3,O3,?_⟩;refine Zx (Zv 5) λl _=>go 9 ?_;refine tt (Qo 5 3 (Cf (g.sz.getD _) m (h _)) J J J K3 call199 J O4 Zo J e.h aA) (λ_ _=>?_);refine dt (Yk 4 k J J J J (Yu pV) Mv Oc J (by rw [Ph];omega))<|tt (Lu 4 (enc:=wv) J J J J J J pV J e.h O4 (by rw [Ph];omega)) (λ_ _=>?_);refine go 7 ⟨O1,?_⟩;exact Yj (k+1) O2 O2 K1 ⟨by rw [<-Zdh O1];rfl,aA⟩
 .refine go 6 ?_;obtain rfl:k=xs.length:=O1;refine Zq (Ns 4 J J pV)<|Zq (Zc1 3 J J)<|go 2 ?_;refine cl 6 [3,4] (Ykm (by rw [Dd];exact Zgy λi _=>h i)) λ_ _=>go 7 ?_;exact Nn d _ results172 J aA (Kk 6 Za (by rw [Yc7]<;>rfl))
theorem Zan(e:Vp xs)(h:∀i,bl (cf xs (i+1)*((i:Int)+1)).natAbs<=65536):Cal prog 171 #[v] [Yt 2 wv v xs] true (G:=Value) (λr=>True) (λr=> .tuple #[r,.int .i64 0]) (λr=>[Yt 2 wv r (Xg xs)]):=by
 refine Ze func171 ntmps171 λo m f d=>?_;have g:=e.len;refine go 10 ?_;refine cl 1 [1] (Xm ‹_›) λ_ _=>go 14<|Zb J (λa=>?_) (λa=>?_)
 .refine go 8 ?_;exact Nn d _ results171 J aA (Lm (Yhd O1) Za)
 .refine go 4<|Zx (Zv 2) λb _=>?_;refine go 7 ⟨O1,?_⟩;refine tt (Dt 3 (xs.length-1) 24 (enc:=wv) 0 J J J J Mv ti130 J pV.cells pV.pos J J J f.h) λv _=>go 12 ?_;refine lp (G:=Nat) [0,4,5,18] [0,1,2] (λk=>[(19,.int .i64 (k:Int))]) (λk=>[(3,Nk 2 130 wv v (fill (xs.length-1) k (λi=>cf xs (i+1)*((i:Int)+1))))]) (λk=>k<=xs.length-1) (λk=>xs.length-1-k) 0 O2 K1 ⟨by rw [Ae (xs.length-1) (λi=>cf xs (i+1)*((i:Int)+1))];rfl,aA⟩ ?_;rintro k l;have j:(fill (xs.length-1) k (λi=>cf xs (i+1)*((i:Int)+1))).length=xs.length-1:=Ph _ _ _;refine go 6<|Zb J (λc=>?_) (λc=>?_)
  .try rw [aX]at *
   refine go 10<|Pg (λx=>x=b) [(0,0),(1,0),(2,0),(3,0),(4,0),(5,0),(6,0),(7,0),(8,0),(9,1),(10,1),(11,0),(12,3)]<|go 5 ⟨O1,?_⟩;refine Qb J J (st1 2 J (Yk 1 (k+1) J J J J Zl Mv Oc))<|go 3 ⟨O1,O1,?_⟩;refine Qn (Zz 3 [] (Zm _ (by first|assumption|exact⟨O1,O1⟩))) λ_ _=>?_;refine Bc J (Qo 3 2 (Cf (x:=cf xs (k+1)) (y:=((k:Int)+1)) (e.sz _) (aB (Lq (n:=32) O1) O4) (h k)) J J J K3 call199 J O4 Zo J f.h J) (λ_ _=>?_);refine Qb J J (st1 2 J (Yk 3 k J J J J (Yu pV) Mv Oc J (by rw [Ph];omega)))<|r3' J (Lu 3 (enc:=wv) J J J J J J pV J f.h O4 (by rw [Ph];omega)) (λ_ _=>?_);refine go 7 ⟨O1,?_⟩;exact Yj (k+1) O2 O2 K1 ⟨by rw [<-Zdh O1];rfl,aA⟩
  .try rw [aX]at *
   refine go 6 ?_;obtain rfl:k=xs.length-1:=O1;refine Zq (Ns 3 J J pV)<|Zq (Zc1 2 J J)<|go 2 ?_;refine cl 4 [2,3] (Ykm (by rw [Dd];exact Zgy λi _=>h i)) λ_ _=>go 7 ?_;exact Nn d _ results171 J aA (Kk 4 Za (by rw [Yn9 e.tr]<;>rfl))
theorem Zpy(j:Vp xs):Xf prog 205 #[v] [Yt 2 wv v xs] (.tuple #[wv (Xq xs),.int .i64 0]):=by
 refine Ze func205 ntmps205 λr q n i=>?_;have l:=j.len;have d:∀k,bl (Xq (xs.take k)).natAbs<=65536:=λk=>Ztz _ (j.sz.take k);refine go 2<|Zx (Zv 2) λb _=>go 7 ?_;refine cl 2 [1] (Xm ‹_›) λ_ _=>go 8<|Zx (Zv 3) λf _=>go 4<|Zx (Zv 4) λg _=>go 11 ?_;refine lp (G:=Nat) [2,4,5,12,13] [0,1,2] (λk=>[(14,.int .i64 (k:Int))]) (λk=>[(4,box g 130 #[.bool (decide (Xq (xs.take k)<0)),.string (Xo (Xq (xs.take k)).natAbs)]),(3,box f 284 #[.int .i64 0])]) (λk=>k<=xs.length) (λk=>xs.length-k) 0 O2 K1 K2 ?_;rintro k o;have e:=λh=>Hf (p:=xs) (k:=k) h;refine go 6<|Zb J (λc=>?_) (λc=>?_)
 .refine go 8 ⟨O3,O3,?_⟩;refine Zx (Zv 5) λm _=>go 7 ?_;refine cl 5 [] (Zsn (Xq (xs.take k)) (xs.getD k 0) (d _) (j.sz.getD _)) λ_ _=>go 2 ?_;refine tt (Qo 5 3 Zq7 J J J K3 call226 J O4 Zo J n.h aA) (λ_ _=>?_);refine go 8 ⟨O1,?_⟩;have a:=d (k+1);rw [e O1]at a;exact Yj (k+1) O2 O2 K1 ⟨by rw [e O1];simp only [Nr a];rfl,by simp only [Zqz a];rfl,aA⟩
 .refine go 6<|Nh [3,4] [5] ?_;refine Zw 0 [(0,0),(1,0),(2,0),(3,0),(4,1),(5,3)]<|go 7 ?_;refine Yr<|go 2 ?_;exact Nn i () results205 (by rw [show k=xs.length by omega,cK]<;>rfl) aA Za
theorem Znh{c:Int}(l:Sz 65536 xs)(j:xs.length<=1000)(q:bl c.natAbs<=65536)(s:∀i,c∣cf xs i)(f:xs≠[]->c≠0):Cal prog 206 #[v,wv c] [Yt 2 wv v xs] true (G:=Value) (λr=>True) (λr=> .tuple #[r,.int .i64 0]) (λr=>[Yt 2 wv r (xs.map (· / c))]):=by
 refine Ze func206 ntmps206 λz w m h=>go 2 ?_;refine Zx (Zr 2) λb _=>go 8 ?_;refine tt (Dt 3 _ 24 (enc:=wv) 0 J J J J Mv ti130 J pV.cells pV.pos J J J m.h J J) λv _=>go 12 ?_;refine lp (G:=Nat) [3,6,15,16] [0,1,2] (λk=>[(17,.int .i64 (k:Int))]) (λk=>[(3,Nk 2 130 wv v (fill xs.length k (λi=>cf xs i/c)))]) (λk=>k<=xs.length) (λk=>xs.length-k) 0 O2 K1 ⟨by rw [Ae xs.length (λi=>cf xs i/c)];rfl,aA⟩ ?_;rintro k u;have g:Aw (xs.getD k 0/c)=cf xs k/c:=Nr (Zcg (s k) (l k));refine go 6<|Zb J (λa=>?_) (λa=>?_)
 .refine go 9 ⟨O3,O3,?_⟩;refine Zx (Zv 4) λn _=>go 8 ?_;refine cl 4 [] (Ai (l.getD _) q (f (by intro e;rw [e]at a;simp at a;omega))) λ_ _=>go 4<|Zx (Zv 5) λo _=>Zx (Zv 6) λp _=>go 12<|Zb J (λd=>?_) (λd=>?_)
  .exfalso;simp_all
  .refine go 6 ?_;refine dt (Yk 3 k J J J J (Yu pV) Mv Oc J (by rw [Ph];omega))<|tt (Lu 3 (enc:=wv) J J J J J J pV J m.h O4 (by rw [Ph];omega)) (λ_ _=>?_);refine go 7 ⟨O1,?_⟩;exact Yj (k+1) O2 O2 K1 ⟨by rw [<-Zdh O1];simp only [g];rfl,aA⟩
 .refine go 13 ?_;obtain rfl:k=xs.length:=O1;exact Nn h _ results206 J aA (gow 3 Za (by rw [Dd,Yh5 xs (· / c)]<;>rfl))
theorem Mi(c:Vp xs):Cal prog 176 #[v] [Yt 2 wv v xs] true (G:=Value) (λr=>True) (λr=> .tuple #[r,.int .i64 0]) (λr=>[Yt 2 wv r (Yw xs)]):=by
 refine Ze func176 ntmps176 λh g f d=>?_;have e:=c.len;refine go 9 ?_;refine cl 1 [1] (Zpy ‹_›) λ_ _=>go 3<|Zx (Zv 2) λb _=>go 11<|Zb J (λa=>?_) (λa=>?_)
 .exfalso;simp_all
 .refine go 6 ?_;refine cl 3 [1] (Znh c.sz O1 (Ztz _ c.sz) (Kx _) c.ne) λ_ _=>go 7 ?_;exact Nn d _ results176 J aA (Kk 3 Za J)
theorem Yda(n:Vp xs)(R:bl x.natAbs<=65536)(hy:bl y.natAbs<=65536)(a7:0<y):Xf prog 266 #[v,rX x y] [Yt 2 wv v xs] (.tuple #[wv (evv xs x y),.int .i64 (eve xs x y)]):=by
 refine Ze func266 ntmps266 λw0 sc p o=>?_;have c:=n.len;refine go 2<|Zx (Zr 2) λb _=>Zx (Zv 3) λY _=>go 7 ?_;refine cl 3 [1] (Xm ‹_›) λ_ _=>go 3 ?_;refine Ln 3 [] (On _ _ ‹_› ‹_› ‹_›) λ_ _=>go 15<|Zb J (λj=>?_) (λj=>?_)
 .refine go 2 ?_;refine dt (Xr [] J aA (λa w hs=>Ylv))<|go 6 ?_;exact Nn o () results266 (by rw [aK (l:=xs) O1];rfl) aA Za
 .have I:xs≠[]:=λe=>by rw [e]at j;simp at j
  have a5:=Og n.sz;have g:Sz 65536 [x,y]:=Sz.of_mem (by intro z S;simp at S;rcases S with rfl|rfl<;>assumption);have H:=Og g;have a6:(xs.length-1)*Pd [x,y]<=24*65536:=aU O1 H;have f:((xs.length:Int)-1)*(Pd [x,y]:Int)=(((xs.length-1)*Pd [x,y]:Nat):Int):=by rw [gQ];congr 1;omega
  refine go 3 ?_;refine jn (G:=Unit) [0,3,4] [0,1,2,3] (λ_=>[(37,.bool (decide ((65536:Int)<(Pd xs:Int)+((xs.length:Int)-1)*(Pd [x,y]:Int)+8)))]) (λ_=>[]) (λ_=>True) ?_ ?_
  .refine Bu (λ_=>False) []<|Zw 7 [(0,0),(2,0),(3,0),(4,0),(5,0),(6,0),(7,0),(8,0)]<|go 9 ⟨O1,?_⟩;refine Nm 6 1 9 ?_ ?_
   .refine Ha (Zz 3 [1] (Nv (by first|exact n.sz|exact g))) λ_ _=>?_;refine Zw 0 [(9,1),(10,1),(11,0),(12,0),(13,0),(14,0)]<|Bc J (Oj [(0,_),(1,_)] 90 (enc:=wv) [x,y] J J K4 Ym0 ti130 J J J J J pV.cells J J p.h) λv _=>Qn (Zz 3 [90] (Nv (by first|exact n.sz|exact g))) λ_ _=>?_;refine go 5 ⟨by rw [f];exact⟨O1,O1⟩,by rw [f];exact⟨O1,O1⟩,by rw [f];exact⟨O1,O1⟩,?_⟩;exact Yr<|Fb () aA K1 aA
   .refine Za0 J J (Oj [(0,_),(1,_)] 90 (enc:=wv) [x,y] J J K4 Ym0 ti130 J J J J J pV.cells J J p.h) (λa8 _=>?_);refine Zw 0 [(1,1),(10,1),(11,0),(12,0),(13,0),(14,0)]<|Qn (Zz 3 [1] (Nv (by first|exact n.sz|exact g))) λ_ _=>Qn (Zz 3 [90] (Nv (by first|exact n.sz|exact g))) λ_ _=>?_;refine go 5 ⟨by rw [f];exact⟨O1,O1⟩,by rw [f];exact⟨O1,O1⟩,by rw [f];exact⟨O1,O1⟩,?_⟩;exact Yr<|Fb () aA K1 aA
  .rintro _ -;refine Zb J (λm=>?_) (λm=>?_)
   .have u:Kl xs x y:=⟨I,by rw [f]at m;omega⟩;refine go 2 ?_;refine dt (Xr [] J aA (λa w hs=>Ylv))<|go 6 ?_;exact Nn o () results266 (by unfold evv eve;rw [aO u,aO u]<;>rfl) aA Za
   .have i:Pd xs+(xs.length-1)*Pd [x,y]+8<=65536:=by rw [f]at m;omega
    refine go 4<|Zx (Zv 4) λF _=>go 2 ?_;refine jn (G:=Nat×Nat) [0,3,4,6] [0,1,2,3,4] (λq=>[(7,.pointer (some ⟨q.1,0,none⟩)),(8,.pointer (some ⟨q.2,0,none⟩))]) (λq=>[(97,box q.1 130 (wc (xs.getD (xs.length-1) 0))),(98,box q.2 130 (wc 1))]) (λq=>True) ?_ ?_
    .refine Bu (λ_=>False) [9,10]<|Zw 5 [(0,0),(1,0),(2,0),(3,0),(4,0),(5,0)]<|go 4 ⟨O1,?_⟩;refine Qb J J (Pj (Yk 1 (xs.length-1) J J J J Zl Mv Oc))<|go 2 ⟨O1,?_⟩;refine Yl7 4 6 7 8 ?_ ?_ ?_
     .refine Ha (Zz 4 [] (Zm _ (by first|assumption|exact⟨O1,O1⟩))) λ_ _=>?_;refine Nm 3 7 8 ?_ ?_
      .refine Ha (Zv 97) λZ _=>?_;refine Zw 0 [(8,1),(9,3),(10,3)]<|Qn (Zv 98) λa0 _=>go 3 ?_;exact Yr<|Fb (_,_) aA K2 K2
      .refine Ha (Zv 98) λa1 _=>?_;refine Zw 0 [(7,1),(9,3),(10,3)]<|Qn (Zv 97) λa2 _=>go 3 ?_;exact Yr<|Fb (_,_) aA K2 K2
     .refine Ha (Zv 97) λa3 _=>?_;refine Nm 3 6 8 ?_ ?_
      .refine Ha (Zz 4 [] (Zm _ (by first|assumption|exact⟨O1,O1⟩))) λ_ _=>?_;refine Zw 0 [(8,1),(9,3),(10,3)]<|Qn (Zv 98) λa4 _=>go 3 ?_;exact Yr<|Fb (_,_) aA K2 K2
      .refine Ha (Zv 98) λM _=>?_;refine Zw 0 [(6,1),(9,3),(10,3)]<|Qn (Zz 4 [] (Zm _ (by first|assumption|exact⟨O1,O1⟩))) λ_ _=>go 3 ?_;exact Yr<|Fb (_,_) aA K2 K2
     .refine Ha (Zv 98) λN _=>?_;refine Nm 3 6 7 ?_ ?_
      .refine Ha (Zz 4 [] (Zm _ (by first|assumption|exact⟨O1,O1⟩))) λ_ _=>?_;refine Zw 0 [(7,1),(9,3),(10,3)]<|Qn (Zv 97) λP _=>go 3 ?_;exact Yr<|Fb (_,_) aA K2 K2
      .refine Ha (Zv 97) λQ _=>?_;refine Zw 0 [(6,1),(9,3),(10,3)]<|Qn (Zz 4 [] (Zm _ (by first|assumption|exact⟨O1,O1⟩))) λ_ _=>go 3 ?_;exact Yr<|Fb (_,_) aA K2 K2
    .rintro⟨V,W⟩ -;dsimp only;refine go 10 ⟨O1,?_⟩;refine lp (G:=Nat) [0,3,4,6,7,8] [0,1,2,3,4] (λk=>[(9,.int .i64 ((k:Int)-1))]) (λk=>[(97,box V 130 (wc (Ht xs x y k))),(98,box W 130 (wc (y^(xs.length-1-k))))]) (λk=>k<=xs.length-1) (λk=>k) (xs.length-1) O2 ⟨by rw [show((xs.length-1:Nat):Int)-1=(xs.length:Int)-2 by omega];rfl,aA⟩ ⟨by rw [Ypb x y O1];rfl,by rw [kB,eT];rfl,aA⟩ ?_;rintro k B;refine go 7<|Zb J (λr=>?_) (λr=>?_)
     .have d:y^(xs.length-1-k)*y=y^(xs.length-1-(k-1)):=Yg4 y O1 B;have D:Ht xs x y k*x+xs.getD (k-1) 0*y^(xs.length-1-(k-1))=Ht xs x y (k-1):=Ydx x y O1 B;refine go 9 ?_;refine tt (Qo 4 4 (Cf (Zra i) hy (by rw [d];exact Zra i)) J J J K3 call199 J O4 Zo J p.h aA) λ_ _=>go 3 ?_;refine Pg (λx=>x=F) [(0,0),(1,0),(2,0),(4,0),(5,0),(6,0),(7,0),(8,0),(3,1),(9,1),(10,1),(11,3)]<|go 5 ?_;refine Qb J J (st1 4 J (Yk 1 (k-1) J J J J Zl Mv Oc))<|go 2 ⟨O1,?_⟩;refine Bc J (Qo 4 4 (Cf (by first|exact Zrb i c _|exact n.sz.getD _) (by first|exact R|(rw [d];exact Zra i)) (by first|exact Zxu i c O1 B|(rw [d];exact Zq9 i))) J J J K3 call199 J O4 Zo J p.h J) (λ_ _=>?_);refine Bc J (Qo 4 4 (Cf (by first|exact Zrb i c _|exact n.sz.getD _) (by first|exact R|(rw [d];exact Zra i)) (by first|exact Zxu i c O1 B|(rw [d];exact Zq9 i))) J J J K3 call199 J O4 Zo J p.h J) (λ_ _=>?_);refine Bc J (Qo 4 4 (Zmp (Zxu i c O1 B) (by rw [d];exact Zq9 i) (by rw [d,D];exact Zrb i c _)) J J J K3 call202 J O4 Zo J p.h J) (λ_ _=>?_);refine go 9 ⟨O1,?_⟩;exact Yj (k-1) O2 O2 ⟨by rw [show((k-1:Nat):Int)-1=(k:Int)-1-1 by omega];rfl,aA⟩ ⟨by rw [d,D];rfl,by rw [d];rfl,aA⟩
     .refine go 14<|Zb J (λs=>?_) (λs=>?_)
      .exfalso;simp_all
      .refine go 10 ?_;obtain rfl:k=0:=O1;have u:¬Kl xs x y:=λh=>by have:=h.2;omega
       exact Nn o () results266 (by unfold evv eve;rw [aF u,aF u,<-Zur]<;>rfl) aA Za
theorem Ztv(e:Vp xs)(g:bl x.natAbs<=65536)(h:bl y.natAbs<=65536)(d:0<y):Xf prog 254 #[v,rX x y] [Yt 2 wv v xs] (.tuple #[.int .i64 (evv xs x y).sign,.int .i64 (eve xs x y)]):=by refine Ze func254 ntmps254 λk j i c=>?_;have a:=e.len;refine go 2<|Zx (Zr 2) λb _=>go 8 ?_;refine cl 2 [1] (Yda e g h d) λ_ _=>go 3<|Zx (Zv 3) λf _=>go 7 ?_;refine cl 3 [] (Hi (evv_bl a)) λ_ _=>go 6 ?_;exact Nn c () results254 J aA Za
end Go.Sky

