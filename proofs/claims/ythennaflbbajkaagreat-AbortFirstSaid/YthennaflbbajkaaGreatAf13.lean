/- Rules, arithmetic and contracts: part 14. No conditions but those that each theorem names. -/
import Derived.Test.YthennaflbbajkaaGreatAf12
set_option linter.all false
set_option maxHeartbeats 4000000
namespace Go.Sky
open Go.Proofs.Tryz
open Go.Proofs
set_option synthInstance.maxHeartbeats 0
set_option synthInstance.maxSize 100000
set_option maxRecDepth 20000
set_option linter.unusedSimpArgs false
variable{v w:Value}{xs ts:List Nat}{y:Nat}{x:Int}{s t:Bool}{listed:Array Bool}{ops:Array Oper}
theorem Yct(g:xs.length*8<=140737488355328):Yj7 prog 246 #[v] [Yn 1 Md v xs] (G:=Value) (λr=>True) (λr=>r) (λr=>Nc 1 87 Md r xs):=by
 refine Zqo func246 J ntmps246 J K1 ?_;intro j h d e;have d:=Hw.mk d;simp only [Qi,Yl];refine Mc (Yht (i:=1) J Zg) λc=>go 9 ?_;refine dt (Zqd J J J (i:=1) J Zg Pm)<|go 2 ?_;refine Ym J (λb=>?_) (λb=>?_)
 .refine go 7 ?_;obtain rfl:xs=[]:=c (by simpa using b);exact Xf (Iq 9 1 87 Md)<|Zgq (.inl J) (.slice none 0 0) (λa w hs=>Fh hs results246 J) J aA J 9 J J J
 .refine go 4 ?_;refine tt (Ydo 2 (enc:=Md) J J J Pm pU J d.h) λv _=>go 1 ?_;refine tt (Gm 2 1 8 J J J J J J O3 J Zg Pm ti87 J pU J J J O9 O3 J d.h) λf _=>go 4 ?_;exact Zgq (.inl J) _ (λa w hs=>Fh hs results246 J) J aA J 2 J (by rfl) J
theorem Zun{h l:Nat}(hl:l<U)(hy:y<U)(hh:h<y):Xe prog 224 #[.int .u64 (h:Int),.int .u64 (l:Int),.int .u64 (y:Int)] [] (.tuple #[.int .u64 (((h*U+l)/y:Nat):Int),.int .u64 (((h*U+l)%y:Nat):Int)]):=by
 refine Zd func224 ntmps224 λw0 sc hw a8=>?_;have c0:U=18446744073709551616:=rfl;have hp:0<y:=O;have c1:bl y<=64:=(Qs 64 y).2 hy;obtain⟨s,hs⟩:∃s,s=64-bl y:=⟨_,rfl⟩;obtain⟨Y,g⟩:∃Y,Y=y*2^s:=⟨_,rfl⟩;obtain⟨b6,S⟩:=Yfy hp hy hs;rw [<-g]at b6 S;have V:=S;obtain⟨D,hD⟩:∃D,D=(h*U+l)*2^s:=⟨_,rfl⟩;obtain⟨u,Z⟩:∃u,u=D/U:=⟨_,rfl⟩;obtain⟨v,a0⟩:∃v,v=D%U:=⟨_,rfl⟩;obtain⟨v1,Q⟩:∃x,x=v/4294967296:=⟨_,rfl⟩;obtain⟨v0,P⟩:∃x,x=v%4294967296:=⟨_,rfl⟩;obtain⟨d,b1⟩:∃x,x=Y/4294967296:=⟨_,rfl⟩;obtain⟨N,a9⟩:∃x,x=Y%4294967296:=⟨_,rfl⟩;have e:Y=d*4294967296+N:=O;have b7:=shl_lt hh (show y*2^s<U by rw [<-g];exact S);have c3:u<Y:=by rw [Z,hD,g];exact top_lt hl hh
 have hu:u<d*4294967296+N:=O;have c4:v<U:=by rw [a0];exact bI _ Xq
 have b0:2147483648<=d:=O;have i:d<4294967296:=O;have f:N<4294967296:=O;have M:v1<4294967296:=O;have I:v0<4294967296:=O;obtain⟨Q1,m⟩:∃x,x=(u*4294967296+v1)/Y:=⟨_,rfl⟩;obtain⟨t,H⟩:∃x,x=(u*4294967296+v1)%Y:=⟨_,rfl⟩;have c2:t<Y:=by rw [H];exact bI _ O
 have ht:t<d*4294967296+N:=O;obtain⟨Q0,k⟩:∃x,x=(t*4294967296+v0)/Y:=⟨_,rfl⟩;have R:0<Y:=O;obtain⟨a6,a7⟩:=dv_two (D:=D) R Z a0 Q P;rw [<-m,<-H,<-k]at a6;rw [<-H]at a7;have b8:Q0<4294967296:=by rw [k,e];exact dv_Q I ht
 have b9:Q1<4294967296:=by rw [m,e];exact dv_Q M hu
 refine go 13<|Zb J (λa1=>?_) (λa1=>?_)
 .exfalso;omega
 .refine go 10<|Zb J (λa2=>?_) (λa2=>?_)
  .exfalso;omega
  .refine go 9<|Zb J (λa3=>?_) (λa3=>?_)
   .refine go 1<|Pd (λ_=>False) [(0,0),(1,0),(2,0),(3,0),(4,0),(5,0),(6,0),(7,3)]<|go 2 ?_;refine Xy J J (Pg (Ydh J J J))<|go 2 ?_;refine Xy J J (Pg (u_rem J J J O))<|go 6 ?_;exact Ok a8 () results224 (by have h0:h=0:=O;rw [h0];simp) aA Za
   .refine go 5 ?_;refine cl 0 [] (Zqw hy) λ_ _=>?_;refine dt (Zwp J J uT3 underlying221 (by simp only [U];omega))<|go 4 ?_;refine Zr (Kd 8 (v':= .int .u64 (s:Int)) J (by rw [hs]))<|go 3 ?_;refine dt (Zml J J J J)<|go 4 ?_;refine Zr (Kd 2 (v':= .int .u64 (Y:Int)) J (by rw [g,bG (by rw [<-g];exact V)]))<|go 2 ?_;refine dt (Fs 4294967296 (n:=32) J J J J J)<|go 6 ?_;refine dt (Zre J J J)<|go 7 ?_;refine dt (Zml J J J J)<|go 2 ?_;refine dt (Zd1 J J J (by first|exact bI _ Xq|omega))<|dt (Zmk J J (n:=64-s) J (by simp only [U];omega))<|dt (Ykm J J J (bI _ Xq) (aY (eW _ _) hl))<|go 4 ?_;refine Zr (Kd 11 (v':= .int .u64 (u:Int)) J (by rw [Z,hD,Yfm O b7 hl]))<|go 3 ?_;refine dt (Zml J J J J)<|go 4 ?_;refine Zr (Kd 12 (v':= .int .u64 (v:Int)) J (by rw [a0,hD,Yb1 h l s]))<|go 2 ?_;refine dt (Fs 4294967296 (n:=32) J J J J J)<|go 4 ?_;refine Zr (Kd 13 (v':= .int .u64 (v1:Int)) J (by rw [Q]))<|go 2 ?_;refine dt (Zre J J J)<|go 4 ?_;refine Zr (Kd 14 (v':= .int .u64 (v0:Int)) J (by rw [Zut,P]))<|Zr (Kd 9 (v':= .int .u64 (d:Int)) J (by rw [b1]))<|Zr (Kd 10 (v':= .int .u64 (N:Int)) J (by rw [Zut,a9]))<|go 3 ?_;refine dt (Ydh J J J)<|go 8 ?_;refine dt (Cr J J J)<|dt (Zd1 J J J (by first|exact bI _ Xq|omega))<|go 3 ?_;refine jn (G:=Unit) [2,8,9,10,11,13,14] [0] (λ_=>[(15,.int .u64 ((Q1:Nat):Int))]) (λ_=>[]) (λ_=>True) ?_ ?_
    .refine go 1<|Zr (Kd 16 (v':= .int .u64 ((u%d:Nat):Int)) J (by rw [rsub O O])) ?_;refine lp (G:=Nat×Nat) [2,8,9,10,11,13,14] [0] (λq=>[(15,.int .u64 (q.1:Int)),(16,.int .u64 (q.2:Int))]) (λq=>[]) (λq=>(dvI u v1 d N q.1 q.2)/\(q.2<4294967296)) (λq=>q.1) (u/d,u%d) ⟨dv0 b0 i f M hu,jG (bI _ O) i⟩ K2 aA ?_;rintro⟨a,r⟩ ⟨j,hr⟩;dsimp only at j hr;dsimp only;have b4:=j.1;have b5:=j.2.1;refine go 6<|Zi 69 J (λb2=>?_) (λb2=>?_)
     .refine go 16 ?_;have b:=Zi5 O j M hu O;have c:=b.1;refine go 2 ?_;refine dt (Zd1 (n:=1) J J J)<|go 4 ?_;refine Zr (Kd 15 (v':= .int .u64 ((a-1:Nat):Int)) J (Zba (Zt5 c O)))<|go 3 ?_;refine dt (Bk J J J)<|go 4 ?_;refine Zr (Kd 16 (v':= .int .u64 ((r+d:Nat):Int)) J (Zba (bG O)))<|go 5<|Zb J (λa4=>?_) (λa4=>?_)
      .refine go 4 ?_;have z:Q1=a-1:=by rw [m,e];exact(Zgb O f b.2 O O).symm
       exact Hh () aA ⟨by rw [z];rfl,aA⟩ aA
      .refine go 2 ?_;exact Yj (a-1,r+d) ⟨b.2,by dsimp only;omega⟩ O1 K2 aA
     .have W:=Zsv (show a<4294967296 by omega) f;have e1:=bG (show a*N<U from W);have e2:=bG (show 4294967296*r<U by omega);have e3:=bG (show 4294967296*r+v1<U by omega);refine go 2 ?_;refine Kj (Cr J J J) J J<|go 1 ?_;refine Kj (Cr J J J) J J<|go 1 ?_;refine Kj (Bk J J J) J J<|go 4 ?_;refine Zb J (λo=>?_) (λo=>?_)
      .rw [e1,e2,e3]at o;refine go 4 ?_;have b:=Zi5 O j M hu O;have c:=b.1;refine go 2 ?_;refine dt (Zd1 (n:=1) J J J)<|go 4 ?_;refine Zr (Kd 15 (v':= .int .u64 ((a-1:Nat):Int)) J (Zba (Zt5 c O)))<|go 3 ?_;refine dt (Bk J J J)<|go 4 ?_;refine Zr (Kd 16 (v':= .int .u64 ((r+d:Nat):Int)) J (Zba (bG O)))<|go 5<|Zb J (λB=>?_) (λB=>?_)
       .refine go 4 ?_;have z:Q1=a-1:=by rw [m,e];exact(Zgb O f b.2 O O).symm
        exact Hh () aA ⟨by rw [z];rfl,aA⟩ aA
       .refine go 2 ?_;exact Yj (a-1,r+d) ⟨b.2,by dsimp only;omega⟩ O1 K2 aA
      .rw [e1,e2,e3]at o;refine go 4 ?_;have z:Q1=a:=by rw [m,e];exact(Zp9 O j O).symm
       exact Hh () aA ⟨by rw [z];rfl,aA⟩ aA
    .rintro _ -;refine go 3 ?_;refine dt (Cr J J J)<|go 1 ?_;refine dt (Bk J J J)<|go 2 ?_;refine dt (Cr J J J)<|dt (Zd1 J J J (by first|exact bI _ Xq|omega))<|go 4 ?_;refine Zr (Kd 17 (v':= .int .u64 (t:Int)) J (by rw [H,m,Zzy R V]))<|go 3 ?_;refine dt (Ydh J J J)<|go 8 ?_;refine dt (Cr J J J)<|dt (Zd1 J J J (by first|exact bI _ Xq|omega))<|go 3 ?_;refine jn (G:=Unit) [2,8,14,15,17] [0] (λ_=>[(18,.int .u64 ((Q0:Nat):Int))]) (λ_=>[]) (λ_=>True) ?_ ?_
     .refine go 1<|Zr (Kd 16 (v':= .int .u64 ((t%d:Nat):Int)) J (by rw [rsub O O])) ?_;refine lp (G:=Nat×Nat) [2,8,9,10,14,15,17] [0] (λq=>[(18,.int .u64 (q.1:Int)),(16,.int .u64 (q.2:Int))]) (λq=>[]) (λq=>(dvI t v0 d N q.1 q.2)/\(q.2<4294967296)) (λq=>q.1) (t/d,t%d) ⟨dv0 b0 i f I ht,jG (bI _ O) i⟩ K2 aA ?_;rintro⟨a,r⟩ ⟨j,hr⟩;dsimp only at j hr;dsimp only;have b4:=j.1;have b5:=j.2.1;refine go 6<|Zi 104 J (λb3=>?_) (λb3=>?_)
      .refine go 16 ?_;have b:=Zi5 O j I ht O;have c:=b.1;refine go 2 ?_;refine dt (Zd1 (n:=1) J J J)<|go 4 ?_;refine Zr (Kd 18 (v':= .int .u64 ((a-1:Nat):Int)) J (Zba (Zt5 c O)))<|go 3 ?_;refine dt (Bk J J J)<|go 4 ?_;refine Zr (Kd 16 (v':= .int .u64 ((r+d:Nat):Int)) J (Zba (bG O)))<|go 5<|Zb J (λa5=>?_) (λa5=>?_)
       .refine go 4 ?_;have z:Q0=a-1:=by rw [k,e];exact(Zgb O f b.2 O O).symm
        exact Hh () aA ⟨by rw [z];rfl,aA⟩ aA
       .refine go 2 ?_;exact Yj (a-1,r+d) ⟨b.2,by dsimp only;omega⟩ O1 K2 aA
      .have W:=Zsv (show a<4294967296 by omega) f;have e1:=bG (show a*N<U from W);have e2:=bG (show 4294967296*r<U by omega);have e3:=bG (show 4294967296*r+v0<U by omega);refine go 2 ?_;refine Kj (Cr J J J) J J<|go 1 ?_;refine Kj (Cr J J J) J J<|go 1 ?_;refine Kj (Bk J J J) J J<|go 4 ?_;refine Zb J (λp=>?_) (λp=>?_)
       .rw [e1,e2,e3]at p;refine go 4 ?_;have b:=Zi5 O j I ht O;have c:=b.1;refine go 2 ?_;refine dt (Zd1 (n:=1) J J J)<|go 4 ?_;refine Zr (Kd 18 (v':= .int .u64 ((a-1:Nat):Int)) J (Zba (Zt5 c O)))<|go 3 ?_;refine dt (Bk J J J)<|go 4 ?_;refine Zr (Kd 16 (v':= .int .u64 ((r+d:Nat):Int)) J (Zba (bG O)))<|go 5<|Zb J (λF=>?_) (λF=>?_)
        .refine go 4 ?_;have z:Q0=a-1:=by rw [k,e];exact(Zgb O f b.2 O O).symm
         exact Hh () aA ⟨by rw [z];rfl,aA⟩ aA
        .refine go 2 ?_;exact Yj (a-1,r+d) ⟨b.2,by dsimp only;omega⟩ O1 K2 aA
       .rw [e1,e2,e3]at p;refine go 4 ?_;have z:Q0=a:=by rw [k,e];exact(Zp9 O j O).symm
        exact Hh () aA ⟨by rw [z];rfl,aA⟩ aA
     .rintro _ -;refine go 3 ?_;refine dt (Cr J J J)<|go 1 ?_;refine dt (Bk J J J)<|go 1 ?_;refine dt (Cr J J J)<|go 1 ?_;refine dt (Bk J J J)<|go 2 ?_;refine dt (Cr J J J)<|dt (Zd1 J J J (by first|exact bI _ Xq|omega))<|go 1 ?_;refine dt (Zmk J J J J)<|go 5 ?_;have hA:(Q1*4294967296%U+Q0)%U=(h*U+l)/y:=by rw [<-Zmw _ y s,<-hD,<-g,a6];simp only [U];omega
      have hB:((t*4294967296%U+v0)%U+(U-(Q0*Y)%U))%U/2^s=(h*U+l)%y:=by rw [<-Zmv _ y s,<-hD,<-g,a7,k,Zzy R V]
      exact Ok a8 () results224 (by rw [hA,hB]) aA Za
theorem Ybx{x d:Nat}(u:bl x<=8589934592)(f:0<d)(g:d<U):Cal prog 222 #[v,.int .u64 (d:Int)] [Es v x] false (G:=Value) (λr=>True) (λr=> .tuple #[r,.int .u64 ((x%d:Nat):Int)]) (λr=>[Es r (x/d)]):=by
 refine Zd func222 ntmps222 λB z j i=>?_;have p:=Nv x;refine go 10 ?_;refine tt (Ev 2 ((dg U x).length) 8 (enc:=Md) 0 J J J J Pm ti87 J pU.cells pU.pos J J J j.h) (λv _=>?_);refine go 18 ⟨O,?_⟩;refine lp (G:=Nat×List Nat×Nat) [0,1,6] [0,1] (λq=>[(8,.int .i64 ((q.1:Int)-1)),(7,.int .u64 (q.2.2:Int))]) (λq=>[(2,Nc 1 87 Md v q.2.1)]) (λq=>(q.1<=(dg U x).length)/\(q.2.1.length=(dg U x).length)/\(q.2.2<d)/\(∀d∈q.2.1,d<U)/\(val U (q.2.1.drop q.1)*d+q.2.2=val U ((dg U x).drop q.1))) (λq=>q.1) ((dg U x).length,List.replicate (dg U x).length 0,0) ⟨aI _,O7,O1,Ld Xq,by simp [val]⟩ K2 K1 ?_;rintro⟨k,o,r⟩ ⟨l,h,c,a,e⟩;dsimp only at l h c a e;dsimp only;refine go 7<|Zb J (λb=>?_) (λb=>?_)
 .refine go 10 ?_;refine dt (Yh 1 (k-1) J J J J Zg Pm Er)<|go 2 ⟨O2,?_⟩;refine cl 2 [] (Zun (Pk Xq (Gw Xl _) _) g c) λ_ _=>go 3 ?_;refine dt (Yh 2 (k-1) J J J J (Yi pU) Pm Er)<|tt (Ln 2 (enc:=Md) J J J J J J pU J j.h O3 O2) (λ_ _=>?_);refine go 9 ⟨O,?_⟩;exact Yj (k-1,_,_) ⟨O1,O9,bI _ f,Il a _ _ (Ztw (Pk Xq (Gw Xl x) _) c),Zu9 f O O (by rw [show k-1+1=k by omega];exact e)⟩ O1 ⟨by rw [show(((k-1:Nat):Int)-1)=(k:Int)-1-1 by omega];rfl,rfl,aA⟩ K1
 .refine go 8 ?_;refine cl 2 [2] Pu λ_ _=>?_;refine Oj (Zj3 2 J J pU)<|go 6 ?_;obtain rfl:k=0:=O;rw [jP,jP,Gl Xl]at e;have n:tz o=dg U (x/d):=by rw [<-Cq Xl _ a,<-e,bW,iF f,dS c,fY]
  have m:r=x%d:=by rw [<-e,bW,iZ,bG c]
  exact Ok i _ results222 (by rw [m]) aA (gow 2 Za n)
theorem Zpa{x s:Nat}(Y:bl x<=4294967296:=by omega)(hs:s<=4294967296:=by omega):Cal prog 223 #[v,.int .i64 (s:Int)] [Es v x] false (G:=Value) (λr=>True) (λr=>r) (λr=>[Es r (x*2^s)]):=by
 refine Zd func223 ntmps223 λw0 Z M D=>?_;obtain⟨w,V⟩:∃w,w=s/64:=⟨_,rfl⟩;obtain⟨b,R⟩:∃b,b=s%64:=⟨_,rfl⟩;have W:=Nv x;refine go 13<|Zb J (λm=>?_) (λm=>?_)
 .refine go 7<|Xf (Iq 9 1 87 Md) ?_;have N:x=0:=(Nu Xl x).1 O;exact Yp D (.slice none 0 0) results223 J aA (gow 9 Za (by rw [N,gR];rfl))
 .refine go 5 ?_;refine dt (Zlm J J J O O O)<|go 1 ?_;refine dt (Kf J J J O O)<|go 5 ?_;refine Zr (Kd 5 (v':= .int .i64 (w:Int)) J (by congr 1;omega))<|Zr (Kd 6 (v':= .int .i64 (b:Int)) J (by congr 1;omega))<|go 6 ⟨O,O,?_⟩;refine tt (Ev 2 ((dg U x).length+w+1) 8 (enc:=Md) 0 J J J J Pm ti87 J pU.cells pU.pos J J J M.h) λv _=>go 12 ?_;refine lp (G:=Nat×List Nat) [5,6,7,23,24] [0,1] (λq=>[(25,.int .i64 (q.1:Int))]) (λq=>[(2,Nc 1 87 Md v q.2)]) (λq=>(q.1<=(dg U x).length)/\(q.2.length=(dg U x).length+w+1)/\(q.2.getD (w+q.1) 0<2^b)/\(∀j,w+q.1<j->q.2.getD j 0=0)/\(∀d∈q.2,d<U)/\(val U (q.2.take ((dg U x).length+w+1))=val U ((dg U x).take q.1)*2^b*U^w)) (λq=>(dg U x).length-q.1) (0,List.replicate ((dg U x).length+w+1) 0) ⟨O1,O7,by rw [Ee];exact dJ b,λj _=>Ee _ j,Ld Xq,by rw [lF,Dr];simp [val]⟩ K1 K1 ?_;rintro⟨i,o⟩ ⟨hi,B,Q,l,a,H⟩;dsimp only at hi B Q l a H;dsimp only;have F:i<(dg U x).length->_:=λS=>Yeh (xs:=dg U x) (show b<=63 by omega) B.symm (show w+i+1<_ by omega) Q (l (w+i+1) O) (Pk Xq (Gw Xl x) i) H;refine go 6<|Zb J (λp=>?_) (λp=>?_)
  .refine go 14 ⟨O2,O2,?_⟩;have f:=Pk Xq (Gw Xl x) i;refine Pd (λ_=>False) [(0,0),(1,0),(2,0),(3,0),(4,0),(5,0),(6,0),(7,0),(8,0),(9,0),(10,0),(11,3)]<|go 4 ⟨O,?_⟩;refine Xy J J (Pg (Yh 2 (w+i) J J J J (Yi pU) Pm Er))<|go 3 ⟨O2,?_⟩;refine Xy J J (Pg (Zml J J (n:=b) J J))<|Xy J J (Pg (Ykm J J J (Pk Xq a _) (bI _ Xq)))<|Xy J J (Pg (Yh 2 (w+i) J J J J (Yi pU) Pm Er))<|r3' J (Ln 2 (enc:=Md) J J J J J J pU J M.h O3 O2) λ_ _=>go 8 ?_;refine Zb J (λu=>?_) (λu=>?_)
   .have c:=Il (Il a (w+i) (o.getD (w+i) 0 ||| (dg U x).getD i 0*2^b%U) (iM (n:=64) (Pk Xq a _) (bI _ Xq))) (w+i+1) ((dg U x).getD i 0/2^(64-b)) (aY (eW _ _) f);have g:((o.set (w+i) (o.getD (w+i) 0 ||| (dg U x).getD i 0*2^b%U)).set (w+i+1) ((dg U x).getD i 0/2^(64-b))).getD (w+i+1) 0<2^b:=by rw [Mb O9,aO rfl];exact Zez O f
    have k:∀j,w+i+1<j->((o.set (w+i) (o.getD (w+i) 0 ||| (dg U x).getD i 0*2^b%U)).set (w+i+1) ((dg U x).getD i 0/2^(64-b))).getD j 0=0:=λj z=>by rw [Mb O9,aJ O,Mb O,aJ O];exact l j O
    have e:=F O;refine go 9 ⟨O,O,O,?_⟩;refine dt (Zmk J J (n:=64-b) J O)<|dt (Yh 2 (w+i+1) J J J J (Yi pU) Pm Er O (by simp only [cC];omega))<|tt (Ln 2 (enc:=Md) J J J J J J pU J M.h O3 (by simp only [cC];omega)) (λ_ _=>?_);refine go 7 ⟨O,?_⟩;exact Yj (i+1,_) ⟨O1,O9,by dsimp only;rw [show w+(i+1)=w+i+1 by omega];exact g,λj z=>by have I:w+(i+1)<j:=z;dsimp only;exact k j O,c,e⟩ O1 K1 K1
   .obtain rfl:b=0:=O;have c:=Il a (w+i) (o.getD (w+i) 0 ||| (dg U x).getD i 0*2^0%U) (iM (n:=64) (Pk Xq a _) (bI _ Xq));have g:(o.set (w+i) (o.getD (w+i) 0 ||| (dg U x).getD i 0*2^0%U)).getD (w+i+1) 0<2^0:=by rw [Mb O,aJ O,l _ O];exact dJ 0
    have k:∀j,w+i+1<j->(o.set (w+i) (o.getD (w+i) 0 ||| (dg U x).getD i 0*2^0%U)).getD j 0=0:=λj z=>by rw [Mb O,aJ O];exact l j O
    have e:=F O;rw [show(dg U x).getD i 0/2^(64-0)=0 from dS f]at e;have h:=Zl9 (o.set (w+i) (o.getD (w+i) 0 ||| (dg U x).getD i 0*2^0%U)) (w+i+1) (by rw [Mb O,aJ O,l _ O]);rw [h]at e;refine go 7 ⟨O,?_⟩;exact Yj (i+1,_) ⟨O1,O9,by dsimp only;rw [show w+(i+1)=w+i+1 by omega];exact g,λj z=>by have I:w+(i+1)<j:=z;dsimp only;exact k j O,c,e⟩ O1 K1 K1
  .refine go 8 ?_;refine cl 2 [2] Pu λ_ _=>?_;refine Oj (Zj3 2 J J pU)<|go 4 ?_;obtain rfl:i=(dg U x).length:=O;have P:tz o=dg U (x*2^s):=by rw [<-Cq Xl _ a];congr 1;rw [Ib U o O,cK (aI _),Gl Xl,Zc5,eR,<-bM,show b+64*w=s by omega]at H;exact H
   exact Yp D _ results223 J aA (gow 2 Za P)
theorem Yl7{x s:Nat}(S:bl x<=8589934592)(hs:s<=8589934592):Cal prog 225 #[v,.int .i64 (s:Int)] [Es v x] false (G:=Value) (λr=>True) (λr=>r) (λr=>[Es r (x/2^s)]):=by
 refine Zd func225 ntmps225 λW V H F=>?_;obtain⟨w,m⟩:∃w,w=s/64:=⟨_,rfl⟩;obtain⟨b,k⟩:∃b,b=s%64:=⟨_,rfl⟩;have R:=Nv x;have P:((dg U x).drop w).length=(dg U x).length-w:=iT;refine go 8 ?_;refine dt (Zlm J J J O O O)<|go 1 ?_;refine dt (Kf J J J O O)<|go 6 ?_;refine Zr (Kd 5 (v':= .int .i64 (w:Int)) J (by congr 1;omega))<|Zr (Kd 6 (v':= .int .i64 (b:Int)) J (by congr 1;omega))<|go 7<|Zb J (λz=>?_) (λz=>?_)
 .refine go 7<|Xf (Iq 9 1 87 Md) ?_;have I:x/2^s=0:=by rw [Zat m k,dS ((Qb Xl w x).1 O),Nat.zero_div]
  exact Yp F (.slice none 0 0) results225 J aA (gow 9 Za (by rw [I];rfl))
 .refine go 6 ?_;refine dt (d_suf 1 w J J J J Zg Pm Er O)<|Oj (s_suf 1 2 w J J)<|tt (Zih 3 (Yct (by simp only [iT];omega)) J J J K1 call246 (Ye 2 J J J Zq) J H.h) λv _=>go 3 ?_;refine jn (G:=List Nat) [7] [0,1,2] (λo=>[]) (λo=>[(3,Nc 1 87 Md v o)]) (λo=>(o.length=(dg U x).length-w)/\(∀j,j<o.length->o.getD j 0=x/2^s/U^j%U)) ?_ ?_
  .refine go 6<|Zb J (λB=>?_) (λB=>?_)
   .refine go 8 ?_;refine lp (G:=Nat×List Nat) [0,5,6,7,24] [0,1,2] (λq=>[(25,.int .i64 (q.1:Int))]) (λq=>[(3,Nc 1 87 Md v q.2)]) (λq=>(q.1<=(dg U x).length-w)/\(q.2.length=(dg U x).length-w)/\(∀j,j<q.1->q.2.getD j 0=x/2^s/U^j%U)/\(∀j,q.1<=j->q.2.getD j 0=x/U^w/U^j%U)/\(∀d∈q.2,d<U)) (λq=>(dg U x).length-w-q.1) (0,(dg U x).drop w) ⟨bH _,O7,λj f=>absurd f (bK j),λj _=>Zz1 x w j,λd N=>Gw Xl x d (kV N)⟩ K1 K1 ?_;rintro⟨i,o⟩ ⟨hi,u,p,l,a⟩;dsimp only at hi u p l a;dsimp only;refine go 6<|Zb J (λD=>?_) (λD=>?_)
    .refine go 17 ⟨O2,O2,?_⟩;refine dt (Zmk J J (n:=b) J J)<|go 1 ⟨O2,?_⟩;refine tt (Ln 3 (enc:=Md) J J J J J J pU J H.h O3 O2) (λ_ _=>?_);refine go 11 ⟨O,?_⟩;refine Zb J (λg=>?_) (λg=>?_)
     .simp only [cC]at g;have c:∀j,((o.set i (o.getD i 0/2^b)).set i ((o.set i (o.getD i 0/2^b)).getD i 0 ||| ((dg U x).getD (w+i+1) 0*2^(64-b))%U)).getD j 0=if i=j then x/2^s/U^i%U else o.getD j 0:=λj=>by
       rw [Mb O9,Mb O,Mb O];split
       .rw [aO rfl,l i (aI _),Fe Xl,Zat m k,Ztz,show x/U^(w+i+1)=x/U^w/U^i/U by rw [aR,aR,<-dD,<-bM];rfl,Zrt _ _ O]
       .rfl
      have h:=Il (Il a i (o.getD i 0/2^b) (aY (eW _ _) (Pk Xq a _))) i ((o.set i (o.getD i 0/2^b)).getD i 0 ||| ((dg U x).getD (w+i+1) 0*2^(64-b))%U) (iM (n:=64) (Pk Xq (Il a _ _ (aY (eW _ _) (Pk Xq a _))) _) (bI _ Xq));refine Pd (λ_=>False) [(0,0),(1,0),(2,0),(3,0),(4,0),(5,0),(6,0),(7,0),(8,0),(9,0),(10,0),(11,0),(12,0),(13,0),(14,0),(15,0),(16,3)]<|go 9 ⟨O2,O2,O,O,?_⟩;refine Xy J J (Pg (Yh 1 (w+i+1) J J J J Zg Pm Er O O2))<|go 3 ⟨O2,O,?_⟩;refine Xy J J (Pg (Zml J J (n:=64-b) J O))<|Xy J J (Pg (Ykm J J J (Pk Xq (Il a _ _ (aY (eW _ _) (Pk Xq a _))) _) (bI _ Xq)))<|go 1 ⟨O2,?_⟩;refine r3' J (Ln 3 (enc:=Md) J J J J J J pU J H.h O3 O2) (λ_ _=>?_);refine go 7 ⟨O,?_⟩;exact Yj (i+1,_) ⟨O1,O9,λj f=>by dsimp only;rw [c j];split;(· rename_i e;rw [<-e]);exact p j (by have:j<i+1:=f;omega),λj f=>by dsimp only;rw [c j,aJ (by have:i+1<=j:=f;omega)];exact l j (by have:i+1<=j:=f;omega),h⟩ O1 K1 K1
     .have c:∀j,(o.set i (o.getD i 0/2^b)).getD j 0=if i=j then x/2^s/U^i%U else o.getD j 0:=λj=>by
       rw [Mb O];split
       .rw [l i (aI _),Zat m k,Ztz,Ybh O];rw [aR,<-dD];exact dS (Zy6 (by simp only [cC]at g;omega))
       .rfl
      have h:=Il a i (o.getD i 0/2^b) (aY (eW _ _) (Pk Xq a _));refine go 7 ⟨O,?_⟩;exact Yj (i+1,_) ⟨O1,O9,λj f=>by dsimp only;rw [c j];split;(· rename_i e;rw [<-e]);exact p j (by have:j<i+1:=f;omega),λj f=>by dsimp only;rw [c j,aJ (by have:i+1<=j:=f;omega)];exact l j (by have:i+1<=j:=f;omega),h⟩ O1 K1 K1
    .refine go 4 ?_;exact Hh _ ⟨O,by intro j f;rw [p j O]⟩ aA K1
   .refine go 1 ?_;exact Hh _ ⟨O7,by intro j f;rw [Zz1,Zat m k,show b=0 by omega,jC,Nat.div_one]⟩ aA K1
  .rintro o ⟨u,Q⟩;refine go 3 ?_;refine cl 3 [3] Pu λ_ _=>?_;refine Oj (Zj3 3 J J pU)<|go 4 ?_;have M:tz o=dg U (x/2^s):=Zu4 Xl Q (by rw [u,Zat m k];exact aY (eW _ _) (Zy6 O));exact Yp F _ results225 J aA (gow 3 Za M)
theorem Zm9{x:Nat}(z:bl x<=4294967296:=by omega):Xe prog 186 #[v] [Es v x] (.string (Xn x)):=by
 refine Zd func186 ntmps186 λD B h g=>?_;have u:=Nv x;have p:=Zvx x;have r:=lenU x;have m:(List.replicate (dg 256 x).length (0:Nat)).length=(dg 256 x).length:=aT;refine go 8 ?_;refine cl 1 [1] Zkp λ_ _=>?_;refine go 1 ⟨O,?_⟩;refine dt (Zlm J J J O O O)<|tt (Ev 2 ((dg 256 x).length) 1 (enc:=Ycj) 0 J J J J uT259 ti5 J pB.cells pB.pos J J J h.h) λv _=>go 12 ?_;refine lp (G:=Nat×List Nat) [0,3,12] [0,1] (λq=>[(13,.int .i64 (q.1:Int))]) (λq=>[(2,Nc 1 5 Ycj v q.2)]) (λq=>(q.1<=(dg 256 x).length)/\(q.2.length=(dg 256 x).length)/\(∀j,j<q.1->q.2.getD j 0=x/256^((dg 256 x).length-1-j)%256)) (λq=>(dg 256 x).length-q.1) (0,List.replicate (dg 256 x).length 0) ⟨O1,O7,λj d=>absurd d (bK j)⟩ K1 K1 ?_;rintro⟨i,o⟩ ⟨hi,f,b⟩;dsimp only at hi f b;dsimp only;refine go 6<|Zb J (λc=>?_) (λc=>?_)
 .refine go 20 ⟨O,O,?_⟩;refine Zr (Kd 5 (v':= .int .i64 (((dg 256 x).length-1-i:Nat):Int)) J (by congr 1;omega)) ?_;have a:=Zqq x ((dg 256 x).length-1-i);rw [<-Fe Xl]at a;refine go 5 ?_;refine dt (Zlm J J J O O O)<|dt (Yh 1 (((dg 256 x).length-1-i)/8) J J J J Zg Pm Er)<|go 2 ⟨O,?_⟩;refine dt (Kf J J J O O)<|go 1 ⟨O,?_⟩;refine dt (Zmk J J (n:=((dg 256 x).length-1-i)%8*8) J O)<|dt (Zgi J J Zgt uT5)<|go 1 ⟨O2,?_⟩;refine tt (Ln 2 (enc:=Ycj) J J J J J J pB J h.h O3 O2) (λ_ _=>?_);refine go 7 ⟨O,?_⟩;exact Yj (i+1,_) ⟨O1,O9,λj d=>by dsimp only;rw [Mb O];split;(· rename_i e;rw [<-e];exact a);exact b j O⟩ O1 K1 K1
 .refine go 8 ?_;refine dt (d_b2s J J (i:=2) J (Yi pB) uT259 uT9 uT5)<|go 4 ?_;have k:Xn x=⟨(o.map UInt8.ofNat).toArray⟩:=by
   have l:o=(dg 256 x).reverse:=by refine Zex O9 (λj d=>?_);rw [b j O,Zpn O,Fe O]
   rw [l];rfl
  exact Yp g () results186 (by rw [k]) aA Za
theorem Zc9{x:Nat}(H:bl x<=4294967296:=by omega):Cal prog 166 #[.string (Xn x)] [] false (G:=Value) (λr=>True) (λr=>r) (λr=>[Es r x]):=by
 refine Zd func166 ntmps166 λM I b m=>?_;have F:=Nv x;have B:=Zvx x;have D:=lenU x;have p:=Fo x;refine go 10 ⟨O,?_⟩;refine dt (Zlm J J J O O O)<|tt (Ev 1 ((dg U x).length) 8 (enc:=Md) 0 J J J J Pm ti87 J pU.cells pU.pos J J J b.h) λv _=>go 12 ?_;refine lp (G:=Nat×List Nat) [0,3,12] [0] (λq=>[(13,.int .i64 (q.1:Int))]) (λq=>[(1,Nc 1 87 Md v q.2)]) (λq=>(q.1<=(dg 256 x).length)/\(q.2.length=(dg U x).length)/\(∀w,w<q.2.length->q.2.getD w 0=hi x ((dg 256 x).length-q.1) w)) (λq=>(dg 256 x).length-q.1) (0,List.replicate (dg U x).length 0) ⟨O1,O7,λw b=>by dsimp only at *;rw [aT]at b;rw [Ee,hi_top O]⟩ K1 K1 ?_;rintro⟨i,o⟩ ⟨l,f,a⟩;dsimp only at l f a;dsimp only;refine go 6<|Zb J (λk=>?_) (λk=>?_)
 .refine go 20 ⟨O,O,?_⟩;refine Zr (Kd 5 (v':= .int .i64 (((dg 256 x).length-1-i:Nat):Int)) J (by congr 1;omega)) ?_;have c:=Zul x i O;have h:=a (((dg 256 x).length-1-i)/8) O;have d:o.getD (((dg 256 x).length-1-i)/8) 0<U:=by rw [h];exact bI _ Xq
  have g:∀w,w<o.length->(o.set (((dg 256 x).length-1-i)/8) (o.getD (((dg 256 x).length-1-i)/8) 0 ||| (((Xn x).data.toList.getD i 0).toNat*2^(((dg 256 x).length-1-i)%8*8))%U)).getD w 0=hi x ((dg 256 x).length-(i+1)) w:=λw b=>by
   rw [c,h,show(dg 256 x).length-i=(dg 256 x).length-1-i+1 by omega,Ymt,Mb O,show(dg 256 x).length-(i+1)=(dg 256 x).length-1-i by omega];split
   .rename_i e;rw [e]
   .rename_i e;rw [a w b,show(dg 256 x).length-i=(dg 256 x).length-1-i+1 by omega];exact Ygv e
  refine Pd (λ_=>False) [(0,0),(1,0),(2,0),(3,0),(4,0),(5,0),(6,0),(7,0),(8,0),(9,0),(10,0),(11,0),(12,0),(13,0),(14,0),(15,3)]<|go 2 ?_;refine Xy J J (Pg (Zlm J J J O O O))<|Xy J J (Pg (Yh 1 (((dg 256 x).length-1-i)/8) J J J J (Yi pU) Pm Er))<|go 3 ⟨O2,?_⟩;refine Xy J J (Pg (Yid J J J uT9 J O))<|Xy J J (Pg (Zwp J J uT5 Zgt (by have:=(((Xn x).data.toList.getD i 0).toNat_lt);simp only [U];omega)))<|go 1 ?_;refine Xy J J (Pg (Kf J J J O O))<|go 1 ⟨O,?_⟩;refine Xy J J (Pg (Zml J J (n:=((dg 256 x).length-1-i)%8*8) J O))<|Xy J J (Pg (Ykm J J J d (bI _ Xq)))<|Xy J J (Pg (Yh 1 (((dg 256 x).length-1-i)/8) J J J J (Yi pU) Pm Er))<|r3' J (Ln 1 (enc:=Md) J J J J J J pU J b.h O3 O2) (λ_ _=>?_);refine go 7 ⟨O,?_⟩;exact Yj (i+1,_) ⟨O1,O9,λw b=>g w (by simpa using b)⟩ O1 K1 K1
 .refine go 12 ?_;have z:o=dg U x:=Zex f (λj u=>by rw [a j u,Fe Xl,hi_ge O]);exact Yp m _ results166 J aA (gow 1 Za z)
theorem Zyx{x:Nat}(hx:bl x<=4000000000)(e2:bl y<=4000000000)(hy:0<y):Cal prog 196 #[v,w] [Es v x,Es w y] true (G:=Value×Value) (λr=>True) (λr=> .tuple #[r.1,r.2]) (λr=>[Es r.1 (x/y),Es r.2 (x%y)]):=by
 refine Zd func196 ntmps196 λw0 sc p S=>?_;have hX:=Nv x;have hY:=Nv y;refine go 11 ?_;refine cl 2 [1,2] (Zck O O) λr hr=>go 3<|Zb J (λW=>?_) (λW=>?_)
 .have o:x<y:=hr.1.1 O;refine go 9<|Xf (Iq 9 1 87 Md) ?_;exact Ok S (.slice none 0 0,v) results196 J aA (gow 9 (Ka 1 Za (by rw [bG o])) (by rw [dS o];rfl))
 .have c6:y<=x:=by have:=hr.1;omega
  have e1:=Ll c6;refine go 10<|Zb J (λY=>?_) (λY=>?_)
  .have V:y<U:=by have:=(Qb Xl 1 y).1 O;simpa using this
   have m:(dg U y).getD 0 0=y:=by rw [Fe Xl];simp [bG V]
   refine go 6 ⟨O,O2,?_⟩;refine cl 3 [1] (Ybx O (by rw [m];exact hy) (by rw [m];exact V)) λv _=>go 11 ?_;refine tt (Og [(0,_)] 4 (enc:=Md) [x%(dg U y).getD 0 0] J J K2 Pm ti87 J J J J J pU.cells J J p.h) λe4 _=>cl 4 [4] Pu λ_ _=>?_;refine Oj (Zj3 4 J J pU)<|go 6 ?_;exact Ok S (_,_) results196 J aA (Ka 3 (gow 4 Za (by rw [Zgu (jG (bI _ (by rw [m];exact hy)) (by rw [m];exact V)),m])) (by rw [m]<;>rfl))
  .refine go 3 ?_;obtain⟨k,hk⟩:∃k,k=(dg U y).length:=⟨_,rfl⟩;have e0:k<=(dg U x).length:=O;obtain⟨b,hb⟩:∃b,b=64-bl ((dg U y).getD (k-1) 0):=⟨_,rfl⟩;obtain⟨b4,_,b3,a4,b1,H⟩:=Yl4 hy hk hb;obtain⟨D,c⟩:∃D,D=y*2^b:=⟨_,rfl⟩;have c7:(dg U D).length=k:=by rw [c];exact b4
   have a3:D<U^k:=by rw [c];exact a4
   have a2:U^(k-1)*9223372036854775808<=D:=by rw [c];exact H
   have l:0<D:=by rw [c];exact gL hy (dJ b)
   have d9:bl D<=4000000064:=by rw [c,Zw6 hy];omega
   refine go 5 ⟨O,?_⟩;refine dt (Yh 2 ((dg U y).length-1) J J J J Zg Pm Er)<|go 1 ⟨O2,?_⟩;refine cl 4 [] (Zqw (Pk Xq (Gw Xl y) _)) λ_ _=>?_;refine Oj (Kd 44 (v':= .int .i64 (b:Int)) J (by rw [hb,hk]))<|go 3 ?_;refine jn (G:=Value×Value) [0,8] [0,1,2] (λq=>[(9,q.1),(10,q.2)]) (λq=>[(81,Es q.1 D),(82,Nc 1 87 Md q.2 (List.replicate ((dg U x).length+1) 0))]) (λq=>True) ?_ ?_
   .refine Zaf (λ_=>False) [8]<|Zx 4 [(0,0),(1,0),(3,0),(4,0),(5,0)]<|go 6 ⟨O,?_⟩;refine Nm 3 2 6 ?_ ?_
    .refine Ha (Zy 81 [2] Zpa) λe5 _=>?_;refine Zx 0 [(7,0),(6,1),(8,3)]<|go 1 ?_;refine Bq J (Ev 82 ((dg U x).length+1) 8 (enc:=Md) 0 J J J J Pm ti87 J pU.cells pU.pos J J J p.h) λe6 _=>go 2 ?_;exact Ys<|Hh (_,_) aA K2 ⟨by rw [c];rfl,rfl,aA⟩
    .refine Zak J J (Ev 82 ((dg U x).length+1) 8 (enc:=Md) 0 J J J J Pm ti87 J pU.cells pU.pos J J J p.h) (λe7 _=>?_);refine Zx 0 [(2,1),(7,0),(8,3)]<|Qm (Zy 81 [2] Zpa) λe8 _=>go 3 ?_;exact Ys<|Hh (_,_) aA K2 ⟨by rw [c];rfl,rfl,aA⟩
   .rintro⟨vd,vr⟩ -;dsimp only;refine go 1 ?_;have c9:(dg U (x*2^b)).length<=(dg U x).length+1:=(Qb Xl _ _).2 (by rw [dD];exact gO ((Qb Xl _ x).1 (aI _)) (by rw [Yjx];exact cY O O) Xq);refine go 4 ?_;refine cl 5 [1] Zpa λe9 _=>?_;refine tt (t_cpy 82 5 0 J J J J J J O3 J Zg Yh4 (by rw [aT];exact c9) (by rw [aT];omega) (by rw [aT];omega) Pm pU J p.h) λ_ _=>go 3 ?_;have a6:(spl (List.replicate ((dg U x).length+1) 0) 0 (dg U (x*2^b))).length=(dg U x).length+1:=by rw [Ih _ _ _ (by rw [aT];omega),aT]
    refine go 7 ?_;have d4:(List.replicate ((dg U x).length+1-k) (0:Nat)).length=(dg U x).length+1-k:=aT;refine Zr (Kd 11 (v':= .int .i64 (k:Int)) J (by rw [c7]))<|go 5 ⟨O,?_⟩;refine tt (Ev 6 ((dg U x).length+1-k) 8 (enc:=Md) 0 J J J J Pm ti87 J pU.cells pU.pos J J J p.h) (λd3 _=>?_);refine go 13 ⟨O,?_⟩;refine lp (G:=Nat×List Nat×List Nat) [8,9,10,11,12] [0,81,1,2,5] (λq=>[(13,.int .i64 ((q.1:Int)-1))]) (λq=>[(82,Nc 1 87 Md vr q.2.1),(6,Nc 1 87 Md d3 q.2.2)]) (λq=>(q.1<=(dg U x).length+1-k)/\(q.2.1.length=(dg U x).length+1)/\(∀d∈q.2.1,d<U)/\(q.2.2.length=(dg U x).length+1-k)/\(∀d∈q.2.2,d<U)/\(val U q.2.1<D*U^q.1)/\(val U (q.2.2.drop q.1)*U^q.1*D+val U q.2.1=x*2^b)) (λq=>q.1) ((dg U x).length+1-k,spl (List.replicate ((dg U x).length+1) 0) 0 (dg U (x*2^b)),List.replicate ((dg U x).length+1-k) 0) ⟨aI _,a6,Zq0 (Ld Xq) (Gw Xl _) 0,O7,Ld Xq,by rw [Zrd,Gl Xl];exact Yh8 ((Qb Xl _ x).1 (aI _)) b1 b3 O a2,by rw [Zrd,Gl Xl];simp [val]⟩ ⟨by rw [aT];rfl,aA⟩ K2 ?_;rintro⟨a,R,q⟩ ⟨hj,a7,e,d0,Q,M,hN⟩;dsimp only at hj a7 e d0 Q M hN;dsimp only;refine go 7<|Zb J (λZ=>?_) (λZ=>?_)
    .refine go 5 ?_;have P:val U R<U^(a-1+k+1):=by refine dB M ?_;rw [show a-1+k+1=k+a by omega,bM];exact aP _ (dV a3)
     have u:tz ((R.drop (a-1)).take (a-1+k+1-(a-1)))=dg U (val U R/U^(a-1)):=Ykd e O (by rw [show a-1+(a-1+k+1-(a-1))=a-1+k+1 by omega];exact P);have a9:val U R/U^(a-1)<D*U:=by rw [bO (bR Xq),eR,<-lG,show(a-1).succ=a by omega];exact M
     have b0:bl (val U R/U^(a-1))<=4294967296:=by have h1:=Ll (dV a9);have h2:=Zw7 D U;have h3:bl U<=65:=(Qs 65 U).2 (by simp [U]);omega
     have b7:=Ykq e (j:=a-1) b3 P O;have b9:(dg U D).getD (k-1) 0*U^(k-1)<=D:=by rw [Fe Xl];exact aB (aP _ (Nat.mod_le _ _)) (Nat.div_mul_le_self _ _)
     have c2:val U R/U^(a-1)/D<=18446744073709551615:=by have:=(bO l).2 (show _<U*D by rw [bW];exact a9);simp only [U]at this ⊢;omega
     refine go 4 ?_;refine jn (G:=Nat) [8,9,10,11,12,13] [0,82,6,81,1,2,5] (λg=>[(14,.int .u64 (g:Int))]) (λg=>[]) (λg=>(val U R/U^(a-1)/D<=g)/\(g<U)) ?_ ?_
     .refine go 1<|Pd (λ_=>False) [(0,0),(1,0),(2,0),(3,0),(4,0),(5,0),(6,0),(7,0),(8,0),(9,0),(10,0),(11,0)]<|go 4 ⟨O,?_⟩;refine Xy J J (Pg (Yh 82 (a-1+k) J J J J (Yi pU) Pm Er))<|go 4 ⟨O2,O,?_⟩;refine Xy J J (Pg (Yh 81 (k-1) J J J J Zg Pm Er))<|go 4 ⟨O2,?_⟩;refine Zb J (λa0=>?_) (λa0=>?_)
      .refine Pd (λ_=>False) [(0,0),(1,0),(2,0),(3,0),(4,0),(5,0),(6,0),(7,0),(8,0),(9,0),(10,0),(11,0),(12,0),(13,0),(14,0),(15,0),(16,0),(17,0),(18,1),(19,0),(20,0),(21,0),(22,0)]<|go 4 ⟨O,?_⟩;refine Xy J J (Pg (Yh 82 (a-1+k) J J J J (Yi pU) Pm Er))<|go 6 ⟨O2,O,O,?_⟩;refine Xy J J (Pg (Yh 82 (a-1+k-1) J J J J (Yi pU) Pm Er))<|go 4 ⟨O2,O,?_⟩;refine Xy J J (Pg (Yh 81 (k-1) J J J J Zg Pm Er))<|go 1 ⟨O2,?_⟩;refine Qm (Zy 6 [] (Zun (Pk Xq e _) (Pk Xq (Gw Xl _) _) O)) λ_ _=>go 5 ?_;exact Hh _ ⟨Ygx b9 O b7,Ztw (Pk Xq e _) O⟩ K1 aA
      .refine go 1 ?_;exact Hh 18446744073709551615 ⟨c2,O3⟩ K1 aA
     .rintro g ⟨hg,f⟩;refine go 8 ⟨O,O,?_⟩;refine dt (d_mid (ii:=82) (i:=a-1) (j:=a-1+k+1) J J J J J (Yi pU) Pm Er O O O O)<|go 7 ?_;refine tt (Og [(0,_)] 7 (enc:=Md) [g] J J K2 Pm ti87 J J J J J pU.cells J J p.h) λf0 _=>cl 7 [7] Pu λ_ _=>?_;refine Oj (Zj3 7 J J pU)<|Oj (Yer 7 (Zgu f) J J)<|cl 83 [81,7] (Zyw O (aB ((Qs 64 g).2 f) O)) λd5 _=>go 5 ?_;refine lp (G:=Nat×Value) [8,9,10,11,12,13,15] [0,82,6,81,1,2,5,7] (λq=>[(14,.int .u64 (q.1:Int)),(16,q.2)]) (λq=>[(83,Es q.2 (D*q.1))]) (λq=>(val U R/U^(a-1)/D<=q.1)/\(q.1<U)) (λq=>q.1) (g,_) ⟨O1,O1⟩ ⟨J,J,aA⟩ ⟨J,aA⟩ ?_;rintro⟨g,vp⟩ ⟨hg,f⟩;dsimp only at hg f;dsimp only;have a5:bl (D*g)<=4294967296:=by have h1:=Zw7 D g;have h2:=(Qs 64 g).2 f;omega
      refine go 4 ?_;refine tt (On 7 Pu J J J K1 call150 (Zdb 82 J J pU (Zio (a-1) (a-1+k+1)) Zi8 Zq) J p.h) λ_ _=>go 1 ?_;refine tt (On 7 (Zck b0 a5) J J J K2 call154 (Zdb 82 J J pU (Yew u (by rw [u]) (Zio (a-1) (a-1+k+1))) (by rw [Gs];exact(Zi8)) (Ye 83 J J J Zq)) J p.h) λe3 B=>go 3 ?_;refine Zb J (λa1=>?_) (λa1=>?_)
      .have o:val U R/U^(a-1)<D*g:=B.1.1 O;have b2:1<=g:=by rcases aX g with h|h;(rw [h,Nat.mul_zero]at o;exact absurd o (bK _));exact h
       have b8:D<=D*g:=eF _ b2;have c3:val U R/U^(a-1)/D<=g-1:=by have:=(bO l).2 (show _<g*D by rw [bW];exact o);omega
       refine go 6 ?_;refine dt (Zd1 (n:=1) J J J)<|go 3 ?_;refine Zr (Kd 14 (v':= .int .u64 ((g-1:Nat):Int)) J (Zba (Zt5 b2 f)))<|go 3 ?_;refine cl 8 [83,81] (Zfx a5 b8) λd6 _=>go 3<|Xf (Ke 8 83 J J J) ?_;exact Yj (g-1,_) ⟨c3,by dsimp only;omega⟩ O1 K2 ⟨by rw [Nat.mul_sub_one];rfl,aA⟩
      .refine go 6 ?_;have hQ:g=val U R/U^(a-1)/D:=by have h1:=B.1;have h2:D*g<=val U R/U^(a-1):=O;exact iX ((kP l).2 (by rw [bW];exact h2)) hg
       refine go 2 ?_;refine tt (On 8 Pu J J J K1 call150 (Zdb 82 J J pU (Zio (a-1) (a-1+k+1)) Zi8 Zq) J p.h) λ_ _=>go 1 ?_;refine tt (On 9 (Zfx b0) J J J K2 call155 (Zdb 82 J J pU (Yew u (by rw [u]) (Zio (a-1) (a-1+k+1))) (by rw [Gs];exact(Zi8)) (Ye 83 J J J Zq)) J p.h) λd7 _=>go 4 ?_;have b5:(dg U (val U R/U^(a-1)-D*g)).length<=a-1+k+1-(a-1):=by
        have:val U R/U^(a-1)-D*g<D:=by rw [hQ];have h3:=dC (val U R/U^(a-1)) D;have h4:=bI (val U R/U^(a-1)) l;omega
        have:=(Qb Xl k _).2 (jG this a3);omega
       refine go 2 ?_;refine tt (t_clr (zv:= .bool false) (i:=82) (z:=0) (a-1) J J J J O3 (Zzz O) O O Pm pU (λw=>zeroValue87 w) J J p.h) λ_ _=>go 6 ?_;refine tt (t_cpy 82 9 (a-1) J J J J J J O3 J Zg (Zzz (by rw [Ih _ _ _ (by rw [aT];omega)];omega)) b5 (by rw [Ih _ _ _ (by rw [aT];omega)];omega) (by rw [Ih _ _ _ (by rw [aT];omega)];omega) Pm pU J p.h) λ_ _=>go 2 ?_;have c0:a-1+(List.replicate (a-1+k+1-(a-1)) 0).length<=R.length:=by rw [aT];omega
       have c8:=Ih R (a-1) _ c0;have c1:a-1+(dg U (val U R/U^(a-1)-D*g)).length<=(spl R (a-1) (List.replicate (a-1+k+1-(a-1)) 0)).length:=O;have F:=Ykl e (j:=a-1) (n:=a-1+k+1-(a-1)) O (by rw [show a-1+(a-1+k+1-(a-1))=a-1+k+1 by omega];exact P) b5;rw [Gl Xl]at F;have b6:=Yh7 (j:=a-1) (N:=x*2^b) (Vq:=val U (q.drop a)) l hQ (by rw [show a-1+1=a by omega];exact hN);have a8:=b6.1;have I:=b6.2;rw [<-F]at a8 I;have c5:val U ((q.set (a-1) g).drop (a-1))=g+U*val U (q.drop a):=by rw [drop_set O,show a-1+1=a by omega];rfl
       rw [<-c5]at I;refine go 4 ?_;refine dt (Yh 6 (a-1) J J J J (Yi pU) Pm Er)<|tt (Ln 6 (enc:=Md) J J J J J J pU J p.h O3 O2) (λ_ _=>?_);refine go 8 ⟨O,?_⟩;exact Yj (a-1,_,_) ⟨O1,(Ih _ _ _ c1).trans (c8.trans a7),Zq0 (Zq0 e (Ld Xq) _) (Gw Xl _) _,O9,Il Q _ _ f,a8,I⟩ O1 ⟨by rw [show(((a-1:Nat):Int)-1)=(a:Int)-1-1 by omega];rfl,aA⟩ K2
    .refine go 6 ?_;obtain rfl:a=0:=O;rw [jC,lA]at M;have c4:bl (val U R)<=8589934592:=by have:=Ll (dV M);omega
     refine go 2 ?_;refine cl 9 [6] Pu λ_ _=>?_;refine Oj (Zj3 6 J J pU)<|go 1 ?_;refine cl 9 [82] Pu λ_ _=>?_;refine Oj (Zj3 82 J J pU)<|Oj (Yer 82 (Cq Xl R e).symm J J)<|go 1 ?_;refine cl 10 [82] (Yl7 c4 O) λd8 _=>go 5 ?_;rw [jP,jC,lA]at hN;have d1:tz q=dg U (x/y):=by rw [<-Cq Xl _ Q,<-Zmw x y b,<-c,<-hN,bW,iF l,dS M,fY]
     have d2:val U R/2^b=x%y:=by rw [<-Zmv x y b,<-c,<-hN,bW,iZ,bG M]
     exact Ok S (_,_) results196 J aA (gow 6 (Ka 10 Za (by rw [d2])) d1)
theorem Zpb{x:Nat}(l:bl x<=4000000000:=by omega)(m:bl y<=4000000000:=by omega):Cal prog 184 #[v,w] [Es v x,Es w y] true (G:=Value) (λr=>True) (λr=>r) (λr=>[Es r (Nat.gcd x y)]):=by
 refine Zd func184 ntmps184 λD u p j=>?_;have n:=Nv x;have o:=Nv y;refine go 7<|Zr (Ke 1 91 J J J)<|Zr (Ke 2 92 J J J) ?_;refine lp (G:=Value×Value×Nat×Nat) [] [0,1,2] (λq=>[(0,q.1),(1,q.2.1)]) (λq=>[(91,Es q.1 q.2.2.1),(92,Es q.2.1 q.2.2.2)]) (λq=>(Nat.gcd q.2.2.1 q.2.2.2=Nat.gcd x y)/\(bl q.2.2.1<=4000000000)/\(bl q.2.2.2<=4000000000)) (λq=>q.2.2.2) (v,w,x,y) ⟨J,l,m⟩ K2 K2 ?_;rintro⟨z,B,a,b⟩ ⟨i,k,f⟩;dsimp only at i k f;dsimp only;refine go 8<|Zb J (λd=>?_) (λd=>?_)
 .have c:0<b:=by rcases aX b with h|h;(subst h;simp [Ei]at d);exact h
  refine go 7 ?_;refine cl 3 [91,92] (Zyx k f c) λg _=>go 14 ?_;have e:a%b<b:=bI _ c;exact Xf (Ke 92 91 J J J)<|Xf (Ke 4 92 J J J)<|Yj (_,_,b,a%b) ⟨by dsimp only;rw [<-i,Nat.gcd_comm b,<-Nat.gcd_rec,Nat.gcd_comm],f,aB (Ll (dV e)) f⟩ e K2 K2
 .have c:b=0:=(Nu Xl b).1 O;refine go 12 ?_;exact Yp j _ results184 J aA (Ka 91 Za (by rw [<-i,c,Nat.gcd_zero_right]))
theorem Zo5(hs:sg s x):Cal prog 113 #[.agg #[.bool s,v]] [Es v x.natAbs] true (G:=Bool×Value) (λr=>sg r.1 (-x)) (λr=> .agg #[.bool r.1,r.2]) (λr=>[Es r.2 (-x).natAbs]):=by refine Zd func113 ntmps113 λg f e c=>go 2 ?_;refine Zv (Zs 2) λb _=>Zv (Zu 3) λd _=>go 9 ?_;refine dt (Xz [(0,_),(1,_)] J K4 (λa w hs=>Kl ((Zl J) a w hs) ((Oo 1 J Zg) a w hs)))<|go 4 ?_;exact Yp c (!s,v) results113 J (sg_neg hs) (Ka 1 Za (by rw [gP]))
theorem Zdg{y:Int}(hs:sg s x)(f:sg t y)(g:bl x.natAbs<=4294967296:=by omega)(h:bl y.natAbs<=4294967296:=by omega):Cal prog 152 #[.agg #[.bool s,v],.agg #[.bool t,w]] [Es v x.natAbs,Es w y.natAbs] true (G:=Bool×Value) (λr=>sg r.1 (x*y)) (λr=> .agg #[.bool r.1,r.2]) (λr=>[Es r.2 (x*y).natAbs]):=by refine Zd func152 ntmps152 λk j i c=>go 2 ?_;refine Zv (Zs 3) λb _=>Zv (Zs 4) λd _=>Zv (Zu 5) λe _=>go 3<|Pd (λ_=>False) [(0,0),(1,0),(2,0),(3,0),(4,0),(5,0),(6,0),(7,0),(8,0),(9,1),(10,0),(11,3)]<|go 9<|Qm (Zy 6 [1,2] (Zyw g h)) λv _=>?_;refine Xy J J (Pg (Xz [(0,_),(1,_)] J K4 (λa w hs=>Kl ((Zl J) a w hs) ((Oo 6 J Zg) a w hs))))<|go 4 ?_;exact Yp c (_,_) results152 J (sg_mul hs f) (Ka 6 Za (by rw [bQ]))
theorem Zkk(hs:sg s x)(g:bl x.natAbs<=4294967296:=by omega):Cal prog 114 #[.agg #[.bool s,v]] [Es v x.natAbs] true (G:=Unit) (λ_=>True) (λ_=> .int .i64 x.sign) (λ_=>[]):=by
 refine Zd func114 ntmps114 λi h f d=>?_;have e:=Nv x.natAbs;refine go 2<|Zv (Zs 2) λb _=>go 14<|Zb J (λa=>?_) (λa=>?_)
 .refine go 8 ?_;exact Yp d () results114 (Ybg a) aA Za
 .refine go 7<|Ym J (λc=>?_) (λc=>?_)
  .refine go 8 ?_;exact Yp d () results114 (Yef hs c a) aA Za
  .refine go 9 ?_;exact Yp d () results114 (Yee hs c a) aA Za
theorem Zfw{y:Int}(hs:sg s x)(g:sg t y)(i:bl x.natAbs<=4294967296:=by omega)(j:bl y.natAbs<=4294967296:=by omega):Cal prog 112 #[.agg #[.bool s,v],.agg #[.bool t,w]] [Es v x.natAbs,Es w y.natAbs] true (G:=Bool×Value) (λr=>sg r.1 (x+y)) (λr=> .agg #[.bool r.1,r.2]) (λr=>[Es r.2 (x+y).natAbs]):=by
 refine Zd func112 ntmps112 λu q p f=>go 2 ?_;refine Zv (Zs 3) λb _=>Zv (Zs 4) λl _=>Zv (Zu 5) λm _=>go 14<|Ym J (λd=>?_) (λd=>?_)
 .have c:s=t:=by simpa using d
  refine go 1<|Pd (λ_=>False) [(0,0),(1,0),(2,0),(3,0),(4,0),(5,0),(6,1),(7,0),(8,3)]<|go 6<|Qm (Zy 6 [1,2] (Zyy i j)) λv _=>?_;refine Xy J J (Pg (Xz [(0,_),(1,_)] J K4 (λa w hs=>Kl ((Zl J) a w hs) ((Oo 6 J Zg) a w hs))))<|go 6 ?_;exact Yp f (_,_) results112 J (Yk9 hs (c▸g)) (Ka 6 Za (by rw [Yjr hs (c▸g)]))
 .have c:s≠t:=by simpa using d
  refine go 6 ?_;refine cl 6 [1,2] (Zck i j) λr k=>go 4<|Zb J (λh=>?_) (λh=>?_)
  .have e:y.natAbs<=x.natAbs:=by have:=k.1;omega
   refine go 1<|Pd (λ_=>False) [(0,0),(1,0),(2,0),(3,0),(4,0),(5,0),(6,1),(7,0),(8,3)]<|go 6<|Qm (Zy 7 [1,2] (Zfx i)) λn _=>?_;refine Xy J J (Pg (Xz [(0,_),(1,_)] J K4 (λa w hs=>Kl ((Zl J) a w hs) ((Oo 7 J Zg) a w hs))))<|go 6 ?_;exact Yp f (_,_) results112 J (Zx1 hs g c e) (Ka 7 Za (by rw [Zuy hs g c e]))
  .have e:x.natAbs<=y.natAbs:=by have:=k.1;omega
   refine go 4<|Pd (λ_=>False) [(0,0),(1,0),(2,0),(3,0),(4,0),(5,0),(6,1),(7,0),(8,3)]<|go 6<|Qm (Zy 8 [2,1] (Zfx j)) λo _=>?_;refine Xy J J (Pg (Xz [(0,_),(1,_)] J K4 (λa w hs=>Kl ((Zl J) a w hs) ((Oo 8 J Zg) a w hs))))<|go 4 ?_;exact Yp f (_,_) results112 J (by rw [kC];exact Zx1 g hs (iK c) e) (Ka 8 Za (by rw [kC,Zuy g hs (iK c) e]))
theorem Ol(hs:sg s x)(e:bl x.natAbs<=4294967296:=by omega):Cal prog 127 #[.agg #[.bool s,.string (Xn x.natAbs)]] [] true (G:=Bool×Value) (λr=>sg r.1 x) (λr=> .agg #[.bool r.1,r.2]) (λr=>[Es r.2 x.natAbs]):=by refine Zd func127 ntmps127 λh g f c=>go 2 ?_;refine Zv (Zs 1) λb _=>Zv (Zu 2) λd _=>go 3<|Pd (λ_=>False) [(0,0),(1,0),(2,0),(3,0),(4,1),(5,0),(6,3)]<|go 4<|Qm (Zy 3 [] (Zc9 e)) λv _=>?_;refine Xy J J (Pg (Xz [(0,_),(1,_)] J K4 (λa w hs=>Kl ((Zl J) a w hs) ((Oo 3 J Zg) a w hs))))<|go 4 ?_;exact Yp c (_,_) results127 J hs (Ka 3 Za J)
theorem Ht(hs:sg s x)(g:bl x.natAbs<=4294967296:=by omega):Xe prog 151 #[.agg #[.bool s,v]] [Es v x.natAbs] (Zdz x):=by
 refine Zd func151 ntmps151 λi h f d=>go 2 ?_;refine Zv (Zs 2) λb _=>Zv (Zu 3) λe _=>go 8 ?_;refine cl 3 [1] Zkp λ_ _=>go 3<|Zb J (λc=>?_) (λc=>?_)
 .refine go 2 ?_;refine dt (Xz [] J aA (λa w hs=>Yjj))<|go 6 ?_;exact Ok d () results151 (Ya4 c) aA Za
 .refine go 3 ?_;cases s
  .refine Pd (λ_=>False) [(0,0),(1,0),(2,0),(3,2),(4,2),(5,2),(6,2),(7,0),(8,0),(9,0),(10,1),(11,0),(12,3),(13,3)]<|go 10<|Qm (Zy 3 [1] Zm9) λ_ _=>?_;refine Xy J J (Pg (Xz [(0,_),(1,_)] J K4 (λa w hs=>Yax ((Zl J) a w hs) ((Zl J) a w hs))))<|go 5 ?_;exact Ok d () results151 (by first|exact Zq7 hs c|exact Zq6 hs c) aA Za
  .refine Pd (λ_=>False) [(0,0),(1,0),(2,0),(3,0),(4,0),(5,0),(6,0),(7,0),(8,0),(9,0),(10,1),(11,0),(12,3),(13,3)]<|go 10<|Qm (Zy 3 [1] Zm9) λ_ _=>?_;refine Xy J J (Pg (Xz [(0,_),(1,_)] J K4 (λa w hs=>Yax ((Zl J) a w hs) ((Zl J) a w hs))))<|go 5 ?_;exact Ok d () results151 (by first|exact Zq7 hs c|exact Zq6 hs c) aA Za
theorem Zfv(x y:Int)(hs:sg s x)(m:sg t y)(M:bl y.natAbs<=3000000000)(i:y≠0)(I:bl x.natAbs<=3000000000:=by omega):Cal prog 167 #[.agg #[.bool s,v],.agg #[.bool t,w]] [Es v x.natAbs,Es w y.natAbs] true (G:=Bool×Value×Value) (λr=>sg r.1 (x/y)) (λr=> .tuple #[.agg #[.bool r.1,r.2.1],.agg #[.bool false,r.2.2]]) (λr=>[Es r.2.1 (x/y).natAbs,Es r.2.2 (x%y).natAbs]):=by
 refine Zd func167 ntmps167 λP N z f=>?_;have F:=Nv x.natAbs;have H:=Nv y.natAbs;have j:0<y.natAbs:=O;have l:x.natAbs%y.natAbs<y.natAbs:=bI _ j;have u:=Ll (dV l);have q:=Ll (eW x.natAbs y.natAbs);refine go 2<|Zv (Zs 3) λb _=>Zv (Zs 4) λn _=>Zv (Zu 5) λo _=>Zv (Zu 6) λp _=>go 8 ?_;refine cl 7 [1,2] (Zyx O O j) λg _=>go 13<|Xt 18 J (λe=>?_) (λe=>?_)
 .refine go 6<|Zb J (λc=>?_) (λc=>?_)
  .subst e;have k:0<x.natAbs%y.natAbs:=by rcases aX (x.natAbs%y.natAbs)with h|h;(rw [h]at c;simp [Ei]at c);exact h
   have d:=divA hs m i k;refine Pd (λ_=>False) [(0,0),(3,0),(4,0),(5,0),(1,1),(2,1),(6,1),(7,0),(8,3)]<|go 4 ?_;refine Bq J (Og [(0,_)] 9 (enc:=Md) (dg U 1) J J K2 Pm ti87 J J J J J pU.cells J J z.h) λv _=>Qm (Zy 10 [7,9] (Zyy O (show bl 1<=4294967296 by decide))) λB _=>Qm (Zy 11 [2,8] (Zfx O)) λD _=>go 12 ?_;refine dt (Xz [(0,_),(1,_)] J K4 (λa w hs=>Kl ((Zl J) a w hs) ((Oo 10 J Zg) a w hs)))<|go 1 ?_;refine dt (Xz [(0,_),(1,_)] J K4 (λa w hs=>Kl ((Zl J) a w hs) ((Oo 11 J Zg) a w hs)))<|go 5 ?_;exact Ok f (_,_,_) results167 J d.1 (Ka 10 (Ka 11 Za (by rw [d.2.2]<;>rfl)) (by rw [d.2.1]<;>rfl))
  .have d:=divB hs m i (.inr ((Nu Xl _).1 O));refine go 10 ?_;refine dt (Xz [(0,_),(1,_)] J K4 (λa w hs=>Kl ((Zl J) a w hs) ((Oo 7 J Zg) a w hs)))<|go 1 ?_;refine dt (Xz [(0,_),(1,_)] J K4 (λa w hs=>Kl ((Zl J) a w hs) ((Oo 8 J Zg) a w hs)))<|go 5 ?_;exact Ok f (_,_,_) results167 J d.1 (Ka 7 (Ka 8 Za (by rw [d.2.2]<;>rfl)) (by rw [d.2.1]<;>rfl))
 .have d:=divB hs m i (.inl e);refine go 17 ?_;refine dt (Xz [(0,_),(1,_)] J K4 (λa w hs=>Kl ((Zl J) a w hs) ((Oo 7 J Zg) a w hs)))<|go 1 ?_;refine dt (Xz [(0,_),(1,_)] J K4 (λa w hs=>Kl ((Zl J) a w hs) ((Oo 8 J Zg) a w hs)))<|go 5 ?_;exact Ok f (_,_,_) results167 J d.1 (Ka 7 (Ka 8 Za (by rw [d.2.2]<;>rfl)) (by rw [d.2.1]<;>rfl))
variable {P:Program} {N:Nat} {sc:Nat->Prop} {M:Nat->Prop} {env:Qk} {H:Hp} {Q:Exit->Act->World->Prop}
structure BAct (i:Nat) (A:Prop):Prop where h:A
def bq(i:Nat){A:Prop}(h:A):BAct i A:=⟨h⟩
theorem Ya2 {l:List Oper}  {n:Nat}  (i k:Nat) (a:(Region.noSelect l.toArray && Fi l.toArray ts [(i,k)] listed)=true)
  (h:LD P N sc M l.toArray (A P N sc M l.toArray ts Q n (Fz [(i,k)] listed)) [(i,k)] env H):A P N sc M l.toArray ts Q (n+1) listed env H:=
 Zx _ [(i,k)] h (by rw [a,eP];show Nat.beq (1+n) (n+1)=true;rw [gW];exact Nat.beq_refl _)
theorem Yc1    {n:Nat} (i:Nat) (c:((Region.ready .any ops listed == [i]) && !(Ff ops ts listed) && !([i]:List Nat).isEmpty)=true)
  (a:BAct i (Ze5 P N sc M ops ts Q n listed env H i)):A P N sc M ops ts Q (n+1) listed env H:=Yjw [i] c λq b=>by
 rw [bZ.1 b];exact a.h
theorem Zxj    {n:Nat} (i j:Nat) (d:((Region.ready .any ops listed == [i,j]) && !(Ff ops ts listed) && !([i,j]:List Nat).isEmpty)=true)
  (b:BAct i (Ze5 P N sc M ops ts Q n listed env H i)) (c:BAct j (Ze5 P N sc M ops ts Q n listed env H j)):A P N sc M ops ts Q (n+1) listed env H:=Yjw [i,j] d λq a=>by
 simp only [aU,cT,fF]at a;rcases a with rfl|rfl
 .exact b.h
 .exact c.h
theorem a_b3    {n:Nat} (i j k:Nat) (e:((Region.ready .any ops listed == [i,j,k]) && !(Ff ops ts listed) && !([i,j,k]:List Nat).isEmpty)=true)
  (b:BAct i (Ze5 P N sc M ops ts Q n listed env H i)) (c:BAct j (Ze5 P N sc M ops ts Q n listed env H j)) (d:BAct k (Ze5 P N sc M ops ts Q n listed env H k)):A P N sc M ops ts Q (n+1) listed env H:=Yjw [i,j,k] e λq a=>by
 simp only [aU,cT,fF]at a;rcases a with rfl|rfl|rfl
 .exact b.h
 .exact c.h
 .exact d.h
end Go.Sky
namespace Go.Sky
open Go.Proofs.Tryz
open Go.Proofs
set_option synthInstance.maxHeartbeats 0
set_option synthInstance.maxSize 100000
set_option maxRecDepth 20000
set_option linter.unusedSimpArgs false
variable{b:Bool}{x y:Int}{t:TypeId}{v:Value}{xs:List Int}{bd:Nat}
theorem Za9{s:ByteArray}:Xe prog 126 #[.agg #[.bool b,.string s]] [] (.bool (okW b s)):=by
 refine Zd func126 ntmps126 λg f e c=>go 2 ?_;refine Zv (Zs 1) λb _=>go 8 ?_;refine dt (Zwo J J J J)<|go 2 ?_;refine Zb J (λa=>?_) (λa=>?_)
 .refine go 10 ?_;exact Yp c () results126 (by unfold okW;rw [aO a]) aA Za
 .refine go 6 ?_;refine dt (Yid (i:=0) J J J uT9 J O)<|go 2 ?_;refine Zi 13 J (λd=>?_) (λd=>?_)
  .refine go 9 ?_;exact Yp c () results126 (by unfold okW;rw [aJ a];simp_all<;>omega) aA Za
  .refine go 9 ?_;exact Yp c () results126 (by unfold okW;rw [aJ a];simp_all<;>omega) aA Za
def Lt(a:bl x.natAbs<=65536):Cal prog 126 #[wv x] [] false (G:=Unit) (λ_=>True) (λ_=> .bool true) (λ_=>[]):=Zcj a▸Za9
theorem Zmg(b:Bool)(s:ByteArray)(c:Bool)(t:ByteArray):Xe prog 147 #[.agg #[.bool b,.string s],.agg #[.bool c,.string t]] [] (.bool (okW b s && okW c t)):=by
 refine Zd func147 ntmps147 λh g f a=>go 2 ?_;refine Zv (Zs 1) λb _=>Zv (Zs 2) λe _=>go 6 ?_;refine cl 2 [] Za9 λ_ _=>go 1<|Xt 7 J (λd=>?_) (λd=>?_)
 .refine go 1 ?_;refine Np 2 [] Za9 λ_ _=>go 5 ?_;exact Yp a () results147 O10 aA Za
 .refine go 7 ?_;exact Yp a () results147 O10 aA Za
theorem Ia(a:bl x.natAbs<=65536)(c:bl y.natAbs<=65536):Xe prog 147 #[wv x,wv y] [] (.bool true):=by have h:=Zmg (decide (x<0)) (Xn x.natAbs) (decide (y<0)) (Xn y.natAbs);rw [Zcj a,Zcj c]at h;exact h
theorem Ix(e:bl x.natAbs<=65536):Xe prog 148 #[wv x] [] (.int .i64 x.sign):=by refine Zd func148 ntmps148 λh f d a=>go 2 ?_;refine Zv (Zs 1) λb _=>go 7 ?_;refine cl 1 [] (Lt ‹_›) λ_ _=>go 9 ?_;refine cl 2 [] (Ol Mp) λg c=>cl 2 [2] (Zkk ‹_›) λ_ _=>go 4 ?_;exact Yp a () results148 J aA Za
theorem Zjg(d:bl x.natAbs<=65536):Xe prog 227 #[wv x] [] (.int .i64 (bl x.natAbs:Int)):=by refine Zd func227 ntmps227 λf e c a=>go 2 ?_;refine Zv (Zs 1) λb _=>go 7 ?_;refine cl 1 [] (Lt ‹_›) λ_ _=>go 10 ?_;refine cl 2 [] Zc9 λv _=>cl 2 [2] Zkp λ_ _=>go 4 ?_;exact Yp a () results227 J aA Za
theorem Zra(m:bl x.natAbs<=65536)(n:bl y.natAbs<=65536):Xe prog 129 #[wv x,wv y] [] (Zdz (x+y)):=by refine Zd func129 ntmps129 λp o l a=>?_;have j:=Bg x y;refine go 2<|Zv (Zs 1) λb _=>Zv (Zs 2) λe _=>Zv (Zu 3) λf _=>go 8 ?_;refine cl 3 [] (Ia ‹_› ‹_›) λ_ _=>go 7<|Pd (λ_=>False) [(0,0),(2,0),(1,1),(3,1),(4,1),(5,1),(6,0),(7,0),(8,3),(9,3)]<|go 2<|Qm (Zy 4 [] (Ol Mp)) λg k=>Qm (Zy 5 [] (Ol Mp)) λh c=>Qm (Zy 6 [4,5] (Zfw ‹_› ‹_›)) λi d=>Qm (Zy 6 [6] (Ht ‹_›)) λ_ _=>go 7 ?_;exact Ok a () results129 J aA Za
theorem Yc7(p:bl x.natAbs<=65536)(q:bl y.natAbs<=65536):Xe prog 228 #[wv x,wv y] [] (Zdz (x-y)):=by refine Zd func228 ntmps228 λs r o a=>?_;have m:=Zjb x y;have l:=Zw5 y;refine go 2<|Zv (Zs 1) λb _=>Zv (Zs 2) λf _=>Zv (Zu 3) λh _=>go 8 ?_;refine cl 3 [] (Ia ‹_› ‹_›) λ_ _=>go 7<|Pd (λ_=>False) [(0,0),(2,0),(1,1),(3,1),(4,1),(5,1),(6,1),(7,0),(8,0),(9,3),(10,3)]<|go 2<|Qm (Zy 4 [] (Ol Mp)) λg n=>Qm (Zy 5 [] (Ol Mp)) λi c=>Qm (Zy 6 [5] (Zo5 ‹_›)) λj d=>Qm (Zy 7 [4,6] (Zfw ‹_› ‹_›)) λk e=>Qm (Zy 7 [7] (Ht ‹_› (by rw [<-cL];omega))) λ_ _=>go 7 ?_;exact Ok a () results228 (by rw [cL]<;>rfl) aA Za
theorem Zjf(x y:Int)(m:bl x.natAbs<=65536)(n:bl y.natAbs<=65536):Xe prog 146 #[wv x,wv y] [] (Zdz (x*y)):=by refine Zd func146 ntmps146 λp o l a=>?_;have j:=Xx x y;refine go 2<|Zv (Zs 1) λb _=>Zv (Zs 2) λe _=>Zv (Zu 3) λf _=>go 8 ?_;refine cl 3 [] (Ia ‹_› ‹_›) λ_ _=>go 7<|Pd (λ_=>False) [(0,0),(2,0),(1,1),(3,1),(4,1),(5,1),(6,0),(7,0),(8,3),(9,3)]<|go 2<|Qm (Zy 4 [] (Ol Mp)) λg k=>Qm (Zy 5 [] (Ol Mp)) λh c=>Qm (Zy 6 [4,5] (Zdg ‹_› ‹_›)) λi d=>Qm (Zy 6 [6] (Ht ‹_›)) λ_ _=>go 7 ?_;exact Ok a () results146 J aA Za
theorem Zq9(x y:Int)(j:bl x.natAbs<=65536)(k:bl y.natAbs<=65536):Xe prog 162 #[wv x,wv y] [] (Zdz (Int.gcd x y:Int)):=by refine Zd func162 ntmps162 λm l i c=>?_;have h:=Zqu x.natAbs y.natAbs;refine go 2<|Zv (Zs 1) λb _=>Zv (Zs 2) λd _=>Zv (Zu 3) λe _=>go 8 ?_;refine cl 3 [] (Ia ‹_› ‹_›) λ_ _=>go 7<|Pd (λ_=>False) [(0,0),(1,0),(3,0),(4,0),(2,1),(5,1),(6,1),(7,0),(8,1),(9,0),(10,0),(11,3),(12,3)]<|go 4<|Qm (Zy 4 [] Zc9) λv _=>Qm (Zy 5 [] Zc9) λf _=>Qm (Zy 6 [4,5] Zpb) λg _=>?_;refine Xy J J (Pg (Xz [(0,_),(1,_)] J K4 (λa w hs=>Kl ((Zl J) a w hs) ((Oo 6 J Zg) a w hs))))<|Qm (Zy 6 [6] (Ht (s:=false) (x:=(Int.gcd x y:Int)) (by simp [sg]) (by show bl (Nat.gcd x.natAbs y.natAbs)<=_;omega))) λ_ _=>go 7 ?_;exact Ok c () results162 J aA Za
theorem Bj(H:bl x.natAbs<=65536)(I:bl y.natAbs<=65536)(c:y≠0):Xe prog 128 #[wv x,wv y] [] (.tuple #[wv (Bx (x/y)),wv (Bx (x%y)),.int .i64 0]):=by
 refine Zd func128 ntmps128 λQ P w d=>?_;have D:=Zjc x y;have p:=Yau x y c;refine go 2<|Zv (Zs 1) λb _=>Zv (Zs 2) λh _=>Zv (Zu 3) λj _=>Zv (Zu 4) λk _=>go 8 ?_;refine cl 4 [] (Ia ‹_› ‹_›) λ_ _=>go 11 ?_;refine dt (Zwo J J J J)<|go 2 ?_;refine Zb J (λa=>?_) (λa=>?_)
 .rw [Fo]at a;exfalso;exact c (by have:=(Nu (by omega:2<=256) y.natAbs).1 a;omega)
 .refine go 2 ?_;refine jn (G:=Bool×Value×Value×Nat×Nat) [4,5] [0,1,2,3,4] (λq=>[(7,.pointer (some ⟨q.2.2.2.1,0,none⟩)),(8,.pointer (some ⟨q.2.2.2.2,0,none⟩))]) (λq=>[(84,Es q.2.1 (x/y).natAbs),(85,Es q.2.2.1 (x%y).natAbs),(86,box q.2.2.2.1 188 #[.bool q.1,q.2.1]),(87,box q.2.2.2.2 188 #[.bool false,q.2.2.1])]) (λq=>sg q.1 (x/y)) ?_ ?_
  .refine Ni [1,2] [11]<|Zx 10 [(0,0),(2,0)]<|go 3 ?_
   repeat' first|refine bq 1 ?_;refine Ha (Zy 81 [] (Ol Mp)) λg F=>?_|refine bq 3 ?_;refine Ha (Zy 82 [] (Ol Mp)) λn e=>?_|refine bq 4 ?_;refine Ha (Zy 84 [81,82] (Zfv _ _ ‹_› ‹_› O c)) λo f=>?_|refine bq 8 ?_;refine Ha (Nx 86) λl r=>?_|refine bq 9 ?_;refine Ha (Nx 87) λm s=>?_|refine bq 10 ?_;refine Zak rfl rfl (t_stw (i:=86) rfl rfl rfl rfl rfl rfl sizeOf188 rfl rfl ⟨Zl rfl,Oo 84 rfl Zg,aA⟩ rfl w.h r.h) (λ_ _=>?_)|refine a_b3 1 8 9 O8 ?_ ?_ ?_|refine Zxj 1 8 O8 ?_ ?_|refine Yc1 1 O8 ?_|refine Yc1 3 O8 ?_|refine Yc1 4 O8 ?_|refine Yc1 10 O8 ?_|refine Zxj 3 8 O8 ?_ ?_|refine Zxj 4 8 O8 ?_ ?_|refine Yc1 8 O8 ?_|refine Zxj 1 9 O8 ?_ ?_|refine Zxj 3 9 O8 ?_ ?_|refine Zxj 4 9 O8 ?_ ?_|refine Yc1 9 O8 ?_|refine a_b3 3 8 9 O8 ?_ ?_ ?_|refine a_b3 4 8 9 O8 ?_ ?_ ?_|refine Zxj 8 9 O8 ?_ ?_|refine Ya2 5 0 O8 ?_;refine go 2 ?_|refine Ya2 6 0 O8 ?_;refine go 2 ?_|refine Ya2 7 0 O8 ?_;refine go 2 ?_|refine Ya2 11 3 O8 ?_;refine go 2 ?_|refine Ys ?_ O8;exact Hh (_,_,_,_,_) ‹_› ⟨rfl,rfl,aA⟩ ⟨rfl,rfl,rfl,rfl,aA⟩
  .rintro⟨M,qv,N,z,B⟩ u;dsimp only at u;dsimp only;refine go 3 ?_;refine cl 4 [84] (Ht ‹_›) λ_ _=>go 9 ?_;refine cl 4 [85] (Ht (Yk8 x c)) λ_ _=>go 7<|Ni [4] [3,4] ?_;refine Zx 0 [(1,0),(0,1),(2,1),(3,3),(4,3)]<|go 6 ?_;exact Ys<|go 2<|xe3 d () results128 J aA Za
theorem Zb5{s t:Bool}{w:Value}(hs:sg s x)(m:sg t y)(k:y≠0)(W:bl x.natAbs<=1000000000:=by omega)(Y:bl y.natAbs<=1000000000:=by omega):Xe prog 149 #[.agg #[.bool s,v],.agg #[.bool t,w]] [Es v x.natAbs,Es w y.natAbs] (Zbj x y):=by
 refine Zd func149 ntmps149 λw0 Z V c=>?_;have R:=Zqu x.natAbs y.natAbs;have e:Lf x y≠0:=Zy5 k;have h:sg t (Lf x y):=Yk6 m k;have f:=Zf1 x y;have N:=Zjc x (Lf x y);have P:=Zjc y (Lf x y);refine go 2<|Zv (Zs 3) λb _=>Zv (Zs 4) λq _=>Zv (Zu 5) λr _=>go 4<|Zaf (λ_=>False) [9] ?_;refine Zx 4 [(0,0),(1,0),(2,0),(3,0),(4,0),(5,0)]<|go 7 ?_;refine Nm 3 6 8 ?_ ?_
 .refine Ha (Zy 81 [1,2] Zpb) λv _=>?_;refine Zx 0 [(7,0),(8,1),(9,3)]<|Xy J J (Pg (Xz [(0,_),(1,_)] J K4 (λa w hs=>Kl ((Zl J) a w hs) ((Oo 81 J Zg) a w hs))))<|Qm (Zu 82) λu _=>go 2 ?_;refine Ys<|go 2<|Zr (Qd 81 (Zy4 x y) J J)<|go 3 ?_;refine cl 6 [1,81] (Zfv x (Lf x y) hs h (by rw [f];omega) e) λg S=>go 10 ?_;refine cl 8 [2,81] (Zfv y (Lf x y) m h (by rw [f];omega) e) λH n=>go 9 ?_;refine cl 9 [6] (Ht ‹_›) λ_ _=>go 3<|Zv (Zu 10) λz _=>go 7 ?_;refine cl 10 [8] (Ht ‹_›) λ_ _=>go 3<|Zv (Zu 11) λB _=>go 10<|Zi 43 J (λl=>?_) (λl=>?_)
  .refine go 8 ?_;refine dt (Xz [] J aA (λa w hs=>Zuq))<|go 6 ?_;exact Ok c () results149 (Zbi (by unfold Lb;first|exact .inl (Zad ‹_›)|exact .inr (Zad ‹_›))) aA Za
  .refine go 5<|Zb J (λj=>?_) (λj=>?_)
   .refine go 2 ?_;refine dt (Xz [] J aA (λa w hs=>Zuq))<|go 6 ?_;exact Ok c () results149 (Zbi (by unfold Lb;first|exact .inl (Zad ‹_›)|exact .inr (Zad ‹_›))) aA Za
   .refine go 6 ?_;refine dt (Xz [(0,_),(1,_)] J K4 (λa w hs=>Zgn))<|go 5 ?_;exact Ok c () results149 (Zsb (bP ‹_›) (bP ‹_›)) aA Za
 .refine Ha (Zu 82) λD _=>?_;refine Zx 0 [(6,1),(7,0),(9,3)]<|Qm (Zy 81 [1,2] Zpb) λQ _=>?_;refine Xy J J (Pg (Xz [(0,_),(1,_)] J K4 (λa w hs=>Kl ((Zl J) a w hs) ((Oo 81 J Zg) a w hs))))<|go 2 ?_;refine Ys<|go 2<|Zr (Qd 81 (Zy4 x y) J J)<|go 3 ?_;refine cl 12 [1,81] (Zfv x (Lf x y) hs h (by rw [f];omega) e) λI o=>go 10 ?_;refine cl 14 [2,81] (Zfv y (Lf x y) m h (by rw [f];omega) e) λM p=>go 9 ?_;refine cl 15 [12] (Ht ‹_›) λ_ _=>go 3<|Zv (Zu 16) λF _=>go 7 ?_;refine cl 16 [14] (Ht ‹_›) λ_ _=>go 3<|Zv (Zu 17) λG _=>go 10<|Zi 43 J (λi=>?_) (λi=>?_)
  .refine go 8 ?_;refine dt (Xz [] J aA (λa w hs=>Zuq))<|go 6 ?_;exact Ok c () results149 (Zbi (by unfold Lb;first|exact .inl (Zad ‹_›)|exact .inr (Zad ‹_›))) aA Za
  .refine go 5<|Zb J (λd=>?_) (λd=>?_)
   .refine go 2 ?_;refine dt (Xz [] J aA (λa w hs=>Zuq))<|go 6 ?_;exact Ok c () results149 (Zbi (by unfold Lb;first|exact .inl (Zad ‹_›)|exact .inr (Zad ‹_›))) aA Za
   .refine go 6 ?_;refine dt (Xz [(0,_),(1,_)] J K4 (λa w hs=>Zgn))<|go 5 ?_;exact Ok c () results149 (Zsb (bP ‹_›) (bP ‹_›)) aA Za
theorem Da(x y:Int)(l:bl x.natAbs<=65536)(m:bl y.natAbs<=65536)(c:y≠0):Xe prog 108 #[wv x,wv y] [] (Zbj x y):=by
 refine Zd func108 ntmps108 λo n k d=>go 2 ?_;refine Zv (Zs 1) λb _=>Zv (Zs 2) λf _=>Zv (Zu 3) λh _=>go 8 ?_;refine cl 3 [] (Ia ‹_› ‹_›) λ_ _=>go 11 ?_;refine dt (Zwo J J J J)<|go 2 ?_;refine Zb J (λa=>?_) (λa=>?_)
 .rw [Fo]at a;exfalso;exact c (by have:=(Nu (by omega:2<=256) y.natAbs).1 a;omega)
 .refine go 3<|Pd (λ_=>False) [(0,0),(2,0),(1,1),(3,1),(4,1),(5,0),(6,0),(7,3),(8,3)]<|go 2<|Qm (Zy 4 [] (Ol Mp)) λg j=>Qm (Zy 5 [] (Ol Mp)) λi e=>Qm (Zy 5 [4,5] (Zb5 ‹_› ‹_› c)) λ_ _=>go 7 ?_;exact Ok d () results108 J aA Za
theorem Cm{s:ByteArray}{c:Bool}{t:ByteArray}:Xe prog 107 #[.agg #[.bool b,.string s,.bool c,.string t]] [] (.bool (okR b s c t)):=by
 refine Zd func107 ntmps107 λl k j g=>go 2 ?_;refine Zv (Zs 1) λb _=>go 9 ?_;refine cl 1 [] (Zmg _ _ _ _) λ_ _=>go 1<|Xt 8 J (λh=>?_) (λh=>?_)
 .have i:okW c t=true:=O10;have d:=Zo3 i;obtain⟨a,e,f⟩:=Classical.choose_spec d;generalize Classical.choose d=z at a e f ⊢;subst e;subst f
  try clear d
  refine go 2 ?_;refine Np 1 [] (Ix (x:=z) a) λ_ _=>go 6 ?_;exact Yp g () results107 (by first|rw [Zsq O10 a]|(unfold okR;simp_all)) aA Za
 .refine go 9 ?_;exact Yp g () results107 (by first|rw [Zsq O10 a]|(unfold okR;simp_all)) aA Za
def Oh(x y:Int)(c:bl x.natAbs<=65536)(d:bl y.natAbs<=65536)(a:0<y):Cal prog 107 #[rX x y] [] false (G:=Unit) (λ_=>True) (λ_=> .bool true) (λ_=>[]):=okR_wv c d a▸Cm
theorem Zm(x:Int)(f:My x:=by exact⟨O,O⟩):Xe prog 109 #[.int .i64 x] [] (wv x):=by
 refine Zd func109 ntmps109 λm l h e=>?_;have i:=f.1;have j:=f.2;have d:x.natAbs<U:=by simp only [U];omega
 have k:bl x.natAbs<=64:=(Qs 64 _).2 (by rw [<-Yjx];exact d);refine go 2<|Zv (Zu 1) λb _=>go 5 ?_;refine dt (Yno (r:=x%18446744073709551616) J J uT3 Zgt J)<|go 3 ?_;refine jn (G:=Unit) [0,2] [0,1] (λ_=>[(3,.int .u64 ((x.natAbs:Nat):Int))]) (λ_=>[]) (λ_=>True) ?_ ?_
 .refine go 6<|Zb J (λc=>?_) (λc=>?_)
  .refine go 2 ?_;refine dt (Ydi x.natAbs J J O)<|go 2 ?_;exact Hh () aA ⟨by first|rfl|(rw [show x%18446744073709551616=((x.natAbs:Nat):Int) by omega];rfl),aA⟩ aA
  .refine go 1 ?_;exact Hh () aA ⟨by first|rfl|(rw [show x%18446744073709551616=((x.natAbs:Nat):Int) by omega];rfl),aA⟩ aA
 .rintro _ -;refine go 5 ?_;refine tt (Og [(0,_)] 2 (enc:=Md) [x.natAbs] J J K2 Pm ti87 J J J J J pU.cells J J h.h) λv _=>cl 2 [2] Pu λ_ _=>?_;refine Oj (Zj3 2 J J pU)<|Oj (Yer 2 (Zgu d) J J)<|dt (Xz [(0,_),(1,_)] J K4 (λa w hs=>Kl ((Zl J) a w hs) ((Oo 2 J (Yi pU)) a w hs)))<|cl 2 [2] (Ht (x:=x) Mp) λ_ _=>go 3 ?_;refine Zv (Zu 3) λg _=>go 11 ?_;exact Yp e () results109 (by rw [Nj O]<;>rfl) aA Za
theorem Zdd(hs:Sz 65536 xs):Cal prog 197 #[v] [Yn 2 wv v xs] true (G:=Unit) (λ_=>True) (λ_=>Gf v (tzl xs).length) (λ_=>[Yn 2 wv (Gf v (tzl xs).length) (tzl xs)]):=by
 refine Zd func197 ntmps197 λp o n d=>?_;refine Mc (Yhs (i:=1) J Zg) (λa=>?_);refine Mc (Gu (i:=1) J Zg) λm=>go 7 ?_;refine lp (G:=Nat) [] [0] (λk=>[(0,Gf v k)]) (λk=>[(1,Yn 2 wv (Gf v k) (xs.take k))]) (λk=>(k<=xs.length)/\(tzl (xs.take k)=tzl xs)) (λk=>k) xs.length ⟨aI _,by rw [cE]⟩ ⟨by rw [a];rfl,aA⟩ ⟨by rw [a,cE];rfl,aA⟩ ?_;rintro k ⟨h,j⟩;have f:(xs.take k).length=k:=by rw [dO];omega
 refine go 7<|Zi 6 J (λl=>?_) (λl=>?_)
 .refine go 4 ⟨O,?_⟩;refine Kj (Yh 1 (k-1) J J J J Zg Mo Od) J J<|go 1 ⟨O,?_⟩;refine Np 1 [] (Ix ((hs.take _).getD _)) λ_ _=>go 4<|Zb J (λg=>?_) (λg=>?_)
  .have c:=Ydj h O (Zu6 (k:=k) O (fL.1 ‹_›):cf xs (k-1)=0);refine go 8 ⟨O,?_⟩;refine dt (d_pre 1 (i:=k-1) J J J J Zg Mo Od)<|go 3 ?_;exact Xf (s_pre 1 1 (k-1) J J)<|Yj (k-1) ⟨O1,by rw [<-j,<-c]⟩ O1 ⟨by rw [<-Zdc v k (k-1)];rfl,aA⟩ ⟨by rw [Zdc,jH,eI O];rfl,aA⟩
  .refine go 12 ?_;have e:tzl xs=xs.take k:=by rw [<-j];exact Zrf h (by first|(left;omega)|(right;exact Zrg k O ‹_›))
   exact Yp d () results197 (by rw [e,f]) aA (Ka 1 Za (by rw [e,f]))
 .refine go 24 ?_;have e:tzl xs=xs.take k:=by rw [<-j];exact Zrf h (by first|(left;omega)|(right;exact Zrg k O ‹_›))
  exact Yp d () results197 (by rw [e,f]) aA (Ka 1 Za (by rw [e,f]))
theorem Zvp(v:Value)(r:List (Bool×ByteArray)):Xe prog 198 #[v] [Yn 2 Yhz v r] (.bool (okP r)):=by
 refine Zd func198 ntmps198 λu s p a=>?_;refine Mc (Gu (i:=1) J Zg) λg=>go 14 ?_;refine lp (G:=Nat) [0,5,6] [0,1] (λk=>[(7,.int .i64 (k:Int))]) (λk=>[]) (λk=>(k<=r.length)/\((r.take k).all (λw=>okW w.1 w.2)=true)) (λk=>r.length-k) 0 ⟨O1,O7⟩ K1 aA ?_;rintro k ⟨o,l⟩;refine go 6<|Zb J (λj=>?_) (λj=>?_)
 .refine go 7 ⟨O2,?_⟩;refine dt (Qz 1 (false,⟨#[]⟩) J J J Zg pW O2)<|Zv (Zu 2) λb _=>go 6 ?_;refine cl 2 [] Za9 λ_ _=>go 3<|Ym J (λf=>?_) (λf=>?_)
  .refine go 11 ?_;exact Yp a () results198 (by rw [Yl1 (Zk (i:=k) (d:=(false,⟨#[]⟩)) O) O10]) aA Za
  .refine go 7 ⟨O,?_⟩;exact Yj (k+1) ⟨O1,by rw [Pr (false,⟨#[]⟩) _ _ O,List.all_append,l];simpa using f⟩ O1 K1 aA
 .refine go 6 ?_;obtain rfl:k=r.length:=O;rw [cE]at l;obtain⟨xs,c,rfl⟩:=Zsp (bA.1 l);have m:=Sz.of_mem c;rw [bJ]at g;refine Zr (Zol 1 (q:=Yn 2 wv v xs) J J (Yk3 v xs) (λ_ h=>fpn h) J)<|go 5<|Zi 18 J (λn=>?_) (λn=>?_)
  .refine go 4<|Zi 22 J (λe=>?_) (λe=>?_)
   .refine go 14 ?_;exact Yp a () results198 (by rw [Zo4 c];first|(simp_all;done)|(simp_all;omega)) aA Za
   .refine go 4 ⟨O,?_⟩;refine Kj (Yh 1 (xs.length-1) J J J J Zg Mo Od) J J<|go 1 ⟨O,?_⟩;refine Np 2 [] (Ix (m.getD _)) λ_ _=>go 7 ?_;exact Yp a () results198 (by rw [Zo4 c];first|(simp_all;done)|(simp_all;omega)) aA Za
  .refine go 18 ?_;exact Yp a () results198 (by rw [Zo4 c];first|(simp_all;done)|(simp_all;omega)) aA Za
def Xk(h:Vp xs):Cal prog 198 #[v] [Yn 2 wv v xs] false (G:=Unit) (λ_=>True) (λ_=> .bool true) (λ_=>[]):=okP_wr h▸(Zvp v (xs.map wr)).imp (slp_wr v xs) (λ_ h=>fpm h)
theorem Ns(hs:Sz 65536 xs):Xe prog 201 #[v] [Yn 2 wv v xs] (.int .i64 (Pb xs:Int)):=by
 refine Zd func201 ntmps201 λh g f c=>?_;refine Mc (Gu (i:=1) J Zg) λd=>go 19 ?_;refine lp (G:=Nat) [6,7] [0,1] (λk=>[(8,.int .i64 (k:Int)),(3,.int .i64 (Pb (xs.take k):Int))]) (λk=>[]) (λk=>k<=xs.length) (λk=>xs.length-k) 0 O1 K2 aA ?_;rintro k e;refine go 6<|Zb J (λa=>?_) (λa=>?_)
 .refine go 8 ⟨O2,O2,?_⟩;refine Zv (Zu 2) λb _=>go 6 ?_;refine cl 2 [] (Zjg (hs.getD _)) λ_ _=>?_;refine dt (Zb1 J J J)<|go 8 ⟨O,?_⟩;exact Yj (k+1) O1 O1 ⟨J,by rw [Pr 0 _ _ O,Yf5];exact aE some (Ygq O),aA⟩ aA
 .refine go 12 ?_;exact Yp c () results201 (by rw [cK O]) aA Za
theorem Zpz{e f:Int}{n:Bool}{s:ByteArray}:Zc7 prog 226 #[.pointer (some ⟨bd,0,none⟩),.agg #[.bool n,.string s],.int .i64 f] [] false bd t #[.int .i64 e] (G:=Unit) (λ_=>True) (λ_=> .agg #[.bool n,.string s]) (λ_=>#[.int .i64 (if e=0 then f else e)]) (λ_=>[]):=by
 refine Em func226 J ntmps226 J aA ?_;intro j i g c;have g:=Hw.mk g;simp only [Qi,Yl];refine go 2<|Zv (Zs 2) λb _=>Zv (Zu 3) λh _=>go 12<|Zb J (λd=>?_) (λd=>?_)
 .refine go 15 ?_;exact Ez (.inl J) c () (λa w hs=>Fh hs results226 (Fb 3 J J isAgg130 Od J)) J aA 1 J (by simp_all [Gt]) J J Za
 .refine go 9 ?_;exact Ez (.inl J) c () (λa w hs=>Fh hs results226 (Fb 3 J J isAgg130 Od J)) J aA 1 J (by simp_all [Gt]) J J Za
theorem d_mul_(bd:Nat)(e x y:Int)(h:bl x.natAbs<=65536)(i:bl y.natAbs<=65536):Zc7 prog 199 #[.pointer (some ⟨bd,0,none⟩),wv x,wv y] [] false bd 284 #[.int .i64 e] (G:=Unit) (λ_=>True) (λ_=>wv (Bx (x*y))) (λ_=>#[.int .i64 (err e (x*y))]) (λ_=>[]):=by refine Em func199 J ntmps199 J aA ?_;intro k j d c;have d:=Hw.mk d;simp only [Qi,Yl];refine go 2<|Zv (Zs 2) λb _=>Zv (Zs 3) λf _=>Zv (Zu 4) λg _=>go 3<|Pd (λx=>x=bd) [(0,0),(1,0),(2,0),(3,0),(4,0),(5,1),(6,0),(7,0),(8,1),(9,3)]<|go 5<|Qm (Zy 4 [] (Zjf _ _ ‹_› ‹_›)) λ_ _=>go 2 ?_;refine Bq J (Ql 4 1 Zpz J J J K3 call226 J O3 Zq J d.h J) λ_ _=>go 4 ?_;exact Ez (.inl J) c () (λa w hs=>Fh hs results199 (Fb 4 J J isAgg130 Od J)) J aA 1 J J J J Za
theorem Dj(c:bl x.natAbs<=65536)(d:bl y.natAbs<=65536)(a:bl (x*y).natAbs<=65536):Zc7 prog 199 #[.pointer (some ⟨bd,0,none⟩),wv x,wv y] [] false bd 284 #[.int .i64 0] (G:=Unit) (λ_=>True) (λ_=>wv (x*y)) (λ_=>#[.int .i64 0]) (λ_=>[]):=by have h:=d_mul_ bd 0 x y c d;rw [Nj a,Zwe a]at h;exact h
theorem d_add_(bd:Nat)(e x y:Int)(h:bl x.natAbs<=65536)(i:bl y.natAbs<=65536):Zc7 prog 202 #[.pointer (some ⟨bd,0,none⟩),wv x,wv y] [] false bd 284 #[.int .i64 e] (G:=Unit) (λ_=>True) (λ_=>wv (Bx (x+y))) (λ_=>#[.int .i64 (err e (x+y))]) (λ_=>[]):=by refine Em func202 J ntmps202 J aA ?_;intro k j d c;have d:=Hw.mk d;simp only [Qi,Yl];refine go 2<|Zv (Zs 2) λb _=>Zv (Zs 3) λf _=>Zv (Zu 4) λg _=>go 3<|Pd (λx=>x=bd) [(0,0),(1,0),(2,0),(3,0),(4,0),(5,1),(6,0),(7,0),(8,1),(9,3)]<|go 5<|Qm (Zy 4 [] (Zra ‹_› ‹_›)) λ_ _=>go 2 ?_;refine Bq J (Ql 4 1 Zpz J J J K3 call226 J O3 Zq J d.h J) λ_ _=>go 4 ?_;exact Ez (.inl J) c () (λa w hs=>Fh hs results202 (Fb 4 J J isAgg130 Od J)) J aA 1 J J J J Za
theorem Zlk(c:bl x.natAbs<=65536)(d:bl y.natAbs<=65536)(a:bl (x+y).natAbs<=65536):Zc7 prog 202 #[.pointer (some ⟨bd,0,none⟩),wv x,wv y] [] false bd 284 #[.int .i64 0] (G:=Unit) (λ_=>True) (λ_=>wv (x+y)) (λ_=>#[.int .i64 0]) (λ_=>[]):=by have h:=d_add_ bd 0 x y c d;rw [Nj a,Zwe a]at h;exact h
theorem d_sub_(bd:Nat)(e x y:Int)(h:bl x.natAbs<=65536)(i:bl y.natAbs<=65536):Zc7 prog 204 #[.pointer (some ⟨bd,0,none⟩),wv x,wv y] [] false bd 284 #[.int .i64 e] (G:=Unit) (λ_=>True) (λ_=>wv (Bx (x-y))) (λ_=>#[.int .i64 (err e (x-y))]) (λ_=>[]):=by refine Em func204 J ntmps204 J aA ?_;intro k j d c;have d:=Hw.mk d;simp only [Qi,Yl];refine go 2<|Zv (Zs 2) λb _=>Zv (Zs 3) λf _=>Zv (Zu 4) λg _=>go 3<|Pd (λx=>x=bd) [(0,0),(1,0),(2,0),(3,0),(4,0),(5,1),(6,0),(7,0),(8,1),(9,3)]<|go 5<|Qm (Zy 4 [] (Yc7 ‹_› ‹_›)) λ_ _=>go 2 ?_;refine Bq J (Ql 4 1 Zpz J J J K3 call226 J O3 Zq J d.h J) λ_ _=>go 4 ?_;exact Ez (.inl J) c () (λa w hs=>Fh hs results204 (Fb 4 J J isAgg130 Od J)) J aA 1 J J J J Za
theorem Zwl(c:bl x.natAbs<=65536)(d:bl y.natAbs<=65536)(a:bl (x-y).natAbs<=65536):Zc7 prog 204 #[.pointer (some ⟨bd,0,none⟩),wv x,wv y] [] false bd 284 #[.int .i64 0] (G:=Unit) (λ_=>True) (λ_=>wv (x-y)) (λ_=>#[.int .i64 0]) (λ_=>[]):=by have h:=d_sub_ bd 0 x y c d;rw [Nj a,Zwe a]at h;exact h
theorem Yig(hs:Sz 65536 xs):Cal prog 200 #[.pointer (some ⟨bd,0,none⟩),v] [Nb bd 284 #[.int .i64 0],Yn 2 wv v xs] true (G:=Unit) (λ_=>True) (λ_=> .tuple #[Gf v (tzl xs).length,.int .i64 0]) (λ_=>[Yn 2 wv (Gf v (tzl xs).length) (tzl xs)]):=by
 refine Zd func200 ntmps200 λf e d c=>go 17 ?_;refine Zb J (λa=>?_) (λa=>?_)
 .exfalso;simp_all
 .refine go 5 ?_;refine cl 3 [2] (Zdd ‹_›) λ_ _=>go 5 ?_;exact Ok c () results200 J aA (Ka 3 Za)
theorem Lx(c:Int)(g:Vp xs)(m:bl c.natAbs<=65536)(h:∀i,bl (cf xs i*c).natAbs<=65536):Cal prog 172 #[v,wv c] [Yn 2 wv v xs] true (G:=Value) (λr=>True) (λr=> .tuple #[r,.int .i64 0]) (λr=>[Yn 2 wv r (Yy xs c)]):=by
 refine Zd func172 ntmps172 λp o e d=>?_;have f:=g.len;refine go 2<|Zv (Zs 2) λb _=>go 8 ?_;refine cl 2 [1] (Xk ‹_›) λ_ _=>go 3 ?_;refine Np 2 [] (Lt ‹_›) λ_ _=>go 9<|Zv (Zu 3) λj _=>go 6 ?_;refine tt (Ev 4 _ 24 (enc:=wv) 0 J J J J Mo ti130 J pV.cells pV.pos J J J e.h J J) λv _=>go 12 ?_;refine lp (G:=Nat) [3,6,7,21,22] [0,1,2,3] (λk=>[(23,.int .i64 (k:Int))]) (λk=>[(4,Nc 2 130 wv v (fill xs.length k (λi=>cf xs i*c)))]) (λk=>k<=xs.length) (λk=>xs.length-k) 0 O1 K1 ⟨by rw [Bi xs.length (λi=>cf xs i*c)];rfl,aA⟩ ?_;rintro k n;refine go 6<|Zb J (λa=>?_) (λa=>?_)
 .refine go 9 ⟨O2,O2,?_⟩;refine Zv (Zu 5) λl _=>go 9 ?_;refine tt (Ql 5 3 (Dj (g.sz.getD _) m (h _)) J J J K3 call199 J O3 Zq J e.h aA) (λ_ _=>?_);refine dt (Yh 4 k J J J J (Yi pV) Mo Od J (by rw [Pf];omega))<|tt (Ln 4 (enc:=wv) J J J J J J pV J e.h O3 (by rw [Pf];omega)) (λ_ _=>?_);refine go 7 ⟨O,?_⟩;exact Yj (k+1) O1 O1 K1 ⟨by rw [<-Zcq O];rfl,aA⟩
 .refine go 6 ?_;obtain rfl:k=xs.length:=O;refine Zr (Nk 4 J J pV)<|Zr (Zcc 3 J J)<|go 2 ?_;refine cl 6 [3,4] (Yig (by rw [Eh];exact Zfz λi _=>h i)) λ_ _=>go 7 ?_;exact Ok d _ results172 J aA (Ka 6 Za (by rw [Ybp]<;>rfl))
theorem Aw(e:Vp xs)(h:∀i,bl (cf xs (i+1)*((i:Int)+1)).natAbs<=65536):Cal prog 171 #[v] [Yn 2 wv v xs] true (G:=Value) (λr=>True) (λr=> .tuple #[r,.int .i64 0]) (λr=>[Yn 2 wv r (Xd xs)]):=by
 refine Zd func171 ntmps171 λo m f d=>?_;have g:=e.len;refine go 10 ?_;refine cl 1 [1] (Xk ‹_›) λ_ _=>go 14<|Zb J (λa=>?_) (λa=>?_)
 .refine go 8 ?_;exact Ok d _ results171 J aA (Lg (Yfi O) Za)
 .refine go 4<|Zv (Zu 2) λb _=>?_;refine go 7 ⟨O,?_⟩;refine tt (Ev 3 (xs.length-1) 24 (enc:=wv) 0 J J J J Mo ti130 J pV.cells pV.pos J J J f.h) λv _=>go 12 ?_;refine lp (G:=Nat) [0,4,5,18] [0,1,2] (λk=>[(19,.int .i64 (k:Int))]) (λk=>[(3,Nc 2 130 wv v (fill (xs.length-1) k (λi=>cf xs (i+1)*((i:Int)+1))))]) (λk=>k<=xs.length-1) (λk=>xs.length-1-k) 0 O1 K1 ⟨by rw [Bi (xs.length-1) (λi=>cf xs (i+1)*((i:Int)+1))];rfl,aA⟩ ?_;rintro k l;have j:(fill (xs.length-1) k (λi=>cf xs (i+1)*((i:Int)+1))).length=xs.length-1:=Pf _ _ _;refine go 6<|Zb J (λc=>?_) (λc=>?_)
  .try rw [aT]at *
   refine go 10<|Pd (λx=>x=b) [(0,0),(1,0),(2,0),(3,0),(4,0),(5,0),(6,0),(7,0),(8,0),(9,1),(10,1),(11,0),(12,3)]<|go 5 ⟨O,?_⟩;refine Xy J J (st1 2 J (Yh 1 (k+1) J J J J Zg Mo Od))<|go 3 ⟨O,O,?_⟩;refine Qm (Zy 3 [] (Zm _ (by first|assumption|exact⟨O,O⟩))) λ_ _=>?_;refine Bq J (Ql 3 2 (Dj (x:=cf xs (k+1)) (y:=((k:Int)+1)) (e.sz _) (aB (Ll (n:=32) O) O3) (h k)) J J J K3 call199 J O3 Zq J f.h J) (λ_ _=>?_);refine Xy J J (st1 2 J (Yh 3 k J J J J (Yi pV) Mo Od J (by rw [Pf];omega)))<|r3' J (Ln 3 (enc:=wv) J J J J J J pV J f.h O3 (by rw [Pf];omega)) (λ_ _=>?_);refine go 7 ⟨O,?_⟩;exact Yj (k+1) O1 O1 K1 ⟨by rw [<-Zcq O];rfl,aA⟩
  .try rw [aT]at *
   refine go 6 ?_;obtain rfl:k=xs.length-1:=O;refine Zr (Nk 3 J J pV)<|Zr (Zcc 2 J J)<|go 2 ?_;refine cl 4 [2,3] (Yig (by rw [Eh];exact Zfz λi _=>h i)) λ_ _=>go 7 ?_;exact Ok d _ results171 J aA (Ka 4 Za (by rw [Yls e.tr]<;>rfl))
theorem Zox(j:Vp xs):Xe prog 205 #[v] [Yn 2 wv v xs] (.tuple #[wv (Xs xs),.int .i64 0]):=by
 refine Zd func205 ntmps205 λr q n i=>?_;have l:=j.len;have d:∀k,bl (Xs (xs.take k)).natAbs<=65536:=λk=>Zsk _ (j.sz.take k);refine go 2<|Zv (Zu 2) λb _=>go 7 ?_;refine cl 2 [1] (Xk ‹_›) λ_ _=>go 8<|Zv (Zu 3) λf _=>go 4<|Zv (Zu 4) λg _=>go 11 ?_;refine lp (G:=Nat) [2,4,5,12,13] [0,1,2] (λk=>[(14,.int .i64 (k:Int))]) (λk=>[(4,box g 130 #[.bool (decide (Xs (xs.take k)<0)),.string (Xn (Xs (xs.take k)).natAbs)]),(3,box f 284 #[.int .i64 0])]) (λk=>k<=xs.length) (λk=>xs.length-k) 0 O1 K1 K2 ?_;rintro k o;have e:=λh=>It (p:=xs) (k:=k) h;refine go 6<|Zb J (λc=>?_) (λc=>?_)
 .refine go 8 ⟨O2,O2,?_⟩;refine Zv (Zu 5) λm _=>go 7 ?_;refine cl 5 [] (Zq9 (Xs (xs.take k)) (xs.getD k 0) (d _) (j.sz.getD _)) λ_ _=>go 2 ?_;refine tt (Ql 5 3 Zpz J J J K3 call226 J O3 Zq J n.h aA) (λ_ _=>?_);refine go 8 ⟨O,?_⟩;have a:=d (k+1);rw [e O]at a;exact Yj (k+1) O1 O1 K1 ⟨by rw [e O];simp only [Nj a];rfl,by simp only [Zpq a];rfl,aA⟩
 .refine go 6<|Ni [3,4] [5] ?_;refine Zx 0 [(0,0),(1,0),(2,0),(3,0),(4,1),(5,3)]<|go 7 ?_;refine Ys<|go 2 ?_;exact Ok i () results205 (by rw [show k=xs.length by omega,cE]<;>rfl) aA Za
theorem Zmc{c:Int}(l:Sz 65536 xs)(j:xs.length<=1000)(q:bl c.natAbs<=65536)(s:∀i,c∣cf xs i)(f:xs≠[]->c≠0):Cal prog 206 #[v,wv c] [Yn 2 wv v xs] true (G:=Value) (λr=>True) (λr=> .tuple #[r,.int .i64 0]) (λr=>[Yn 2 wv r (xs.map (· / c))]):=by
 refine Zd func206 ntmps206 λz w m h=>go 2 ?_;refine Zv (Zs 2) λb _=>go 8 ?_;refine tt (Ev 3 _ 24 (enc:=wv) 0 J J J J Mo ti130 J pV.cells pV.pos J J J m.h J J) λv _=>go 12 ?_;refine lp (G:=Nat) [3,6,15,16] [0,1,2] (λk=>[(17,.int .i64 (k:Int))]) (λk=>[(3,Nc 2 130 wv v (fill xs.length k (λi=>cf xs i/c)))]) (λk=>k<=xs.length) (λk=>xs.length-k) 0 O1 K1 ⟨by rw [Bi xs.length (λi=>cf xs i/c)];rfl,aA⟩ ?_;rintro k u;have g:Bx (xs.getD k 0/c)=cf xs k/c:=Nj (Zbu (s k) (l k));refine go 6<|Zb J (λa=>?_) (λa=>?_)
 .refine go 9 ⟨O2,O2,?_⟩;refine Zv (Zu 4) λn _=>go 8 ?_;refine cl 4 [] (Bj (l.getD _) q (f (by intro e;rw [e]at a;simp at a;omega))) λ_ _=>go 4<|Zv (Zu 5) λo _=>Zv (Zu 6) λp _=>go 12<|Zb J (λd=>?_) (λd=>?_)
  .exfalso;simp_all
  .refine go 6 ?_;refine dt (Yh 3 k J J J J (Yi pV) Mo Od J (by rw [Pf];omega))<|tt (Ln 3 (enc:=wv) J J J J J J pV J m.h O3 (by rw [Pf];omega)) (λ_ _=>?_);refine go 7 ⟨O,?_⟩;exact Yj (k+1) O1 O1 K1 ⟨by rw [<-Zcq O];simp only [g];rfl,aA⟩
 .refine go 13 ?_;obtain rfl:k=xs.length:=O;exact Ok h _ results206 J aA (gow 3 Za (by rw [Eh,Yf6 xs (· / c)]<;>rfl))
theorem Ny(c:Vp xs):Cal prog 176 #[v] [Yn 2 wv v xs] true (G:=Value) (λr=>True) (λr=> .tuple #[r,.int .i64 0]) (λr=>[Yn 2 wv r (Yu xs)]):=by
 refine Zd func176 ntmps176 λh g f d=>?_;have e:=c.len;refine go 9 ?_;refine cl 1 [1] (Zox ‹_›) λ_ _=>go 3<|Zv (Zu 2) λb _=>go 11<|Zb J (λa=>?_) (λa=>?_)
 .exfalso;simp_all
 .refine go 6 ?_;refine cl 3 [1] (Zmc c.sz O (Zsk _ c.sz) (Ko _) c.ne) λ_ _=>go 7 ?_;exact Ok d _ results176 J aA (Ka 3 Za J)
theorem Ybs(n:Vp xs)(R:bl x.natAbs<=65536)(hy:bl y.natAbs<=65536)(a7:0<y):Xe prog 266 #[v,rX x y] [Yn 2 wv v xs] (.tuple #[wv (evv xs x y),.int .i64 (eve xs x y)]):=by
 refine Zd func266 ntmps266 λw0 sc p o=>?_;have c:=n.len;refine go 2<|Zv (Zs 2) λb _=>Zv (Zu 3) λY _=>go 7 ?_;refine cl 3 [1] (Xk ‹_›) λ_ _=>go 3 ?_;refine Np 3 [] (Oh _ _ ‹_› ‹_› ‹_›) λ_ _=>go 15<|Zb J (λj=>?_) (λj=>?_)
 .refine go 2 ?_;refine dt (Xz [] J aA (λa w hs=>Yjj))<|go 6 ?_;exact Ok o () results266 (by rw [aH (l:=xs) O];rfl) aA Za
 .have I:xs≠[]:=λe=>by rw [e]at j;simp at j
  have a5:=Oc n.sz;have g:Sz 65536 [x,y]:=Sz.of_mem (by intro z S;simp at S;rcases S with rfl|rfl<;>assumption);have H:=Oc g;have a6:(xs.length-1)*Pb [x,y]<=24*65536:=aS O H;have f:((xs.length:Int)-1)*(Pb [x,y]:Int)=(((xs.length-1)*Pb [x,y]:Nat):Int):=by rw [gD];congr 1;omega
  refine go 3 ?_;refine jn (G:=Unit) [0,3,4] [0,1,2,3] (λ_=>[(37,.bool (decide ((65536:Int)<(Pb xs:Int)+((xs.length:Int)-1)*(Pb [x,y]:Int)+8)))]) (λ_=>[]) (λ_=>True) ?_ ?_
  .refine Zaf (λ_=>False) []<|Zx 7 [(0,0),(2,0),(3,0),(4,0),(5,0),(6,0),(7,0),(8,0)]<|go 9 ⟨O,?_⟩;refine Nm 6 1 9 ?_ ?_
   .refine Ha (Zy 3 [1] (Ns (by first|exact n.sz|exact g))) λ_ _=>?_;refine Zx 0 [(9,1),(10,1),(11,0),(12,0),(13,0),(14,0)]<|Bq J (Og [(0,_),(1,_)] 90 (enc:=wv) [x,y] J J K4 Ykn ti130 J J J J J pV.cells J J p.h) λv _=>Qm (Zy 3 [90] (Ns (by first|exact n.sz|exact g))) λ_ _=>?_;refine go 5 ⟨by rw [f];exact⟨O,O⟩,by rw [f];exact⟨O,O⟩,by rw [f];exact⟨O,O⟩,?_⟩;exact Ys<|Hh () aA K1 aA
   .refine Zak J J (Og [(0,_),(1,_)] 90 (enc:=wv) [x,y] J J K4 Ykn ti130 J J J J J pV.cells J J p.h) (λa8 _=>?_);refine Zx 0 [(1,1),(10,1),(11,0),(12,0),(13,0),(14,0)]<|Qm (Zy 3 [1] (Ns (by first|exact n.sz|exact g))) λ_ _=>Qm (Zy 3 [90] (Ns (by first|exact n.sz|exact g))) λ_ _=>?_;refine go 5 ⟨by rw [f];exact⟨O,O⟩,by rw [f];exact⟨O,O⟩,by rw [f];exact⟨O,O⟩,?_⟩;exact Ys<|Hh () aA K1 aA
  .rintro _ -;refine Zb J (λm=>?_) (λm=>?_)
   .have u:Kb xs x y:=⟨I,by rw [f]at m;omega⟩;refine go 2 ?_;refine dt (Xz [] J aA (λa w hs=>Yjj))<|go 6 ?_;exact Ok o () results266 (by unfold evv eve;rw [aO u,aO u]<;>rfl) aA Za
   .have i:Pb xs+(xs.length-1)*Pb [x,y]+8<=65536:=by rw [f]at m;omega
    refine go 4<|Zv (Zu 4) λF _=>go 2 ?_;refine jn (G:=Nat×Nat) [0,3,4,6] [0,1,2,3,4] (λq=>[(7,.pointer (some ⟨q.1,0,none⟩)),(8,.pointer (some ⟨q.2,0,none⟩))]) (λq=>[(97,box q.1 130 (wc (xs.getD (xs.length-1) 0))),(98,box q.2 130 (wc 1))]) (λq=>True) ?_ ?_
    .refine Zaf (λ_=>False) [9,10]<|Zx 5 [(0,0),(1,0),(2,0),(3,0),(4,0),(5,0)]<|go 4 ⟨O,?_⟩;refine Xy J J (Pg (Yh 1 (xs.length-1) J J J J Zg Mo Od))<|go 2 ⟨O,?_⟩;refine Yjv 4 6 7 8 ?_ ?_ ?_
     .refine Ha (Zy 4 [] (Zm _ (by first|assumption|exact⟨O,O⟩))) λ_ _=>?_;refine Nm 3 7 8 ?_ ?_
      .refine Ha (Zu 97) λZ _=>?_;refine Zx 0 [(8,1),(9,3),(10,3)]<|Qm (Zu 98) λa0 _=>go 3 ?_;exact Ys<|Hh (_,_) aA K2 K2
      .refine Ha (Zu 98) λa1 _=>?_;refine Zx 0 [(7,1),(9,3),(10,3)]<|Qm (Zu 97) λa2 _=>go 3 ?_;exact Ys<|Hh (_,_) aA K2 K2
     .refine Ha (Zu 97) λa3 _=>?_;refine Nm 3 6 8 ?_ ?_
      .refine Ha (Zy 4 [] (Zm _ (by first|assumption|exact⟨O,O⟩))) λ_ _=>?_;refine Zx 0 [(8,1),(9,3),(10,3)]<|Qm (Zu 98) λa4 _=>go 3 ?_;exact Ys<|Hh (_,_) aA K2 K2
      .refine Ha (Zu 98) λM _=>?_;refine Zx 0 [(6,1),(9,3),(10,3)]<|Qm (Zy 4 [] (Zm _ (by first|assumption|exact⟨O,O⟩))) λ_ _=>go 3 ?_;exact Ys<|Hh (_,_) aA K2 K2
     .refine Ha (Zu 98) λN _=>?_;refine Nm 3 6 7 ?_ ?_
      .refine Ha (Zy 4 [] (Zm _ (by first|assumption|exact⟨O,O⟩))) λ_ _=>?_;refine Zx 0 [(7,1),(9,3),(10,3)]<|Qm (Zu 97) λP _=>go 3 ?_;exact Ys<|Hh (_,_) aA K2 K2
      .refine Ha (Zu 97) λQ _=>?_;refine Zx 0 [(6,1),(9,3),(10,3)]<|Qm (Zy 4 [] (Zm _ (by first|assumption|exact⟨O,O⟩))) λ_ _=>go 3 ?_;exact Ys<|Hh (_,_) aA K2 K2
    .rintro⟨V,W⟩ -;dsimp only;refine go 10 ⟨O,?_⟩;refine lp (G:=Nat) [0,3,4,6,7,8] [0,1,2,3,4] (λk=>[(9,.int .i64 ((k:Int)-1))]) (λk=>[(97,box V 130 (wc (Hf xs x y k))),(98,box W 130 (wc (y^(xs.length-1-k))))]) (λk=>k<=xs.length-1) (λk=>k) (xs.length-1) O1 ⟨by rw [show((xs.length-1:Nat):Int)-1=(xs.length:Int)-2 by omega];rfl,aA⟩ ⟨by rw [Yms x y O];rfl,by rw [jE,eK];rfl,aA⟩ ?_;rintro k B;refine go 7<|Zb J (λr=>?_) (λr=>?_)
     .have d:y^(xs.length-1-k)*y=y^(xs.length-1-(k-1)):=Ye9 y O B;have D:Hf xs x y k*x+xs.getD (k-1) 0*y^(xs.length-1-(k-1))=Hf xs x y (k-1):=Ycd x y O B;refine go 9 ?_;refine tt (Ql 4 4 (Dj (Zp1 i) hy (by rw [d];exact Zp1 i)) J J J K3 call199 J O3 Zq J p.h aA) λ_ _=>go 3 ?_;refine Pd (λx=>x=F) [(0,0),(1,0),(2,0),(4,0),(5,0),(6,0),(7,0),(8,0),(3,1),(9,1),(10,1),(11,3)]<|go 5 ?_;refine Xy J J (st1 4 J (Yh 1 (k-1) J J J J Zg Mo Od))<|go 2 ⟨O,?_⟩;refine Bq J (Ql 4 4 (Dj (by first|exact Zp2 i c _|exact n.sz.getD _) (by first|exact R|(rw [d];exact Zp1 i)) (by first|exact Zwd i c O B|(rw [d];exact Zp0 i))) J J J K3 call199 J O3 Zq J p.h J) (λ_ _=>?_);refine Bq J (Ql 4 4 (Dj (by first|exact Zp2 i c _|exact n.sz.getD _) (by first|exact R|(rw [d];exact Zp1 i)) (by first|exact Zwd i c O B|(rw [d];exact Zp0 i))) J J J K3 call199 J O3 Zq J p.h J) (λ_ _=>?_);refine Bq J (Ql 4 4 (Zlk (Zwd i c O B) (by rw [d];exact Zp0 i) (by rw [d,D];exact Zp2 i c _)) J J J K3 call202 J O3 Zq J p.h J) (λ_ _=>?_);refine go 9 ⟨O,?_⟩;exact Yj (k-1) O1 O1 ⟨by rw [show((k-1:Nat):Int)-1=(k:Int)-1-1 by omega];rfl,aA⟩ ⟨by rw [d,D];rfl,by rw [d];rfl,aA⟩
     .refine go 14<|Zb J (λs=>?_) (λs=>?_)
      .exfalso;simp_all
      .refine go 10 ?_;obtain rfl:k=0:=O;have u:¬Kb xs x y:=λh=>by have:=h.2;omega
       exact Ok o () results266 (by unfold evv eve;rw [aJ u,aJ u,<-Ztd]<;>rfl) aA Za
theorem Zsg(e:Vp xs)(g:bl x.natAbs<=65536)(h:bl y.natAbs<=65536)(d:0<y):Xe prog 254 #[v,rX x y] [Yn 2 wv v xs] (.tuple #[.int .i64 (evv xs x y).sign,.int .i64 (eve xs x y)]):=by refine Zd func254 ntmps254 λk j i c=>?_;have a:=e.len;refine go 2<|Zv (Zs 2) λb _=>go 8 ?_;refine cl 2 [1] (Ybs e g h d) λ_ _=>go 3<|Zv (Zu 3) λf _=>go 7 ?_;refine cl 3 [] (Ix (evv_bl a)) λ_ _=>go 6 ?_;exact Ok c () results254 J aA Za
end Go.Sky

