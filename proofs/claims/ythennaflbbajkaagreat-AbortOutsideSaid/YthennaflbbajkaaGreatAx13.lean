/- Rules, arithmetic and contracts: part 14. No conditions but those that each theorem names. -/
import Derived.Test.YthennaflbbajkaaGreatAx12
set_option linter.all false
set_option maxHeartbeats 4000000
namespace Go.Sky
open Go.Proofs.Tryz
open Go.Proofs
set_option synthInstance.maxHeartbeats 0
set_option synthInstance.maxSize 100000
set_option maxRecDepth 20000
set_option linter.unusedSimpArgs false
variable{v w:Value}{xs ts:List Nat}{y:Nat}{x:Int}{s t:Bool}{listed:Array Bool}{ops:Array Oper}
theorem Ybp(g:xs.length*8<=140737488355328):Yi3 prog 246 #[v] [Yl 1 Ma v xs] (G:=Value) (λr=>True) (λr=>r) (λr=>Ox 1 87 Ma r xs):=by
 refine Zp3 func246 J ntmps246 J K1 ?_;intro j h d e;have d:=Hw.mk d;simp only [Qg,Yg];refine Le (Ygp (i:=1) J Zi) λc=>go 9 ?_;refine dt (Zps J J J (i:=1) J Zi Pi)<|go 2 ?_;refine Ym J (λb=>?_) (λb=>?_)
 .refine go 7 ?_;obtain rfl:xs=[]:=c (by simpa using b);exact Xd (Hb 9 1 87 Ma)<|Zga (.inl J) (.slice none 0 0) (λa w hs=>Gx hs results246 J) J aA J 9 J J J
 .refine go 4 ?_;refine tt (Ycm 2 (enc:=Ma) J J J Pi pU J d.h) λv _=>go 1 ?_;refine tt (Fm 2 1 8 J J J J J J O3 J Zi Pi ti87 J pU J J J O9 O3 J d.h) λf _=>go 4 ?_;exact Zga (.inl J) _ (λa w hs=>Gx hs results246 J) J aA J 2 J (by rfl) J
theorem Zt0{h l:Nat}(hl:l<U)(hy:y<U)(hh:h<y):Xl prog 224 #[.int .u64 (h:Int),.int .u64 (l:Int),.int .u64 (y:Int)] [] (.tuple #[.int .u64 (((h*U+l)/y:Nat):Int),.int .u64 (((h*U+l)%y:Nat):Int)]):=by
 refine Zd func224 ntmps224 λw0 sc hw a8=>?_;have c0:U=18446744073709551616:=rfl;have hp:0<y:=O;have c1:bl y<=64:=(Qr 64 y).2 hy;obtain⟨s,hs⟩:∃s,s=64-bl y:=⟨_,rfl⟩;obtain⟨Y,g⟩:∃Y,Y=y*2^s:=⟨_,rfl⟩;obtain⟨b6,S⟩:=Yeu hp hy hs;rw [<-g]at b6 S;have V:=S;obtain⟨D,hD⟩:∃D,D=(h*U+l)*2^s:=⟨_,rfl⟩;obtain⟨u,Z⟩:∃u,u=D/U:=⟨_,rfl⟩;obtain⟨v,a0⟩:∃v,v=D%U:=⟨_,rfl⟩;obtain⟨v1,Q⟩:∃x,x=v/4294967296:=⟨_,rfl⟩;obtain⟨v0,P⟩:∃x,x=v%4294967296:=⟨_,rfl⟩;obtain⟨d,b1⟩:∃x,x=Y/4294967296:=⟨_,rfl⟩;obtain⟨N,a9⟩:∃x,x=Y%4294967296:=⟨_,rfl⟩;have e:Y=d*4294967296+N:=O;have b7:=shl_lt hh (show y*2^s<U by rw [<-g];exact S);have c3:u<Y:=by rw [Z,hD,g];exact top_lt hl hh
 have hu:u<d*4294967296+N:=O;have c4:v<U:=by rw [a0];exact bI _ Xo
 have b0:2147483648<=d:=O;have i:d<4294967296:=O;have f:N<4294967296:=O;have M:v1<4294967296:=O;have I:v0<4294967296:=O;obtain⟨Q1,m⟩:∃x,x=(u*4294967296+v1)/Y:=⟨_,rfl⟩;obtain⟨t,H⟩:∃x,x=(u*4294967296+v1)%Y:=⟨_,rfl⟩;have c2:t<Y:=by rw [H];exact bI _ O
 have ht:t<d*4294967296+N:=O;obtain⟨Q0,k⟩:∃x,x=(t*4294967296+v0)/Y:=⟨_,rfl⟩;have R:0<Y:=O;obtain⟨a6,a7⟩:=dv_two (D:=D) R Z a0 Q P;rw [<-m,<-H,<-k]at a6;rw [<-H]at a7;have b8:Q0<4294967296:=by rw [k,e];exact dv_Q I ht
 have b9:Q1<4294967296:=by rw [m,e];exact dv_Q M hu
 refine go 13<|Zb J (λa1=>?_) (λa1=>?_)
 .exfalso;omega
 .refine go 10<|Zb J (λa2=>?_) (λa2=>?_)
  .exfalso;omega
  .refine go 9<|Zb J (λa3=>?_) (λa3=>?_)
   .refine go 1<|Pe (λ_=>False) [(0,0),(1,0),(2,0),(3,0),(4,0),(5,0),(6,0),(7,3)]<|go 2 ?_;refine Qb J J (Pp (Ycf J J J))<|go 2 ?_;refine Qb J J (Pp (u_rem J J J O))<|go 6 ?_;exact Nq a8 () results224 (by have h0:h=0:=O;rw [h0];simp) aA Za
   .refine go 5 ?_;refine cl 0 [] (Zqb hy) λ_ _=>?_;refine dt (Zvy J J uT3 underlying221 (by simp only [U];omega))<|go 4 ?_;refine Zr (Lz 8 (v':= .int .u64 (s:Int)) J (by rw [hs]))<|go 3 ?_;refine dt (Zl1 J J J J)<|go 4 ?_;refine Zr (Lz 2 (v':= .int .u64 (Y:Int)) J (by rw [g,bF (by rw [<-g];exact V)]))<|go 2 ?_;refine dt (Fk 4294967296 (n:=32) J J J J J)<|go 6 ?_;refine dt (Zqr J J J)<|go 7 ?_;refine dt (Zl1 J J J J)<|go 2 ?_;refine dt (Zdt J J J (by first|exact bI _ Xo|omega))<|dt (Zl0 J J (n:=64-s) J (by simp only [U];omega))<|dt (Yjl J J J (bI _ Xo) (aW (eV _ _) hl))<|go 4 ?_;refine Zr (Lz 11 (v':= .int .u64 (u:Int)) J (by rw [Z,hD,Yej O b7 hl]))<|go 3 ?_;refine dt (Zl1 J J J J)<|go 4 ?_;refine Zr (Lz 12 (v':= .int .u64 (v:Int)) J (by rw [a0,hD,Yaz h l s]))<|go 2 ?_;refine dt (Fk 4294967296 (n:=32) J J J J J)<|go 4 ?_;refine Zr (Lz 13 (v':= .int .u64 (v1:Int)) J (by rw [Q]))<|go 2 ?_;refine dt (Zqr J J J)<|go 4 ?_;refine Zr (Lz 14 (v':= .int .u64 (v0:Int)) J (by rw [Zt5,P]))<|Zr (Lz 9 (v':= .int .u64 (d:Int)) J (by rw [b1]))<|Zr (Lz 10 (v':= .int .u64 (N:Int)) J (by rw [Zt5,a9]))<|go 3 ?_;refine dt (Ycf J J J)<|go 8 ?_;refine dt (Ci J J J)<|dt (Zdt J J J (by first|exact bI _ Xo|omega))<|go 3 ?_;refine jn (G:=Unit) [2,8,9,10,11,13,14] [0] (λ_=>[(15,.int .u64 ((Q1:Nat):Int))]) (λ_=>[]) (λ_=>True) ?_ ?_
    .refine go 1<|Zr (Lz 16 (v':= .int .u64 ((u%d:Nat):Int)) J (by rw [rsub O O])) ?_;refine lp (G:=Nat×Nat) [2,8,9,10,11,13,14] [0] (λq=>[(15,.int .u64 (q.1:Int)),(16,.int .u64 (q.2:Int))]) (λq=>[]) (λq=>(dvI u v1 d N q.1 q.2)/\(q.2<4294967296)) (λq=>q.1) (u/d,u%d) ⟨dv0 b0 i f M hu,jG (bI _ O) i⟩ K2 aA ?_;rintro⟨a,r⟩ ⟨j,hr⟩;dsimp only at j hr;dsimp only;have b4:=j.1;have b5:=j.2.1;refine go 6<|Zl 69 J (λb2=>?_) (λb2=>?_)
     .refine go 16 ?_;have b:=Zin O j M hu O;have c:=b.1;refine go 2 ?_;refine dt (Zdt (n:=1) J J J)<|go 4 ?_;refine Zr (Lz 15 (v':= .int .u64 ((a-1:Nat):Int)) J (Za3 (Ztd c O)))<|go 3 ?_;refine dt (Bb J J J)<|go 4 ?_;refine Zr (Lz 16 (v':= .int .u64 ((r+d:Nat):Int)) J (Za3 (bF O)))<|go 5<|Zb J (λa4=>?_) (λa4=>?_)
      .refine go 4 ?_;have z:Q1=a-1:=by rw [m,e];exact(Zfx O f b.2 O O).symm
       exact Fb () aA ⟨by rw [z];rfl,aA⟩ aA
      .refine go 2 ?_;exact Yi (a-1,r+d) ⟨b.2,by dsimp only;omega⟩ O1 K2 aA
     .have W:=Zr5 (show a<4294967296 by omega) f;have e1:=bF (show a*N<U from W);have e2:=bF (show 4294967296*r<U by omega);have e3:=bF (show 4294967296*r+v1<U by omega);refine go 2 ?_;refine Fg (Ci J J J) J J<|go 1 ?_;refine Fg (Ci J J J) J J<|go 1 ?_;refine Fg (Bb J J J) J J<|go 4 ?_;refine Zb J (λo=>?_) (λo=>?_)
      .rw [e1,e2,e3]at o;refine go 4 ?_;have b:=Zin O j M hu O;have c:=b.1;refine go 2 ?_;refine dt (Zdt (n:=1) J J J)<|go 4 ?_;refine Zr (Lz 15 (v':= .int .u64 ((a-1:Nat):Int)) J (Za3 (Ztd c O)))<|go 3 ?_;refine dt (Bb J J J)<|go 4 ?_;refine Zr (Lz 16 (v':= .int .u64 ((r+d:Nat):Int)) J (Za3 (bF O)))<|go 5<|Zb J (λB=>?_) (λB=>?_)
       .refine go 4 ?_;have z:Q1=a-1:=by rw [m,e];exact(Zfx O f b.2 O O).symm
        exact Fb () aA ⟨by rw [z];rfl,aA⟩ aA
       .refine go 2 ?_;exact Yi (a-1,r+d) ⟨b.2,by dsimp only;omega⟩ O1 K2 aA
      .rw [e1,e2,e3]at o;refine go 4 ?_;have z:Q1=a:=by rw [m,e];exact(Zpo O j O).symm
       exact Fb () aA ⟨by rw [z];rfl,aA⟩ aA
    .rintro _ -;refine go 3 ?_;refine dt (Ci J J J)<|go 1 ?_;refine dt (Bb J J J)<|go 2 ?_;refine dt (Ci J J J)<|dt (Zdt J J J (by first|exact bI _ Xo|omega))<|go 4 ?_;refine Zr (Lz 17 (v':= .int .u64 (t:Int)) J (by rw [H,m,Zy0 R V]))<|go 3 ?_;refine dt (Ycf J J J)<|go 8 ?_;refine dt (Ci J J J)<|dt (Zdt J J J (by first|exact bI _ Xo|omega))<|go 3 ?_;refine jn (G:=Unit) [2,8,14,15,17] [0] (λ_=>[(18,.int .u64 ((Q0:Nat):Int))]) (λ_=>[]) (λ_=>True) ?_ ?_
     .refine go 1<|Zr (Lz 16 (v':= .int .u64 ((t%d:Nat):Int)) J (by rw [rsub O O])) ?_;refine lp (G:=Nat×Nat) [2,8,9,10,14,15,17] [0] (λq=>[(18,.int .u64 (q.1:Int)),(16,.int .u64 (q.2:Int))]) (λq=>[]) (λq=>(dvI t v0 d N q.1 q.2)/\(q.2<4294967296)) (λq=>q.1) (t/d,t%d) ⟨dv0 b0 i f I ht,jG (bI _ O) i⟩ K2 aA ?_;rintro⟨a,r⟩ ⟨j,hr⟩;dsimp only at j hr;dsimp only;have b4:=j.1;have b5:=j.2.1;refine go 6<|Zl 104 J (λb3=>?_) (λb3=>?_)
      .refine go 16 ?_;have b:=Zin O j I ht O;have c:=b.1;refine go 2 ?_;refine dt (Zdt (n:=1) J J J)<|go 4 ?_;refine Zr (Lz 18 (v':= .int .u64 ((a-1:Nat):Int)) J (Za3 (Ztd c O)))<|go 3 ?_;refine dt (Bb J J J)<|go 4 ?_;refine Zr (Lz 16 (v':= .int .u64 ((r+d:Nat):Int)) J (Za3 (bF O)))<|go 5<|Zb J (λa5=>?_) (λa5=>?_)
       .refine go 4 ?_;have z:Q0=a-1:=by rw [k,e];exact(Zfx O f b.2 O O).symm
        exact Fb () aA ⟨by rw [z];rfl,aA⟩ aA
       .refine go 2 ?_;exact Yi (a-1,r+d) ⟨b.2,by dsimp only;omega⟩ O1 K2 aA
      .have W:=Zr5 (show a<4294967296 by omega) f;have e1:=bF (show a*N<U from W);have e2:=bF (show 4294967296*r<U by omega);have e3:=bF (show 4294967296*r+v0<U by omega);refine go 2 ?_;refine Fg (Ci J J J) J J<|go 1 ?_;refine Fg (Ci J J J) J J<|go 1 ?_;refine Fg (Bb J J J) J J<|go 4 ?_;refine Zb J (λp=>?_) (λp=>?_)
       .rw [e1,e2,e3]at p;refine go 4 ?_;have b:=Zin O j I ht O;have c:=b.1;refine go 2 ?_;refine dt (Zdt (n:=1) J J J)<|go 4 ?_;refine Zr (Lz 18 (v':= .int .u64 ((a-1:Nat):Int)) J (Za3 (Ztd c O)))<|go 3 ?_;refine dt (Bb J J J)<|go 4 ?_;refine Zr (Lz 16 (v':= .int .u64 ((r+d:Nat):Int)) J (Za3 (bF O)))<|go 5<|Zb J (λF=>?_) (λF=>?_)
        .refine go 4 ?_;have z:Q0=a-1:=by rw [k,e];exact(Zfx O f b.2 O O).symm
         exact Fb () aA ⟨by rw [z];rfl,aA⟩ aA
        .refine go 2 ?_;exact Yi (a-1,r+d) ⟨b.2,by dsimp only;omega⟩ O1 K2 aA
       .rw [e1,e2,e3]at p;refine go 4 ?_;have z:Q0=a:=by rw [k,e];exact(Zpo O j O).symm
        exact Fb () aA ⟨by rw [z];rfl,aA⟩ aA
     .rintro _ -;refine go 3 ?_;refine dt (Ci J J J)<|go 1 ?_;refine dt (Bb J J J)<|go 1 ?_;refine dt (Ci J J J)<|go 1 ?_;refine dt (Bb J J J)<|go 2 ?_;refine dt (Ci J J J)<|dt (Zdt J J J (by first|exact bI _ Xo|omega))<|go 1 ?_;refine dt (Zl0 J J J J)<|go 5 ?_;have hA:(Q1*4294967296%U+Q0)%U=(h*U+l)/y:=by rw [<-Zmd _ y s,<-hD,<-g,a6];simp only [U];omega
      have hB:((t*4294967296%U+v0)%U+(U-(Q0*Y)%U))%U/2^s=(h*U+l)%y:=by rw [<-Zmc _ y s,<-hD,<-g,a7,k,Zy0 R V]
      exact Nq a8 () results224 (by rw [hA,hB]) aA Za
theorem Yav{x d:Nat}(u:bl x<=8589934592)(f:0<d)(g:d<U):Cal prog 222 #[v,.int .u64 (d:Int)] [Ej v x] false (G:=Value) (λr=>True) (λr=> .tuple #[r,.int .u64 ((x%d:Nat):Int)]) (λr=>[Ej r (x/d)]):=by
 refine Zd func222 ntmps222 λB z j i=>?_;have p:=Nr x;refine go 10 ?_;refine tt (Em 2 ((dg U x).length) 8 (enc:=Ma) 0 J J J J Pi ti87 J pU.cells pU.pos J J J j.h) (λv _=>?_);refine go 18 ⟨O,?_⟩;refine lp (G:=Nat×List Nat×Nat) [0,1,6] [0,1] (λq=>[(8,.int .i64 ((q.1:Int)-1)),(7,.int .u64 (q.2.2:Int))]) (λq=>[(2,Ox 1 87 Ma v q.2.1)]) (λq=>(q.1<=(dg U x).length)/\(q.2.1.length=(dg U x).length)/\(q.2.2<d)/\(∀d∈q.2.1,d<U)/\(val U (q.2.1.drop q.1)*d+q.2.2=val U ((dg U x).drop q.1))) (λq=>q.1) ((dg U x).length,List.replicate (dg U x).length 0,0) ⟨aG _,O6,O1,Mz Xo,by simp [val]⟩ K2 K1 ?_;rintro⟨k,o,r⟩ ⟨l,h,c,a,e⟩;dsimp only at l h c a e;dsimp only;refine go 7<|Zb J (λb=>?_) (λb=>?_)
 .refine go 10 ?_;refine dt (Yn 1 (k-1) J J J J Zi Pi Ei)<|go 2 ⟨O2,?_⟩;refine cl 2 [] (Zt0 (Ph Xo (Gl Xj _) _) g c) λ_ _=>go 3 ?_;refine dt (Yn 2 (k-1) J J J J (Yj pU) Pi Ei)<|tt (Lj 2 (enc:=Ma) J J J J J J pU J j.h O3 O2) (λ_ _=>?_);refine go 9 ⟨O,?_⟩;exact Yi (k-1,_,_) ⟨O1,O9,bI _ f,Ih a _ _ (Zs5 (Ph Xo (Gl Xj x) _) c),Zul f O O (by rw [show k-1+1=k by omega];exact e)⟩ O1 ⟨by rw [show(((k-1:Nat):Int)-1)=(k:Int)-1-1 by omega];rfl,rfl,aA⟩ K1
 .refine go 8 ?_;refine cl 2 [2] Ps λ_ _=>?_;refine Oz (Zjl 2 J J pU)<|go 6 ?_;obtain rfl:k=0:=O;rw [jP,jP,Gg Xj]at e;have n:tz o=dg U (x/d):=by rw [<-Ch Xj _ a,<-e,bT,iE f,dP c,fX]
  have m:r=x%d:=by rw [<-e,bT,iY,bF c]
  exact Nq i _ results222 (by rw [m]) aA (gow 2 Za n)
theorem Zoo{x s:Nat}(Y:bl x<=4294967296:=by omega)(hs:s<=4294967296:=by omega):Cal prog 223 #[v,.int .i64 (s:Int)] [Ej v x] false (G:=Value) (λr=>True) (λr=>r) (λr=>[Ej r (x*2^s)]):=by
 refine Zd func223 ntmps223 λw0 Z M D=>?_;obtain⟨w,V⟩:∃w,w=s/64:=⟨_,rfl⟩;obtain⟨b,R⟩:∃b,b=s%64:=⟨_,rfl⟩;have W:=Nr x;refine go 13<|Zb J (λm=>?_) (λm=>?_)
 .refine go 7<|Xd (Hb 9 1 87 Ma) ?_;have N:x=0:=(Np Xj x).1 O;exact Yw D (.slice none 0 0) results223 J aA (gow 9 Za (by rw [N,gR];rfl))
 .refine go 5 ?_;refine dt (Zk4 J J J O O O)<|go 1 ?_;refine dt (Kb J J J O O)<|go 5 ?_;refine Zr (Lz 5 (v':= .int .i64 (w:Int)) J (by congr 1;omega))<|Zr (Lz 6 (v':= .int .i64 (b:Int)) J (by congr 1;omega))<|go 6 ⟨O,O,?_⟩;refine tt (Em 2 ((dg U x).length+w+1) 8 (enc:=Ma) 0 J J J J Pi ti87 J pU.cells pU.pos J J J M.h) λv _=>go 12 ?_;refine lp (G:=Nat×List Nat) [5,6,7,23,24] [0,1] (λq=>[(25,.int .i64 (q.1:Int))]) (λq=>[(2,Ox 1 87 Ma v q.2)]) (λq=>(q.1<=(dg U x).length)/\(q.2.length=(dg U x).length+w+1)/\(q.2.getD (w+q.1) 0<2^b)/\(∀j,w+q.1<j->q.2.getD j 0=0)/\(∀d∈q.2,d<U)/\(val U (q.2.take ((dg U x).length+w+1))=val U ((dg U x).take q.1)*2^b*U^w)) (λq=>(dg U x).length-q.1) (0,List.replicate ((dg U x).length+w+1) 0) ⟨O1,O6,by rw [Fw];exact dJ b,λj _=>Fw _ j,Mz Xo,by rw [lD,Dh];simp [val]⟩ K1 K1 ?_;rintro⟨i,o⟩ ⟨hi,B,Q,l,a,H⟩;dsimp only at hi B Q l a H;dsimp only;have F:i<(dg U x).length->_:=λS=>Ydc (xs:=dg U x) (show b<=63 by omega) B.symm (show w+i+1<_ by omega) Q (l (w+i+1) O) (Ph Xo (Gl Xj x) i) H;refine go 6<|Zb J (λp=>?_) (λp=>?_)
  .refine go 14 ⟨O2,O2,?_⟩;have f:=Ph Xo (Gl Xj x) i;refine Pe (λ_=>False) [(0,0),(1,0),(2,0),(3,0),(4,0),(5,0),(6,0),(7,0),(8,0),(9,0),(10,0),(11,3)]<|go 4 ⟨O,?_⟩;refine Qb J J (Pp (Yn 2 (w+i) J J J J (Yj pU) Pi Ei))<|go 3 ⟨O2,?_⟩;refine Qb J J (Pp (Zl1 J J (n:=b) J J))<|Qb J J (Pp (Yjl J J J (Ph Xo a _) (bI _ Xo)))<|Qb J J (Pp (Yn 2 (w+i) J J J J (Yj pU) Pi Ei))<|r3' J (Lj 2 (enc:=Ma) J J J J J J pU J M.h O3 O2) λ_ _=>go 8 ?_;refine Zb J (λu=>?_) (λu=>?_)
   .have c:=Ih (Ih a (w+i) (o.getD (w+i) 0 ||| (dg U x).getD i 0*2^b%U) (iL (n:=64) (Ph Xo a _) (bI _ Xo))) (w+i+1) ((dg U x).getD i 0/2^(64-b)) (aW (eV _ _) f);have g:((o.set (w+i) (o.getD (w+i) 0 ||| (dg U x).getD i 0*2^b%U)).set (w+i+1) ((dg U x).getD i 0/2^(64-b))).getD (w+i+1) 0<2^b:=by rw [Ny O9,aN rfl];exact Zek O f
    have k:∀j,w+i+1<j->((o.set (w+i) (o.getD (w+i) 0 ||| (dg U x).getD i 0*2^b%U)).set (w+i+1) ((dg U x).getD i 0/2^(64-b))).getD j 0=0:=λj z=>by rw [Ny O9,aJ O,Ny O,aJ O];exact l j O
    have e:=F O;refine go 9 ⟨O,O,O,?_⟩;refine dt (Zl0 J J (n:=64-b) J O)<|dt (Yn 2 (w+i+1) J J J J (Yj pU) Pi Ei O (by simp only [bZ];omega))<|tt (Lj 2 (enc:=Ma) J J J J J J pU J M.h O3 (by simp only [bZ];omega)) (λ_ _=>?_);refine go 7 ⟨O,?_⟩;exact Yi (i+1,_) ⟨O1,O9,by dsimp only;rw [show w+(i+1)=w+i+1 by omega];exact g,λj z=>by have I:w+(i+1)<j:=z;dsimp only;exact k j O,c,e⟩ O1 K1 K1
   .obtain rfl:b=0:=O;have c:=Ih a (w+i) (o.getD (w+i) 0 ||| (dg U x).getD i 0*2^0%U) (iL (n:=64) (Ph Xo a _) (bI _ Xo));have g:(o.set (w+i) (o.getD (w+i) 0 ||| (dg U x).getD i 0*2^0%U)).getD (w+i+1) 0<2^0:=by rw [Ny O,aJ O,l _ O];exact dJ 0
    have k:∀j,w+i+1<j->(o.set (w+i) (o.getD (w+i) 0 ||| (dg U x).getD i 0*2^0%U)).getD j 0=0:=λj z=>by rw [Ny O,aJ O];exact l j O
    have e:=F O;rw [show(dg U x).getD i 0/2^(64-0)=0 from dP f]at e;have h:=Zlq (o.set (w+i) (o.getD (w+i) 0 ||| (dg U x).getD i 0*2^0%U)) (w+i+1) (by rw [Ny O,aJ O,l _ O]);rw [h]at e;refine go 7 ⟨O,?_⟩;exact Yi (i+1,_) ⟨O1,O9,by dsimp only;rw [show w+(i+1)=w+i+1 by omega];exact g,λj z=>by have I:w+(i+1)<j:=z;dsimp only;exact k j O,c,e⟩ O1 K1 K1
  .refine go 8 ?_;refine cl 2 [2] Ps λ_ _=>?_;refine Oz (Zjl 2 J J pU)<|go 4 ?_;obtain rfl:i=(dg U x).length:=O;have P:tz o=dg U (x*2^s):=by rw [<-Ch Xj _ a];congr 1;rw [Kx U o O,cK (aG _),Gg Xj,Zcy,eQ,<-bL,show b+64*w=s by omega]at H;exact H
   exact Yw D _ results223 J aA (gow 2 Za P)
theorem Yla{x s:Nat}(S:bl x<=8589934592)(hs:s<=8589934592):Cal prog 225 #[v,.int .i64 (s:Int)] [Ej v x] false (G:=Value) (λr=>True) (λr=>r) (λr=>[Ej r (x/2^s)]):=by
 refine Zd func225 ntmps225 λW V H F=>?_;obtain⟨w,m⟩:∃w,w=s/64:=⟨_,rfl⟩;obtain⟨b,k⟩:∃b,b=s%64:=⟨_,rfl⟩;have R:=Nr x;have P:((dg U x).drop w).length=(dg U x).length-w:=iS;refine go 8 ?_;refine dt (Zk4 J J J O O O)<|go 1 ?_;refine dt (Kb J J J O O)<|go 6 ?_;refine Zr (Lz 5 (v':= .int .i64 (w:Int)) J (by congr 1;omega))<|Zr (Lz 6 (v':= .int .i64 (b:Int)) J (by congr 1;omega))<|go 7<|Zb J (λz=>?_) (λz=>?_)
 .refine go 7<|Xd (Hb 9 1 87 Ma) ?_;have I:x/2^s=0:=by rw [Zak m k,dP ((Xx Xj w x).1 O),Nat.zero_div]
  exact Yw F (.slice none 0 0) results225 J aA (gow 9 Za (by rw [I];rfl))
 .refine go 6 ?_;refine dt (d_suf 1 w J J J J Zi Pi Ei O)<|Oz (s_suf 1 2 w J J)<|tt (Zh1 3 (Ybp (by simp only [iS];omega)) J J J K1 call246 (Yb 2 J J J Zq) J H.h) λv _=>go 3 ?_;refine jn (G:=List Nat) [7] [0,1,2] (λo=>[]) (λo=>[(3,Ox 1 87 Ma v o)]) (λo=>(o.length=(dg U x).length-w)/\(∀j,j<o.length->o.getD j 0=x/2^s/U^j%U)) ?_ ?_
  .refine go 6<|Zb J (λB=>?_) (λB=>?_)
   .refine go 8 ?_;refine lp (G:=Nat×List Nat) [0,5,6,7,24] [0,1,2] (λq=>[(25,.int .i64 (q.1:Int))]) (λq=>[(3,Ox 1 87 Ma v q.2)]) (λq=>(q.1<=(dg U x).length-w)/\(q.2.length=(dg U x).length-w)/\(∀j,j<q.1->q.2.getD j 0=x/2^s/U^j%U)/\(∀j,q.1<=j->q.2.getD j 0=x/U^w/U^j%U)/\(∀d∈q.2,d<U)) (λq=>(dg U x).length-w-q.1) (0,(dg U x).drop w) ⟨bG _,O6,λj f=>absurd f (bH j),λj _=>Zy3 x w j,λd N=>Gl Xj x d (kU N)⟩ K1 K1 ?_;rintro⟨i,o⟩ ⟨hi,u,p,l,a⟩;dsimp only at hi u p l a;dsimp only;refine go 6<|Zb J (λD=>?_) (λD=>?_)
    .refine go 17 ⟨O2,O2,?_⟩;refine dt (Zl0 J J (n:=b) J J)<|go 1 ⟨O2,?_⟩;refine tt (Lj 3 (enc:=Ma) J J J J J J pU J H.h O3 O2) (λ_ _=>?_);refine go 11 ⟨O,?_⟩;refine Zb J (λg=>?_) (λg=>?_)
     .simp only [bZ]at g;have c:∀j,((o.set i (o.getD i 0/2^b)).set i ((o.set i (o.getD i 0/2^b)).getD i 0 ||| ((dg U x).getD (w+i+1) 0*2^(64-b))%U)).getD j 0=if i=j then x/2^s/U^i%U else o.getD j 0:=λj=>by
       rw [Ny O9,Ny O,Ny O];split
       .rw [aN rfl,l i (aG _),Gu Xj,Zak m k,Zs7,show x/U^(w+i+1)=x/U^w/U^i/U by rw [aR,aR,<-dC,<-bL];rfl,Zq5 _ _ O]
       .rfl
      have h:=Ih (Ih a i (o.getD i 0/2^b) (aW (eV _ _) (Ph Xo a _))) i ((o.set i (o.getD i 0/2^b)).getD i 0 ||| ((dg U x).getD (w+i+1) 0*2^(64-b))%U) (iL (n:=64) (Ph Xo (Ih a _ _ (aW (eV _ _) (Ph Xo a _))) _) (bI _ Xo));refine Pe (λ_=>False) [(0,0),(1,0),(2,0),(3,0),(4,0),(5,0),(6,0),(7,0),(8,0),(9,0),(10,0),(11,0),(12,0),(13,0),(14,0),(15,0),(16,3)]<|go 9 ⟨O2,O2,O,O,?_⟩;refine Qb J J (Pp (Yn 1 (w+i+1) J J J J Zi Pi Ei O O2))<|go 3 ⟨O2,O,?_⟩;refine Qb J J (Pp (Zl1 J J (n:=64-b) J O))<|Qb J J (Pp (Yjl J J J (Ph Xo (Ih a _ _ (aW (eV _ _) (Ph Xo a _))) _) (bI _ Xo)))<|go 1 ⟨O2,?_⟩;refine r3' J (Lj 3 (enc:=Ma) J J J J J J pU J H.h O3 O2) (λ_ _=>?_);refine go 7 ⟨O,?_⟩;exact Yi (i+1,_) ⟨O1,O9,λj f=>by dsimp only;rw [c j];split;(· rename_i e;rw [<-e]);exact p j (by have:j<i+1:=f;omega),λj f=>by dsimp only;rw [c j,aJ (by have:i+1<=j:=f;omega)];exact l j (by have:i+1<=j:=f;omega),h⟩ O1 K1 K1
     .have c:∀j,(o.set i (o.getD i 0/2^b)).getD j 0=if i=j then x/2^s/U^i%U else o.getD j 0:=λj=>by
       rw [Ny O];split
       .rw [l i (aG _),Zak m k,Zs7,Yai O];rw [aR,<-dC];exact dP (Zyd (by simp only [bZ]at g;omega))
       .rfl
      have h:=Ih a i (o.getD i 0/2^b) (aW (eV _ _) (Ph Xo a _));refine go 7 ⟨O,?_⟩;exact Yi (i+1,_) ⟨O1,O9,λj f=>by dsimp only;rw [c j];split;(· rename_i e;rw [<-e]);exact p j (by have:j<i+1:=f;omega),λj f=>by dsimp only;rw [c j,aJ (by have:i+1<=j:=f;omega)];exact l j (by have:i+1<=j:=f;omega),h⟩ O1 K1 K1
    .refine go 4 ?_;exact Fb _ ⟨O,by intro j f;rw [p j O]⟩ aA K1
   .refine go 1 ?_;exact Fb _ ⟨O6,by intro j f;rw [Zy3,Zak m k,show b=0 by omega,jC,Nat.div_one]⟩ aA K1
  .rintro o ⟨u,Q⟩;refine go 3 ?_;refine cl 3 [3] Ps λ_ _=>?_;refine Oz (Zjl 3 J J pU)<|go 4 ?_;have M:tz o=dg U (x/2^s):=Zug Xj Q (by rw [u,Zak m k];exact aW (eV _ _) (Zyd O));exact Yw F _ results225 J aA (gow 3 Za M)
theorem Zmq{x:Nat}(z:bl x<=4294967296:=by omega):Xl prog 186 #[v] [Ej v x] (.string (Xm x)):=by
 refine Zd func186 ntmps186 λD B h g=>?_;have u:=Nr x;have p:=Zu8 x;have r:=lenU x;have m:(List.replicate (dg 256 x).length (0:Nat)).length=(dg 256 x).length:=aT;refine go 8 ?_;refine cl 1 [1] Zj7 λ_ _=>?_;refine go 1 ⟨O,?_⟩;refine dt (Zk4 J J J O O O)<|tt (Em 2 ((dg 256 x).length) 1 (enc:=Ybg) 0 J J J J uT259 ti5 J pB.cells pB.pos J J J h.h) λv _=>go 12 ?_;refine lp (G:=Nat×List Nat) [0,3,12] [0,1] (λq=>[(13,.int .i64 (q.1:Int))]) (λq=>[(2,Ox 1 5 Ybg v q.2)]) (λq=>(q.1<=(dg 256 x).length)/\(q.2.length=(dg 256 x).length)/\(∀j,j<q.1->q.2.getD j 0=x/256^((dg 256 x).length-1-j)%256)) (λq=>(dg 256 x).length-q.1) (0,List.replicate (dg 256 x).length 0) ⟨O1,O6,λj d=>absurd d (bH j)⟩ K1 K1 ?_;rintro⟨i,o⟩ ⟨hi,f,b⟩;dsimp only at hi f b;dsimp only;refine go 6<|Zb J (λc=>?_) (λc=>?_)
 .refine go 20 ⟨O,O,?_⟩;refine Zr (Lz 5 (v':= .int .i64 (((dg 256 x).length-1-i:Nat):Int)) J (by congr 1;omega)) ?_;have a:=Zp5 x ((dg 256 x).length-1-i);rw [<-Gu Xj]at a;refine go 5 ?_;refine dt (Zk4 J J J O O O)<|dt (Yn 1 (((dg 256 x).length-1-i)/8) J J J J Zi Pi Ei)<|go 2 ⟨O,?_⟩;refine dt (Kb J J J O O)<|go 1 ⟨O,?_⟩;refine dt (Zl0 J J (n:=((dg 256 x).length-1-i)%8*8) J O)<|dt (Zf2 J J Zgd uT5)<|go 1 ⟨O2,?_⟩;refine tt (Lj 2 (enc:=Ybg) J J J J J J pB J h.h O3 O2) (λ_ _=>?_);refine go 7 ⟨O,?_⟩;exact Yi (i+1,_) ⟨O1,O9,λj d=>by dsimp only;rw [Ny O];split;(· rename_i e;rw [<-e];exact a);exact b j O⟩ O1 K1 K1
 .refine go 8 ?_;refine dt (d_b2s J J (i:=2) J (Yj pB) uT259 uT9 uT5)<|go 4 ?_;have k:Xm x=⟨(o.map UInt8.ofNat).toArray⟩:=by
   have l:o=(dg 256 x).reverse:=by refine Zei O9 (λj d=>?_);rw [b j O,Zo3 O,Gu O]
   rw [l];rfl
  exact Yw g () results186 (by rw [k]) aA Za
theorem Zc2{x:Nat}(H:bl x<=4294967296:=by omega):Cal prog 166 #[.string (Xm x)] [] false (G:=Value) (λr=>True) (λr=>r) (λr=>[Ej r x]):=by
 refine Zd func166 ntmps166 λM I b m=>?_;have F:=Nr x;have B:=Zu8 x;have D:=lenU x;have p:=Ff x;refine go 10 ⟨O,?_⟩;refine dt (Zk4 J J J O O O)<|tt (Em 1 ((dg U x).length) 8 (enc:=Ma) 0 J J J J Pi ti87 J pU.cells pU.pos J J J b.h) λv _=>go 12 ?_;refine lp (G:=Nat×List Nat) [0,3,12] [0] (λq=>[(13,.int .i64 (q.1:Int))]) (λq=>[(1,Ox 1 87 Ma v q.2)]) (λq=>(q.1<=(dg 256 x).length)/\(q.2.length=(dg U x).length)/\(∀w,w<q.2.length->q.2.getD w 0=hi x ((dg 256 x).length-q.1) w)) (λq=>(dg 256 x).length-q.1) (0,List.replicate (dg U x).length 0) ⟨O1,O6,λw b=>by dsimp only at *;rw [aT]at b;rw [Fw,hi_top O]⟩ K1 K1 ?_;rintro⟨i,o⟩ ⟨l,f,a⟩;dsimp only at l f a;dsimp only;refine go 6<|Zb J (λk=>?_) (λk=>?_)
 .refine go 20 ⟨O,O,?_⟩;refine Zr (Lz 5 (v':= .int .i64 (((dg 256 x).length-1-i:Nat):Int)) J (by congr 1;omega)) ?_;have c:=Zty x i O;have h:=a (((dg 256 x).length-1-i)/8) O;have d:o.getD (((dg 256 x).length-1-i)/8) 0<U:=by rw [h];exact bI _ Xo
  have g:∀w,w<o.length->(o.set (((dg 256 x).length-1-i)/8) (o.getD (((dg 256 x).length-1-i)/8) 0 ||| (((Xm x).data.toList.getD i 0).toNat*2^(((dg 256 x).length-1-i)%8*8))%U)).getD w 0=hi x ((dg 256 x).length-(i+1)) w:=λw b=>by
   rw [c,h,show(dg 256 x).length-i=(dg 256 x).length-1-i+1 by omega,Ylv,Ny O,show(dg 256 x).length-(i+1)=(dg 256 x).length-1-i by omega];split
   .rename_i e;rw [e]
   .rename_i e;rw [a w b,show(dg 256 x).length-i=(dg 256 x).length-1-i+1 by omega];exact Yfq e
  refine Pe (λ_=>False) [(0,0),(1,0),(2,0),(3,0),(4,0),(5,0),(6,0),(7,0),(8,0),(9,0),(10,0),(11,0),(12,0),(13,0),(14,0),(15,3)]<|go 2 ?_;refine Qb J J (Pp (Zk4 J J J O O O))<|Qb J J (Pp (Yn 1 (((dg 256 x).length-1-i)/8) J J J J (Yj pU) Pi Ei))<|go 3 ⟨O2,?_⟩;refine Qb J J (Pp (Yha J J J uT9 J O))<|Qb J J (Pp (Zvy J J uT5 Zgd (by have:=(((Xm x).data.toList.getD i 0).toNat_lt);simp only [U];omega)))<|go 1 ?_;refine Qb J J (Pp (Kb J J J O O))<|go 1 ⟨O,?_⟩;refine Qb J J (Pp (Zl1 J J (n:=((dg 256 x).length-1-i)%8*8) J O))<|Qb J J (Pp (Yjl J J J d (bI _ Xo)))<|Qb J J (Pp (Yn 1 (((dg 256 x).length-1-i)/8) J J J J (Yj pU) Pi Ei))<|r3' J (Lj 1 (enc:=Ma) J J J J J J pU J b.h O3 O2) (λ_ _=>?_);refine go 7 ⟨O,?_⟩;exact Yi (i+1,_) ⟨O1,O9,λw b=>g w (by simpa using b)⟩ O1 K1 K1
 .refine go 12 ?_;have z:o=dg U x:=Zei f (λj u=>by rw [a j u,Gu Xj,hi_ge O]);exact Yw m _ results166 J aA (gow 1 Za z)
theorem Zx4{x:Nat}(hx:bl x<=4000000000)(e2:bl y<=4000000000)(hy:0<y):Cal prog 196 #[v,w] [Ej v x,Ej w y] true (G:=Value×Value) (λr=>True) (λr=> .tuple #[r.1,r.2]) (λr=>[Ej r.1 (x/y),Ej r.2 (x%y)]):=by
 refine Zd func196 ntmps196 λw0 sc p S=>?_;have hX:=Nr x;have hY:=Nr y;refine go 11 ?_;refine cl 2 [1,2] (Zcd O O) λr hr=>go 3<|Zb J (λW=>?_) (λW=>?_)
 .have o:x<y:=hr.1.1 O;refine go 9<|Xd (Hb 9 1 87 Ma) ?_;exact Nq S (.slice none 0 0,v) results196 J aA (gow 9 (Lx 1 Za (by rw [bF o])) (by rw [dP o];rfl))
 .have c6:y<=x:=by have:=hr.1;omega
  have e1:=Lh c6;refine go 10<|Zb J (λY=>?_) (λY=>?_)
  .have V:y<U:=by have:=(Xx Xj 1 y).1 O;simpa using this
   have m:(dg U y).getD 0 0=y:=by rw [Gu Xj];simp [bF V]
   refine go 6 ⟨O,O2,?_⟩;refine cl 3 [1] (Yav O (by rw [m];exact hy) (by rw [m];exact V)) λv _=>go 11 ?_;refine tt (Od [(0,_)] 4 (enc:=Ma) [x%(dg U y).getD 0 0] J J K2 Pi ti87 J J J J J pU.cells J J p.h) λe4 _=>cl 4 [4] Ps λ_ _=>?_;refine Oz (Zjl 4 J J pU)<|go 6 ?_;exact Nq S (_,_) results196 J aA (Lx 3 (gow 4 Za (by rw [Zge (jG (bI _ (by rw [m];exact hy)) (by rw [m];exact V)),m])) (by rw [m]<;>rfl))
  .refine go 3 ?_;obtain⟨k,hk⟩:∃k,k=(dg U y).length:=⟨_,rfl⟩;have e0:k<=(dg U x).length:=O;obtain⟨b,hb⟩:∃b,b=64-bl ((dg U y).getD (k-1) 0):=⟨_,rfl⟩;obtain⟨b4,_,b3,a4,b1,H⟩:=Yk7 hy hk hb;obtain⟨D,c⟩:∃D,D=y*2^b:=⟨_,rfl⟩;have c7:(dg U D).length=k:=by rw [c];exact b4
   have a3:D<U^k:=by rw [c];exact a4
   have a2:U^(k-1)*9223372036854775808<=D:=by rw [c];exact H
   have l:0<D:=by rw [c];exact gK hy (dJ b)
   have d9:bl D<=4000000064:=by rw [c,Zwf hy];omega
   refine go 5 ⟨O,?_⟩;refine dt (Yn 2 ((dg U y).length-1) J J J J Zi Pi Ei)<|go 1 ⟨O2,?_⟩;refine cl 4 [] (Zqb (Ph Xo (Gl Xj y) _)) λ_ _=>?_;refine Oz (Lz 44 (v':= .int .i64 (b:Int)) J (by rw [hb,hk]))<|go 3 ?_;refine jn (G:=Value×Value) [0,8] [0,1,2] (λq=>[(9,q.1),(10,q.2)]) (λq=>[(81,Ej q.1 D),(82,Ox 1 87 Ma q.2 (List.replicate ((dg U x).length+1) 0))]) (λq=>True) ?_ ?_
   .refine Aw (λ_=>False) [8]<|Zv 4 [(0,0),(1,0),(3,0),(4,0),(5,0)]<|go 6 ⟨O,?_⟩;refine Nj 3 2 6 ?_ ?_
    .refine Iw (Zw 81 [2] Zoo) λe5 _=>?_;refine Zv 0 [(7,0),(6,1),(8,3)]<|go 1 ?_;refine Bh J (Em 82 ((dg U x).length+1) 8 (enc:=Ma) 0 J J J J Pi ti87 J pU.cells pU.pos J J J p.h) λe6 _=>go 2 ?_;exact Yq<|Fb (_,_) aA K2 ⟨by rw [c];rfl,rfl,aA⟩
    .refine Zab J J (Em 82 ((dg U x).length+1) 8 (enc:=Ma) 0 J J J J Pi ti87 J pU.cells pU.pos J J J p.h) (λe7 _=>?_);refine Zv 0 [(2,1),(7,0),(8,3)]<|Ql (Zw 81 [2] Zoo) λe8 _=>go 3 ?_;exact Yq<|Fb (_,_) aA K2 ⟨by rw [c];rfl,rfl,aA⟩
   .rintro⟨vd,vr⟩ -;dsimp only;refine go 1 ?_;have c9:(dg U (x*2^b)).length<=(dg U x).length+1:=(Xx Xj _ _).2 (by rw [dC];exact gN ((Xx Xj _ x).1 (aG _)) (by rw [Yit];exact cQ O O) Xo);refine go 4 ?_;refine cl 5 [1] Zoo λe9 _=>?_;refine tt (t_cpy 82 5 0 J J J J J J O3 J Zi Yg1 (by rw [aT];exact c9) (by rw [aT];omega) (by rw [aT];omega) Pi pU J p.h) λ_ _=>go 3 ?_;have a6:(spl (List.replicate ((dg U x).length+1) 0) 0 (dg U (x*2^b))).length=(dg U x).length+1:=by rw [Ib _ _ _ (by rw [aT];omega),aT]
    refine go 7 ?_;have d4:(List.replicate ((dg U x).length+1-k) (0:Nat)).length=(dg U x).length+1-k:=aT;refine Zr (Lz 11 (v':= .int .i64 (k:Int)) J (by rw [c7]))<|go 5 ⟨O,?_⟩;refine tt (Em 6 ((dg U x).length+1-k) 8 (enc:=Ma) 0 J J J J Pi ti87 J pU.cells pU.pos J J J p.h) (λd3 _=>?_);refine go 13 ⟨O,?_⟩;refine lp (G:=Nat×List Nat×List Nat) [8,9,10,11,12] [0,81,1,2,5] (λq=>[(13,.int .i64 ((q.1:Int)-1))]) (λq=>[(82,Ox 1 87 Ma vr q.2.1),(6,Ox 1 87 Ma d3 q.2.2)]) (λq=>(q.1<=(dg U x).length+1-k)/\(q.2.1.length=(dg U x).length+1)/\(∀d∈q.2.1,d<U)/\(q.2.2.length=(dg U x).length+1-k)/\(∀d∈q.2.2,d<U)/\(val U q.2.1<D*U^q.1)/\(val U (q.2.2.drop q.1)*U^q.1*D+val U q.2.1=x*2^b)) (λq=>q.1) ((dg U x).length+1-k,spl (List.replicate ((dg U x).length+1) 0) 0 (dg U (x*2^b)),List.replicate ((dg U x).length+1-k) 0) ⟨aG _,a6,Zqf (Mz Xo) (Gl Xj _) 0,O6,Mz Xo,by rw [Zqq,Gg Xj];exact Yg5 ((Xx Xj _ x).1 (aG _)) b1 b3 O a2,by rw [Zqq,Gg Xj];simp [val]⟩ ⟨by rw [aT];rfl,aA⟩ K2 ?_;rintro⟨a,R,q⟩ ⟨hj,a7,e,d0,Q,M,hN⟩;dsimp only at hj a7 e d0 Q M hN;dsimp only;refine go 7<|Zb J (λZ=>?_) (λZ=>?_)
    .refine go 5 ?_;have P:val U R<U^(a-1+k+1):=by refine cZ M ?_;rw [show a-1+k+1=k+a by omega,bL];exact aP _ (dS a3)
     have u:tz ((R.drop (a-1)).take (a-1+k+1-(a-1)))=dg U (val U R/U^(a-1)):=Yjc e O (by rw [show a-1+(a-1+k+1-(a-1))=a-1+k+1 by omega];exact P);have a9:val U R/U^(a-1)<D*U:=by rw [bO (bR Xo),eQ,<-lE,show(a-1).succ=a by omega];exact M
     have b0:bl (val U R/U^(a-1))<=4294967296:=by have h1:=Lh (dS a9);have h2:=Zwg D U;have h3:bl U<=65:=(Qr 65 U).2 (by simp [U]);omega
     have b7:=Yjp e (j:=a-1) b3 P O;have b9:(dg U D).getD (k-1) 0*U^(k-1)<=D:=by rw [Gu Xj];exact aB (aP _ (Nat.mod_le _ _)) (Nat.div_mul_le_self _ _)
     have c2:val U R/U^(a-1)/D<=18446744073709551615:=by have:=(bO l).2 (show _<U*D by rw [bT];exact a9);simp only [U]at this ⊢;omega
     refine go 4 ?_;refine jn (G:=Nat) [8,9,10,11,12,13] [0,82,6,81,1,2,5] (λg=>[(14,.int .u64 (g:Int))]) (λg=>[]) (λg=>(val U R/U^(a-1)/D<=g)/\(g<U)) ?_ ?_
     .refine go 1<|Pe (λ_=>False) [(0,0),(1,0),(2,0),(3,0),(4,0),(5,0),(6,0),(7,0),(8,0),(9,0),(10,0),(11,0)]<|go 4 ⟨O,?_⟩;refine Qb J J (Pp (Yn 82 (a-1+k) J J J J (Yj pU) Pi Ei))<|go 4 ⟨O2,O,?_⟩;refine Qb J J (Pp (Yn 81 (k-1) J J J J Zi Pi Ei))<|go 4 ⟨O2,?_⟩;refine Zb J (λa0=>?_) (λa0=>?_)
      .refine Pe (λ_=>False) [(0,0),(1,0),(2,0),(3,0),(4,0),(5,0),(6,0),(7,0),(8,0),(9,0),(10,0),(11,0),(12,0),(13,0),(14,0),(15,0),(16,0),(17,0),(18,1),(19,0),(20,0),(21,0),(22,0)]<|go 4 ⟨O,?_⟩;refine Qb J J (Pp (Yn 82 (a-1+k) J J J J (Yj pU) Pi Ei))<|go 6 ⟨O2,O,O,?_⟩;refine Qb J J (Pp (Yn 82 (a-1+k-1) J J J J (Yj pU) Pi Ei))<|go 4 ⟨O2,O,?_⟩;refine Qb J J (Pp (Yn 81 (k-1) J J J J Zi Pi Ei))<|go 1 ⟨O2,?_⟩;refine Ql (Zw 6 [] (Zt0 (Ph Xo e _) (Ph Xo (Gl Xj _) _) O)) λ_ _=>go 5 ?_;exact Fb _ ⟨Yfs b9 O b7,Zs5 (Ph Xo e _) O⟩ K1 aA
      .refine go 1 ?_;exact Fb 18446744073709551615 ⟨c2,O3⟩ K1 aA
     .rintro g ⟨hg,f⟩;refine go 8 ⟨O,O,?_⟩;refine dt (d_mid (ii:=82) (i:=a-1) (j:=a-1+k+1) J J J J J (Yj pU) Pi Ei O O O O)<|go 7 ?_;refine tt (Od [(0,_)] 7 (enc:=Ma) [g] J J K2 Pi ti87 J J J J J pU.cells J J p.h) λf0 _=>cl 7 [7] Ps λ_ _=>?_;refine Oz (Zjl 7 J J pU)<|Oz (Ydn 7 (Zge f) J J)<|cl 83 [81,7] (Zx3 O (aB ((Qr 64 g).2 f) O)) λd5 _=>go 5 ?_;refine lp (G:=Nat×Value) [8,9,10,11,12,13,15] [0,82,6,81,1,2,5,7] (λq=>[(14,.int .u64 (q.1:Int)),(16,q.2)]) (λq=>[(83,Ej q.2 (D*q.1))]) (λq=>(val U R/U^(a-1)/D<=q.1)/\(q.1<U)) (λq=>q.1) (g,_) ⟨O1,O1⟩ ⟨J,J,aA⟩ ⟨J,aA⟩ ?_;rintro⟨g,vp⟩ ⟨hg,f⟩;dsimp only at hg f;dsimp only;have a5:bl (D*g)<=4294967296:=by have h1:=Zwg D g;have h2:=(Qr 64 g).2 f;omega
      refine go 4 ?_;refine tt (Oi 7 Ps J J J K1 call150 (Zc4 82 J J pU (Zh8 (a-1) (a-1+k+1)) Ziq Zq) J p.h) λ_ _=>go 1 ?_;refine tt (Oi 7 (Zcd b0 a5) J J J K2 call154 (Zc4 82 J J pU (Yds u (by rw [u]) (Zh8 (a-1) (a-1+k+1))) (by rw [Gj];exact(Ziq)) (Yb 83 J J J Zq)) J p.h) λe3 B=>go 3 ?_;refine Zb J (λa1=>?_) (λa1=>?_)
      .have o:val U R/U^(a-1)<D*g:=B.1.1 O;have b2:1<=g:=by rcases aX g with h|h;(rw [h,Nat.mul_zero]at o;exact absurd o (bH _));exact h
       have b8:D<=D*g:=eC _ b2;have c3:val U R/U^(a-1)/D<=g-1:=by have:=(bO l).2 (show _<g*D by rw [bT];exact o);omega
       refine go 6 ?_;refine dt (Zdt (n:=1) J J J)<|go 3 ?_;refine Zr (Lz 14 (v':= .int .u64 ((g-1:Nat):Int)) J (Za3 (Ztd b2 f)))<|go 3 ?_;refine cl 8 [83,81] (Zfj a5 b8) λd6 _=>go 3<|Xd (Ka 8 83 J J J) ?_;exact Yi (g-1,_) ⟨c3,by dsimp only;omega⟩ O1 K2 ⟨by rw [Nat.mul_sub_one];rfl,aA⟩
      .refine go 6 ?_;have hQ:g=val U R/U^(a-1)/D:=by have h1:=B.1;have h2:D*g<=val U R/U^(a-1):=O;exact iW ((kN l).2 (by rw [bT];exact h2)) hg
       refine go 2 ?_;refine tt (Oi 8 Ps J J J K1 call150 (Zc4 82 J J pU (Zh8 (a-1) (a-1+k+1)) Ziq Zq) J p.h) λ_ _=>go 1 ?_;refine tt (Oi 9 (Zfj b0) J J J K2 call155 (Zc4 82 J J pU (Yds u (by rw [u]) (Zh8 (a-1) (a-1+k+1))) (by rw [Gj];exact(Ziq)) (Yb 83 J J J Zq)) J p.h) λd7 _=>go 4 ?_;have b5:(dg U (val U R/U^(a-1)-D*g)).length<=a-1+k+1-(a-1):=by
        have:val U R/U^(a-1)-D*g<D:=by rw [hQ];have h3:=dA (val U R/U^(a-1)) D;have h4:=bI (val U R/U^(a-1)) l;omega
        have:=(Xx Xj k _).2 (jG this a3);omega
       refine go 2 ?_;refine tt (t_clr (zv:= .bool false) (i:=82) (z:=0) (a-1) J J J J O3 (Zy1 O) O O Pi pU (λw=>zeroValue87 w) J J p.h) λ_ _=>go 6 ?_;refine tt (t_cpy 82 9 (a-1) J J J J J J O3 J Zi (Zy1 (by rw [Ib _ _ _ (by rw [aT];omega)];omega)) b5 (by rw [Ib _ _ _ (by rw [aT];omega)];omega) (by rw [Ib _ _ _ (by rw [aT];omega)];omega) Pi pU J p.h) λ_ _=>go 2 ?_;have c0:a-1+(List.replicate (a-1+k+1-(a-1)) 0).length<=R.length:=by rw [aT];omega
       have c8:=Ib R (a-1) _ c0;have c1:a-1+(dg U (val U R/U^(a-1)-D*g)).length<=(spl R (a-1) (List.replicate (a-1+k+1-(a-1)) 0)).length:=O;have F:=Yjk e (j:=a-1) (n:=a-1+k+1-(a-1)) O (by rw [show a-1+(a-1+k+1-(a-1))=a-1+k+1 by omega];exact P) b5;rw [Gg Xj]at F;have b6:=Yg4 (j:=a-1) (N:=x*2^b) (Vq:=val U (q.drop a)) l hQ (by rw [show a-1+1=a by omega];exact hN);have a8:=b6.1;have I:=b6.2;rw [<-F]at a8 I;have c5:val U ((q.set (a-1) g).drop (a-1))=g+U*val U (q.drop a):=by rw [drop_set O,show a-1+1=a by omega];rfl
       rw [<-c5]at I;refine go 4 ?_;refine dt (Yn 6 (a-1) J J J J (Yj pU) Pi Ei)<|tt (Lj 6 (enc:=Ma) J J J J J J pU J p.h O3 O2) (λ_ _=>?_);refine go 8 ⟨O,?_⟩;exact Yi (a-1,_,_) ⟨O1,(Ib _ _ _ c1).trans (c8.trans a7),Zqf (Zqf e (Mz Xo) _) (Gl Xj _) _,O9,Ih Q _ _ f,a8,I⟩ O1 ⟨by rw [show(((a-1:Nat):Int)-1)=(a:Int)-1-1 by omega];rfl,aA⟩ K2
    .refine go 6 ?_;obtain rfl:a=0:=O;rw [jC,kZ]at M;have c4:bl (val U R)<=8589934592:=by have:=Lh (dS M);omega
     refine go 2 ?_;refine cl 9 [6] Ps λ_ _=>?_;refine Oz (Zjl 6 J J pU)<|go 1 ?_;refine cl 9 [82] Ps λ_ _=>?_;refine Oz (Zjl 82 J J pU)<|Oz (Ydn 82 (Ch Xj R e).symm J J)<|go 1 ?_;refine cl 10 [82] (Yla c4 O) λd8 _=>go 5 ?_;rw [jP,jC,kZ]at hN;have d1:tz q=dg U (x/y):=by rw [<-Ch Xj _ Q,<-Zmd x y b,<-c,<-hN,bT,iE l,dP M,fX]
     have d2:val U R/2^b=x%y:=by rw [<-Zmc x y b,<-c,<-hN,bT,iY,bF M]
     exact Nq S (_,_) results196 J aA (gow 6 (Lx 10 Za (by rw [d2])) d1)
theorem Zop{x:Nat}(l:bl x<=4000000000:=by omega)(m:bl y<=4000000000:=by omega):Cal prog 184 #[v,w] [Ej v x,Ej w y] true (G:=Value) (λr=>True) (λr=>r) (λr=>[Ej r (Nat.gcd x y)]):=by
 refine Zd func184 ntmps184 λD u p j=>?_;have n:=Nr x;have o:=Nr y;refine go 7<|Zr (Ka 1 91 J J J)<|Zr (Ka 2 92 J J J) ?_;refine lp (G:=Value×Value×Nat×Nat) [] [0,1,2] (λq=>[(0,q.1),(1,q.2.1)]) (λq=>[(91,Ej q.1 q.2.2.1),(92,Ej q.2.1 q.2.2.2)]) (λq=>(Nat.gcd q.2.2.1 q.2.2.2=Nat.gcd x y)/\(bl q.2.2.1<=4000000000)/\(bl q.2.2.2<=4000000000)) (λq=>q.2.2.2) (v,w,x,y) ⟨J,l,m⟩ K2 K2 ?_;rintro⟨z,B,a,b⟩ ⟨i,k,f⟩;dsimp only at i k f;dsimp only;refine go 8<|Zb J (λd=>?_) (λd=>?_)
 .have c:0<b:=by rcases aX b with h|h;(subst h;simp [Fz]at d);exact h
  refine go 7 ?_;refine cl 3 [91,92] (Zx4 k f c) λg _=>go 14 ?_;have e:a%b<b:=bI _ c;exact Xd (Ka 92 91 J J J)<|Xd (Ka 4 92 J J J)<|Yi (_,_,b,a%b) ⟨by dsimp only;rw [<-i,Nat.gcd_comm b,<-Nat.gcd_rec,Nat.gcd_comm],f,aB (Lh (dS e)) f⟩ e K2 K2
 .have c:b=0:=(Np Xj b).1 O;refine go 12 ?_;exact Yw j _ results184 J aA (Lx 91 Za (by rw [<-i,c,Nat.gcd_zero_right]))
theorem Zoj(hs:sg s x):Cal prog 113 #[.agg #[.bool s,v]] [Ej v x.natAbs] true (G:=Bool×Value) (λr=>sg r.1 (-x)) (λr=> .agg #[.bool r.1,r.2]) (λr=>[Ej r.2 (-x).natAbs]):=by refine Zd func113 ntmps113 λg f e c=>go 2 ?_;refine Zx (Zs 2) λb _=>Zx (Zu 3) λd _=>go 9 ?_;refine dt (Xu [(0,_),(1,_)] J K4 (λa w hs=>Kh ((Zk J) a w hs) ((Oj 1 J Zi) a w hs)))<|go 4 ?_;exact Yw c (!s,v) results113 J (sg_neg hs) (Lx 1 Za (by rw [gP]))
theorem Zc9{y:Int}(hs:sg s x)(f:sg t y)(g:bl x.natAbs<=4294967296:=by omega)(h:bl y.natAbs<=4294967296:=by omega):Cal prog 152 #[.agg #[.bool s,v],.agg #[.bool t,w]] [Ej v x.natAbs,Ej w y.natAbs] true (G:=Bool×Value) (λr=>sg r.1 (x*y)) (λr=> .agg #[.bool r.1,r.2]) (λr=>[Ej r.2 (x*y).natAbs]):=by refine Zd func152 ntmps152 λk j i c=>go 2 ?_;refine Zx (Zs 3) λb _=>Zx (Zs 4) λd _=>Zx (Zu 5) λe _=>go 3<|Pe (λ_=>False) [(0,0),(1,0),(2,0),(3,0),(4,0),(5,0),(6,0),(7,0),(8,0),(9,1),(10,0),(11,3)]<|go 9<|Ql (Zw 6 [1,2] (Zx3 g h)) λv _=>?_;refine Qb J J (Pp (Xu [(0,_),(1,_)] J K4 (λa w hs=>Kh ((Zk J) a w hs) ((Oj 6 J Zi) a w hs))))<|go 4 ?_;exact Yw c (_,_) results152 J (sg_mul hs f) (Lx 6 Za (by rw [bQ]))
theorem Zj2(hs:sg s x)(g:bl x.natAbs<=4294967296:=by omega):Cal prog 114 #[.agg #[.bool s,v]] [Ej v x.natAbs] true (G:=Unit) (λ_=>True) (λ_=> .int .i64 x.sign) (λ_=>[]):=by
 refine Zd func114 ntmps114 λi h f d=>?_;have e:=Nr x.natAbs;refine go 2<|Zx (Zs 2) λb _=>go 14<|Zb J (λa=>?_) (λa=>?_)
 .refine go 8 ?_;exact Yw d () results114 (Yah a) aA Za
 .refine go 7<|Ym J (λc=>?_) (λc=>?_)
  .refine go 8 ?_;exact Yw d () results114 (Ydb hs c a) aA Za
  .refine go 9 ?_;exact Yw d () results114 (Yda hs c a) aA Za
theorem Zfi{y:Int}(hs:sg s x)(g:sg t y)(i:bl x.natAbs<=4294967296:=by omega)(j:bl y.natAbs<=4294967296:=by omega):Cal prog 112 #[.agg #[.bool s,v],.agg #[.bool t,w]] [Ej v x.natAbs,Ej w y.natAbs] true (G:=Bool×Value) (λr=>sg r.1 (x+y)) (λr=> .agg #[.bool r.1,r.2]) (λr=>[Ej r.2 (x+y).natAbs]):=by
 refine Zd func112 ntmps112 λu q p f=>go 2 ?_;refine Zx (Zs 3) λb _=>Zx (Zs 4) λl _=>Zx (Zu 5) λm _=>go 14<|Ym J (λd=>?_) (λd=>?_)
 .have c:s=t:=by simpa using d
  refine go 1<|Pe (λ_=>False) [(0,0),(1,0),(2,0),(3,0),(4,0),(5,0),(6,1),(7,0),(8,3)]<|go 6<|Ql (Zw 6 [1,2] (Zx5 i j)) λv _=>?_;refine Qb J J (Pp (Xu [(0,_),(1,_)] J K4 (λa w hs=>Kh ((Zk J) a w hs) ((Oj 6 J Zi) a w hs))))<|go 6 ?_;exact Yw f (_,_) results112 J (Yj8 hs (c▸g)) (Lx 6 Za (by rw [Yio hs (c▸g)]))
 .have c:s≠t:=by simpa using d
  refine go 6 ?_;refine cl 6 [1,2] (Zcd i j) λr k=>go 4<|Zb J (λh=>?_) (λh=>?_)
  .have e:y.natAbs<=x.natAbs:=by have:=k.1;omega
   refine go 1<|Pe (λ_=>False) [(0,0),(1,0),(2,0),(3,0),(4,0),(5,0),(6,1),(7,0),(8,3)]<|go 6<|Ql (Zw 7 [1,2] (Zfj i)) λn _=>?_;refine Qb J J (Pp (Xu [(0,_),(1,_)] J K4 (λa w hs=>Kh ((Zk J) a w hs) ((Oj 7 J Zi) a w hs))))<|go 6 ?_;exact Yw f (_,_) results112 J (Zxa hs g c e) (Lx 7 Za (by rw [Zua hs g c e]))
  .have e:x.natAbs<=y.natAbs:=by have:=k.1;omega
   refine go 4<|Pe (λ_=>False) [(0,0),(1,0),(2,0),(3,0),(4,0),(5,0),(6,1),(7,0),(8,3)]<|go 6<|Ql (Zw 8 [2,1] (Zfj j)) λo _=>?_;refine Qb J J (Pp (Xu [(0,_),(1,_)] J K4 (λa w hs=>Kh ((Zk J) a w hs) ((Oj 8 J Zi) a w hs))))<|go 4 ?_;exact Yw f (_,_) results112 J (by rw [kB];exact Zxa g hs (iJ c) e) (Lx 8 Za (by rw [kB,Zua g hs (iJ c) e]))
theorem Oh(hs:sg s x)(e:bl x.natAbs<=4294967296:=by omega):Cal prog 127 #[.agg #[.bool s,.string (Xm x.natAbs)]] [] true (G:=Bool×Value) (λr=>sg r.1 x) (λr=> .agg #[.bool r.1,r.2]) (λr=>[Ej r.2 x.natAbs]):=by refine Zd func127 ntmps127 λh g f c=>go 2 ?_;refine Zx (Zs 1) λb _=>Zx (Zu 2) λd _=>go 3<|Pe (λ_=>False) [(0,0),(1,0),(2,0),(3,0),(4,1),(5,0),(6,3)]<|go 4<|Ql (Zw 3 [] (Zc2 e)) λv _=>?_;refine Qb J J (Pp (Xu [(0,_),(1,_)] J K4 (λa w hs=>Kh ((Zk J) a w hs) ((Oj 3 J Zi) a w hs))))<|go 4 ?_;exact Yw c (_,_) results127 J hs (Lx 3 Za J)
theorem Ho(hs:sg s x)(g:bl x.natAbs<=4294967296:=by omega):Xl prog 151 #[.agg #[.bool s,v]] [Ej v x.natAbs] (Zds x):=by
 refine Zd func151 ntmps151 λi h f d=>go 2 ?_;refine Zx (Zs 2) λb _=>Zx (Zu 3) λe _=>go 8 ?_;refine cl 3 [1] Zj7 λ_ _=>go 3<|Zb J (λc=>?_) (λc=>?_)
 .refine go 2 ?_;refine dt (Xu [] J aA (λa w hs=>Yig))<|go 6 ?_;exact Nq d () results151 (Zz5 c) aA Za
 .refine go 3 ?_;cases s
  .refine Pe (λ_=>False) [(0,0),(1,0),(2,0),(3,2),(4,2),(5,2),(6,2),(7,0),(8,0),(9,0),(10,1),(11,0),(12,3),(13,3)]<|go 10<|Ql (Zw 3 [1] Zmq) λ_ _=>?_;refine Qb J J (Pp (Xu [(0,_),(1,_)] J K4 (λa w hs=>Zzy ((Zk J) a w hs) ((Zk J) a w hs))))<|go 5 ?_;exact Nq d () results151 (by first|exact Zqk hs c|exact Zqj hs c) aA Za
  .refine Pe (λ_=>False) [(0,0),(1,0),(2,0),(3,0),(4,0),(5,0),(6,0),(7,0),(8,0),(9,0),(10,1),(11,0),(12,3),(13,3)]<|go 10<|Ql (Zw 3 [1] Zmq) λ_ _=>?_;refine Qb J J (Pp (Xu [(0,_),(1,_)] J K4 (λa w hs=>Zzy ((Zk J) a w hs) ((Zk J) a w hs))))<|go 5 ?_;exact Nq d () results151 (by first|exact Zqk hs c|exact Zqj hs c) aA Za
theorem Zfh(x y:Int)(hs:sg s x)(m:sg t y)(M:bl y.natAbs<=3000000000)(i:y≠0)(I:bl x.natAbs<=3000000000:=by omega):Cal prog 167 #[.agg #[.bool s,v],.agg #[.bool t,w]] [Ej v x.natAbs,Ej w y.natAbs] true (G:=Bool×Value×Value) (λr=>sg r.1 (x/y)) (λr=> .tuple #[.agg #[.bool r.1,r.2.1],.agg #[.bool false,r.2.2]]) (λr=>[Ej r.2.1 (x/y).natAbs,Ej r.2.2 (x%y).natAbs]):=by
 refine Zd func167 ntmps167 λP N z f=>?_;have F:=Nr x.natAbs;have H:=Nr y.natAbs;have j:0<y.natAbs:=O;have l:x.natAbs%y.natAbs<y.natAbs:=bI _ j;have u:=Lh (dS l);have q:=Lh (eV x.natAbs y.natAbs);refine go 2<|Zx (Zs 3) λb _=>Zx (Zs 4) λn _=>Zx (Zu 5) λo _=>Zx (Zu 6) λp _=>go 8 ?_;refine cl 7 [1,2] (Zx4 O O j) λg _=>go 13<|Xw 18 J (λe=>?_) (λe=>?_)
 .refine go 6<|Zb J (λc=>?_) (λc=>?_)
  .subst e;have k:0<x.natAbs%y.natAbs:=by rcases aX (x.natAbs%y.natAbs)with h|h;(rw [h]at c;simp [Fz]at c);exact h
   have d:=divA hs m i k;refine Pe (λ_=>False) [(0,0),(3,0),(4,0),(5,0),(1,1),(2,1),(6,1),(7,0),(8,3)]<|go 4 ?_;refine Bh J (Od [(0,_)] 9 (enc:=Ma) (dg U 1) J J K2 Pi ti87 J J J J J pU.cells J J z.h) λv _=>Ql (Zw 10 [7,9] (Zx5 O (show bl 1<=4294967296 by decide))) λB _=>Ql (Zw 11 [2,8] (Zfj O)) λD _=>go 12 ?_;refine dt (Xu [(0,_),(1,_)] J K4 (λa w hs=>Kh ((Zk J) a w hs) ((Oj 10 J Zi) a w hs)))<|go 1 ?_;refine dt (Xu [(0,_),(1,_)] J K4 (λa w hs=>Kh ((Zk J) a w hs) ((Oj 11 J Zi) a w hs)))<|go 5 ?_;exact Nq f (_,_,_) results167 J d.1 (Lx 10 (Lx 11 Za (by rw [d.2.2]<;>rfl)) (by rw [d.2.1]<;>rfl))
  .have d:=divB hs m i (.inr ((Np Xj _).1 O));refine go 10 ?_;refine dt (Xu [(0,_),(1,_)] J K4 (λa w hs=>Kh ((Zk J) a w hs) ((Oj 7 J Zi) a w hs)))<|go 1 ?_;refine dt (Xu [(0,_),(1,_)] J K4 (λa w hs=>Kh ((Zk J) a w hs) ((Oj 8 J Zi) a w hs)))<|go 5 ?_;exact Nq f (_,_,_) results167 J d.1 (Lx 7 (Lx 8 Za (by rw [d.2.2]<;>rfl)) (by rw [d.2.1]<;>rfl))
 .have d:=divB hs m i (.inl e);refine go 17 ?_;refine dt (Xu [(0,_),(1,_)] J K4 (λa w hs=>Kh ((Zk J) a w hs) ((Oj 7 J Zi) a w hs)))<|go 1 ?_;refine dt (Xu [(0,_),(1,_)] J K4 (λa w hs=>Kh ((Zk J) a w hs) ((Oj 8 J Zi) a w hs)))<|go 5 ?_;exact Nq f (_,_,_) results167 J d.1 (Lx 7 (Lx 8 Za (by rw [d.2.2]<;>rfl)) (by rw [d.2.1]<;>rfl))
variable {P:Program} {N:Nat} {sc:Nat->Prop} {M:Nat->Prop} {env:Qh} {H:Hp} {Q:Exit->Act->World->Prop}
structure BAct (i:Nat) (A:Prop):Prop where h:A
def bq(i:Nat){A:Prop}(h:A):BAct i A:=⟨h⟩
theorem Zz3 {l:List Oper}  {n:Nat}  (i k:Nat) (a:(Region.noSelect l.toArray && Gy l.toArray ts [(i,k)] listed)=true)
  (h:LD P N sc M l.toArray (A P N sc M l.toArray ts Q n (Ft [(i,k)] listed)) [(i,k)] env H):A P N sc M l.toArray ts Q (n+1) listed env H:=
 Zv _ [(i,k)] h (by rw [a,eO];show Nat.beq (1+n) (n+1)=true;rw [gW];exact Nat.beq_refl _)
theorem Yby    {n:Nat} (i:Nat) (c:((Region.ready .any ops listed == [i]) && !(Gv ops ts listed) && !([i]:List Nat).isEmpty)=true)
  (a:BAct i (Zes P N sc M ops ts Q n listed env H i)):A P N sc M ops ts Q (n+1) listed env H:=Yis [i] c λq b=>by
 rw [bX.1 b];exact a.h
theorem Zwr    {n:Nat} (i j:Nat) (d:((Region.ready .any ops listed == [i,j]) && !(Gv ops ts listed) && !([i,j]:List Nat).isEmpty)=true)
  (b:BAct i (Zes P N sc M ops ts Q n listed env H i)) (c:BAct j (Zes P N sc M ops ts Q n listed env H j)):A P N sc M ops ts Q (n+1) listed env H:=Yis [i,j] d λq a=>by
 simp only [aV,cT,fN]at a;rcases a with rfl|rfl
 .exact b.h
 .exact c.h
theorem a_b3    {n:Nat} (i j k:Nat) (e:((Region.ready .any ops listed == [i,j,k]) && !(Gv ops ts listed) && !([i,j,k]:List Nat).isEmpty)=true)
  (b:BAct i (Zes P N sc M ops ts Q n listed env H i)) (c:BAct j (Zes P N sc M ops ts Q n listed env H j)) (d:BAct k (Zes P N sc M ops ts Q n listed env H k)):A P N sc M ops ts Q (n+1) listed env H:=Yis [i,j,k] e λq a=>by
 simp only [aV,cT,fN]at a;rcases a with rfl|rfl|rfl
 .exact b.h
 .exact c.h
 .exact d.h
end Go.Sky
namespace Go.Sky
open Go.Proofs.Tryz
open Go.Proofs
set_option synthInstance.maxHeartbeats 0
set_option synthInstance.maxSize 100000
set_option maxRecDepth 20000
set_option linter.unusedSimpArgs false
variable{b:Bool}{x y:Int}{t:TypeId}{v:Value}{xs:List Int}{bd:Nat}
theorem Za2{s:ByteArray}:Xl prog 126 #[.agg #[.bool b,.string s]] [] (.bool (okW b s)):=by
 refine Zd func126 ntmps126 λg f e c=>go 2 ?_;refine Zx (Zs 1) λb _=>go 8 ?_;refine dt (Zvx J J J J)<|go 2 ?_;refine Zb J (λa=>?_) (λa=>?_)
 .refine go 10 ?_;exact Yw c () results126 (by unfold okW;rw [aN a]) aA Za
 .refine go 6 ?_;refine dt (Yha (i:=0) J J J uT9 J O)<|go 2 ?_;refine Zl 13 J (λd=>?_) (λd=>?_)
  .refine go 9 ?_;exact Yw c () results126 (by unfold okW;rw [aJ a];simp_all<;>omega) aA Za
  .refine go 9 ?_;exact Yw c () results126 (by unfold okW;rw [aJ a];simp_all<;>omega) aA Za
def Lp(a:bl x.natAbs<=65536):Cal prog 126 #[wv x] [] false (G:=Unit) (λ_=>True) (λ_=> .bool true) (λ_=>[]):=Zcc a▸Za2
theorem Zlw(b:Bool)(s:ByteArray)(c:Bool)(t:ByteArray):Xl prog 147 #[.agg #[.bool b,.string s],.agg #[.bool c,.string t]] [] (.bool (okW b s && okW c t)):=by
 refine Zd func147 ntmps147 λh g f a=>go 2 ?_;refine Zx (Zs 1) λb _=>Zx (Zs 2) λe _=>go 6 ?_;refine cl 2 [] Za2 λ_ _=>go 1<|Xw 7 J (λd=>?_) (λd=>?_)
 .refine go 1 ?_;refine Lk 2 [] Za2 λ_ _=>go 5 ?_;exact Yw a () results147 O10 aA Za
 .refine go 7 ?_;exact Yw a () results147 O10 aA Za
theorem Kw(a:bl x.natAbs<=65536)(c:bl y.natAbs<=65536):Xl prog 147 #[wv x,wv y] [] (.bool true):=by have h:=Zlw (decide (x<0)) (Xm x.natAbs) (decide (y<0)) (Xm y.natAbs);rw [Zcc a,Zcc c]at h;exact h
theorem It(e:bl x.natAbs<=65536):Xl prog 148 #[wv x] [] (.int .i64 x.sign):=by refine Zd func148 ntmps148 λh f d a=>go 2 ?_;refine Zx (Zs 1) λb _=>go 7 ?_;refine cl 1 [] (Lp ‹_›) λ_ _=>go 9 ?_;refine cl 2 [] (Oh Ml) λg c=>cl 2 [2] (Zj2 ‹_›) λ_ _=>go 4 ?_;exact Yw a () results148 J aA Za
theorem Zix(d:bl x.natAbs<=65536):Xl prog 227 #[wv x] [] (.int .i64 (bl x.natAbs:Int)):=by refine Zd func227 ntmps227 λf e c a=>go 2 ?_;refine Zx (Zs 1) λb _=>go 7 ?_;refine cl 1 [] (Lp ‹_›) λ_ _=>go 10 ?_;refine cl 2 [] Zc2 λv _=>cl 2 [2] Zj7 λ_ _=>go 4 ?_;exact Yw a () results227 J aA Za
theorem Zqn(m:bl x.natAbs<=65536)(n:bl y.natAbs<=65536):Xl prog 129 #[wv x,wv y] [] (Zds (x+y)):=by refine Zd func129 ntmps129 λp o l a=>?_;have j:=Cx x y;refine go 2<|Zx (Zs 1) λb _=>Zx (Zs 2) λe _=>Zx (Zu 3) λf _=>go 8 ?_;refine cl 3 [] (Kw ‹_› ‹_›) λ_ _=>go 7<|Pe (λ_=>False) [(0,0),(2,0),(1,1),(3,1),(4,1),(5,1),(6,0),(7,0),(8,3),(9,3)]<|go 2<|Ql (Zw 4 [] (Oh Ml)) λg k=>Ql (Zw 5 [] (Oh Ml)) λh c=>Ql (Zw 6 [4,5] (Zfi ‹_› ‹_›)) λi d=>Ql (Zw 6 [6] (Ho ‹_›)) λ_ _=>go 7 ?_;exact Nq a () results129 J aA Za
theorem Yb5(p:bl x.natAbs<=65536)(q:bl y.natAbs<=65536):Xl prog 228 #[wv x,wv y] [] (Zds (x-y)):=by refine Zd func228 ntmps228 λs r o a=>?_;have m:=Zit x y;have l:=Zwe y;refine go 2<|Zx (Zs 1) λb _=>Zx (Zs 2) λf _=>Zx (Zu 3) λh _=>go 8 ?_;refine cl 3 [] (Kw ‹_› ‹_›) λ_ _=>go 7<|Pe (λ_=>False) [(0,0),(2,0),(1,1),(3,1),(4,1),(5,1),(6,1),(7,0),(8,0),(9,3),(10,3)]<|go 2<|Ql (Zw 4 [] (Oh Ml)) λg n=>Ql (Zw 5 [] (Oh Ml)) λi c=>Ql (Zw 6 [5] (Zoj ‹_›)) λj d=>Ql (Zw 7 [4,6] (Zfi ‹_› ‹_›)) λk e=>Ql (Zw 7 [7] (Ho ‹_› (by rw [<-cL];omega))) λ_ _=>go 7 ?_;exact Nq a () results228 (by rw [cL]<;>rfl) aA Za
theorem Ziw(x y:Int)(m:bl x.natAbs<=65536)(n:bl y.natAbs<=65536):Xl prog 146 #[wv x,wv y] [] (Zds (x*y)):=by refine Zd func146 ntmps146 λp o l a=>?_;have j:=Xt x y;refine go 2<|Zx (Zs 1) λb _=>Zx (Zs 2) λe _=>Zx (Zu 3) λf _=>go 8 ?_;refine cl 3 [] (Kw ‹_› ‹_›) λ_ _=>go 7<|Pe (λ_=>False) [(0,0),(2,0),(1,1),(3,1),(4,1),(5,1),(6,0),(7,0),(8,3),(9,3)]<|go 2<|Ql (Zw 4 [] (Oh Ml)) λg k=>Ql (Zw 5 [] (Oh Ml)) λh c=>Ql (Zw 6 [4,5] (Zc9 ‹_› ‹_›)) λi d=>Ql (Zw 6 [6] (Ho ‹_›)) λ_ _=>go 7 ?_;exact Nq a () results146 J aA Za
theorem Zqm(x y:Int)(j:bl x.natAbs<=65536)(k:bl y.natAbs<=65536):Xl prog 162 #[wv x,wv y] [] (Zds (Int.gcd x y:Int)):=by refine Zd func162 ntmps162 λm l i c=>?_;have h:=Zp9 x.natAbs y.natAbs;refine go 2<|Zx (Zs 1) λb _=>Zx (Zs 2) λd _=>Zx (Zu 3) λe _=>go 8 ?_;refine cl 3 [] (Kw ‹_› ‹_›) λ_ _=>go 7<|Pe (λ_=>False) [(0,0),(1,0),(3,0),(4,0),(2,1),(5,1),(6,1),(7,0),(8,1),(9,0),(10,0),(11,3),(12,3)]<|go 4<|Ql (Zw 4 [] Zc2) λv _=>Ql (Zw 5 [] Zc2) λf _=>Ql (Zw 6 [4,5] Zop) λg _=>?_;refine Qb J J (Pp (Xu [(0,_),(1,_)] J K4 (λa w hs=>Kh ((Zk J) a w hs) ((Oj 6 J Zi) a w hs))))<|Ql (Zw 6 [6] (Ho (s:=false) (x:=(Int.gcd x y:Int)) (by simp [sg]) (by show bl (Nat.gcd x.natAbs y.natAbs)<=_;omega))) λ_ _=>go 7 ?_;exact Nq c () results162 J aA Za
theorem Ba(H:bl x.natAbs<=65536)(I:bl y.natAbs<=65536)(c:y≠0):Xl prog 128 #[wv x,wv y] [] (.tuple #[wv (Bp (x/y)),wv (Bp (x%y)),.int .i64 0]):=by
 refine Zd func128 ntmps128 λQ P w d=>?_;have D:=Ziu x y;have p:=Zzv x y c;refine go 2<|Zx (Zs 1) λb _=>Zx (Zs 2) λh _=>Zx (Zu 3) λj _=>Zx (Zu 4) λk _=>go 8 ?_;refine cl 4 [] (Kw ‹_› ‹_›) λ_ _=>go 11 ?_;refine dt (Zvx J J J J)<|go 2 ?_;refine Zb J (λa=>?_) (λa=>?_)
 .rw [Ff]at a;exfalso;exact c (by have:=(Np (by omega:2<=256) y.natAbs).1 a;omega)
 .refine go 2 ?_;refine jn (G:=Bool×Value×Value×Nat×Nat) [4,5] [0,1,2,3,4] (λq=>[(7,.pointer (some ⟨q.2.2.2.1,0,none⟩)),(8,.pointer (some ⟨q.2.2.2.2,0,none⟩))]) (λq=>[(84,Ej q.2.1 (x/y).natAbs),(85,Ej q.2.2.1 (x%y).natAbs),(86,box q.2.2.2.1 188 #[.bool q.1,q.2.1]),(87,box q.2.2.2.2 188 #[.bool false,q.2.2.1])]) (λq=>sg q.1 (x/y)) ?_ ?_
  .refine Nf [1,2] [11]<|Zv 10 [(0,0),(2,0)]<|go 3 ?_
   repeat' first|refine bq 1 ?_;refine Iw (Zw 81 [] (Oh Ml)) λg F=>?_|refine bq 3 ?_;refine Iw (Zw 82 [] (Oh Ml)) λn e=>?_|refine bq 4 ?_;refine Iw (Zw 84 [81,82] (Zfh _ _ ‹_› ‹_› O c)) λo f=>?_|refine bq 8 ?_;refine Iw (Nu 86) λl r=>?_|refine bq 9 ?_;refine Iw (Nu 87) λm s=>?_|refine bq 10 ?_;refine Zab rfl rfl (t_stw (i:=86) rfl rfl rfl rfl rfl rfl sizeOf188 rfl rfl ⟨Zk rfl,Oj 84 rfl Zi,aA⟩ rfl w.h r.h) (λ_ _=>?_)|refine a_b3 1 8 9 O8 ?_ ?_ ?_|refine Zwr 1 8 O8 ?_ ?_|refine Yby 1 O8 ?_|refine Yby 3 O8 ?_|refine Yby 4 O8 ?_|refine Yby 10 O8 ?_|refine Zwr 3 8 O8 ?_ ?_|refine Zwr 4 8 O8 ?_ ?_|refine Yby 8 O8 ?_|refine Zwr 1 9 O8 ?_ ?_|refine Zwr 3 9 O8 ?_ ?_|refine Zwr 4 9 O8 ?_ ?_|refine Yby 9 O8 ?_|refine a_b3 3 8 9 O8 ?_ ?_ ?_|refine a_b3 4 8 9 O8 ?_ ?_ ?_|refine Zwr 8 9 O8 ?_ ?_|refine Zz3 5 0 O8 ?_;refine go 2 ?_|refine Zz3 6 0 O8 ?_;refine go 2 ?_|refine Zz3 7 0 O8 ?_;refine go 2 ?_|refine Zz3 11 3 O8 ?_;refine go 2 ?_|refine Yq ?_ O8;exact Fb (_,_,_,_,_) ‹_› ⟨rfl,rfl,aA⟩ ⟨rfl,rfl,rfl,rfl,aA⟩
  .rintro⟨M,qv,N,z,B⟩ u;dsimp only at u;dsimp only;refine go 3 ?_;refine cl 4 [84] (Ho ‹_›) λ_ _=>go 9 ?_;refine cl 4 [85] (Ho (Yj7 x c)) λ_ _=>go 7<|Nf [4] [3,4] ?_;refine Zv 0 [(1,0),(0,1),(2,1),(3,3),(4,3)]<|go 6 ?_;exact Yq<|go 2<|xe3 d () results128 J aA Za
theorem Zbw{s t:Bool}{w:Value}(hs:sg s x)(m:sg t y)(k:y≠0)(W:bl x.natAbs<=1000000000:=by omega)(Y:bl y.natAbs<=1000000000:=by omega):Xl prog 149 #[.agg #[.bool s,v],.agg #[.bool t,w]] [Ej v x.natAbs,Ej w y.natAbs] (Zba x y):=by
 refine Zd func149 ntmps149 λw0 Z V c=>?_;have R:=Zp9 x.natAbs y.natAbs;have e:Lb x y≠0:=Zyc k;have h:sg t (Lb x y):=Yj5 m k;have f:=Zfn x y;have N:=Ziu x (Lb x y);have P:=Ziu y (Lb x y);refine go 2<|Zx (Zs 3) λb _=>Zx (Zs 4) λq _=>Zx (Zu 5) λr _=>go 4<|Aw (λ_=>False) [9] ?_;refine Zv 4 [(0,0),(1,0),(2,0),(3,0),(4,0),(5,0)]<|go 7 ?_;refine Nj 3 6 8 ?_ ?_
 .refine Iw (Zw 81 [1,2] Zop) λv _=>?_;refine Zv 0 [(7,0),(8,1),(9,3)]<|Qb J J (Pp (Xu [(0,_),(1,_)] J K4 (λa w hs=>Kh ((Zk J) a w hs) ((Oj 81 J Zi) a w hs))))<|Ql (Zu 82) λu _=>go 2 ?_;refine Yq<|go 2<|Zr (Xz 81 (Zyb x y) J J)<|go 3 ?_;refine cl 6 [1,81] (Zfh x (Lb x y) hs h (by rw [f];omega) e) λg S=>go 10 ?_;refine cl 8 [2,81] (Zfh y (Lb x y) m h (by rw [f];omega) e) λH n=>go 9 ?_;refine cl 9 [6] (Ho ‹_›) λ_ _=>go 3<|Zx (Zu 10) λz _=>go 7 ?_;refine cl 10 [8] (Ho ‹_›) λ_ _=>go 3<|Zx (Zu 11) λB _=>go 10<|Zl 43 J (λl=>?_) (λl=>?_)
  .refine go 8 ?_;refine dt (Xu [] J aA (λa w hs=>Zt2))<|go 6 ?_;exact Nq c () results149 (Za9 (by unfold Mw;first|exact .inl (Au ‹_›)|exact .inr (Au ‹_›))) aA Za
  .refine go 5<|Zb J (λj=>?_) (λj=>?_)
   .refine go 2 ?_;refine dt (Xu [] J aA (λa w hs=>Zt2))<|go 6 ?_;exact Nq c () results149 (Za9 (by unfold Mw;first|exact .inl (Au ‹_›)|exact .inr (Au ‹_›))) aA Za
   .refine go 6 ?_;refine dt (Xu [(0,_),(1,_)] J K4 (λa w hs=>Zf7))<|go 5 ?_;exact Nq c () results149 (Zrm (bP ‹_›) (bP ‹_›)) aA Za
 .refine Iw (Zu 82) λD _=>?_;refine Zv 0 [(6,1),(7,0),(9,3)]<|Ql (Zw 81 [1,2] Zop) λQ _=>?_;refine Qb J J (Pp (Xu [(0,_),(1,_)] J K4 (λa w hs=>Kh ((Zk J) a w hs) ((Oj 81 J Zi) a w hs))))<|go 2 ?_;refine Yq<|go 2<|Zr (Xz 81 (Zyb x y) J J)<|go 3 ?_;refine cl 12 [1,81] (Zfh x (Lb x y) hs h (by rw [f];omega) e) λI o=>go 10 ?_;refine cl 14 [2,81] (Zfh y (Lb x y) m h (by rw [f];omega) e) λM p=>go 9 ?_;refine cl 15 [12] (Ho ‹_›) λ_ _=>go 3<|Zx (Zu 16) λF _=>go 7 ?_;refine cl 16 [14] (Ho ‹_›) λ_ _=>go 3<|Zx (Zu 17) λG _=>go 10<|Zl 43 J (λi=>?_) (λi=>?_)
  .refine go 8 ?_;refine dt (Xu [] J aA (λa w hs=>Zt2))<|go 6 ?_;exact Nq c () results149 (Za9 (by unfold Mw;first|exact .inl (Au ‹_›)|exact .inr (Au ‹_›))) aA Za
  .refine go 5<|Zb J (λd=>?_) (λd=>?_)
   .refine go 2 ?_;refine dt (Xu [] J aA (λa w hs=>Zt2))<|go 6 ?_;exact Nq c () results149 (Za9 (by unfold Mw;first|exact .inl (Au ‹_›)|exact .inr (Au ‹_›))) aA Za
   .refine go 6 ?_;refine dt (Xu [(0,_),(1,_)] J K4 (λa w hs=>Zf7))<|go 5 ?_;exact Nq c () results149 (Zrm (bP ‹_›) (bP ‹_›)) aA Za
theorem Eu(x y:Int)(l:bl x.natAbs<=65536)(m:bl y.natAbs<=65536)(c:y≠0):Xl prog 108 #[wv x,wv y] [] (Zba x y):=by
 refine Zd func108 ntmps108 λo n k d=>go 2 ?_;refine Zx (Zs 1) λb _=>Zx (Zs 2) λf _=>Zx (Zu 3) λh _=>go 8 ?_;refine cl 3 [] (Kw ‹_› ‹_›) λ_ _=>go 11 ?_;refine dt (Zvx J J J J)<|go 2 ?_;refine Zb J (λa=>?_) (λa=>?_)
 .rw [Ff]at a;exfalso;exact c (by have:=(Np (by omega:2<=256) y.natAbs).1 a;omega)
 .refine go 3<|Pe (λ_=>False) [(0,0),(2,0),(1,1),(3,1),(4,1),(5,0),(6,0),(7,3),(8,3)]<|go 2<|Ql (Zw 4 [] (Oh Ml)) λg j=>Ql (Zw 5 [] (Oh Ml)) λi e=>Ql (Zw 5 [4,5] (Zbw ‹_› ‹_› c)) λ_ _=>go 7 ?_;exact Nq d () results108 J aA Za
theorem Ce{s:ByteArray}{c:Bool}{t:ByteArray}:Xl prog 107 #[.agg #[.bool b,.string s,.bool c,.string t]] [] (.bool (okR b s c t)):=by
 refine Zd func107 ntmps107 λl k j g=>go 2 ?_;refine Zx (Zs 1) λb _=>go 9 ?_;refine cl 1 [] (Zlw _ _ _ _) λ_ _=>go 1<|Xw 8 J (λh=>?_) (λh=>?_)
 .have i:okW c t=true:=O10;have d:=Zoh i;obtain⟨a,e,f⟩:=Classical.choose_spec d;generalize Classical.choose d=z at a e f ⊢;subst e;subst f
  try clear d
  refine go 2 ?_;refine Lk 1 [] (It (x:=z) a) λ_ _=>go 6 ?_;exact Yw g () results107 (by first|rw [Zr0 O10 a]|(unfold okR;simp_all)) aA Za
 .refine go 9 ?_;exact Yw g () results107 (by first|rw [Zr0 O10 a]|(unfold okR;simp_all)) aA Za
def Oe(x y:Int)(c:bl x.natAbs<=65536)(d:bl y.natAbs<=65536)(a:0<y):Cal prog 107 #[rX x y] [] false (G:=Unit) (λ_=>True) (λ_=> .bool true) (λ_=>[]):=okR_wv c d a▸Ce
theorem Zm(x:Int)(f:Mx x:=by exact⟨O,O⟩):Xl prog 109 #[.int .i64 x] [] (wv x):=by
 refine Zd func109 ntmps109 λm l h e=>?_;have i:=f.1;have j:=f.2;have d:x.natAbs<U:=by simp only [U];omega
 have k:bl x.natAbs<=64:=(Qr 64 _).2 (by rw [<-Yit];exact d);refine go 2<|Zx (Zu 1) λb _=>go 5 ?_;refine dt (Ymq (r:=x%18446744073709551616) J J uT3 Zgd J)<|go 3 ?_;refine jn (G:=Unit) [0,2] [0,1] (λ_=>[(3,.int .u64 ((x.natAbs:Nat):Int))]) (λ_=>[]) (λ_=>True) ?_ ?_
 .refine go 6<|Zb J (λc=>?_) (λc=>?_)
  .refine go 2 ?_;refine dt (Ycg x.natAbs J J O)<|go 2 ?_;exact Fb () aA ⟨by first|rfl|(rw [show x%18446744073709551616=((x.natAbs:Nat):Int) by omega];rfl),aA⟩ aA
  .refine go 1 ?_;exact Fb () aA ⟨by first|rfl|(rw [show x%18446744073709551616=((x.natAbs:Nat):Int) by omega];rfl),aA⟩ aA
 .rintro _ -;refine go 5 ?_;refine tt (Od [(0,_)] 2 (enc:=Ma) [x.natAbs] J J K2 Pi ti87 J J J J J pU.cells J J h.h) λv _=>cl 2 [2] Ps λ_ _=>?_;refine Oz (Zjl 2 J J pU)<|Oz (Ydn 2 (Zge d) J J)<|dt (Xu [(0,_),(1,_)] J K4 (λa w hs=>Kh ((Zk J) a w hs) ((Oj 2 J (Yj pU)) a w hs)))<|cl 2 [2] (Ho (x:=x) Ml) λ_ _=>go 3 ?_;refine Zx (Zu 3) λg _=>go 11 ?_;exact Yw e () results109 (by rw [Ng O]<;>rfl) aA Za
theorem Zc6(hs:Sz 65536 xs):Cal prog 197 #[v] [Yl 2 wv v xs] true (G:=Unit) (λ_=>True) (λ_=>Gb v (tzl xs).length) (λ_=>[Yl 2 wv (Gb v (tzl xs).length) (tzl xs)]):=by
 refine Zd func197 ntmps197 λp o n d=>?_;refine Le (Ygo (i:=1) J Zi) (λa=>?_);refine Le (Er (i:=1) J Zi) λm=>go 7 ?_;refine lp (G:=Nat) [] [0] (λk=>[(0,Gb v k)]) (λk=>[(1,Yl 2 wv (Gb v k) (xs.take k))]) (λk=>(k<=xs.length)/\(tzl (xs.take k)=tzl xs)) (λk=>k) xs.length ⟨aG _,by rw [cE]⟩ ⟨by rw [a];rfl,aA⟩ ⟨by rw [a,cE];rfl,aA⟩ ?_;rintro k ⟨h,j⟩;have f:(xs.take k).length=k:=by rw [dV];omega
 refine go 7<|Zl 6 J (λl=>?_) (λl=>?_)
 .refine go 4 ⟨O,?_⟩;refine Fg (Yn 1 (k-1) J J J J Zi Mj Py) J J<|go 1 ⟨O,?_⟩;refine Lk 1 [] (It ((hs.take _).getD _)) λ_ _=>go 4<|Zb J (λg=>?_) (λg=>?_)
  .have c:=Ych h O (Zui (k:=k) O (fJ.1 ‹_›):cf xs (k-1)=0);refine go 8 ⟨O,?_⟩;refine dt (d_pre 1 (i:=k-1) J J J J Zi Mj Py)<|go 3 ?_;exact Xd (s_pre 1 1 (k-1) J J)<|Yi (k-1) ⟨O1,by rw [<-j,<-c]⟩ O1 ⟨by rw [<-Zc5 v k (k-1)];rfl,aA⟩ ⟨by rw [Zc5,jH,eF O];rfl,aA⟩
  .refine go 12 ?_;have e:tzl xs=xs.take k:=by rw [<-j];exact Zqs h (by first|(left;omega)|(right;exact Zqt k O ‹_›))
   exact Yw d () results197 (by rw [e,f]) aA (Lx 1 Za (by rw [e,f]))
 .refine go 24 ?_;have e:tzl xs=xs.take k:=by rw [<-j];exact Zqs h (by first|(left;omega)|(right;exact Zqt k O ‹_›))
  exact Yw d () results197 (by rw [e,f]) aA (Lx 1 Za (by rw [e,f]))
theorem Zu1(v:Value)(r:List (Bool×ByteArray)):Xl prog 198 #[v] [Yl 2 Ygv v r] (.bool (okP r)):=by
 refine Zd func198 ntmps198 λu s p a=>?_;refine Le (Er (i:=1) J Zi) λg=>go 14 ?_;refine lp (G:=Nat) [0,5,6] [0,1] (λk=>[(7,.int .i64 (k:Int))]) (λk=>[]) (λk=>(k<=r.length)/\((r.take k).all (λw=>okW w.1 w.2)=true)) (λk=>r.length-k) 0 ⟨O1,O6⟩ K1 aA ?_;rintro k ⟨o,l⟩;refine go 6<|Zb J (λj=>?_) (λj=>?_)
 .refine go 7 ⟨O2,?_⟩;refine dt (Oa 1 (false,⟨#[]⟩) J J J Zi pW O2)<|Zx (Zu 2) λb _=>go 6 ?_;refine cl 2 [] Za2 λ_ _=>go 3<|Ym J (λf=>?_) (λf=>?_)
  .refine go 11 ?_;exact Yw a () results198 (by rw [Yk2 (Zj (i:=k) (d:=(false,⟨#[]⟩)) O) O10]) aA Za
  .refine go 7 ⟨O,?_⟩;exact Yi (k+1) ⟨O1,by rw [Po (false,⟨#[]⟩) _ _ O,List.all_append,l];simpa using f⟩ O1 K1 aA
 .refine go 6 ?_;obtain rfl:k=r.length:=O;rw [cE]at l;obtain⟨xs,c,rfl⟩:=Zrz (aZ.1 l);have m:=Sz.of_mem c;rw [bJ]at g;refine Zr (Znz 1 (q:=Yl 2 wv v xs) J J (Yj2 v xs) (λ_ h=>fpn h) J)<|go 5<|Zl 18 J (λn=>?_) (λn=>?_)
  .refine go 4<|Zl 22 J (λe=>?_) (λe=>?_)
   .refine go 14 ?_;exact Yw a () results198 (by rw [Zoi c];first|(simp_all;done)|(simp_all;omega)) aA Za
   .refine go 4 ⟨O,?_⟩;refine Fg (Yn 1 (xs.length-1) J J J J Zi Mj Py) J J<|go 1 ⟨O,?_⟩;refine Lk 2 [] (It (m.getD _)) λ_ _=>go 7 ?_;exact Yw a () results198 (by rw [Zoi c];first|(simp_all;done)|(simp_all;omega)) aA Za
  .refine go 18 ?_;exact Yw a () results198 (by rw [Zoi c];first|(simp_all;done)|(simp_all;omega)) aA Za
def Xh(h:Vp xs):Cal prog 198 #[v] [Yl 2 wv v xs] false (G:=Unit) (λ_=>True) (λ_=> .bool true) (λ_=>[]):=okP_wr h▸(Zu1 v (xs.map wr)).imp (slp_wr v xs) (λ_ h=>fpm h)
theorem Nm(hs:Sz 65536 xs):Xl prog 201 #[v] [Yl 2 wv v xs] (.int .i64 (Qy xs:Int)):=by
 refine Zd func201 ntmps201 λh g f c=>?_;refine Le (Er (i:=1) J Zi) λd=>go 19 ?_;refine lp (G:=Nat) [6,7] [0,1] (λk=>[(8,.int .i64 (k:Int)),(3,.int .i64 (Qy (xs.take k):Int))]) (λk=>[]) (λk=>k<=xs.length) (λk=>xs.length-k) 0 O1 K2 aA ?_;rintro k e;refine go 6<|Zb J (λa=>?_) (λa=>?_)
 .refine go 8 ⟨O2,O2,?_⟩;refine Zx (Zu 2) λb _=>go 6 ?_;refine cl 2 [] (Zix (hs.getD _)) λ_ _=>?_;refine dt (Zbt J J J)<|go 8 ⟨O,?_⟩;exact Yi (k+1) O1 O1 ⟨J,by rw [Po 0 _ _ O,Ye1];exact aE some (Yfm O),aA⟩ aA
 .refine go 12 ?_;exact Yw c () results201 (by rw [cK O]) aA Za
theorem Zpe{e f:Int}{n:Bool}{s:ByteArray}:Zc0 prog 226 #[.pointer (some ⟨bd,0,none⟩),.agg #[.bool n,.string s],.int .i64 f] [] false bd t #[.int .i64 e] (G:=Unit) (λ_=>True) (λ_=> .agg #[.bool n,.string s]) (λ_=>#[.int .i64 (if e=0 then f else e)]) (λ_=>[]):=by
 refine Ee func226 J ntmps226 J aA ?_;intro j i g c;have g:=Hw.mk g;simp only [Qg,Yg];refine go 2<|Zx (Zs 2) λb _=>Zx (Zu 3) λh _=>go 12<|Zb J (λd=>?_) (λd=>?_)
 .refine go 15 ?_;exact Et (.inl J) c () (λa w hs=>Gx hs results226 (Gr 3 J J isAgg130 Py J)) J aA 1 J (by simp_all [Gk]) J J Za
 .refine go 9 ?_;exact Et (.inl J) c () (λa w hs=>Gx hs results226 (Gr 3 J J isAgg130 Py J)) J aA 1 J (by simp_all [Gk]) J J Za
theorem d_mul_(bd:Nat)(e x y:Int)(h:bl x.natAbs<=65536)(i:bl y.natAbs<=65536):Zc0 prog 199 #[.pointer (some ⟨bd,0,none⟩),wv x,wv y] [] false bd 284 #[.int .i64 e] (G:=Unit) (λ_=>True) (λ_=>wv (Bp (x*y))) (λ_=>#[.int .i64 (err e (x*y))]) (λ_=>[]):=by refine Ee func199 J ntmps199 J aA ?_;intro k j d c;have d:=Hw.mk d;simp only [Qg,Yg];refine go 2<|Zx (Zs 2) λb _=>Zx (Zs 3) λf _=>Zx (Zu 4) λg _=>go 3<|Pe (λx=>x=bd) [(0,0),(1,0),(2,0),(3,0),(4,0),(5,1),(6,0),(7,0),(8,1),(9,3)]<|go 5<|Ql (Zw 4 [] (Ziw _ _ ‹_› ‹_›)) λ_ _=>go 2 ?_;refine Bh J (Qk 4 1 Zpe J J J K3 call226 J O3 Zq J d.h J) λ_ _=>go 4 ?_;exact Et (.inl J) c () (λa w hs=>Gx hs results199 (Gr 4 J J isAgg130 Py J)) J aA 1 J J J J Za
theorem Dc(c:bl x.natAbs<=65536)(d:bl y.natAbs<=65536)(a:bl (x*y).natAbs<=65536):Zc0 prog 199 #[.pointer (some ⟨bd,0,none⟩),wv x,wv y] [] false bd 284 #[.int .i64 0] (G:=Unit) (λ_=>True) (λ_=>wv (x*y)) (λ_=>#[.int .i64 0]) (λ_=>[]):=by have h:=d_mul_ bd 0 x y c d;rw [Ng a,Zvn a]at h;exact h
theorem d_add_(bd:Nat)(e x y:Int)(h:bl x.natAbs<=65536)(i:bl y.natAbs<=65536):Zc0 prog 202 #[.pointer (some ⟨bd,0,none⟩),wv x,wv y] [] false bd 284 #[.int .i64 e] (G:=Unit) (λ_=>True) (λ_=>wv (Bp (x+y))) (λ_=>#[.int .i64 (err e (x+y))]) (λ_=>[]):=by refine Ee func202 J ntmps202 J aA ?_;intro k j d c;have d:=Hw.mk d;simp only [Qg,Yg];refine go 2<|Zx (Zs 2) λb _=>Zx (Zs 3) λf _=>Zx (Zu 4) λg _=>go 3<|Pe (λx=>x=bd) [(0,0),(1,0),(2,0),(3,0),(4,0),(5,1),(6,0),(7,0),(8,1),(9,3)]<|go 5<|Ql (Zw 4 [] (Zqn ‹_› ‹_›)) λ_ _=>go 2 ?_;refine Bh J (Qk 4 1 Zpe J J J K3 call226 J O3 Zq J d.h J) λ_ _=>go 4 ?_;exact Et (.inl J) c () (λa w hs=>Gx hs results202 (Gr 4 J J isAgg130 Py J)) J aA 1 J J J J Za
theorem Zk2(c:bl x.natAbs<=65536)(d:bl y.natAbs<=65536)(a:bl (x+y).natAbs<=65536):Zc0 prog 202 #[.pointer (some ⟨bd,0,none⟩),wv x,wv y] [] false bd 284 #[.int .i64 0] (G:=Unit) (λ_=>True) (λ_=>wv (x+y)) (λ_=>#[.int .i64 0]) (λ_=>[]):=by have h:=d_add_ bd 0 x y c d;rw [Ng a,Zvn a]at h;exact h
theorem d_sub_(bd:Nat)(e x y:Int)(h:bl x.natAbs<=65536)(i:bl y.natAbs<=65536):Zc0 prog 204 #[.pointer (some ⟨bd,0,none⟩),wv x,wv y] [] false bd 284 #[.int .i64 e] (G:=Unit) (λ_=>True) (λ_=>wv (Bp (x-y))) (λ_=>#[.int .i64 (err e (x-y))]) (λ_=>[]):=by refine Ee func204 J ntmps204 J aA ?_;intro k j d c;have d:=Hw.mk d;simp only [Qg,Yg];refine go 2<|Zx (Zs 2) λb _=>Zx (Zs 3) λf _=>Zx (Zu 4) λg _=>go 3<|Pe (λx=>x=bd) [(0,0),(1,0),(2,0),(3,0),(4,0),(5,1),(6,0),(7,0),(8,1),(9,3)]<|go 5<|Ql (Zw 4 [] (Yb5 ‹_› ‹_›)) λ_ _=>go 2 ?_;refine Bh J (Qk 4 1 Zpe J J J K3 call226 J O3 Zq J d.h J) λ_ _=>go 4 ?_;exact Et (.inl J) c () (λa w hs=>Gx hs results204 (Gr 4 J J isAgg130 Py J)) J aA 1 J J J J Za
theorem Zvu(c:bl x.natAbs<=65536)(d:bl y.natAbs<=65536)(a:bl (x-y).natAbs<=65536):Zc0 prog 204 #[.pointer (some ⟨bd,0,none⟩),wv x,wv y] [] false bd 284 #[.int .i64 0] (G:=Unit) (λ_=>True) (λ_=>wv (x-y)) (λ_=>#[.int .i64 0]) (λ_=>[]):=by have h:=d_sub_ bd 0 x y c d;rw [Ng a,Zvn a]at h;exact h
theorem Yhd(hs:Sz 65536 xs):Cal prog 200 #[.pointer (some ⟨bd,0,none⟩),v] [Ow bd 284 #[.int .i64 0],Yl 2 wv v xs] true (G:=Unit) (λ_=>True) (λ_=> .tuple #[Gb v (tzl xs).length,.int .i64 0]) (λ_=>[Yl 2 wv (Gb v (tzl xs).length) (tzl xs)]):=by
 refine Zd func200 ntmps200 λf e d c=>go 17 ?_;refine Zb J (λa=>?_) (λa=>?_)
 .exfalso;simp_all
 .refine go 5 ?_;refine cl 3 [2] (Zc6 ‹_›) λ_ _=>go 5 ?_;exact Nq c () results200 J aA (Lx 3 Za)
theorem Lt(c:Int)(g:Vp xs)(m:bl c.natAbs<=65536)(h:∀i,bl (cf xs i*c).natAbs<=65536):Cal prog 172 #[v,wv c] [Yl 2 wv v xs] true (G:=Value) (λr=>True) (λr=> .tuple #[r,.int .i64 0]) (λr=>[Yl 2 wv r (Yx xs c)]):=by
 refine Zd func172 ntmps172 λp o e d=>?_;have f:=g.len;refine go 2<|Zx (Zs 2) λb _=>go 8 ?_;refine cl 2 [1] (Xh ‹_›) λ_ _=>go 3 ?_;refine Lk 2 [] (Lp ‹_›) λ_ _=>go 9<|Zx (Zu 3) λj _=>go 6 ?_;refine tt (Em 4 _ 24 (enc:=wv) 0 J J J J Mj ti130 J pV.cells pV.pos J J J e.h J J) λv _=>go 12 ?_;refine lp (G:=Nat) [3,6,7,21,22] [0,1,2,3] (λk=>[(23,.int .i64 (k:Int))]) (λk=>[(4,Ox 2 130 wv v (fill xs.length k (λi=>cf xs i*c)))]) (λk=>k<=xs.length) (λk=>xs.length-k) 0 O1 K1 ⟨by rw [Cz xs.length (λi=>cf xs i*c)];rfl,aA⟩ ?_;rintro k n;refine go 6<|Zb J (λa=>?_) (λa=>?_)
 .refine go 9 ⟨O2,O2,?_⟩;refine Zx (Zu 5) λl _=>go 9 ?_;refine tt (Qk 5 3 (Dc (g.sz.getD _) m (h _)) J J J K3 call199 J O3 Zq J e.h aA) (λ_ _=>?_);refine dt (Yn 4 k J J J J (Yj pV) Mj Py J (by rw [Pa];omega))<|tt (Lj 4 (enc:=wv) J J J J J J pV J e.h O3 (by rw [Pa];omega)) (λ_ _=>?_);refine go 7 ⟨O,?_⟩;exact Yi (k+1) O1 O1 K1 ⟨by rw [<-Zck O];rfl,aA⟩
 .refine go 6 ?_;obtain rfl:k=xs.length:=O;refine Zr (Oy 4 J J pV)<|Zr (Zb4 3 J J)<|go 2 ?_;refine cl 6 [3,4] (Yhd (by rw [Fy];exact Zfl λi _=>h i)) λ_ _=>go 7 ?_;exact Nq d _ results172 J aA (Lx 6 Za (by rw [Yap]<;>rfl))
theorem Al(e:Vp xs)(h:∀i,bl (cf xs (i+1)*((i:Int)+1)).natAbs<=65536):Cal prog 171 #[v] [Yl 2 wv v xs] true (G:=Value) (λr=>True) (λr=> .tuple #[r,.int .i64 0]) (λr=>[Yl 2 wv r (Xc xs)]):=by
 refine Zd func171 ntmps171 λo m f d=>?_;have g:=e.len;refine go 10 ?_;refine cl 1 [1] (Xh ‹_›) λ_ _=>go 14<|Zb J (λa=>?_) (λa=>?_)
 .refine go 8 ?_;exact Nq d _ results171 J aA (Lc (Yef O) Za)
 .refine go 4<|Zx (Zu 2) λb _=>?_;refine go 7 ⟨O,?_⟩;refine tt (Em 3 (xs.length-1) 24 (enc:=wv) 0 J J J J Mj ti130 J pV.cells pV.pos J J J f.h) λv _=>go 12 ?_;refine lp (G:=Nat) [0,4,5,18] [0,1,2] (λk=>[(19,.int .i64 (k:Int))]) (λk=>[(3,Ox 2 130 wv v (fill (xs.length-1) k (λi=>cf xs (i+1)*((i:Int)+1))))]) (λk=>k<=xs.length-1) (λk=>xs.length-1-k) 0 O1 K1 ⟨by rw [Cz (xs.length-1) (λi=>cf xs (i+1)*((i:Int)+1))];rfl,aA⟩ ?_;rintro k l;have j:(fill (xs.length-1) k (λi=>cf xs (i+1)*((i:Int)+1))).length=xs.length-1:=Pa _ _ _;refine go 6<|Zb J (λc=>?_) (λc=>?_)
  .try rw [aT]at *
   refine go 10<|Pe (λx=>x=b) [(0,0),(1,0),(2,0),(3,0),(4,0),(5,0),(6,0),(7,0),(8,0),(9,1),(10,1),(11,0),(12,3)]<|go 5 ⟨O,?_⟩;refine Qb J J (st1 2 J (Yn 1 (k+1) J J J J Zi Mj Py))<|go 3 ⟨O,O,?_⟩;refine Ql (Zw 3 [] (Zm _ (by first|assumption|exact⟨O,O⟩))) λ_ _=>?_;refine Bh J (Qk 3 2 (Dc (x:=cf xs (k+1)) (y:=((k:Int)+1)) (e.sz _) (aB (Lh (n:=32) O) O3) (h k)) J J J K3 call199 J O3 Zq J f.h J) (λ_ _=>?_);refine Qb J J (st1 2 J (Yn 3 k J J J J (Yj pV) Mj Py J (by rw [Pa];omega)))<|r3' J (Lj 3 (enc:=wv) J J J J J J pV J f.h O3 (by rw [Pa];omega)) (λ_ _=>?_);refine go 7 ⟨O,?_⟩;exact Yi (k+1) O1 O1 K1 ⟨by rw [<-Zck O];rfl,aA⟩
  .try rw [aT]at *
   refine go 6 ?_;obtain rfl:k=xs.length-1:=O;refine Zr (Oy 3 J J pV)<|Zr (Zb4 2 J J)<|go 2 ?_;refine cl 4 [2,3] (Yhd (by rw [Fy];exact Zfl λi _=>h i)) λ_ _=>go 7 ?_;exact Nq d _ results171 J aA (Lx 4 Za (by rw [Ykt e.tr]<;>rfl))
theorem Zob(j:Vp xs):Xl prog 205 #[v] [Yl 2 wv v xs] (.tuple #[wv (Xq xs),.int .i64 0]):=by
 refine Zd func205 ntmps205 λr q n i=>?_;have l:=j.len;have d:∀k,bl (Xq (xs.take k)).natAbs<=65536:=λk=>Zru _ (j.sz.take k);refine go 2<|Zx (Zu 2) λb _=>go 7 ?_;refine cl 2 [1] (Xh ‹_›) λ_ _=>go 8<|Zx (Zu 3) λf _=>go 4<|Zx (Zu 4) λg _=>go 11 ?_;refine lp (G:=Nat) [2,4,5,12,13] [0,1,2] (λk=>[(14,.int .i64 (k:Int))]) (λk=>[(4,box g 130 #[.bool (decide (Xq (xs.take k)<0)),.string (Xm (Xq (xs.take k)).natAbs)]),(3,box f 284 #[.int .i64 0])]) (λk=>k<=xs.length) (λk=>xs.length-k) 0 O1 K1 K2 ?_;rintro k o;have e:=λh=>Il (p:=xs) (k:=k) h;refine go 6<|Zb J (λc=>?_) (λc=>?_)
 .refine go 8 ⟨O2,O2,?_⟩;refine Zx (Zu 5) λm _=>go 7 ?_;refine cl 5 [] (Zqm (Xq (xs.take k)) (xs.getD k 0) (d _) (j.sz.getD _)) λ_ _=>go 2 ?_;refine tt (Qk 5 3 Zpe J J J K3 call226 J O3 Zq J n.h aA) (λ_ _=>?_);refine go 8 ⟨O,?_⟩;have a:=d (k+1);rw [e O]at a;exact Yi (k+1) O1 O1 K1 ⟨by rw [e O];simp only [Ng a];rfl,by simp only [Zo6 a];rfl,aA⟩
 .refine go 6<|Nf [3,4] [5] ?_;refine Zv 0 [(0,0),(1,0),(2,0),(3,0),(4,1),(5,3)]<|go 7 ?_;refine Yq<|go 2 ?_;exact Nq i () results205 (by rw [show k=xs.length by omega,cE]<;>rfl) aA Za
theorem Zlt{c:Int}(l:Sz 65536 xs)(j:xs.length<=1000)(q:bl c.natAbs<=65536)(s:∀i,c∣cf xs i)(f:xs≠[]->c≠0):Cal prog 206 #[v,wv c] [Yl 2 wv v xs] true (G:=Value) (λr=>True) (λr=> .tuple #[r,.int .i64 0]) (λr=>[Yl 2 wv r (xs.map (· / c))]):=by
 refine Zd func206 ntmps206 λz w m h=>go 2 ?_;refine Zx (Zs 2) λb _=>go 8 ?_;refine tt (Em 3 _ 24 (enc:=wv) 0 J J J J Mj ti130 J pV.cells pV.pos J J J m.h J J) λv _=>go 12 ?_;refine lp (G:=Nat) [3,6,15,16] [0,1,2] (λk=>[(17,.int .i64 (k:Int))]) (λk=>[(3,Ox 2 130 wv v (fill xs.length k (λi=>cf xs i/c)))]) (λk=>k<=xs.length) (λk=>xs.length-k) 0 O1 K1 ⟨by rw [Cz xs.length (λi=>cf xs i/c)];rfl,aA⟩ ?_;rintro k u;have g:Bp (xs.getD k 0/c)=cf xs k/c:=Ng (Zbl (s k) (l k));refine go 6<|Zb J (λa=>?_) (λa=>?_)
 .refine go 9 ⟨O2,O2,?_⟩;refine Zx (Zu 4) λn _=>go 8 ?_;refine cl 4 [] (Ba (l.getD _) q (f (by intro e;rw [e]at a;simp at a;omega))) λ_ _=>go 4<|Zx (Zu 5) λo _=>Zx (Zu 6) λp _=>go 12<|Zb J (λd=>?_) (λd=>?_)
  .exfalso;simp_all
  .refine go 6 ?_;refine dt (Yn 3 k J J J J (Yj pV) Mj Py J (by rw [Pa];omega))<|tt (Lj 3 (enc:=wv) J J J J J J pV J m.h O3 (by rw [Pa];omega)) (λ_ _=>?_);refine go 7 ⟨O,?_⟩;exact Yi (k+1) O1 O1 K1 ⟨by rw [<-Zck O];simp only [g];rfl,aA⟩
 .refine go 13 ?_;obtain rfl:k=xs.length:=O;exact Nq h _ results206 J aA (gow 3 Za (by rw [Fy,Ye2 xs (· / c)]<;>rfl))
theorem Nv(c:Vp xs):Cal prog 176 #[v] [Yl 2 wv v xs] true (G:=Value) (λr=>True) (λr=> .tuple #[r,.int .i64 0]) (λr=>[Yl 2 wv r (Yt xs)]):=by
 refine Zd func176 ntmps176 λh g f d=>?_;have e:=c.len;refine go 9 ?_;refine cl 1 [1] (Zob ‹_›) λ_ _=>go 3<|Zx (Zu 2) λb _=>go 11<|Zb J (λa=>?_) (λa=>?_)
 .exfalso;simp_all
 .refine go 6 ?_;refine cl 3 [1] (Zlt c.sz O (Zru _ c.sz) (Kk _) c.ne) λ_ _=>go 7 ?_;exact Nq d _ results176 J aA (Lx 3 Za J)
theorem Yas(n:Vp xs)(R:bl x.natAbs<=65536)(hy:bl y.natAbs<=65536)(a7:0<y):Xl prog 266 #[v,rX x y] [Yl 2 wv v xs] (.tuple #[wv (evv xs x y),.int .i64 (eve xs x y)]):=by
 refine Zd func266 ntmps266 λw0 sc p o=>?_;have c:=n.len;refine go 2<|Zx (Zs 2) λb _=>Zx (Zu 3) λY _=>go 7 ?_;refine cl 3 [1] (Xh ‹_›) λ_ _=>go 3 ?_;refine Lk 3 [] (Oe _ _ ‹_› ‹_› ‹_›) λ_ _=>go 15<|Zb J (λj=>?_) (λj=>?_)
 .refine go 2 ?_;refine dt (Xu [] J aA (λa w hs=>Yig))<|go 6 ?_;exact Nq o () results266 (by rw [aI (l:=xs) O];rfl) aA Za
 .have I:xs≠[]:=λe=>by rw [e]at j;simp at j
  have a5:=Px n.sz;have g:Sz 65536 [x,y]:=Sz.of_mem (by intro z S;simp at S;rcases S with rfl|rfl<;>assumption);have H:=Px g;have a6:(xs.length-1)*Qy [x,y]<=24*65536:=aS O H;have f:((xs.length:Int)-1)*(Qy [x,y]:Int)=(((xs.length-1)*Qy [x,y]:Nat):Int):=by rw [gC];congr 1;omega
  refine go 3 ?_;refine jn (G:=Unit) [0,3,4] [0,1,2,3] (λ_=>[(37,.bool (decide ((65536:Int)<(Qy xs:Int)+((xs.length:Int)-1)*(Qy [x,y]:Int)+8)))]) (λ_=>[]) (λ_=>True) ?_ ?_
  .refine Aw (λ_=>False) []<|Zv 7 [(0,0),(2,0),(3,0),(4,0),(5,0),(6,0),(7,0),(8,0)]<|go 9 ⟨O,?_⟩;refine Nj 6 1 9 ?_ ?_
   .refine Iw (Zw 3 [1] (Nm (by first|exact n.sz|exact g))) λ_ _=>?_;refine Zv 0 [(9,1),(10,1),(11,0),(12,0),(13,0),(14,0)]<|Bh J (Od [(0,_),(1,_)] 90 (enc:=wv) [x,y] J J K4 Yjm ti130 J J J J J pV.cells J J p.h) λv _=>Ql (Zw 3 [90] (Nm (by first|exact n.sz|exact g))) λ_ _=>?_;refine go 5 ⟨by rw [f];exact⟨O,O⟩,by rw [f];exact⟨O,O⟩,by rw [f];exact⟨O,O⟩,?_⟩;exact Yq<|Fb () aA K1 aA
   .refine Zab J J (Od [(0,_),(1,_)] 90 (enc:=wv) [x,y] J J K4 Yjm ti130 J J J J J pV.cells J J p.h) (λa8 _=>?_);refine Zv 0 [(1,1),(10,1),(11,0),(12,0),(13,0),(14,0)]<|Ql (Zw 3 [1] (Nm (by first|exact n.sz|exact g))) λ_ _=>Ql (Zw 3 [90] (Nm (by first|exact n.sz|exact g))) λ_ _=>?_;refine go 5 ⟨by rw [f];exact⟨O,O⟩,by rw [f];exact⟨O,O⟩,by rw [f];exact⟨O,O⟩,?_⟩;exact Yq<|Fb () aA K1 aA
  .rintro _ -;refine Zb J (λm=>?_) (λm=>?_)
   .have u:Ly xs x y:=⟨I,by rw [f]at m;omega⟩;refine go 2 ?_;refine dt (Xu [] J aA (λa w hs=>Yig))<|go 6 ?_;exact Nq o () results266 (by unfold evv eve;rw [aN u,aN u]<;>rfl) aA Za
   .have i:Qy xs+(xs.length-1)*Qy [x,y]+8<=65536:=by rw [f]at m;omega
    refine go 4<|Zx (Zu 4) λF _=>go 2 ?_;refine jn (G:=Nat×Nat) [0,3,4,6] [0,1,2,3,4] (λq=>[(7,.pointer (some ⟨q.1,0,none⟩)),(8,.pointer (some ⟨q.2,0,none⟩))]) (λq=>[(97,box q.1 130 (wc (xs.getD (xs.length-1) 0))),(98,box q.2 130 (wc 1))]) (λq=>True) ?_ ?_
    .refine Aw (λ_=>False) [9,10]<|Zv 5 [(0,0),(1,0),(2,0),(3,0),(4,0),(5,0)]<|go 4 ⟨O,?_⟩;refine Qb J J (Pp (Yn 1 (xs.length-1) J J J J Zi Mj Py))<|go 2 ⟨O,?_⟩;refine Yir 4 6 7 8 ?_ ?_ ?_
     .refine Iw (Zw 4 [] (Zm _ (by first|assumption|exact⟨O,O⟩))) λ_ _=>?_;refine Nj 3 7 8 ?_ ?_
      .refine Iw (Zu 97) λZ _=>?_;refine Zv 0 [(8,1),(9,3),(10,3)]<|Ql (Zu 98) λa0 _=>go 3 ?_;exact Yq<|Fb (_,_) aA K2 K2
      .refine Iw (Zu 98) λa1 _=>?_;refine Zv 0 [(7,1),(9,3),(10,3)]<|Ql (Zu 97) λa2 _=>go 3 ?_;exact Yq<|Fb (_,_) aA K2 K2
     .refine Iw (Zu 97) λa3 _=>?_;refine Nj 3 6 8 ?_ ?_
      .refine Iw (Zw 4 [] (Zm _ (by first|assumption|exact⟨O,O⟩))) λ_ _=>?_;refine Zv 0 [(8,1),(9,3),(10,3)]<|Ql (Zu 98) λa4 _=>go 3 ?_;exact Yq<|Fb (_,_) aA K2 K2
      .refine Iw (Zu 98) λM _=>?_;refine Zv 0 [(6,1),(9,3),(10,3)]<|Ql (Zw 4 [] (Zm _ (by first|assumption|exact⟨O,O⟩))) λ_ _=>go 3 ?_;exact Yq<|Fb (_,_) aA K2 K2
     .refine Iw (Zu 98) λN _=>?_;refine Nj 3 6 7 ?_ ?_
      .refine Iw (Zw 4 [] (Zm _ (by first|assumption|exact⟨O,O⟩))) λ_ _=>?_;refine Zv 0 [(7,1),(9,3),(10,3)]<|Ql (Zu 97) λP _=>go 3 ?_;exact Yq<|Fb (_,_) aA K2 K2
      .refine Iw (Zu 97) λQ _=>?_;refine Zv 0 [(6,1),(9,3),(10,3)]<|Ql (Zw 4 [] (Zm _ (by first|assumption|exact⟨O,O⟩))) λ_ _=>go 3 ?_;exact Yq<|Fb (_,_) aA K2 K2
    .rintro⟨V,W⟩ -;dsimp only;refine go 10 ⟨O,?_⟩;refine lp (G:=Nat) [0,3,4,6,7,8] [0,1,2,3,4] (λk=>[(9,.int .i64 ((k:Int)-1))]) (λk=>[(97,box V 130 (wc (Hd xs x y k))),(98,box W 130 (wc (y^(xs.length-1-k))))]) (λk=>k<=xs.length-1) (λk=>k) (xs.length-1) O1 ⟨by rw [show((xs.length-1:Nat):Int)-1=(xs.length:Int)-2 by omega];rfl,aA⟩ ⟨by rw [Ylu x y O];rfl,by rw [jE,eH];rfl,aA⟩ ?_;rintro k B;refine go 7<|Zb J (λr=>?_) (λr=>?_)
     .have d:y^(xs.length-1-k)*y=y^(xs.length-1-(k-1)):=Yd6 y O B;have D:Hd xs x y k*x+xs.getD (k-1) 0*y^(xs.length-1-(k-1))=Hd xs x y (k-1):=Yba x y O B;refine go 9 ?_;refine tt (Qk 4 4 (Dc (Zpg i) hy (by rw [d];exact Zpg i)) J J J K3 call199 J O3 Zq J p.h aA) λ_ _=>go 3 ?_;refine Pe (λx=>x=F) [(0,0),(1,0),(2,0),(4,0),(5,0),(6,0),(7,0),(8,0),(3,1),(9,1),(10,1),(11,3)]<|go 5 ?_;refine Qb J J (st1 4 J (Yn 1 (k-1) J J J J Zi Mj Py))<|go 2 ⟨O,?_⟩;refine Bh J (Qk 4 4 (Dc (by first|exact Zph i c _|exact n.sz.getD _) (by first|exact R|(rw [d];exact Zpg i)) (by first|exact Zvm i c O B|(rw [d];exact Zpf i))) J J J K3 call199 J O3 Zq J p.h J) (λ_ _=>?_);refine Bh J (Qk 4 4 (Dc (by first|exact Zph i c _|exact n.sz.getD _) (by first|exact R|(rw [d];exact Zpg i)) (by first|exact Zvm i c O B|(rw [d];exact Zpf i))) J J J K3 call199 J O3 Zq J p.h J) (λ_ _=>?_);refine Bh J (Qk 4 4 (Zk2 (Zvm i c O B) (by rw [d];exact Zpf i) (by rw [d,D];exact Zph i c _)) J J J K3 call202 J O3 Zq J p.h J) (λ_ _=>?_);refine go 9 ⟨O,?_⟩;exact Yi (k-1) O1 O1 ⟨by rw [show((k-1:Nat):Int)-1=(k:Int)-1-1 by omega];rfl,aA⟩ ⟨by rw [d,D];rfl,by rw [d];rfl,aA⟩
     .refine go 14<|Zb J (λs=>?_) (λs=>?_)
      .exfalso;simp_all
      .refine go 10 ?_;obtain rfl:k=0:=O;have u:¬Ly xs x y:=λh=>by have:=h.2;omega
       exact Nq o () results266 (by unfold evv eve;rw [aJ u,aJ u,<-Zsn]<;>rfl) aA Za
theorem Zrq(e:Vp xs)(g:bl x.natAbs<=65536)(h:bl y.natAbs<=65536)(d:0<y):Xl prog 254 #[v,rX x y] [Yl 2 wv v xs] (.tuple #[.int .i64 (evv xs x y).sign,.int .i64 (eve xs x y)]):=by refine Zd func254 ntmps254 λk j i c=>?_;have a:=e.len;refine go 2<|Zx (Zs 2) λb _=>go 8 ?_;refine cl 2 [1] (Yas e g h d) λ_ _=>go 3<|Zx (Zu 3) λf _=>go 7 ?_;refine cl 3 [] (It (evv_bl a)) λ_ _=>go 6 ?_;exact Nq c () results254 J aA Za
end Go.Sky

