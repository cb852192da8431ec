/- Rules, arithmetic and contracts: part 16. No conditions but those that each theorem names. -/
import Derived.Test.YtlnoheikolgejaaGreatLc14
import Derived.RangeFuncNested
set_option linter.all false
set_option maxHeartbeats 4000000
namespace Go.Sky
open Go.Proofs.Tryz
open Go.Proofs
set_option synthInstance.maxHeartbeats 0
set_option synthInstance.maxSize 100000
set_option maxRecDepth 20000
set_option linter.unusedSimpArgs false
variable{D d ov o:Int}{a b:List Zv}{zs:List GpT}{x y z:List Int}{t:Nat}{h:Zv}
theorem Za0(x y:Int)(g:Lo x)(i:Lo y)(e:y≠0):Xp prog 176 #[.int .i64 x,.int .i64 y] [] (.agg #[.bool (decide (Av x y<0)),.string (Qy (Av x y).natAbs),.bool (decide (Du x y<0)),.string (Qy (Du x y).natAbs)]):=by refine Zg func176 ntmps176 λm l k c=>go 2 ?_;refine Yj (Yd 1) λj _=>go 6 ?_;refine cl 1 [] (Ek x y g i e) λ_ _=>go 3<|Yj (Yd 2) λf _=>go 11 ?_;exact Yp c () results176 J aA Za
theorem Yp5(v:Value)(zs:List GpT)(b1:Nat)(Q:∀z∈zs,Cvd z.2.2):Yuc prog 174 [.pointer (some ⟨b1,0,none⟩)] [Hm b1 155 #[v],Xv 3 Ih qGp v zs] (α:=GpT) (G:=R2) (zs.filter (λz:GpT=>Hu z.2.2)) (λc g=>[.agg #[.int .i64 c.1.1,.int .i64 c.1.2,Xd c.2.1],.agg #[.bool (decide (g.1<0)),.string (Qy (g.1).natAbs),.bool (decide (g.2<0)),.string (Qy (g.2).natAbs)]]) (λc g=>[fctP (Fnd c.2.2 (qv (0,1)) (qv (1,1)) g)]):=by
 refine Ydt func174 J ntmps174 J K2 ?_;intro l M JI Jx w0 sc hw n s k P I;simp only [Pv,Xk];have R:=Hw.mk hw;refine Xz (Oa (i:=2) J Zc) λa8=>go 8 ?_;refine lp (G:=Nat×World) [0,8,9] [1,2] (λq=>[(10,.int .i64 (q.1:Int))]) (λq=>[(0,Xu q.2 (λ_=>False))]) (λq=>(q.1<=zs.length)/\(JI ((zs.take q.1).filter (λz:GpT=>Hu z.2.2)).length q.2)/\(w0.heap.size<=q.2.heap.size)) (λq=>zs.length-q.1) (0,w0) ⟨O1,P,aF _⟩ K1 K1 ?_;rintro⟨i,W⟩ ⟨hi,r,u⟩;dsimp only at hi r u;dsimp only;have b7:=hw_up R u;refine go 6<|Ze J (λN=>?_) (λN=>?_)
 .refine go 5<|Zf (Po 2 55 (zs.getD i Gp0) J J (Zd O) J) ?_;have m:=Q (zs.getD i Gp0) (Zd O);refine go 1 ?_;refine dt (Zs 2 i J J J J Zc Zez sizeOf178 J)<|dt (Yr 2 Gp0 J J J Zc pGp)<|Yj (Yd 3) λbx _=>go 4 ?_;rcases tf (Hu (zs.getD i Gp0).2.2)with e|e
  .refine Qw [3] [12]<|Zi 11 [(0,0),(1,0)]<|go 3 ?_;refine Pa 10 2 9 ?_ ?_
   .refine Na (Zo 3 [] (Za0 0 1 ⟨O3,O3⟩ ⟨O3,O3⟩ O3)) λ_ _=>?_;refine Pa 9 3 9 ?_ ?_
    .refine Na (Zo 3 [] (Za0 1 1 ⟨O3,O3⟩ ⟨O3,O3⟩ O3)) λ_ _=>?_;refine Pa 8 4 9 ?_ ?_
     .refine Na (Zo 3 [55] (Ga (0,1) (1,1) m Zfa Ze9 Zdq e)) λ_ _=>?_;refine Zi 0 [(5,0),(6,0),(7,0),(8,0),(9,1),(10,1),(11,0),(12,3)]<|go 4 ?_;refine Yq (Qf 4) λa0 ho=>go 4<|Zu<|go 21 ⟨O,?_⟩;exact Ye (i+1,W) ⟨O1,by rw [Ych O e];exact r,u⟩ O1 K1 K1
     .refine Na (Qf 5) λa1 a9=>?_;refine Zi 0 [(4,1),(5,0),(6,0),(7,0),(8,0),(10,1),(11,0),(12,3)]<|Yq (Zo 5 [55] (Ga (0,1) (1,1) m Zfa Ze9 Zdq e)) λ_ _=>go 8 ?_;refine Zu<|go 21 ⟨O,?_⟩;exact Ye (i+1,W) ⟨O1,by rw [Ych O e];exact r,u⟩ O1 K1 K1
    .refine Na (Qf 6) λa2 b0=>?_;refine Zi 0 [(3,1),(4,1),(5,0),(6,0),(7,0),(8,0),(10,1),(11,0),(12,3)]<|Yq (Zo 6 [] (Za0 1 1 ⟨O3,O3⟩ ⟨O3,O3⟩ O3)) λ_ _=>Yq (Zo 6 [55] (Ga (0,1) (1,1) m Zfa Ze9 Zdq e)) λ_ _=>go 8 ?_;refine Zu<|go 21 ⟨O,?_⟩;exact Ye (i+1,W) ⟨O1,by rw [Ych O e];exact r,u⟩ O1 K1 K1
   .refine Na (Qf 7) λa3 b2=>?_;refine Zi 0 [(2,1),(3,1),(4,1),(5,0),(6,0),(7,0),(8,0),(10,1),(11,0),(12,3)]<|Yq (Zo 7 [] (Za0 0 1 ⟨O3,O3⟩ ⟨O3,O3⟩ O3)) λ_ _=>Yq (Zo 7 [] (Za0 1 1 ⟨O3,O3⟩ ⟨O3,O3⟩ O3)) λ_ _=>Yq (Zo 7 [55] (Ga (0,1) (1,1) m Zfa Ze9 Zdq e)) λ_ _=>go 8 ?_;refine Zu<|go 21 ⟨O,?_⟩;exact Ye (i+1,W) ⟨O1,by rw [Ych O e];exact r,u⟩ O1 K1 K1
  .refine Qw [3] [12]<|Zi 11 [(0,0),(1,0)]<|go 3 ?_;refine Pa 10 2 9 ?_ ?_
   .refine Na (Zo 7 [] (Za0 0 1 ⟨O3,O3⟩ ⟨O3,O3⟩ O3)) λ_ _=>?_;refine Pa 9 3 9 ?_ ?_
    .refine Na (Zo 7 [] (Za0 1 1 ⟨O3,O3⟩ ⟨O3,O3⟩ O3)) λ_ _=>?_;refine Pa 8 4 9 ?_ ?_
     .refine Na (Zo 7 [55] (Hg (0,1) (1,1) m Zfa Ze9 Zdq e)) λS w=>?_;refine Zi 0 [(5,0),(6,0),(7,0),(8,0),(9,1),(10,1),(11,0),(12,3)]<|go 4 ?_;refine Yq (Qf 8) λa4 b3=>go 4<|Zu<|go 2<|Yms ?_;refine Kq (Zdm J J) J<|Kq (Zdm J J) J<|La (Zdm J J) (wtd J J J J) J J<|La (DI.h aA) (wtd J J J J) J J<|La (DI.h aA) (wtd J J J J) J J<|Zek [_,_] [_,_] (zs.getD i Gp0) S I (Zk1 O e) r u n J (wtd J J J J) J J J K2 J J (Zhl w J) K2 K2 (λp f j=>?_) (λp f j=>?_)
      .simp only [Xk];refine La (dF (Qn J J) J) (wtd J J J J) J J<|Kq (Bz J J J) J<|Za3<|go 9 ⟨O,?_⟩;exact Ye (i+1,p) ⟨O1,by rw [Ycg O e];exact f,j⟩ O1 K1 K1
      .simp only [Xk];refine La (dT (Qn J J) J) (wtd J J J J) J J<|Kq (Bz J J J) J<|Za3<|go 7 ?_;exact Zfe (.inl J) J J s k (.inr f)
     .refine Na (Qf 9) λa5 b4=>?_;refine Zi 0 [(4,1),(5,0),(6,0),(7,0),(8,0),(10,1),(11,0),(12,3)]<|Yq (Zo 9 [55] (Hg (0,1) (1,1) m Zfa Ze9 Zdq e)) λV B=>go 8 ?_;refine Zu<|go 2<|Yms ?_;refine Kq (Zdm J J) J<|Kq (Zdm J J) J<|La (Zdm J J) (wtd J J J J) J J<|La (DI.h aA) (wtd J J J J) J J<|La (DI.h aA) (wtd J J J J) J J<|Zek [_,_] [_,_] (zs.getD i Gp0) V I (Zk1 O e) r u n J (wtd J J J J) J J J K2 J J (Zhl B J) K2 K2 (λp f j=>?_) (λp f j=>?_)
      .simp only [Xk];refine La (dF (Qn J J) J) (wtd J J J J) J J<|Kq (Bz J J J) J<|Za3<|go 9 ⟨O,?_⟩;exact Ye (i+1,p) ⟨O1,by rw [Ycg O e];exact f,j⟩ O1 K1 K1
      .simp only [Xk];refine La (dT (Qn J J) J) (wtd J J J J) J J<|Kq (Bz J J J) J<|Za3<|go 7 ?_;exact Zfe (.inl J) J J s k (.inr f)
    .refine Na (Qf 10) λa6 b5=>?_;refine Zi 0 [(3,1),(4,1),(5,0),(6,0),(7,0),(8,0),(10,1),(11,0),(12,3)]<|Yq (Zo 10 [] (Za0 1 1 ⟨O3,O3⟩ ⟨O3,O3⟩ O3)) λ_ _=>Yq (Zo 10 [55] (Hg (0,1) (1,1) m Zfa Ze9 Zdq e)) λY F=>go 8 ?_;refine Zu<|go 2<|Yms ?_;refine Kq (Zdm J J) J<|Kq (Zdm J J) J<|La (Zdm J J) (wtd J J J J) J J<|La (DI.h aA) (wtd J J J J) J J<|La (DI.h aA) (wtd J J J J) J J<|Zek [_,_] [_,_] (zs.getD i Gp0) Y I (Zk1 O e) r u n J (wtd J J J J) J J J K2 J J (Zhl F J) K2 K2 (λp f j=>?_) (λp f j=>?_)
     .simp only [Xk];refine La (dF (Qn J J) J) (wtd J J J J) J J<|Kq (Bz J J J) J<|Za3<|go 9 ⟨O,?_⟩;exact Ye (i+1,p) ⟨O1,by rw [Ycg O e];exact f,j⟩ O1 K1 K1
     .simp only [Xk];refine La (dT (Qn J J) J) (wtd J J J J) J J<|Kq (Bz J J J) J<|Za3<|go 7 ?_;exact Zfe (.inl J) J J s k (.inr f)
   .refine Na (Qf 11) λa7 b6=>?_;refine Zi 0 [(2,1),(3,1),(4,1),(5,0),(6,0),(7,0),(8,0),(10,1),(11,0),(12,3)]<|Yq (Zo 11 [] (Za0 0 1 ⟨O3,O3⟩ ⟨O3,O3⟩ O3)) λ_ _=>Yq (Zo 11 [] (Za0 1 1 ⟨O3,O3⟩ ⟨O3,O3⟩ O3)) λ_ _=>Yq (Zo 11 [55] (Hg (0,1) (1,1) m Zfa Ze9 Zdq e)) λZ H=>go 8 ?_;refine Zu<|go 2<|Yms ?_;refine Kq (Zdm J J) J<|Kq (Zdm J J) J<|La (Zdm J J) (wtd J J J J) J J<|La (DI.h aA) (wtd J J J J) J J<|La (DI.h aA) (wtd J J J J) J J<|Zek [_,_] [_,_] (zs.getD i Gp0) Z I (Zk1 O e) r u n J (wtd J J J J) J J J K2 J J (Zhl H J) K2 K2 (λp f j=>?_) (λp f j=>?_)
    .simp only [Xk];refine La (dF (Qn J J) J) (wtd J J J J) J J<|Kq (Bz J J J) J<|Za3<|go 9 ⟨O,?_⟩;exact Ye (i+1,p) ⟨O1,by rw [Ycg O e];exact f,j⟩ O1 K1 K1
    .simp only [Xk];refine La (dT (Qn J J) J) (wtd J J J J) J J<|Kq (Bz J J J) J<|Za3<|go 7 ?_;exact Zfe (.inl J) J J s k (.inr f)
 .obtain rfl:i=zs.length:=O;rw [bS]at r;exact go 4<|Zfe (.inr J) J J s k (.inl r)
theorem Ysy(f:∀g∈a,Gin g)(i:∀g∈b,Gin g)(c:Qg a=true)(e:Qg b=true)(m:dsB D=true)(h:zs.map unP=Ie D 1 1 a b):∀z∈zs,Cvd z.2.2:=λz l=>by obtain⟨k,j,rfl⟩:=dW l;have:=Ync f i c e m h j;rwa [aK,aL j]at this
theorem Yt3{n:Int}(h:zs.map unP=Ie D n d a b)(c:¬Bi a b≠0)(e:(zs.filter λz=>Hu z.2.2).length=0):apZ D n d a b=true:=by
 refine ap_no ?_ (dN.1 c);rw [Yl8 h λi hi=>?_];cases hn:Hu (zs.getD i Gp0).2.2 with
 | false=>rfl
 | true=>
  have:zs.getD i Gp0∈zs.filter λz=>Hu z.2.2:=gK.2 ⟨Zd hi,hn⟩;rw [aC e]at this;cases this
theorem Yoa{n:Int}{k:Nat}{x:GpT}(h:zs.map unP=Ie D n d a b)(f:(zs.filter λz=>Hu z.2.2)[k]? = some x):apZ D n d a b=false:=by
 have c:=(gK.1 (jD f));refine ap_is ?_;cases hf:(Zch (Ie D n d a b)).2.2 with
 | true=>rfl
 | false=>
  exfalso;have e:Zoq (Ie D n d a b)=none:=by
   cases he:Zoq (Ie D n d a b)with
   | none=>rfl
   | some g=>unfold Zch at hf;rw [he]at hf;cases hf
  have:=mF.1 e (unP x) (by rw [<-h];exact eK.2 ⟨x,c.1,rfl⟩);exact this c.2
theorem se_bad{v:Value}:Cal prog 108 #[v] [Xv 3 Ih qGp v zs] true (G:=Nat) (λg=>True) (λg=> .func (.func 174) #[] #[.pointer (some ⟨g,0,none⟩)]) (λg=>[Hm g 155 #[v]]):=by refine Zg func108 ntmps108 λl j i c=>?_;refine Zcw (Xj 1 J Zc) (λk e=>?_);subst e;refine go 2<|Yj (Yg 2) λf _=>go 5 ?_;refine dt (Yc2 [] [_] J aA K1)<|go 4 ?_;exact Zn (Zij 2 J J)<|Yp c _ results108 J aA (Pb 2 Za)
theorem Yim{Y Z:Value}(s u:List Zv)(N:Int)(H:∀g∈s,Gin g)(I:∀g∈u,Gin g)(F:Qg s=true)(G:Qg u=true)(Q:s.length<=5)(R:u.length<=5)(M:dsB N=true):Xp prog 44 #[Y,Z,.int .i64 N] [Xv 6 Qv qG Y s,Xv 6 Qv qG Z u] (.tuple #[.bool (apZ N 1 1 s u),.int .i64 (Bi s u)]):=by
 refine Ydu func44 J ntmps44 J K2 ?_;intro v sc S r;have S:=Hw.mk S;simp only [Pv,Xk];refine go 2<|Yj (Yd 3) λf _=>Yj (Yd 4) λc _=>go 7 ?_;refine cl 5 [1,2] (Yp6 H I F G Q R M) λj n=>go 14<|Ze J (λm=>?_) (λm=>?_)
 .have B:=m;refine go 9 ?_;exact fk_of<|Nd r () results44 (by rw [ap_e B]) aA Za
 .have B:=m;refine go 6 ?_;refine cl 6 [5] se_bad λb _=>go 3 ?_;refine e_rfi ([Hm b 155 #[j.1],Xv 3 Ih qGp j.1 j.2]) v (λ(_:Nat) (_:Unit)=>[(0,Xu v (λ_=>False)),(3,box f 4 #[.bool false]),(4,box c 28 #[.int .i64 0])]) (λk _=>k=0) (λ(_:Unit)=>[(0,Xu v (λ_=>False)),(3,box f 4 #[.bool false]),(4,box c 28 #[.int .i64 0])]) (λ_=>apZ N 1 1 s u=false) () J (by intro e w;first|exact enters_of func174 O6 rfl e w|exact call174 e w) (Yp5 j.1 j.2 b (Ysy H I F G M n)) ?_ (λ_ _=>J) J S.h J J K3 (λ_ _=>⟨J,J⟩) (λ_=>⟨J,J⟩) (λk x gi j hx i l Mf Wa=>?_) J (λj i D od=>?_) (λ_ V=>?_)
  .intro p W;simp only [bI,dA,fL]at W;rcases W with rfl|rfl
   .exact⟨J,6,J⟩
   .exact⟨J,5,J⟩
  .refine Ymo (env':=[(6,.pointer (some ⟨f,0,none⟩)),(7,.pointer (some ⟨c,0,none⟩))]) (H':=[(92,Xu Wa Mf),(0,Xu v (λ_=>False)),(3,box f 4 #[.bool false]),(4,box c 28 #[.int .i64 0])]) (λa w hs=>hs.weaken ⟨J,J,aA⟩ ⟨J,J,J,J,aA⟩)<|Ycq λa w hs=>⟨J,[(6,.pointer (some ⟨f,0,none⟩)),(7,.pointer (some ⟨c,0,none⟩))],[(0,Xu v (λ_=>False)),(3,box f 4 #[.bool false]),(4,box c 28 #[.int .i64 0])],J,(λq h=>by cases h;rfl),⟨.inr (λb P=>⟨0,_,J,P⟩),.inl J,.inl J,aA⟩,hs.weaken ⟨J,J,aA⟩ ⟨J,J,J,J,aA⟩,λWb _=>?_⟩;refine Zwj<|Zso J<|go 2 ?_;refine go 1 ?_;exact Yo0<|Ymn λa w hs=>Or.inr ⟨J,(),Yoa n hx,⟨.inr (λb P=>⟨0,_,J,P⟩),.inl J,.inl J,aA⟩,[],hs.weaken aA ⟨J,J,J,J,aA⟩⟩
  .refine go 2 ?_;refine go 1 ?_;refine Yo1 λa w hs=>⟨J,[(6,.pointer (some ⟨f,0,none⟩)),(7,.pointer (some ⟨c,0,none⟩))],[(0,Xu v (λ_=>False)),(3,box f 4 #[.bool true]),(4,box c 28 #[.int .i64 0])],J,⟨⟨_,J,J,λ_ h=>h⟩,⟨_,J,J,λ_ h=>h⟩,⟨_,J,J,λ_ h=>h⟩,aA⟩,hs.weaken ⟨J,J,aA⟩ ⟨J,J,J,J,aA⟩,?_⟩;exact Nd r () results44 (by rw [Yt3 n B i,dN.1 B]) aA Za
  .exact Nd r () results44 (by rw [V,dN.1 B]) aA Za
def gZ(o:Int)(l:List Int):Nat->Int
 | 0=>o
 | i+1=>(Int.gcd (gZ o l i) (cf l i):Int)
theorem gZ_ok{o:Int}{l:List Int}(f:0<o)(c:bl o.natAbs<=200)(e:∀i,bl (cf l i).natAbs<=200):∀i,0<gZ o l i/\bl (gZ o l i).natAbs<=200
 | 0=>⟨f,c⟩
 | i+1=>by obtain⟨g,j⟩:=gZ_ok f c e i;have k:0<Int.gcd (gZ o l i) (cf l i):=jJ _ O;have m:=Zlc (gZ o l i) (cf l i);have n:=e i;show 0<((Int.gcd _ _:Nat):Int)/\bl ((Int.gcd _ _:Nat):Int).natAbs<=200;exact⟨O,O⟩
def plC(a d:Int)(x y z:List Int)(t:Nat):Int:=pl (Zt t x y z) a d
theorem Ycc(ov a d:Int)(x y z:List Int):∀i,i<=3->gZ (ov*d^5) (mk 3 (plC a d x y z)) i=gS ov a d x y z i
 | 0,_=>rfl
 | i+1,hi=>by show((Int.gcd (gZ _ _ i) (cf _ i):Nat):Int)=((Int.gcd _ _:Nat):Int);rw [Ycc ov a d x y z i O,Md,aP O];rfl
theorem Ykd{fr f:Int}(h:Sgo fr f ov x y z){a:Int}(c:0<=a/\a<=3600000)(e:1<=d/\d<=3600000)(i:Nat):bl (cf (mk 3 (plC a d x y z)) i).natAbs<=200:=by
 rw [Md];split
 .exact aB (Zdu (h.hc i) c e (h.lc i).2) O3
 .decide
def Zrv(o:Int)(l:List Int):List Int:=mk 3 λt=>cf l t/gZ o l 3
theorem Yrl{l:List Int}(h:t<3):cf (Zrv o l) t=cf l t/gZ o l 3:=by unfold Zrv;rw [Md,aP h]
theorem Yli{l:List Int}(h:∀j,bl (cf l j).natAbs<=200)(j:Nat):bl (cf (Zrv o l) j).natAbs<=200:=by
 unfold Zrv;rw [Md];split
 .exact bl_dl (h j)
 .decide
theorem Zix{a:Int}(h:t<3):cf (Zrv (ov*d^5) (mk 3 (plC a d x y z))) t=plC a d x y z t/gS ov a d x y z 3:=by rw [Yrl h,Ycc _ _ _ _ _ _ 3 (aF _),Md,aP h]
theorem Yri{g:Zv}{e f:List Int}(i:e=Zrv (h.1.2.2*1^5) (mk 3 (plC 0 1 h.2.1.2 h.2.2.1.2 h.2.2.2.2)))(j:f=Zrv (g.1.2.2*1^5) (mk 3 (plC 1 1 g.2.1.2 g.2.2.1.2 g.2.2.2.2)))(k:h.1.1=g.1.2.1) :
  decide (cf e 0=cf f 0/\cf e 1=cf f 1/\cf e 2=cf f 2/\h.1.2.2*1^5/gS h.1.2.2 0 1 h.2.1.2 h.2.2.1.2 h.2.2.2.2 3=g.1.2.2*1^5/gS g.1.2.2 1 1 g.2.1.2 g.2.2.1.2 g.2.2.2.2 3)=meG g h:=by
 subst i;subst j;unfold meG Zm1 sameP;rw [aH k.symm,lT,Zix O3,Zix O3,Zix O3,Zix O3,Zix O3,Zix O3];refine bB.2 ⟨λ⟨a,b,c,d⟩=>⟨a.symm,b.symm,c.symm,d.symm⟩,λ⟨a,b,c,d⟩=>⟨a.symm,b.symm,c.symm,d.symm⟩⟩
theorem me_no{g:Zv}(c:h.1.1≠g.1.2.1):meG g h=false:=by unfold meG Zm1;rw [aE (λe=>c e.symm)];rfl
theorem Yg0(ps:List Zv)(i:Nat):seB (ps.getD i G0)=false\/(seB (ps.getD i G0)=true/\i=0)\/(seB (ps.getD i G0)=true/\0<i/\(ps.getD i G0).1.1≠(ps.getD (i-1) G0).1.2.1)\/(seB (ps.getD i G0)=true/\0<i/\(ps.getD i G0).1.1=(ps.getD (i-1) G0).1.2.1):=by
 rcases Zpb (ps.getD i G0) i with h|h|h
 .exact .inl h
 .exact .inr (.inl h)
 .by_cases e:(ps.getD i G0).1.1=(ps.getD (i-1) G0).1.2.1
  .exact .inr (.inr (.inr ⟨h.1,h.2,e⟩))
  .exact .inr (.inr (.inl ⟨h.1,h.2,e⟩))
def gS_d{fr f:Int}(h:Sgo fr f ov x y z){a:Int}(c:0<=a/\a<=3600000)(e:1<=d/\d<=3600000):bl (ov*d^5/gS ov a d x y z 3).natAbs<=200:=bl_dl (aB (Zwd h c e 0).2 O3)
def spX(g:Zv)(i:Nat)(s:Rat):Rat:=Zj (Zt i g.2.1.2 g.2.2.1.2 g.2.2.2.2) s
open Go.RowKit Below
section
variable {P:Program} {N:Nat} {sc:Nat->Prop} {env:Px} {H:Hp}
end
def lx(p q:Nat×Nat):Prop:=p.1<q.1\/(p.1=q.1/\p.2<q.2)
end Go.Sky
namespace Go.Sky
def SmP(g:Zv)(s:Rat)(h:Zv)(u:Rat):Prop:=∀i,i<3->spX g i s*(h.1.2.2:Rat)=spX h i u*(g.1.2.2:Rat)
def SmP.symm{g h:Zv}{s u:Rat}(e:SmP g s h u):SmP h u g s:=λi hi=>(e i hi).symm
def SmP.trans{g h k:Zv}{s u v:Rat}(a:(h.1.2.2:Rat)≠0)(e:SmP g s h u)(f:SmP h u k v):SmP g s k v:=λi hi=>by
 have b:=e i hi;have c:=f i hi;have:(spX g i s*(k.1.2.2:Rat)-spX k i v*(g.1.2.2:Rat))*(h.1.2.2:Rat)=0:=O4;rcases Rat.mul_eq_zero.1 this with q|q
 .grind
 .exact absurd q a
section
variable {a b:List Zv} (hpa:∀g∈a,Gin g) (hpb:∀g∈b,Gin g) (hba:Qg a=true) (hbb:Qg b=true)
include hpa hpb hba hbb
end
section
variable {a b:List Zv} (hpa:∀g∈a,Gin g) (hpb:∀g∈b,Gin g) (hba:Qg a=true) (hbb:Qg b=true)
include hpa hpb hba hbb
end
section
variable (s t:SL×SL×SL)
end
end Go.Sky
