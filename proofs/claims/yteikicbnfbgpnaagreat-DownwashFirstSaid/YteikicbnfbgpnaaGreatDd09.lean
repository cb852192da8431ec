/- Rules, arithmetic and contracts: part 10. No conditions but those that each theorem names. -/
import Derived.Test.YteikicbnfbgpnaaGreatDd08
set_option linter.all false
namespace Go.Sky
variable{c:List Int}{ov b M x0 x1 x2 x3 a d:Int}{x y:Code}{ops:List Oper}{id:Nat}{zs:List Zv}
def Ylu:∀n,n<6->∀j,j<n+1->∀k,k<j+1->(Ot n j:Int)*w60 n j k=60*(Ot (n-k) (j-k):Int):=O6
theorem Ze1(f:Nat->Int)(a:Int):∀m,Yf (λk=>a*f k) m=a*Yf f m
 | 0=>by show(0:Int)=a*0;omega
 | m+1=>by rw [Yi,Yi,Ze1 f a m,kP]
theorem Yow(g:1<=c.length/\c.length<=6){j:Nat}(e:j<c.length):(Ot (c.length-1) j:Int)*ctl c j (j+1)=60*Hb (c.length-1) c j:=by unfold ctl Hb;rw [<-Ze1,<-Ze1];refine Xa λk f=>?_;have:=Ylu (c.length-1) O j O k O;show(Ot (c.length-1) j:Int)*(cf c k*w60 (c.length-1) j k)=60*(cf c k*_);rw [mC,this,mC]
theorem Ykp{n j:Nat}(h:j<n+1):(0:Int)<(Ot n j:Int):=by have:=Zj0 (n:=n) (k:=j) O;omega
theorem Yb0(p:1<=c.length/\c.length<=6) : Zmt c ov=true↔∀j,j<c.length->((Hb (c.length-1) c j).natAbs:Int)<=1048576*ov*(Ot (c.length-1) j:Int):=by
 have f:∀j,j<c.length->((((ctl c j (j+1)).natAbs:Int)<=62914560*ov)↔((Hb (c.length-1) c j).natAbs:Int)<=1048576*ov*(Ot (c.length-1) j:Int)):=λj e=>by
  have m:=Yow p e;have i:=Ykp (n:=c.length-1) (j:=j) O;have k:=aI Int.natAbs m;rw [cH,cH,dD]at k;generalize (ctl c j (j+1)).natAbs=x at *;generalize (Hb (c.length-1) c j).natAbs=y at *;generalize Ot (c.length-1) j=q at *;have l:(q:Int)*(x:Int)=60*(y:Int):=by exact_mod_cast k
  constructor
  .intro h;have g:=iL h (eC i);rw [l]at g;have o:(q:Int)*(62914560*ov)=60*(1048576*ov*q):=O4;omega
  .intro h;have g:60*(y:Int)<=(q:Int)*(62914560*ov):=by have o:(q:Int)*(62914560*ov)=60*(1048576*ov*q):=O4;omega
   rw [<-l]at g;exact lS g i
 constructor
 .intro h j e;unfold Zmt at h;rw [cJ]at h;exact(f j e).1 (cF (h j (fX.2 e)))
 .intro h;exact Zx3 λj e=>(f j e).2 (h j e)
def Xz{x:Int} : ((x.natAbs:Int)<=b)↔(-b<=x/\x<=b):=O
def cfb0(f:0<=M)(e:-(M*1)<=(x0*1)/\(x0*1)<=M*1):(-(2047*M)<=x0/\x0<=2047*M):=O
def bre00(c:List Int):Hb 0 c 0=cf c 0*1:=O10
theorem cfb1(g:0<=M)(e:-(M*1)<=(x0*1)/\(x0*1)<=M*1)(f:-(M*1)<=(x0*1+x1*1)/\(x0*1+x1*1)<=M*1):(-(2047*M)<=x0/\x0<=2047*M)/\(-(2047*M)<=x1/\x1<=2047*M):=by refine⟨⟨?_,?_⟩,⟨?_,?_⟩⟩<;>omega
def bre10(c:List Int):Hb 1 c 0=cf c 0*1:=O10
def bre11(c:List Int):Hb 1 c 1=cf c 0*1+cf c 1*1:=O10
theorem cfb2(h:0<=M)(e:-(M*1)<=(x0*1)/\(x0*1)<=M*1)(f:-(M*2)<=(x0*2+x1*1)/\(x0*2+x1*1)<=M*2)(g:-(M*1)<=(x0*1+x1*1+x2*1)/\(x0*1+x1*1+x2*1)<=M*1):(-(2047*M)<=x0/\x0<=2047*M)/\(-(2047*M)<=x1/\x1<=2047*M)/\(-(2047*M)<=x2/\x2<=2047*M):=by refine⟨⟨?_,?_⟩,⟨?_,?_⟩,⟨?_,?_⟩⟩<;>omega
def bre20(c:List Int):Hb 2 c 0=cf c 0*1:=O10
def bre21(c:List Int):Hb 2 c 1=cf c 0*2+cf c 1*1:=O10
def bre22(c:List Int):Hb 2 c 2=cf c 0*1+cf c 1*1+cf c 2*1:=O10
theorem cfb3(i:0<=M)(e:-(M*1)<=(x0*1)/\(x0*1)<=M*1)(f:-(M*3)<=(x0*3+x1*1)/\(x0*3+x1*1)<=M*3)(g:-(M*3)<=(x0*3+x1*2+x2*1)/\(x0*3+x1*2+x2*1)<=M*3)(h:-(M*1)<=(x0*1+x1*1+x2*1+x3*1)/\(x0*1+x1*1+x2*1+x3*1)<=M*1):(-(2047*M)<=x0/\x0<=2047*M)/\(-(2047*M)<=x1/\x1<=2047*M)/\(-(2047*M)<=x2/\x2<=2047*M)/\(-(2047*M)<=x3/\x3<=2047*M):=by refine⟨⟨?_,?_⟩,⟨?_,?_⟩,⟨?_,?_⟩,⟨?_,?_⟩⟩<;>omega
def bre30(c:List Int):Hb 3 c 0=cf c 0*1:=O10
def bre31(c:List Int):Hb 3 c 1=cf c 0*3+cf c 1*1:=O10
def bre32(c:List Int):Hb 3 c 2=cf c 0*3+cf c 1*2+cf c 2*1:=O10
def bre33(c:List Int):Hb 3 c 3=cf c 0*1+cf c 1*1+cf c 2*1+cf c 3*1:=O10
theorem cfb4{e:Int}(k:0<=M)(f:-(M*1)<=(x0*1)/\(x0*1)<=M*1)(g:-(M*4)<=(x0*4+x1*1)/\(x0*4+x1*1)<=M*4)(h:-(M*6)<=(x0*6+x1*3+x2*1)/\(x0*6+x1*3+x2*1)<=M*6)(i:-(M*4)<=(x0*4+x1*3+x2*2+x3*1)/\(x0*4+x1*3+x2*2+x3*1)<=M*4)(j:-(M*1)<=(x0*1+x1*1+x2*1+x3*1+e*1)/\(x0*1+x1*1+x2*1+x3*1+e*1)<=M*1):(-(2047*M)<=x0/\x0<=2047*M)/\(-(2047*M)<=x1/\x1<=2047*M)/\(-(2047*M)<=x2/\x2<=2047*M)/\(-(2047*M)<=x3/\x3<=2047*M)/\(-(2047*M)<=e/\e<=2047*M):=by refine⟨⟨?_,?_⟩,⟨?_,?_⟩,⟨?_,?_⟩,⟨?_,?_⟩,⟨?_,?_⟩⟩<;>omega
def bre40(c:List Int):Hb 4 c 0=cf c 0*1:=O10
def bre41(c:List Int):Hb 4 c 1=cf c 0*4+cf c 1*1:=O10
def bre42(c:List Int):Hb 4 c 2=cf c 0*6+cf c 1*3+cf c 2*1:=O10
def bre43(c:List Int):Hb 4 c 3=cf c 0*4+cf c 1*3+cf c 2*2+cf c 3*1:=O10
def bre44(c:List Int):Hb 4 c 4=cf c 0*1+cf c 1*1+cf c 2*1+cf c 3*1+cf c 4*1:=O10
theorem cfb5{e f:Int}(m:0<=M)(g:-(M*1)<=(x0*1)/\(x0*1)<=M*1)(h:-(M*5)<=(x0*5+x1*1)/\(x0*5+x1*1)<=M*5)(i:-(M*10)<=(x0*10+x1*4+x2*1)/\(x0*10+x1*4+x2*1)<=M*10)(j:-(M*10)<=(x0*10+x1*6+x2*3+x3*1)/\(x0*10+x1*6+x2*3+x3*1)<=M*10)(k:-(M*5)<=(x0*5+x1*4+x2*3+x3*2+e*1)/\(x0*5+x1*4+x2*3+x3*2+e*1)<=M*5)(l:-(M*1)<=(x0*1+x1*1+x2*1+x3*1+e*1+f*1)/\(x0*1+x1*1+x2*1+x3*1+e*1+f*1)<=M*1):(-(2047*M)<=x0/\x0<=2047*M)/\(-(2047*M)<=x1/\x1<=2047*M)/\(-(2047*M)<=x2/\x2<=2047*M)/\(-(2047*M)<=x3/\x3<=2047*M)/\(-(2047*M)<=e/\e<=2047*M)/\(-(2047*M)<=f/\f<=2047*M):=by refine⟨⟨?_,?_⟩,⟨?_,?_⟩,⟨?_,?_⟩,⟨?_,?_⟩,⟨?_,?_⟩,⟨?_,?_⟩⟩<;>omega
def bre50(c:List Int):Hb 5 c 0=cf c 0*1:=O10
def bre51(c:List Int):Hb 5 c 1=cf c 0*5+cf c 1*1:=O10
def bre52(c:List Int):Hb 5 c 2=cf c 0*10+cf c 1*4+cf c 2*1:=O10
def bre53(c:List Int):Hb 5 c 3=cf c 0*10+cf c 1*6+cf c 2*3+cf c 3*1:=O10
def bre54(c:List Int):Hb 5 c 4=cf c 0*5+cf c 1*4+cf c 2*3+cf c 3*2+cf c 4*1:=O10
def bre55(c:List Int):Hb 5 c 5=cf c 0*1+cf c 1*1+cf c 2*1+cf c 3*1+cf c 4*1+cf c 5*1:=O10
theorem cf_brS{n:Nat}(q:n<6)(s:c.length<=n+1)(h:∀j,j<n+1->((Hb n c j).natAbs:Int)<=M*(Ot n j:Int))(k:Nat):((cf c k).natAbs:Int)<=2047*M:=by
 have m:0<=M:=by have f:=h 0 O;rw [Zmm]at f;omega
 by_cases r:k<n+1
 .rw [Xz]
  match n,q with
  | 0,_=>
   have f:=Xz.1 (h 0 O3);rw [bre00,show(Ot 0 0:Int)=1 from rfl]at f;have e:=cfb0 m f;obtain rfl:k=0:=O;exact e
  | 1,_=>
   have f:=Xz.1 (h 0 O3);rw [bre10,show(Ot 1 0:Int)=1 from rfl]at f;have g:=Xz.1 (h 1 O3);rw [bre11,show(Ot 1 1:Int)=1 from rfl]at g;have e:=cfb1 m f g;rcases(show k=0\/k=1 by omega)with rfl|rfl
   .exact e.1
   .exact e.2
  | 2,_=>
   have f:=Xz.1 (h 0 O3);rw [bre20,show(Ot 2 0:Int)=1 from rfl]at f;have g:=Xz.1 (h 1 O3);rw [bre21,show(Ot 2 1:Int)=2 from rfl]at g;have i:=Xz.1 (h 2 O3);rw [bre22,show(Ot 2 2:Int)=1 from rfl]at i;have e:=cfb2 m f g i;rcases(show k=0\/k=1\/k=2 by omega)with rfl|rfl|rfl
   .exact e.1
   .exact e.2.1
   .exact e.2.2
  | 3,_=>
   have f:=Xz.1 (h 0 O3);rw [bre30,show(Ot 3 0:Int)=1 from rfl]at f;have g:=Xz.1 (h 1 O3);rw [bre31,show(Ot 3 1:Int)=3 from rfl]at g;have i:=Xz.1 (h 2 O3);rw [bre32,show(Ot 3 2:Int)=3 from rfl]at i;have l:=Xz.1 (h 3 O3);rw [bre33,show(Ot 3 3:Int)=1 from rfl]at l;have e:=cfb3 m f g i l;rcases(show k=0\/k=1\/k=2\/k=3 by omega)with rfl|rfl|rfl|rfl
   .exact e.1
   .exact e.2.1
   .exact e.2.2.1
   .exact e.2.2.2
  | 4,_=>
   have f:=Xz.1 (h 0 O3);rw [bre40,show(Ot 4 0:Int)=1 from rfl]at f;have g:=Xz.1 (h 1 O3);rw [bre41,show(Ot 4 1:Int)=4 from rfl]at g;have i:=Xz.1 (h 2 O3);rw [bre42,show(Ot 4 2:Int)=6 from rfl]at i;have l:=Xz.1 (h 3 O3);rw [bre43,show(Ot 4 3:Int)=4 from rfl]at l;have o:=Xz.1 (h 4 O3);rw [bre44,show(Ot 4 4:Int)=1 from rfl]at o;have e:=cfb4 m f g i l o;rcases(show k=0\/k=1\/k=2\/k=3\/k=4 by omega)with rfl|rfl|rfl|rfl|rfl
   .exact e.1
   .exact e.2.1
   .exact e.2.2.1
   .exact e.2.2.2.1
   .exact e.2.2.2.2
  | 5,_=>
   have f:=Xz.1 (h 0 O3);rw [bre50,show(Ot 5 0:Int)=1 from rfl]at f;have g:=Xz.1 (h 1 O3);rw [bre51,show(Ot 5 1:Int)=5 from rfl]at g;have i:=Xz.1 (h 2 O3);rw [bre52,show(Ot 5 2:Int)=10 from rfl]at i;have l:=Xz.1 (h 3 O3);rw [bre53,show(Ot 5 3:Int)=10 from rfl]at l;have o:=Xz.1 (h 4 O3);rw [bre54,show(Ot 5 4:Int)=5 from rfl]at o;have p:=Xz.1 (h 5 O3);rw [bre55,show(Ot 5 5:Int)=1 from rfl]at p;have e:=cfb5 m f g i l o p;rcases(show k=0\/k=1\/k=2\/k=3\/k=4\/k=5 by omega)with rfl|rfl|rfl|rfl|rfl|rfl
   .exact e.1
   .exact e.2.1
   .exact e.2.2.1
   .exact e.2.2.2.1
   .exact e.2.2.2.2.1
   .exact e.2.2.2.2.2
 .rw [Yg O];simp;omega
structure AxC (c:List Int) (ov:Int):Prop where
 l:1<=c.length/\c.length<=6
 t:¬(1<c.length/\c.getD (c.length-1) 0=0)
 b:∀j,j<c.length->((Hb (c.length-1) c j).natAbs:Int)<=1048576*ov*(Ot (c.length-1) j:Int)
theorem AxC.of(h:axB c ov=true):AxC c ov:=by unfold axB at h;simp only [aQ,gC,iW,dQ,gD]at h;have g:1<=c.length/\c.length<=6:=⟨h.1.1.1,h.1.1.2⟩;exact⟨g,λf=>by rcases h.1.2 with e|e;exact e f.1;exact e f.2,(Yb0 g).1 h.2⟩
def AxC.to(h:AxC c ov):axB c ov=true:=Ycb h.l.1 h.l.2 h.t ((Yb0 h.l).2 h.b)
def tzl_nz(e:c.getD (c.length-1) 0≠0):tzl c=c:=Zak (.inr e)
theorem Ylb(h:AxC c ov):(tzl c=c)\/c=[0]:=by
 by_cases e:c.getD (c.length-1) 0=0
 .have i:c.length=1:=by
   have j:=h.l;have f:=h.t;by_cases g:1<c.length
   .exact absurd ⟨g,e⟩ f
   .omega
  right
  match c,i with
  | [x],_=>simp at e;rw [e]
 .exact .inl (tzl_nz e)
theorem Zf3(h:AxC c ov){t u:Rat}(f:t*(d:Rat)=(a:Rat)+(b:Rat)*u):Zf (Pa c a b d) u=(d:Rat)^5*Zf c t:=by
 unfold Pa;rw [Ze8];rcases Ylb h with e|e
 .have g:=h.l;rw [e,Zk1 a b d f O,Zdh];have:(d:Rat)^5=(d:Rat)^(6-c.length)*(d:Rat)^(c.length-1):=by rw [<-Yce];congr 1;omega
  rw [this];grind
 .subst e;rw [show tzl [0]=[]from by decide,show Le [] a b d=[]from rfl];show _*(0:Rat)=_*(((0:Int):Rat)+t*0);push_cast;grind
def Zgn(a b d:Int):(Pa c a b d).length<=c.length:=aB (Pt _ _) (aB (Zfc _ _ _ _) (Mp c))
theorem Ybz(h:AxC c ov)(f:0<=a)(g:0<=b)(e:a+b<=d)(i:0<d):∀j,j<c.length->((Hb (c.length-1) (Pa c a b d) j).natAbs:Int)<=1048576*(ov*d^5)*(Ot (c.length-1) j:Int):=λj k=>by have p:=h.l;have o:=Zgn (c:=c) a b d;have:=Ypq (c:=c) (X:=Pa c a b d) (n:=c.length-1) (m:=5) (B:=1048576*ov) O O f g e i (λt u l=>Zf3 h l) (λj k=>h.b j O) j O;rw [eE]at this;rw [eE];rw [eE,<-eE ov]at this;exact this
theorem cf_cmp(h:AxC c ov)(f:0<=a)(g:0<=b)(e:a+b<=d)(i:0<d)(k:Nat):((cf (Pa c a b d) k).natAbs:Int)<=ov*d^5*2146435072:=by have o:=h.l;have l:=Zgn (c:=c) a b d;have:=cf_brS (n:=c.length-1) O (c:=Pa c a b d) O (M:=1048576*(ov*d^5)) (λj m=>Ybz h f g e i j O) k;omega
theorem Zv8{g:Zv}(h:seB g=true):AxC g.2.1.2 g.1.2.2/\AxC g.2.2.1.2 g.1.2.2/\AxC g.2.2.2.2 g.1.2.2:=by have e:Cd g.1.1 g.1.2.1 g.1.2.2 g.2.1.2 g.2.2.1.2 g.2.2.2.2=true:=h;unfold Cd at e;simp only [aQ]at e;exact⟨.of e.1.1.1.2,.of e.1.1.2,.of e.1.2⟩
theorem Yj7{fr e:Int}{g:Zv}(f:SgG g)(h:Ku fr e g=true):0<=cA fr g-g.1.1/\0<cB e g-cA fr g/\(cA fr g-g.1.1)+(cB e g-cA fr g)<=g.1.2.1-g.1.1/\0<g.1.2.1-g.1.1:=by have k:=cF h;have i:=f.t1;have j:=f.t2;unfold cA cB at *;exact⟨O,O,O,O⟩
theorem Zw1{fr s:Int}{g:Zv}(hi:Gin g)(hs:seB g=true)(h:Ku fr s g=true):MdG fr s g:=by
 have f:SgG g:=Kz hi hs;obtain⟨w,z,B⟩:=Zv8 hs;obtain⟨D,F,G,H⟩:=Yj7 f h;obtain⟨q,r,-,-⟩:=cut_b f h;have R:=f.t3;have Q:=f.t1;have N:=f.o1;have P:=f.o2;have j:1<=g.1.2.1-g.1.1/\g.1.2.1-g.1.1<=3600000:=⟨O,O⟩;have t:=Zia f.hx f.lx q r j;have u:=Zia f.hy f.ly q r j;have v:=Zia f.hz f.lz q r j;have o:0<cO g:=iA O (kR O);have n:((cO g).natAbs:Int)=cO g:=O;have m:∀{c:List Int},AxC c g.1.2.2->∀k,(cf (cX fr s g c) k).natAbs<=(cO g).natAbs*2146435072:=λI k=>by
  have:=cf_cmp I D (eC F) G H k;have e:(((cO g).natAbs*2146435072:Nat):Int)=cO g*2146435072:=by rw [eW,n];rfl
  refine lE.1 ?_;rw [e];exact this
 refine⟨o,?_,λi=>?_,λi=>?_,λi k=>?_⟩
 .have S:bl g.1.2.2.natAbs<=40:=(Qm 40 _).2 O;have V:=Ziu j;have:=Yq g.1.2.2 ((g.1.2.1-g.1.1)^5);show bl (g.1.2.2*(g.1.2.1-g.1.1)^5).natAbs<=1000;omega
 .exact Cc (p:=λl:List Int=>Sz 1000 l) t.2.2.2.2.2.2.1 u.2.2.2.2.2.2.1 v.2.2.2.2.2.2.1
 .exact Cc (p:=λl:List Int=>l.length<=6) t.2.2.2.2.2.2.2 u.2.2.2.2.2.2.2 v.2.2.2.2.2.2.2
 .exact Cc (p:=λl:List Int=>(cf l k).natAbs<=(cO g).natAbs*2146435072) (m w k) (m z k) (m B k)
open Go.RowKit (Below)
variable {P:Program} {N:Nat} {sc:Nat->Prop} {env env':Pz} {H H':Hp} {Q Q':Exit->Act->World->Prop} {l:Nat}
def ER(P:Program)(N:Nat)(sc:Nat->Prop)(l:Nat)(c:Code)(Q:Exit->Act->World->Prop)(env:Pz)(H:Hp):Prop:=
 ∀a w,Sat N sc env H a w->c.wpIn (Fence.wide.inRound l) 0 P Q a w
def ndB(o:Oper):Bool:=match o.op with
 | .defer _=>false
 | _=>true
theorem Zog(h:ops.all ndB=true):Zqc ops:=λo f c e=>by have:=cJ.1 h o f;unfold ndB at this;rw [e]at this;cases this
def Zxh(e:ops.all ndB=true)(h:L P N sc ops.toArray ops (Et (Exit.then (λa w=>y.wpIn (Fence.wide.inRound l) 0 P Q a w) Q)) env H):ER P N sc l (.seq (.region id ops.toArray false) y) Q env H:=
 λa w hs=>wpIn_seq (Ygj (Zog e) h hs)
def Yav(e:ops.all ndB=true)(h:L P N sc ops.toArray ops (Et Q) env H):ER P N sc l (.region id ops.toArray false) Q env H:=
 λa w hs=>Ygj (Zog e) h hs
def x_er(h:ER P N sc l y Q env H):X N sc .normal (Et (Exit.then (λa w=>y.wpIn (Fence.wide.inRound l) 0 P Q a w) Q)) env H:=λa w hs=>h a w hs
def x_en(h:∀a w,Sat N sc env H a w->Q .normal a w):X N sc .normal (Et Q) env H:=λa w hs=>h a w hs
def er_seq(h:ER P N sc l x (Exit.then (λa w=>y.wpIn (Fence.wide.inRound l) 0 P Q a w) Q) env H):ER P N sc l (.seq x y) Q env H:=λa w hs=>wpIn_seq (h a w hs)
def Yjg{c:Code}(h:ER P N sc l c (Exit.inBlock id Q) env H):ER P N sc l (.block id c) Q env H:=λa w hs=>wpIn_block (h a w hs)
theorem Yjf{c:Operand}{b:Bool}(e:ev env c=some (.bool b))(g:b=true->ER P N sc l x Q env H)(f:b=false->ER P N sc l y Q env H):ER P N sc l (.cond c x y) Q env H:=λa w hs=>by
 cases b with
 | true=>exact wpIn_cond_true (hs.ev e) (g rfl a w hs)
 | false=>exact wpIn_cond_false (hs.ev e) (f rfl a w hs)
def Yoc(h:∀a w,Sat N sc env H a w->Q .normal a w):ER P N sc l .skip Q env H:=λa w hs=>wpIn_skip (h a w hs)
def er_ret(h:∀a w,Sat N sc env H a w->Q .ret a w):ER P N sc l .ret Q env H:=λa w hs=>wpIn_ret (h a w hs)
def er_imp(e:∀a w,Sat N sc env H a w->Sat N sc env' H' a w){c:Code}(h:ER P N sc l c Q env' H'):ER P N sc l c Q env H:=λa w hs=>h a w (e a w hs)
theorem Dq{β:Type}(i k:Nat)(enc:β->Value)(q:β->Pc):∀a w,Sat N sc env H a w->Sat N sc env ((i,Ph k enc q (.slice none 0 0) [])::H) a w:=λa w hs=>
 hs.add i _ ⟨Dg k enc w,λz f=>by cases f⟩ (λh j _ _ Ic b e g=>by
  rcases e with e|⟨z,f,_⟩
  .exact absurd rfl e.1
  .cases f) (λb e=>by
  rcases e with e|⟨z,f,_⟩
  .exact absurd rfl e.1
  .cases f)
theorem Yi2{e:Hp}{g:Zv}(i j:Nat)(k:lk e i=some (Me qG zs))(m:lk e j=some (Yw 1 Yl (Xn g.2.1.1) g.2.1.2))(n:lk e (j+1)=some (Yw 1 Yl (Xn g.2.2.1.1) g.2.2.1.2))(o:lk e (j+2)=some (Yw 1 Yl (Xn g.2.2.2.1) g.2.2.2.2)) :
  ∀b,(Me qG (zs ++ [g])).fp b->∃j q,lk e j=some q/\q.fp b:=λb ⟨z,p,f⟩=>by
 rcases cY.1 p with q|q
 .exact⟨i,_,k,z,q,f⟩
 .rw [bE.1 q]at f;obtain⟨c,h,f⟩:=f;simp only [bQ,fQ,lJ]at h;rcases h with rfl|rfl|rfl
  .exact⟨j,_,m,f⟩
  .exact⟨j+1,_,n,f⟩
  .exact⟨j+2,_,o,f⟩
end Go.Sky
namespace Go.Sky
variable{k b i:Nat}{zs:List Zv}{x y:Operand}{c xs:List Int}{ov d G x0 x1 x2 x3 m:Int}{a:Act}{o:Oper}{t tb:TypeId}{r:List Value}{v:Value}{w0 w:World}{M0:Nat->Prop}{kd:IntKind}
theorem Zqz(n p q s u z e f g h j l:Value):Instr.fill (λi=>some (i*6,6)) ((List.range (1*6)).map ((Value.agg #[n,p,q,s,u,z]).cells[· % (Value.agg #[n,p,q,s,u,z]).cells.size]!)).toArray [(0,.agg #[e,f,g,h,j,l])]=some #[e,f,g,h,j,l]:=by
 simp [Instr.fill,Value.cells,List.range,List.range.loop]
 try rfl
def Oj(fr e:Int)(ps:List Zv):Bool:=(ps.filter (Ku fr e)).all (Zg0 fr e)
def Zdc(fr e:Int)(ps:List Zv):List Zvs:=if Oj fr e ps=true then(ps.filter (Ku fr e)).map (Zu6 fr e)else []
def Zu7(fr e:Int)(ps:List Zv):Int:=if Oj fr e ps=true then 0 else 7
def Zv7(fr e:Int)(x:Zv)(g:SL×SL×SL):Zv:=((cA fr x,cB e x,mdO (cO x) (cG fr e x)),(g.1,mdL (cO x) (cG fr e x) (cX fr e x x.2.1.2)),(g.2.1,mdL (cO x) (cG fr e x) (cX fr e x x.2.2.1.2)),(g.2.2,mdL (cO x) (cG fr e x) (cX fr e x x.2.2.2.2)))
def Zrc(fr e:Int)(ps:List Zv)(k:Nat)(zs:List Zv):Prop:=zs.map unS=((ps.filter (Ku fr e)).take k).map (Zu6 fr e)/\((ps.filter (Ku fr e)).take k).all (Zg0 fr e)=true
theorem Zhi{α:Type}{xs:List α}{x:α}(h:xs[k]? = some x):xs.take (k+1)=xs.take k ++ [x]:=by rw [List.take_add_one,h];rfl
theorem Ykd(fr e:Int)(ps:List Zv):Zrc fr e ps 0 []:=⟨by rw [dV];rfl,by rw [dV];rfl⟩
theorem cutI_s{fr e:Int}{ps:List Zv}{x:Zv}{g:SL×SL×SL}(h:Zrc fr e ps k zs)(f:(ps.filter (Ku fr e))[k]? = some x)(n:Zg0 fr e x=true):Zrc fr e ps (k+1) (zs ++ [Zv7 fr e x g]):=by
 obtain⟨j,l⟩:=h;refine⟨?_,?_⟩
 .rw [Zhi f,dY,dY,j];rfl
 .rw [Zhi f,mR,l];simp [n]
theorem Ykb{fr e:Int}{ps:List Zv}(h:Zrc fr e ps k zs)(f:k<=ps.length):zs.length<=ps.length:=by have:=aI List.length h.1;rw [aP,aP,aS]at this;have:=iX (Ku fr e) ps;omega
theorem Zxq{fr e:Int}{ps:List Zv}{x:Zv}(g:(ps.filter (Ku fr e))[k]? = some x)(f:Zg0 fr e x=false):Oj fr e ps=false:=by
 unfold Oj;cases hb:(ps.filter (Ku fr e)).all (Zg0 fr e)with
 | false=>rfl
 | true=>
  have:=cJ.1 hb x (nE g);rw [f]at this;cases this
theorem Ykc{fr e:Int}{ps:List Zv}(h:Zrc fr e ps (ps.filter (Ku fr e)).length zs):zs.map unS=Zdc fr e ps/\Zu7 fr e ps=0:=by obtain⟨g,f⟩:=h;rw [bM]at g f;exact⟨by unfold Zdc Oj;rw [aF f];exact g,by unfold Zu7 Oj;rw [aF f]⟩
theorem Yj9{fr e:Int}{ps:List Zv}(h:Oj fr e ps=false):([]:List Zv).map unS=Zdc fr e ps/\Zu7 fr e ps=7:=by unfold Zdc Zu7;rw [aD (by rw [h];exact cZ),aD (by rw [h];exact cZ)];exact⟨rfl,rfl⟩
def spF(ps:List Zv):Int:=(ps.getD 0 G0).1.1
def spL(ps:List Zv):Int:=(ps.getD (ps.length-1) G0).1.2.1
theorem Ynx(h:AxC c ov)(s:c.getD (c.length-1) 0≠0){a b:Int}(B:0<b)(F:0<d):(Pa c a b d).length=c.length:=by
 have M:=h.l;have I:=Zgn (c:=c) a b d;rcases bA (Pa c a b d).length c.length with q|q
 .exfalso;have D:(b:Rat)≠0:=by
    have:(0:Rat)<(b:Rat):=by exact_mod_cast B
    grind
  have H:(d:Rat)≠0:=by
    have:(0:Rat)<(d:Rat):=by exact_mod_cast F
    grind
  have n:∀t:Rat,t*(d:Rat)=(a:Rat)+(b:Rat)*((t*d-a)/b):=λt=>O4;by_cases j:(Pa c a b d).length=0
  .have z:=aC j;have:∀t:Rat,Zf c t=0:=λt=>by
    have e:=Zf3 h (n t);rw [z]at e;have f:(d:Rat)^5*Zf c t=0:=e.symm;have l:(d:Rat)^5≠0:=by rw [show(d:Rat)^5=d*d*d*d*d by rw [dS,dS,dS,dS,dS,eH];grind];grind
    grind
   exact s (Zpn this _)
  .have g:∀t:Rat,Zf ((Le (Pa c a b d) (-a) d b).map λq=>1*q) t=Zf (c.map λq=>b^((Pa c a b d).length-1)*d^5*q) t:=λt=>by rw [Zl,Zl];have e:=Zf3 h (n t);have f:=Zk1 (p:=Pa c a b d) (-a) d b (t:=(t*d-a)/b) (u:=t) (by push_cast;grind) j;rw [f,e];push_cast;rw [<-Zdh,<-Zdh];push_cast;grind
   have e:=Nj g (c.length-1);rw [Dx,Dx,Yg (by have:=Zfc (Pa c a b d) (-a) d b;omega)]at e;have f:b^((Pa c a b d).length-1)*d^5≠0:=bK (Int.pow_ne_zero O) (Int.pow_ne_zero O);have l:b^((Pa c a b d).length-1)*d^5*cf c (c.length-1)=0:=O;rcases eJ.1 l with q|q
   .exact f q
   .exact s q
 .omega
theorem Zxz{X:List Int}(f:0<G)(e:∀x∈X,G∣x)(i:Nat):cf (Hk X G) i*G=cf X i:=by
 unfold Hk;split
 .rename_i h;rw [aC h]
  match i with
  | 0=>show(0:Int)*G=cf [] 0;rw [cN];rfl
  | i+1=>show(0:Int)*G=cf [] (i+1);rw [cN];rfl
 .rw [Zde _ _ O5];by_cases hi:i<X.length
  .have:cf X i∈X:=Zd hi;exact iD (e _ this)
  .rw [Yg O];simp
theorem Ymw{X:List Int}(e:0<G)(f:∀x∈X,G∣x)(u:Rat):Zf (Hk X G) u*(G:Rat)=Zf X u:=by rw [kH,<-Zl];exact Nw u _ _ λi=>by rw [Dx,cQ,Zxz e f]
theorem Zin(f g:Nat->Int)(a:Int)(h:∀k,f k*a=g k):∀m,Yf f m*a=Yf g m
 | 0=>cN _
 | m+1=>by rw [Yi,Yi,lZ,Zin f g a h m,h]
theorem Ypp{X:List Int}(e:0<G)(f:∀x∈X,G∣x)(n j:Nat):Hb n (Hk X G) j*G=Hb n X j:=by unfold Hb;exact Zin _ _ _ (λk=>by rw [Int.mul_right_comm,Zxz e f]) _
theorem Ynw(X:List Int)(G:Int):(Hk X G).length=max X.length 1:=by
 unfold Hk;split
 .rename_i h;rw [h];rfl
 .rw [aP];omega
theorem Zyc(h:AxC c ov){a b o:Int}(N:0<=a)(B:0<b)(q:a+b<=d)(D:0<d)(p:0<G)(H:∀x∈Pa c a b d,G∣x)(Q:o*G=ov*d^5):AxC (Hk (Pa c a b d) G) o/\(Hk (Pa c a b d) G).length=c.length:=by
 have S:=h.l;have f:(Hk (Pa c a b d) G).length=c.length/\(1<c.length->(Pa c a b d).length=c.length):=by
  rw [Ynw];by_cases I:c.getD (c.length-1) 0=0
  .have:=h.t;have P:=Zgn (c:=c) a b d;have g:c.length=1:=by
    by_cases l:1<c.length
    .exact absurd ⟨l,I⟩ this
    .omega
   exact⟨O,λl=>O⟩
  .have:=Ynx h I (a:=a) B D;exact⟨O,λ_=>this⟩
 refine⟨⟨O,λ⟨g,s⟩=>?_,λj F=>?_⟩,f.1⟩
 .rw [f.1]at g s;have l:cf (Hk (Pa c a b d) G) (c.length-1)=0:=s;have u:=Zxz p H (c.length-1);rw [l,cN]at u;have n:=f.2 g;have R:Tr (Pa c a b d):=Qe _ _;have z:=R.mem (λe=>by rw [e]at n;simp at n;omega);rw [n]at z;exact z u.symm
 .rw [f.1]at F ⊢;have g:=Ybz h N (eC B) q D j F;rw [<-Ypp p H,<-Q,cH]at g;have M:((G.natAbs:Nat):Int)=G:=O;push_cast at g;rw [M]at g;refine Int.le_of_mul_le_mul_right (a:=G) ?_ p;refine Int.le_trans g (oG ?_);grind
theorem Zui{G:Int}(e:0<G):∀(l:List Int) (o:Int),Ma (G*o) (l.map (G*·))=G*Ma o l
 | [],o=>rfl
 | x::l,o=>by show Ma ((Int.gcd (G*o) (G*x):Nat):Int) (l.map (G*·))=G*Ma ((Int.gcd o x:Nat):Int) l;rw [Int.gcd_mul_left];push_cast;rw [show((G.natAbs:Nat):Int)=G by omega];exact Zui e l _
theorem Zl5{X:List Int}{o:Int}(g:0<G)(e:∀x∈X,G∣x)(j:0<=o):Ma o ((Hk X G).map (G*·))=Ma o X:=by
 unfold Hk;split
 .rename_i h;rw [aC h];show((Int.gcd o (G*0):Nat):Int)=o;rw [dO,nV];omega
 .congr 1;rw [lD]
  conv=>rhs;rw [<-List.map_id X]
  refine kX λx f=>?_;show G*(x/G)=x;exact kQ (e x f)
theorem Yn7{X Y Z:List Int}{o f:Int}(g:0<o)(e:0<Kk o X Y Z)(p:∀x∈X,Kk o X Y Z∣x)(q:∀x∈Y,Kk o X Y Z∣x)(s:∀x∈Z,Kk o X Y Z∣x)(h:Kk o X Y Z*f=o) :
  Ma f (Hk X (Kk o X Y Z) ++ Hk Y (Kk o X Y Z) ++ Hk Z (Kk o X Y Z))=1:=by
 have j:=Zui e (Hk X (Kk o X Y Z) ++ Hk Y (Kk o X Y Z) ++ Hk Z (Kk o X Y Z)) f;rw [h,dY,dY,Iz,Iz,Zl5 e p (eC g),Zl5 e q (Zgo _ _ (eC g)),Zl5 e s (Zgo _ _ (Zgo _ _ (eC g)))]at j;have l:Kk o X Y Z=Ma (Ma (Ma o X) Y) Z:=by show Ma o (X ++ Y ++ Z)=_;rw [Iz,Iz]
 rw [<-l]at j;generalize Ma f _=r at *;have n:Kk o X Y Z*r=Kk o X Y Z*1:=O;exact gP O n
structure Prt (q g:Zv) (G:Int):Prop where
 g0:0<G
 a0:0<=q.1.1-g.1.1
 b0:0<q.1.2.1-q.1.1
 ab:(q.1.1-g.1.1)+(q.1.2.1-q.1.1)<=g.1.2.1-g.1.1
 o:q.1.2.2*G=g.1.2.2*(g.1.2.1-g.1.1)^5
 x:∀i (t u:Rat),t*((g.1.2.1-g.1.1:Int):Rat)=((q.1.1-g.1.1:Int):Rat)+((q.1.2.1-q.1.1:Int):Rat)*u->Zf (Zp i q.2.1.2 q.2.2.1.2 q.2.2.2.2) u*(G:Rat)=((g.1.2.1-g.1.1:Int):Rat)^5*Zf (Zp i g.2.1.2 g.2.2.1.2 g.2.2.2.2) t
theorem Zw7{X:List Int}(h:∀k,(X.getD k 0/G).natAbs<=9223372036854775807):∀a∈Hk X G,Nz a:=λa e=>by
 unfold Hk at e;split at e
 .rw [bE.1 e];exact⟨O3,O3⟩
 .obtain⟨x,g,rfl⟩:=fT.1 e;obtain⟨k,f⟩:=mW.1 g;have:=h k;rw [aG,f]at this;simp only [fP]at this;exact⟨O,O⟩
theorem Zpy{a b:Int}{t u:Rat}(f:AxC c ov)(e:0<G)(g:∀x∈Pa c a b d,G∣x)(h:t*(d:Rat)=(a:Rat)+(b:Rat)*u):Zf (Hk (Pa c a b d) G) u*(G:Rat)=(d:Rat)^5*Zf c t:=by rw [Ymw e g];exact Zf3 f h
theorem You{fr e:Int}{g q:Zv}(hi:Gin g)(hs:seB g=true)(hp:Ku fr e g=true)(hk:Zg0 fr e g=true)(hu:unS q=Zu6 fr e g):Gin q/\seB q=true/\Prt q g (cG fr e g):=by
 have W:SgG g:=Kz hi hs;obtain⟨a1,a2,a3⟩:=Zv8 hs;obtain⟨M,N,P,R⟩:=Yj7 W hp;have V:=Zw1 hi hs hp;obtain⟨g1,⟨s,a6⟩,S⟩:=V.g;have n:0<cG fr e g:=g1;have B:∀x∈cX fr e g g.2.1.2,cG fr e g∣x:=S 0 O3;have D:∀x∈cX fr e g g.2.2.1.2,cG fr e g∣x:=S 1 O3;have F:∀x∈cX fr e g g.2.2.2.2,cG fr e g∣x:=S 2 O3;have H:cG fr e g*s=cO g:=a6.symm;have z:cO g/cG fr e g=s:=by rw [<-H];exact jT _ O
 have f:cO g/cG fr e g<=4294967296:=cF hk;have a7:0<cO g:=V.o;have b1:0<s:=by
  by_cases h:0<s
  .exact h
  .have:=gM (eC n) (show s<=0 by omega);omega
 have p:s*cG fr e g=g.1.2.2*(g.1.2.1-g.1.1)^5:=by rw [cQ];exact H
 obtain⟨x1,x2⟩:=Zyc a1 M N P R n B p;obtain⟨y1,y2⟩:=Zyc a2 M N P R n D p;obtain⟨z1,z2⟩:=Zyc a3 M N P R n F p;obtain⟨⟨qf,qt,qo⟩,⟨sx,qx⟩,⟨sy,qy⟩,⟨sz,qz⟩⟩:=q;unfold unS Zu6 at hu;rw [mdO_t f,Zgj f,Zgj f,Zgj f,z]at hu;injection hu with h1 h2;injection h1 with hf h1;injection h1 with ht Q;injection h2 with hx h2;injection h2 with hy hz;dsimp only at hf ht Q hx hy hz;subst hf ht hx hy hz;have Q:=Q.symm;subst Q;have j:=λi (hi:i<3) k=>V.fit (i:=i) f hi k;have a9:=cF hp;have b2:=W.t1;have b3:=W.t3;have a0:∀a∈Hk (cX fr e g g.2.1.2) (cG fr e g),Nz a:=Zw7 (j 0 O3);have a4:∀a∈Hk (cX fr e g g.2.2.1.2) (cG fr e g),Nz a:=Zw7 (j 1 O3);have a5:∀a∈Hk (cX fr e g g.2.2.2.2) (cG fr e g),Nz a:=Zw7 (j 2 O3);have b0:s<=4294967296:=z▸f;have a8:0<=cA fr g/\cB e g<=3600000:=by unfold cA cB;exact⟨O,O⟩
 have i1:Nz (cA fr g):=⟨O,O⟩;have i2:Nz (cB e g):=⟨O,O⟩;have i3:Nz s:=⟨O,O⟩;refine⟨⟨i1,i2,i3,a0,a4,a5⟩,?_,⟨n,M,N,by show(cA fr g-g.1.1)+(cB e g-cA fr g)<=_;exact P,p,λi t u I=>?_⟩⟩
 .show Cd (cA fr g) (cB e g) s _ _ _=true;unfold Cd Ycl;simp only [aQ,dQ];exact⟨⟨⟨⟨⟨⟨⟨⟨O,O⟩,O⟩,O⟩,O⟩,x1.to⟩,y1.to⟩,z1.to⟩,Yn7 a7 n B D F H⟩
 .have l:t*((g.1.2.1-g.1.1:Int):Rat)=((cA fr g-g.1.1:Int):Rat)+((cB e g-cA fr g:Int):Rat)*u:=I;clear I;have k0:=Zpy a1 n B l;have k1:=Zpy a2 n D l;have k2:=Zpy a3 n F l;dsimp only;generalize Hk (cX fr e g g.2.1.2) (cG fr e g)=X at *;generalize Hk (cX fr e g g.2.2.1.2) (cG fr e g)=Y at *;generalize Hk (cX fr e g g.2.2.2.2) (cG fr e g)=Z at *;generalize ((cG fr e g:Int):Rat)=GG at *;generalize ((g.1.2.1-g.1.1:Int):Rat)^5=DD at *
  match i with
  | 0=>exact k0
  | 1=>exact k1
  | i+2=>exact k2
def cgb0{M:Int}(f:0<=M)(e:-(M*1)<=(x0*1)/\(x0*1)<=M*1):(-(80*M)<=x0/\x0<=80*M):=O
theorem cgb1{M:Int}(g:0<=M)(e:-(M*1)<=(x0*1)/\(x0*1)<=M*1)(f:-(M*1)<=(x0*1+x1*1)/\(x0*1+x1*1)<=M*1):(-(80*M)<=x0/\x0<=80*M)/\(-(80*M)<=x1/\x1<=80*M):=by refine⟨⟨?_,?_⟩,⟨?_,?_⟩⟩<;>omega
theorem cgb2{M:Int}(h:0<=M)(e:-(M*1)<=(x0*1)/\(x0*1)<=M*1)(f:-(M*2)<=(x0*2+x1*1)/\(x0*2+x1*1)<=M*2)(g:-(M*1)<=(x0*1+x1*1+x2*1)/\(x0*1+x1*1+x2*1)<=M*1):(-(80*M)<=x0/\x0<=80*M)/\(-(80*M)<=x1/\x1<=80*M)/\(-(80*M)<=x2/\x2<=80*M):=by refine⟨⟨?_,?_⟩,⟨?_,?_⟩,⟨?_,?_⟩⟩<;>omega
theorem cgb3{M:Int}(j:0<=M)(e:-(M*1)<=(x0*1)/\(x0*1)<=M*1)(f:-(M*3)<=(x0*3+x1*1)/\(x0*3+x1*1)<=M*3)(g:-(M*3)<=(x0*3+x1*2+x2*1)/\(x0*3+x1*2+x2*1)<=M*3)(h:-(M*1)<=(x0*1+x1*1+x2*1+x3*1)/\(x0*1+x1*1+x2*1+x3*1)<=M*1):(-(80*M)<=x0/\x0<=80*M)/\(-(80*M)<=x1/\x1<=80*M)/\(-(80*M)<=x2/\x2<=80*M)/\(-(80*M)<=x3/\x3<=80*M):=by refine⟨⟨?_,?_⟩,⟨?_,?_⟩,⟨?_,?_⟩,⟨?_,?_⟩⟩<;>omega
theorem cgb4{M e:Int}(n:0<=M)(f:-(M*1)<=(x0*1)/\(x0*1)<=M*1)(g:-(M*4)<=(x0*4+x1*1)/\(x0*4+x1*1)<=M*4)(h:-(M*6)<=(x0*6+x1*3+x2*1)/\(x0*6+x1*3+x2*1)<=M*6)(j:-(M*4)<=(x0*4+x1*3+x2*2+x3*1)/\(x0*4+x1*3+x2*2+x3*1)<=M*4)(l:-(M*1)<=(x0*1+x1*1+x2*1+x3*1+e*1)/\(x0*1+x1*1+x2*1+x3*1+e*1)<=M*1):(-(80*M)<=x0/\x0<=80*M)/\(-(80*M)<=x1/\x1<=80*M)/\(-(80*M)<=x2/\x2<=80*M)/\(-(80*M)<=x3/\x3<=80*M)/\(-(80*M)<=e/\e<=80*M):=by refine⟨⟨?_,?_⟩,⟨?_,?_⟩,⟨?_,?_⟩,⟨?_,?_⟩,⟨?_,?_⟩⟩<;>omega
theorem cgb5{M e f:Int}(q:0<=M)(g:-(M*1)<=(x0*1)/\(x0*1)<=M*1)(h:-(M*5)<=(x0*5+x1*1)/\(x0*5+x1*1)<=M*5)(j:-(M*10)<=(x0*10+x1*4+x2*1)/\(x0*10+x1*4+x2*1)<=M*10)(l:-(M*10)<=(x0*10+x1*6+x2*3+x3*1)/\(x0*10+x1*6+x2*3+x3*1)<=M*10)(n:-(M*5)<=(x0*5+x1*4+x2*3+x3*2+e*1)/\(x0*5+x1*4+x2*3+x3*2+e*1)<=M*5)(p:-(M*1)<=(x0*1+x1*1+x2*1+x3*1+e*1+f*1)/\(x0*1+x1*1+x2*1+x3*1+e*1+f*1)<=M*1):(-(80*M)<=x0/\x0<=80*M)/\(-(80*M)<=x1/\x1<=80*M)/\(-(80*M)<=x2/\x2<=80*M)/\(-(80*M)<=x3/\x3<=80*M)/\(-(80*M)<=e/\e<=80*M)/\(-(80*M)<=f/\f<=80*M):=by refine⟨⟨?_,?_⟩,⟨?_,?_⟩,⟨?_,?_⟩,⟨?_,?_⟩,⟨?_,?_⟩,⟨?_,?_⟩⟩<;>omega
theorem cg_brS{n:Nat}(z:n<6)(D:c.length<=n+1){M:Int}(h:∀j,j<n+1->((Hb n c j).natAbs:Int)<=M*(Ot n j:Int))(k:Nat):((cf c k).natAbs:Int)<=80*M:=by
 have q:0<=M:=by have f:=h 0 O;rw [Zmm]at f;omega
 by_cases B:k<n+1
 .rw [Xz]
  match n,z with
  | 0,_=>
   have f:=Xz.1 (h 0 O3);rw [bre00,show(Ot 0 0:Int)=1 from rfl]at f;have e:=cgb0 q f;obtain rfl:k=0:=O;exact e
  | 1,_=>
   have f:=Xz.1 (h 0 O3);rw [bre10,show(Ot 1 0:Int)=1 from rfl]at f;have g:=Xz.1 (h 1 O3);rw [bre11,show(Ot 1 1:Int)=1 from rfl]at g;have e:=cgb1 q f g;rcases(show k=0\/k=1 by omega)with rfl|rfl
   .exact e.1
   .exact e.2
  | 2,_=>
   have f:=Xz.1 (h 0 O3);rw [bre20,show(Ot 2 0:Int)=1 from rfl]at f;have g:=Xz.1 (h 1 O3);rw [bre21,show(Ot 2 1:Int)=2 from rfl]at g;have l:=Xz.1 (h 2 O3);rw [bre22,show(Ot 2 2:Int)=1 from rfl]at l;have e:=cgb2 q f g l;rcases(show k=0\/k=1\/k=2 by omega)with rfl|rfl|rfl
   .exact e.1
   .exact e.2.1
   .exact e.2.2
  | 3,_=>
   have f:=Xz.1 (h 0 O3);rw [bre30,show(Ot 3 0:Int)=1 from rfl]at f;have g:=Xz.1 (h 1 O3);rw [bre31,show(Ot 3 1:Int)=3 from rfl]at g;have l:=Xz.1 (h 2 O3);rw [bre32,show(Ot 3 2:Int)=3 from rfl]at l;have p:=Xz.1 (h 3 O3);rw [bre33,show(Ot 3 3:Int)=1 from rfl]at p;have e:=cgb3 q f g l p;rcases(show k=0\/k=1\/k=2\/k=3 by omega)with rfl|rfl|rfl|rfl
   .exact e.1
   .exact e.2.1
   .exact e.2.2.1
   .exact e.2.2.2
  | 4,_=>
   have f:=Xz.1 (h 0 O3);rw [bre40,show(Ot 4 0:Int)=1 from rfl]at f;have g:=Xz.1 (h 1 O3);rw [bre41,show(Ot 4 1:Int)=4 from rfl]at g;have l:=Xz.1 (h 2 O3);rw [bre42,show(Ot 4 2:Int)=6 from rfl]at l;have p:=Xz.1 (h 3 O3);rw [bre43,show(Ot 4 3:Int)=4 from rfl]at p;have s:=Xz.1 (h 4 O3);rw [bre44,show(Ot 4 4:Int)=1 from rfl]at s;have e:=cgb4 q f g l p s;rcases(show k=0\/k=1\/k=2\/k=3\/k=4 by omega)with rfl|rfl|rfl|rfl|rfl
   .exact e.1
   .exact e.2.1
   .exact e.2.2.1
   .exact e.2.2.2.1
   .exact e.2.2.2.2
  | 5,_=>
   have f:=Xz.1 (h 0 O3);rw [bre50,show(Ot 5 0:Int)=1 from rfl]at f;have g:=Xz.1 (h 1 O3);rw [bre51,show(Ot 5 1:Int)=5 from rfl]at g;have l:=Xz.1 (h 2 O3);rw [bre52,show(Ot 5 2:Int)=10 from rfl]at l;have p:=Xz.1 (h 3 O3);rw [bre53,show(Ot 5 3:Int)=10 from rfl]at p;have s:=Xz.1 (h 4 O3);rw [bre54,show(Ot 5 4:Int)=5 from rfl]at s;have u:=Xz.1 (h 5 O3);rw [bre55,show(Ot 5 5:Int)=1 from rfl]at u;have e:=cgb5 q f g l p s u;rcases(show k=0\/k=1\/k=2\/k=3\/k=4\/k=5 by omega)with rfl|rfl|rfl|rfl|rfl|rfl
   .exact e.1
   .exact e.2.1
   .exact e.2.2.1
   .exact e.2.2.2.1
   .exact e.2.2.2.2.1
   .exact e.2.2.2.2.2
 .rw [Yg O];simp;omega
theorem AxC.cg(h:AxC c ov)(k:Nat):((cf c k).natAbs:Int)<=83886080*ov:=by have f:=h.l;have:=cg_brS (n:=c.length-1) O (c:=c) O (M:=1048576*ov) (λj e=>h.b j O) k;omega
open Go.RowKit (Below)
variable {P:Program} {N:Nat} {sc:Nat->Prop} {env env':Pz} {H H':Hp} {Q Q':Exit->Act->World->Prop} {M:Nat->Prop}
def wcr(l:List Int)(r:List Value):Array Value:=(l.map (Value.int .i64) ++ r).toArray
theorem Zj9(l:List Int)(r:List Value):(wcr l r).size=l.length+r.length:=by simp [wcr]
theorem Ylt{l:List Int}{j:Nat}(h:j<l.length):(wcr l r)[j]? = some (.int .i64 (l.getD j 0)):=by simp [wcr,cW,h,aG]
theorem Yls{l:List Int}{j:Nat}{v:Int}(h:j<l.length):Fp (wcr l r) j [.int .i64 v]=wcr (l.set j v) r:=by
 unfold Fp wcr;congr 1;rw [kA,aF h,dY,cK,mF,List.map_drop];have e:j<=(l.map (Value.int .i64)).length:=by rw [aP];omega
 have f:j+1<=(l.map (Value.int .i64)).length:=by rw [aP];omega
 simp only [dI,eX,bZ];rw [fB e,fY f];simp
theorem Zx1(l:List Int):cellsOf Yl l=l.map (Value.int .i64):=by
 induction l with
 | nil=>rfl
 | cons x l e=>rw [show cellsOf Yl (x::l)=(Yl x).cells.toList ++ cellsOf Yl l from rfl,e];rfl
theorem f_obox{e:TypeId}(i:Nat)(hi:lk H i=some (On 1 e Yl v xs))(B:xs≠[]):∀a w,Sat N sc env H a w->∃y:Nat×Nat×List Value,
  v= .slice (some ⟨y.1,0,none⟩) xs.length y.2.1/\xs.length+y.2.2.length=y.2.1/\y.2.1<=maxLen/\w.heap[y.1]? = some (.cells (wcr xs y.2.2) e (0,0)):=λa w hs=>by
 have n:w.ownsRow 0 e 1 v xs.length (cellsOf Yl xs):=hs.hold i _ hi;rcases n.2 with⟨rfl,u⟩|⟨g,j,f,rfl,D,s,z,p,l,h⟩
 .exact absurd (aC u) B
 .rw [jH]at l h;refine⟨(g,j,f.toList.drop xs.length),rfl,?_,p,?_⟩
  .show xs.length+(f.toList.drop xs.length).length=j;have q:f.toList.length=j:=by rw [eA];exact l
   rw [dJ,q];omega
  .show w.heap[g]? = some (.cells (wcr xs (f.toList.drop xs.length)) e (0,0));rw [show wcr xs (f.toList.drop xs.length)=f by unfold wcr;rw [<-Zx1,<-h,fM]]
   exact s
theorem s_obox {e:TypeId} {c:Nat}     (i:Nat) (hi:lk H i=some (On 1 e Yl (.slice (some ⟨b,0,none⟩) xs.length c) xs)) (f:Nat.beq i 0=false) (g:lk H 0=some (Xx w0 M0)) (l:∀b,w0.heap.size<=b->sc b)
    (hs:Sat N sc env H a w) (h:w.heap[b]? = some (.cells (wcr xs r) e (0,0))):Sat N sc env ((i,box b e (wcr xs r))::H) a w:=
 hs.upd hi rfl (λe=>by subst e;simp at f) (Chg.refl _ w) h (λk j=> .inl (by show some b=some k;rw [show k=b from j])) g l
theorem e_obox {g:Code} {e:TypeId}     (i:Nat) (hi:lk H i=some (On 1 e Yl v xs)) (f:Nat.beq i 0=false) (u:xs≠[]) (j:lk H 0=some (Xx w0 M0)) (s:∀b,w0.heap.size<=b->sc b)
  (h:∀(b c:Nat) (r:List Value),v= .slice (some ⟨b,0,none⟩) xs.length c->xs.length+r.length=c->c<=maxLen->E P N sc g Q env ((i,box b e (wcr xs r))::H)):E P N sc g Q env H:=λa w hs=>by
 obtain⟨⟨b,c,r⟩,q,l,n,p⟩:=f_obox i hi u a w hs;subst q;exact h b c r rfl l n a w (s_obox i hi f j s hs p)
theorem Ymo{e:TypeId}{c:Nat}(i:Nat)(hi:lk H i=some (box b e (wcr xs r)))(f:Nat.beq i 0=false)(h:xs.length+r.length=c)(n:c<=maxLen)(g:lk H 0=some (Xx w0 M0))(p:∀b,w0.heap.size<=b->sc b) :
  ∀a w,Sat N sc env H a w->Sat N sc env ((i,On 1 e Yl (.slice (some ⟨b,0,none⟩) xs.length c) xs)::H) a w:=λa w hs=>by
 have j:w.heap[b]? = some (.cells (wcr xs r) e (0,0)):=hs.hold i _ hi;refine hs.upd hi rfl (λe=>by subst e;simp at f) (Chg.refl _ w) ?_ (λk l=> .inl (by cases l;rfl)) g p;refine⟨by rw [Zx1,aP,jH],.inr ⟨b,c,_,rfl,bG _,j,O,n,by rw [Zj9,jH];exact h,?_⟩⟩;rw [Zx1,jH];show((xs.map (Value.int .i64)) ++ r).take xs.length=_;rw [fB (by rw [aP];exact aH _),bL (by rw [aP];exact aH _)]
theorem Zag   {e:TypeId} {f n c:Nat}   (l:o.op= .indexAddr t x y) (q:ev env x=some (.slice (some ⟨b,f,none⟩) n c)) (s:ev env y=some (.int kd m))
  (p:P.underlying t=some (.slice e)) (j:∀w,(sizeOf e).run P w= .ok 1 w) (g:m=(i:Int)) (h:i<n):Mx P N sc o env H (.pointer (some ⟨b,f+i,none⟩)):=λa w hs=>by
 subst g;simp [execOp,l,hs.ev q,hs.ev s,Instr.indexAt,asIntOf,run_underlying p,j,h,Ok]
theorem Zra   {e:TypeId} {f:Option Addr} {n c:Nat} (g:o.op= .call { callee:= .builtin .len,args:=#[x],argTypes:=#[t] })
  (j:ev env x=some (.slice f n c)) (h:P.underlying t=some (.slice e)):Mx P N sc o env H (.int .i64 (n:Int)):=λa w hs=>by
 simp [execOp,g,resolve,hs.ev j,invoke,builtin,Builtin.len_,run_underlying h,goInt]
def Zda{j:Nat}{l:List Int}(g:o.op= .load t x)(n:ev env x=some (.pointer (some ⟨b,j,none⟩)))(e:lk H i=some (box b tb (wcr l r)))(h:∀w,(isAgg t).run P w= .ok false w)(f:j<l.length) :
  Mx P N sc o env H (.int .i64 (l.getD j 0)):=Yec g n e h (Ylt f)
theorem Zsi    {j:Nat} {l:List Int}  {v:Int}   (s:o.op= .store t x y) (n:o.dst=none)
  (D:ev env x=some (.pointer (some ⟨b,j,none⟩))) (F:ev env y=some (.int .i64 v)) (g:lk H i=some (box b tb (wcr l r))) (e:i≠0) (q:∀w,(sizeOf t).run P w= .ok 1 w) (p:j<l.length)
  (f:lk H 0=some (Xx w0 M0)) (B:∀b,w0.heap.size<=b->sc b) (h:M b) :
  T P N sc M o env H (G:=Unit) (λ_=>True) (λ_=>env) (λ_=>(i,box b tb (wcr (l.set j v) r))::H):=by
 rw [<-Yls p];exact Zkk (vs:=[.int .i64 v]) s n D F g e rfl q rfl (by rw [Zj9];simp;omega) (λu z=>Yd (by rw [bE.1 z];rfl)) rfl f B h
theorem Yjy   {e:TypeId} {f n c:Nat}   (s:o.op= .slice t x (some y) none none) (z:ev env x=some (.slice (some ⟨b,f,none⟩) n c)) (B:ev env y=some (.int kd m))
  (u:P.underlying t=some (.slice e)) (l:∀w,(sizeOf e).run P w= .ok 1 w) (g:m=(i:Int)) (p:i<n) (q:n<=c):Mx P N sc o env H (.slice (some ⟨b,f+i,none⟩) (n-i) (c-i)):=λa w hs=>by
 subst g;have h:i<=n:=O;have j:i<c:=O;simp [execOp,s,hs.ev z,hs.ev B,Instr.sliceAt,Instr.slice,Instr.sliceBounds,Instr.sliceBound,asIntOf,run_underlying u,l,h,j,q,Ok];intro D;omega
theorem d_prew   {e:TypeId} {n c:Nat}   (l:o.op= .slice t x none (some y) none) (q:ev env x=some (.slice (some ⟨b,0,none⟩) n c)) (s:ev env y=some (.int kd m))
  (p:P.underlying t=some (.slice e)) (j:∀w,(sizeOf e).run P w= .ok 1 w) (f:m=(i:Int)) (g:i<=n) (u:n<=c):Mx P N sc o env H (.slice (some ⟨b,0,none⟩) i c):=λa w hs=>by
 subst f;have h:i<=c:=O;simp [execOp,l,hs.ev q,hs.ev s,Instr.sliceAt,Instr.slice,Instr.sliceBounds,Instr.sliceBound,asIntOf,run_underlying p,j,g,h,Ok]
theorem t_clw   {p:TypeId} {lo n D:Nat} {l:List Int}   
  (W:o.op= .call { callee:= .builtin .clear,args:=#[x],argTypes:=#[t] }) (S:o.dst=none)
  (hx:ev env x=some (.slice (some ⟨b,lo,none⟩) n D))  (s:lk H i=some (box b tb (wcr l r))) (g:i≠0)
  (hn:0<n) (V:lo+n=l.length) (Y:P.underlying t=some (.slice p)) (B:∀w,(sizeOf p).run P w= .ok 1 w)
  (hz:∀w,(zeroValue p).run P w= .ok (.int .i64 0) w)
  (F:lk H 0=some (Xx w0 M0)) (hw:∀b,w0.heap.size<=b->sc b) (R:M b) :
  T P N sc M o env H (G:=Unit) (λ_=>True) (λ_=>env) (λ_=>(i,box b tb (wcr (l.take lo) (List.replicate n (Value.int .i64 0) ++ r)))::H):=λa w hs K Q I=>by
 have z:w.heap[b]? = some (.cells (wcr l r) tb (0,0)):=hs.hold i _ s;have j:(Builtin.zeroCells (Value.int .i64 0).cells n).toList=List.replicate n (Value.int .i64 0):=by
  apply iE
  .simp [Builtin.zeroCells,Value.cells]
  .intro i h2 h3;simp [Builtin.zeroCells,Value.cells,mZ]
 have e:=run_storeCells_at P b lo tb (List.replicate n (Value.int .i64 0)) 0 (wcr l r) w z (by rw [Zj9,aT];omega) (λu Z=>by rw [List.eq_of_mem_replicate Z];rfl);simp only [eG,aT]at e;have f:((wcr l r).toList.take lo ++ List.replicate n (Value.int .i64 0) ++ (wcr l r).toList.drop (lo+n)).toArray=wcr (l.take lo) (List.replicate n (Value.int .i64 0) ++ r):=by unfold wcr;congr 1;show((l.map (Value.int .i64) ++ r).take lo ++ _) ++ (l.map (Value.int .i64) ++ r).drop (lo+n)=_;rw [fB (by rw [aP];omega),fY (by rw [aP];omega),kF (by rw [aP];omega),mF,iR,eD]
 rw [f]at e;obtain⟨m,rfl⟩:∃m,n=m+1:=⟨n-1,O⟩;have h:(execOp a.eval o).run P w= .ok (.value (.tuple #[])) (w.setRow b (wcr (l.take lo) (List.replicate (m+1) (Value.int .i64 0) ++ r))):=by simp only [execOp,W,resolve,invoke,builtin];simp [hs.ev hx,Builtin.clear_,run_underlying Y,hz,j,e]
 unfold Oper.wp;rw [h];show K (a.put o.dst _) _;rw [S];exact I () _ _ aA ((hs.upd s rfl g (q:=box b tb (wcr (l.take lo) (List.replicate (m+1) (Value.int .i64 0) ++ r))) (Hs (M:=λk=>k=b) _ rfl) (setRow_heap w b _ _ tb _ z) (λk B=> .inl B) F hw).put_none _) (Hs _ R)
theorem res0{fn:Func}(hs:Sat N sc env H a w)(e:fn.results=#[]):(results fn a.tmps).run P w= .ok (.tuple #[]) w:=by simp [results,e]
end Go.Sky
namespace Go.Sky
variable{i k:Nat}{x G:Int}{m xs p ts:List Int}{q:Zv}{a r b us:List Zv}
def Srt(l:List Int)(n:Nat):Prop:=∀p q,p<q->q<n->l.getD p 0<=l.getD q 0
def Sst(l:List Int)(n:Nat):Prop:=∀p q,p<q->q<n->l.getD p 0<l.getD q 0
def Ylk(l:List Int)(i j:Nat):Prop:=∀p q,p<q->q<=i->q≠j->l.getD p 0<=l.getD q 0
def Sam(l m:List Int):Prop:=m.length=l.length/\∀x,x∈m↔x∈l
def Sam.rfl'(l:List Int):Sam l l:=⟨rfl,λ_=>Iff.rfl⟩
def Bj{l:List Int}{j:Nat}{v:Int}(hi:i<l.length):(l.set i v).getD j 0=if j=i then v else l.getD j 0:=Zh4 hi
def swp(l:List Int)(j:Nat):List Int:=(l.set j (l.getD (j-1) 0)).set (j-1) (l.getD j 0)
theorem Yad(l:List Int)(j:Nat):(swp l j).length=l.length:=by simp [swp]
theorem Za6{l:List Int}{j:Nat}(c:j<l.length)(d:1<=j)(k:Nat):(swp l j).getD k 0=if k=j-1 then l.getD j 0 else if k=j then l.getD (j-1) 0 else l.getD k 0:=by unfold swp;rw [Bj (by rw [cM];omega),Bj c]
theorem Gs{l:List Int} : x∈l↔∃k,k<l.length/\l.getD k 0=x:=by
 constructor
 .intro h;obtain⟨k,c,e⟩:=dX.1 h;exact⟨k,c,by rw [aG,aL c];exact e⟩
 .rintro⟨k,c,rfl⟩;exact Zd c
theorem Zy1{l:List Int}{j:Nat}(c:j<l.length)(d:1<=j):Sam l (swp l j):=⟨Yad l j,λx=>by
 rw [Gs,Gs,Yad];constructor
 .rintro⟨k,f,e⟩;rw [Za6 c d]at e;by_cases a:k=j-1
  .rw [aF a]at e;exact⟨j,c,e⟩
  .rw [aD a]at e;by_cases b:k=j
   .rw [aF b]at e;exact⟨j-1,O,e⟩
   .rw [aD b]at e;exact⟨k,f,e⟩
 .rintro⟨k,f,e⟩;by_cases a:k=j-1
  .exact⟨j,c,by rw [Za6 c d,aD O,aF rfl,<-a];exact e⟩
  .by_cases b:k=j
   .exact⟨j-1,O,by rw [Za6 c d,aF rfl,<-b];exact e⟩
   .exact⟨k,f,by rw [Za6 c d,aD a,aD b];exact e⟩⟩
def Sam.trans{l n:List Int}(h:Sam l m)(c:Sam m n):Sam l n:=⟨c.1.trans h.1,λx=>(c.2 x).trans (h.2 x)⟩
def srtx_0{l:List Int}(h:Srt l i):Ylk l i i:=λp q c d e=>h p q c O
theorem Zsp{l:List Int}{j:Nat}(h:Ylk l i j)(f:j<l.length)(e:1<=j)(o:j<=i)(s:l.getD j 0<l.getD (j-1) 0):Ylk (swp l j) i (j-1):=λp q g d n=>by
 rw [Za6 f e,Za6 f e,aD n];by_cases a:q=j
 .rw [aF a];by_cases b:p=j-1
  .rw [aF b];omega
  .rw [aD b,aD O];exact h p (j-1) O O O
 .rw [aD a];by_cases b:p=j-1
  .rw [aF b];exact h j q O d a
  .rw [aD b];by_cases c:p=j
   .rw [aF c];exact h (j-1) q O d a
   .rw [aD c];exact h p q g d a
theorem Yff{l:List Int}{j:Nat}(h:Ylk l i j)(n:j<=i)(f:j=0\/(1<=j/\¬l.getD j 0<l.getD (j-1) 0)):Srt l (i+1):=λp q e g=>by
 by_cases a:q=j
 .rcases f with b|⟨b,c⟩
  .omega
  .subst a;by_cases d:p=q-1
   .subst d;omega
   .have:=h p (q-1) O O O;omega
 .exact h p q e O a
def srt_1(l:List Int):Srt l 1:=λp q c d=>O
structure Cmp (xs zs:List Int):Prop where
 s:Sst zs zs.length
 m:∀x,x∈zs↔x∈xs
theorem Yfe{l:List Int}{n:Nat}(h:Srt l n)(e:∀q,1<=q->q<n->l.getD q 0≠l.getD (q-1) 0):Sst l n:=λp q f d=>by
 have g:=e q O d;have j:=h (q-1) q O d;rcases iP (show p<=q-1 by omega)with c|c
 .have:=h p (q-1) c O;omega
 .subst c;omega
def Yo6{l:List Int}(h:Srt l l.length)(c:∀q,1<=q->q<l.length->l.getD q 0≠l.getD (q-1) 0):Cmp l l:=⟨Yfe h c,λx=>Iff.rfl⟩
structure Cml (xs l:List Int) (m k:Nat):Prop where
 k1:1<=k
 km:k<m
 ml:m<=xs.length
 ll:l.length=xs.length
 r:∀q,m<=q+1->l.getD q 0=xs.getD q 0
 s:Sst l k
 e:∀x,(∃p,p<k/\l.getD p 0=x)↔∃p,p<m/\xs.getD p 0=x
 z:l.getD (k-1) 0=xs.getD (m-1) 0
theorem cml_0(hs:Srt xs xs.length)(f:∀q,1<=q->q<k->xs.getD q 0≠xs.getD (q-1) 0)(g:1<=k)(h:k<xs.length)(e:xs.getD k 0=xs.getD (k-1) 0):Cml xs xs (k+1) k:=
 ⟨g,O,O,rfl,λq _=>rfl,Yfe (λp q d c=>hs p q d O) f,λx=>by
  constructor
  .rintro⟨p,d,c⟩;exact⟨p,O,c⟩
  .rintro⟨p,d,c⟩;by_cases a:p=k
   .subst a;exact⟨p-1,O,by rw [<-e];exact c⟩
   .exact⟨p,O,c⟩,by rw [show k+1-1=k by omega];exact e.symm⟩
theorem cml_eq{l:List Int}{m:Nat}(h:Cml xs l m k)(o:m<xs.length)(f:l.getD m 0=l.getD (m-1) 0):Cml xs l (m+1) k:=by
 have d:=h.r m O;have e:=h.r (m-1) (by have:=h.k1;have:=h.km;omega);have j:=h.k1;have n:=h.km;refine⟨h.k1,O,o,h.ll,λq s=>h.r q O,h.s,λx=>(h.e x).trans ⟨?_,?_⟩,?_⟩
 .rintro⟨p,g,c⟩;exact⟨p,O,c⟩
 .rintro⟨p,g,c⟩;by_cases a:p=m
  .subst a;exact⟨p-1,O,by rw [<-c,<-d,<-e];exact f.symm⟩
  .exact⟨p,O,c⟩
 .rw [h.z,show m+1-1=m by omega,<-d,<-e];exact f.symm
theorem cml_ne{l:List Int}{m:Nat}(hs:Srt xs xs.length)(h:Cml xs l m k)(n:m<xs.length)(w:l.getD m 0≠l.getD (m-1) 0):Cml xs (l.set k (l.getD m 0)) (m+1) (k+1):=by
 have f:=h.r m O;have o:=h.k1;have s:=h.km;have v:=h.r (m-1) O;have t:=h.ll;have c:k<l.length:=O;have u:xs.getD (m-1) 0<xs.getD m 0:=by have:=hs (m-1) m O n;omega
 refine⟨O,O,n,by rw [cM];exact h.ll,λq y=>?_,λp q g d=>?_,λx=>?_,?_⟩
 .rw [Bj c,aD O];exact h.r q O
 .rw [Bj c,Bj c,aD (show p≠k by omega)];by_cases a:q=k
  .rw [aF a,f];have z:=h.z;rcases iP (show p<=k-1 by omega)with e|e
   .have:=h.s p (k-1) e O;omega
   .subst e;omega
  .rw [aD a];exact h.s p q g O
 .constructor
  .rintro⟨p,g,d⟩;rw [Bj c]at d;by_cases a:p=k
   .rw [aF a,f]at d;exact⟨m,O,d⟩
   .rw [aD a]at d;obtain⟨q,e,j⟩:=(h.e x).1 ⟨p,O,d⟩;exact⟨q,O,j⟩
  .rintro⟨p,g,d⟩;by_cases a:p=m
   .exact⟨k,O,by rw [Bj c,aF rfl,f,<-a];exact d⟩
   .obtain⟨q,e,j⟩:=(h.e x).2 ⟨p,O,d⟩;exact⟨q,O,by rw [Bj c,aD O];exact j⟩
 .rw [show k+1-1=k by omega,Bj c,aF rfl,show m+1-1=m by omega];exact f
theorem Zju{l:List Int}{p:Nat}(h:p<k):(l.take k).getD p 0=l.getD p 0:=by rw [aG,aG,mH h]
theorem cml_e{l:List Int}(h:Cml xs l xs.length k):Cmp xs (l.take k):=by
 have g:=h.km;have f:=h.ll;have e:(l.take k).length=k:=by rw [aS];omega
 refine⟨λp q d c=>?_,λx=>?_⟩
 .rw [e]at c;rw [Zju O,Zju c];exact h.s p q d c
 .rw [Gs,Gs,<-h.e x,e];constructor
  .rintro⟨p,d,c⟩;rw [Zju d]at c;exact⟨p,d,c⟩
  .rintro⟨p,d,c⟩;exact⟨p,d,by rw [Zju d];exact c⟩
def Zl0(x:Int):List Int->List Int
 | []=>[x]
 | y::l=>if x<y then x::y::l else if x=y then y::l else y::Zl0 x l
def Inc:List Int->Prop
 | []=>True
 | x::l=>(∀y∈l,x<y)/\Inc l
theorem Zlq{x z:Int} : ∀{l:List Int},z∈Zl0 x l↔z=x\/z∈l
 | []=>by simp [Zl0]
 | y::l=>by
  unfold Zl0;split
  .simp
  .split
   .rename_i h;subst h;simp
   .rw [bQ,Zlq,bQ];constructor
    .rintro(h|h|h)
     .exact .inr (.inl h)
     .exact .inl h
     .exact .inr (.inr h)
    .rintro(h|h|h)
     .exact .inr (.inl h)
     .exact .inl h
     .exact .inr (.inr h)
theorem Zuf{x:Int} : ∀{l:List Int},Inc l->Inc (Zl0 x l)
 | [],_=>⟨λy h=>(nomatch h),aA⟩
 | y::l,h=>by
  unfold Zl0;split
  .rename_i d;exact⟨λz c=>by
    rcases bQ.1 c with rfl|c
    .exact d
    .have:=h.1 z c;omega,h⟩
  .split
   .exact h
   .refine⟨λz c=>?_,Zuf h.2⟩;rcases Zlq.1 c with rfl|c
    .omega
    .exact h.1 z c
def Zsq(l:List Int):List Int:=l.foldr Zl0 []
def Zl1:∀(l:List Int),Inc (Zsq l)
 | []=>trivial
 | x::l=>Zuf (Zl1 l)
theorem Zlp{z:Int} : ∀{l:List Int},z∈Zsq l↔z∈l
 | []=>Iff.rfl
 | x::l=>by show z∈Zl0 x (Zsq l)↔_;rw [Zlq,Zlp,bQ]
theorem Yiq:∀{l m:List Int},Inc l->Inc m->(∀x,x∈l↔x∈m)->l=m
 | [],[],_,_,_=>rfl
 | [],y::m,_,_,h=>absurd ((h y).2 (bR ..)) (λh=>nomatch h)
 | x::l,[],_,_,h=>absurd ((h x).1 (bR ..)) (λh=>nomatch h)
 | x::l,y::m,hl,hm,h=>by
  have e:x=y:=by
   have f:=(h x).1 (bR ..);have d:=(h y).2 (bR ..);rcases bQ.1 f with c|c
   .exact c
   .rcases bQ.1 d with g|g
    .exact g.symm
    .have:=hm.1 x c;have:=hl.1 y g;omega
  subst e;rw [Yiq hl.2 hm.2 λz=>by
   have f:=h z;rw [bQ,bQ]at f;constructor
   .intro d;rcases f.1 (.inr d)with c|c
    .subst c;have:=hl.1 z d;omega
    .exact c
   .intro d;rcases f.2 (.inr d)with c|c
    .subst c;have:=hm.1 z d;omega
    .exact c]
theorem Yai:∀{l:List Int},Sst l l.length->Inc l
 | [],_=>trivial
 | x::l,h=>⟨λy c=>by obtain⟨k,f,rfl⟩:=Gs.1 c;exact h 0 (k+1) O O8,Yai λp q d e=>h (p+1) (q+1) O O8⟩
theorem Ykj{ys zs:List Int}(d:Sam xs ys)(c:Cmp ys zs):zs=Zsq xs:=
 Yiq (Yai c.s) (Zl1 xs) λx=>by rw [c.m,d.2,Zlp]
theorem Zyo:∀{l:List Int},Inc l->Sst l l.length
 | [],_=>λp q _ h=>absurd h (bT _)
 | x::l,h=>λp q c d=>by
  match p,q,c with
  | 0,q+1,_=>
   show x<l.getD q 0;exact h.1 _ (Zd (by simp at d;omega))
  | p+1,q+1,c=>exact Zyo h.2 p q O (by simp at d;omega)
def Yn0(j:Nat):j=0\/1<=j:=O
theorem hd_s(h:∀q,1<=q->q<k->xs.getD q 0≠xs.getD (q-1) 0)(d:¬xs.getD k 0=xs.getD (k-1) 0):∀q,1<=q->q<k+1->xs.getD q 0≠xs.getD (q-1) 0:=λq e f=>by
 rcases bC.1 f with c|c
 .exact h q e c
 .subst c;exact d
theorem Zzt(c:List Int)(a:Int):∀k,plS c a 1 k=Yf (λk=>cf c k*a^k) k
 | 0=>rfl
 | k+1=>by show plS c a 1 k+plT c a 1 k=_;rw [Yi,Zzt c a k];congr 1;show c.getD k 0*(a^k*1^_)=cf c k*a^k;rw [Int.one_pow,fL];rfl
theorem Zob(f:Nat->Int):∀n,((Yf f n:Int):Rat)=Hu (λi=>(f i:Rat)) n
 | 0=>rfl
 | n+1=>by rw [Yi,Mc,<-Zob f n];push_cast;rfl
theorem Yhe(c:List Int)(a:Int):((pl c a 1:Int):Rat)=Zf c (a:Rat):=by
 unfold pl;rw [Zzt,Zob]
 conv=>rhs;rw [<-Zd6 c]
 rw [Zjl];exact Lc _ λi hi=>by rw [<-Zdh];push_cast;rfl
theorem Prt.pl{g:Zv}(h:Prt q g G){a c:Int}(f:a*(g.1.2.1-g.1.1)=(q.1.1-g.1.1)+(q.1.2.1-q.1.1)*c)(i:Nat) :
  Sky.pl (Zp i q.2.1.2 q.2.2.1.2 q.2.2.2.2) c 1*G=Sky.pl (Zp i g.2.1.2 g.2.2.1.2 g.2.2.2.2) a 1*(g.1.2.1-g.1.1)^5:=by
 have d:=h.x i (a:Rat) (c:Rat) (by exact_mod_cast f);rw [<-Yhe,<-Yhe,<-Zdh]at d;have e:((Sky.pl (Zp i q.2.1.2 q.2.2.1.2 q.2.2.2.2) c 1*G:Int):Rat)=((Sky.pl (Zp i g.2.1.2 g.2.2.1.2 g.2.2.2.2) a 1*(g.1.2.1-g.1.1)^5:Int):Rat):=by rw [Rat.intCast_mul,Rat.intCast_mul,d,kH]
 exact_mod_cast e
structure Chn (ps:List Zv):Prop where
 lt:∀g∈ps,g.1.1<g.1.2.1
 eq:∀(i:Nat) (g h:Zv),ps[i]? = some g->ps[i+1]? = some h->g.1.2.1=h.1.1
def Chn.tail{g:Zv}(h:Chn (g::r)):Chn r:=⟨λx c=>h.lt x (bI _ c),λi x y c d=>h.eq (i+1) x y c d⟩
theorem Chn.ge:∀{r:List Zv} {g:Zv},Chn (g::r)->∀x∈r,g.1.2.1<=x.1.1
 | [],_,_,_,c=>nomatch c
 | h::r,g,hc,x,c=>by
  have d:=hc.eq 0 g h rfl rfl;rcases bQ.1 c with rfl|c
  .omega
  .have:=Chn.ge hc.tail x c;have:=hc.lt h O5;omega
theorem Zqt{fr l:Int} : ∀{ps:List Zv},Chn ps->∀(j:Nat) (f d:Zv),(ps.filter (Ku fr l))[j]? = some f->(ps.filter (Ku fr l))[j+1]? = some d->∃i:Nat,ps[i]? = some f/\ps[i+1]? = some d
 | [],_,j,f,d,h,_=>by simp at h
 | g::r,hc,j,f,d,h1,c=>by
  cases hp:Ku fr l g with
  | false=>
   rw [iJ (by rw [hp];exact cZ)]at h1 c;obtain⟨i,a,b⟩:=Zqt hc.tail j f d h1 c;exact⟨i+1,a,b⟩
  | true=>
   rw [fI hp]at h1 c
   match j with
   | j+1=>
    obtain⟨i,a,b⟩:=Zqt hc.tail j f d h1 c;exact⟨i+1,a,b⟩
   | 0=>
    obtain rfl:g=f:=by simpa using h1
    have c:(r.filter (Ku fr l))[0]? = some d:=c;have t:d∈r.filter (Ku fr l):=nE c;obtain⟨e,n⟩:=gT.1 t
    match r,hc,c,e with
    | h::r,hc,c,e=>
     have v:=hc.eq 0 g h rfl rfl;have w:=hc.lt h O5;have u:=cF hp;have o:=cF n;have s:Ku fr l h=true:=by
      refine aN ?_;unfold cA cB at *;rcases bQ.1 e with rfl|q
      .exact o
      .have:=Chn.ge hc.tail d q;omega
     rw [fI s]at c;obtain rfl:h=d:=by simpa using c
     exact⟨0,rfl,rfl⟩
theorem getD_some{α:Type}{l:List α}{x d:α}(h:l[i]? = some x):l.getD i d=x:=by rw [aG,h];rfl
theorem Zcw{ps:List Zv}(hi:∀g∈ps,Gin g)(s:Om ps=true):Chn ps/\(∀g∈ps,seB g=true)/\∀(i:Nat) (g h:Zv),ps[i]? = some g->ps[i+1]? = some h->meG g h=true:=by
 obtain⟨o,t,u⟩:=Gi s;have j:∀g∈ps,seB g=true:=λg c=>by obtain⟨i,d,e⟩:=dX.1 c;have:=Zbx (o i d);rw [aG,aL d,fP,e]at this;exact this
 have f:∀(i:Nat) (g h:Zv),ps[i]? = some g->ps[i+1]? = some h->meG g h=true:=λi g h c l=>by have n:=(eZ.1 l).1;have:=o (i+1) n;rw [Zhx (Zbx this) O,eT,getD_some c,getD_some l]at this;exact this
 refine⟨⟨λg c=>(Kz (hi g c) (j g c)).t2,λi g h c l=>?_⟩,j,f⟩;have:=f i g h c l;unfold meG Zlr at this;rw [aQ,fG]at this;exact this.1
structure Pat (fr to:Int) (ps qs:List Zv):Prop where
 gin:∀q∈qs,Gin q
 pb:Om qs=true
 len:qs.length=(ps.filter (Ku fr to)).length
 prt:∀(j:Nat) (q:Zv),qs[j]? = some q->∃f:Zv,(ps.filter (Ku fr to))[j]? = some f/\f∈ps/\Prt q f (cG fr to f)
 nxt:∀(j:Nat) (q r:Zv),qs[j]? = some q->qs[j+1]? = some r->∃(i:Nat) (f h:Zv),ps[i]? = some f/\ps[i+1]? = some h/\Prt q f (cG fr to f)/\Prt r h (cG fr to h)/\q.1.2.1=f.1.2.1/\r.1.1=h.1.1
theorem Yj6{fr d:Int} : ∀{ps:List Zv},Chn ps->ps≠[]->spF ps<=fr->fr<d->d<=spL ps->ps.filter (Ku fr d)≠[]
 | [],_,h,_,_,_=>absurd rfl h
 | g::r,hc,_,l,h2,c=>by
  have o:=hc.lt g O5;have l:g.1.1<=fr:=l;by_cases f:Ku fr d g=true
  .rw [fI f];exact List.cons_ne_nil _ _
  .have j:¬cA fr g<cB d g:=λh=>f (aN h);have e:g.1.2.1<=fr:=by unfold cA cB at j;omega
   rw [iJ f]
   match r,hc,c with
   | [],_,c=>
    have c:d<=g.1.2.1:=c;omega
   | h::r,hc,c=>
    have n:=hc.eq 0 g h rfl rfl;refine Yj6 hc.tail (List.cons_ne_nil _ _) (by show h.1.1<=fr;omega) h2 ?_;have:spL (g::h::r)=spL (h::r):=by unfold spL;simp
    rw [<-this];exact c
theorem bl_dl{a b:Int}{n:Nat}(h:bl a.natAbs<=n):bl (a/b).natAbs<=n:=by rw [Qm]at h ⊢;exact aZ (jR a b) h
def jqP(fr g f:Int)(x y z:List Int)(c e d:Int)(h j l:List Int)(i:Nat):Prop:=qr (bgS (Zp i h j l)) (Ax [d,e-c])=qr (enS (Zp i x y z)) (Ax [f,g-fr])
def refS(o:Nat)(x y z:List Int):Nat->List Int
 | 0=>[]
 | i+1=>Fg (refS o x y z i) (Qn (dN o (tzl (Zp i x y z))) (dN o (tzl (Zp i x y z))))
def refC(o:Nat)(m c T:Int):Int:=m^2*c^2*T^(2*o)
def refF(o:Nat)(m c T:Int)(x y z:List Int):List Int:=Dc (tzl [refC o m c T]) (Zs (refS o x y z 3) (1000^(2*o)))
theorem ps_Cm(a b:Int):PS.C (a*b)=PS.C a*PS.C b:=PS.ext' λi=>by rw [PS.C_mul_c];cases i<;>simp [PS.C]
theorem Ycy(p:List Int)(k:Int):Qn (Zs p k) (Zs p k)=Zs (Qn p p) (k*k):=(Qi _ _).ps_inj (Qe _ _) (by rw [Zjo,Zht,Zht,Zjo,ps_Cm];grind)
theorem sz_one{c:Int}{n:Nat}(h:bl c.natAbs<=n):Sz n [c]:=Sz.of_mem λt d=>by rw [bE.1 d];exact h
def frB(ps:List Zv)(d c:Int)(i:Nat):Int:=
 if 0<i/\joG (ps.getD (i-1) G0) (ps.getD i G0)=false then 1 else if He (Yi3 1 d (ps.getD i G0))=true then 2 else if He (Yi3 2 c (ps.getD i G0))=true then 3 else 0
def fiB(ps:List Zv)(d c:Int):Option (Nat×Int):=((List.range ps.length).find? λi=>decide (frB ps d c i≠0)).map λi=>(i,frB ps d c i)
def fiI(o:Option (Nat×Int)):Int:=match o with
 | none=>0
 | some g=>g.1
def fiC(o:Option (Nat×Int)):Int:=match o with
 | none=>0
 | some g=>g.2
abbrev firV (o:Option (Nat×Int)):Value:= .tuple #[.agg #[.int .i64 (fiI o),.int .i64 (fiC o)],.bool o.isSome,.int .i64 0]
theorem Ykf(h:Tr p)(c:p≠[]):(0:Rat)<(Ys p:Rat):=by have d:=Ch h c;have e:=Nk p;exact_mod_cast (show 0<Ys p by omega)
def spd(o:Nat)(x y z:List Int)(u:Rat):Rat:=Zf (refS o x y z 3) u
def lstB(o:Nat)(ps:List Zv):Nat:=Ymd (λn=>Yik o ps (n:Int)) 14 0 10000
def lsV(o:Nat)(ps:List Zv):Nat:=if Yik o ps 10000 then lstB o ps else 0
theorem Znt(a b:Bool):a=false\/(a=true/\b=false)\/(a=true/\b=true):=by cases a<;>cases b<;>simp
def dR(o:Nat)(c:List Int)(u:Rat):Rat:=Zf (dN o (tzl c)) u
theorem Prt.num{g:Zv}(h:Prt q g G):∃v s:Rat,0<=v/\0<s/\v+s<=1/\s*((g.1.2.1-g.1.1:Int):Rat)=((q.1.2.1-q.1.1:Int):Rat)/\v*((g.1.2.1-g.1.1:Int):Rat)=((q.1.1-g.1.1:Int):Rat)/\(0:Rat)<((g.1.2.1-g.1.1:Int):Rat)/\
  ∀i (u:Rat),Zf (Zp i q.2.1.2 q.2.2.1.2 q.2.2.2.2) u*(G:Rat)=((g.1.2.1-g.1.1:Int):Rat)^5*Zf (Zp i g.2.1.2 g.2.2.1.2 g.2.2.2.2) (v+s*u):=by
 have l:=h.a0;have n:=h.b0;have o:=h.ab;have z:=h.x;generalize g.1.2.1-g.1.1=d at *;generalize q.1.2.1-q.1.1=b at *;generalize q.1.1-g.1.1=a at *;have f:(0:Rat)<(d:Rat):=by exact_mod_cast (show 0<d by omega)
 have t:(0:Rat)<=(a:Rat):=by exact_mod_cast l
 have y:(0:Rat)<(b:Rat):=by exact_mod_cast n
 have w:(a:Rat)+(b:Rat)<=(d:Rat):=by exact_mod_cast o
 have hi:0<(d:Rat)⁻¹:=fZ.2 f;have c:(a:Rat)/d*d=a:=nW O4;have e:(b:Rat)/d*d=b:=nW O4;refine⟨(a:Rat)/d,(b:Rat)/d,?_,?_,?_,e,c,f,λi u=>z i _ u (by
  have j:(b:Rat)/d*u*d=((b:Rat)/d*d)*u:=by rw [kO,kH u,<-kO]
  rw [Rat.add_mul,c,j,e])⟩
 .rw [jJ];exact aJ t (dE hi)
 .rw [jJ];exact bD y hi
 .have:((a:Rat)/d+b/d)*d<=1*d:=by rw [Rat.add_mul,c,e];grind
  exact Rat.le_of_mul_le_mul_right this f
def Zxs{fr c:Int}{ps:List Zv}(h:Oj fr c ps=true):Zu7 fr c ps=0:=aF h
theorem Zxr{fr c:Int}{ps:List Zv}(h:Oj fr c ps=false):Zu7 fr c ps=7:=aD (by rw [h];exact cZ)
def lh_M{fr d:Int}{ps:List Zv}(hi:∀g∈ps,Gin g)(e:Om ps=true):∀g∈ps,Ku fr d g=true->MdG fr d g:=λg c f=>Zw1 (hi g c) ((Zcw hi e).2.1 g c) f
def inn(fr c:Int)(ps:List Zv):List Int:=(ps.filter λg=>decide (fr<g.1.1) && decide (g.1.1<c)).map λg=>g.1.1
theorem inn_t{fr c:Int}{ps:List Zv}(f:k<ps.length)(d:fr<(ps.getD k G0).1.1)(e:(ps.getD k G0).1.1<c):inn fr c (ps.take (k+1))=inn fr c (ps.take k) ++ [(ps.getD k G0).1.1]:=by unfold inn;rw [Zhi (x:=ps.getD k G0) (by rw [aG,aL f];rfl),iO,dY];rw [show List.filter (λg:Zv=>decide (fr<g.1.1) && decide (g.1.1<c)) [ps.getD k G0]=[ps.getD k G0]from fI (by rw [aN d,aN e];rfl)];rfl
theorem inn_f{fr c:Int}{ps:List Zv}(e:k<ps.length)(h:¬(fr<(ps.getD k G0).1.1/\(ps.getD k G0).1.1<c)):inn fr c (ps.take (k+1))=inn fr c (ps.take k):=by
 unfold inn;rw [Zhi (x:=ps.getD k G0) (by rw [aG,aL e];rfl),iO,dY];rw [show List.filter (λg:Zv=>decide (fr<g.1.1) && decide (g.1.1<c)) [ps.getD k G0]=[] by rw [iJ (λd=>by rw [aQ]at d;exact h ⟨cF d.1,cF d.2⟩)];rfl]
 simp
theorem Zqm(fr c:Int)(ps:List Zv):(inn fr c ps).length<=ps.length:=by unfold inn;rw [aP];exact iX _ _
theorem Zz7{fr f:Int}{ps:List Zv} : x∈inn fr f ps↔∃g∈ps,g.1.1=x/\fr<x/\x<f:=by
 unfold inn;rw [fT];constructor
 .rintro⟨g,e,rfl⟩;obtain⟨d,c⟩:=gT.1 e;simp only [aQ,dQ]at c;exact⟨g,d,rfl,c.1,c.2⟩
 .rintro⟨g,e,rfl,d,c⟩;exact⟨g,gT.2 ⟨e,by simp [d,c]⟩,rfl⟩
def cmF(a b:List Zv):Int:=max (spF a) (spF b)
def Ak(a b:List Zv):Int:=min (spL a) (spL b)
def Zfr(a b:List Zv)(i:Nat):List Int:=cmF a b::Ak a b::((if 1<=i then inn (cmF a b) (Ak a b) a else []) ++ (if 2<=i then inn (cmF a b) (Ak a b) b else []))
def Nd(a b:List Zv):List Int:=Zsq (Zfr a b 2)
def Er{α:Type _}(i:Nat)(a b:α):α:=if i=0 then a else b
theorem tms_s(h:i<2):Zfr a b (i+1)=Zfr a b i ++ inn (cmF a b) (Ak a b) (Er i a b):=by
 match i,h with
 | 0,_=>simp [Zfr,Er]
 | 1,_=>simp [Zfr,Er]
theorem Zaa : x∈Nd a b↔x=cmF a b\/x=Ak a b\/(cmF a b<x/\x<Ak a b/\((∃g∈a,g.1.1=x)\/∃g∈b,g.1.1=x)):=by
 unfold Nd;rw [Zlp];show x∈cmF a b::Ak a b::(inn _ _ a ++ inn _ _ b)↔_;rw [bQ,bQ,cY,Zz7,Zz7];constructor
 .rintro(h|h|⟨g,c,d,e,f⟩|⟨g,c,d,e,f⟩)
  .exact .inl h
  .exact .inr (.inl h)
  .exact .inr (.inr ⟨e,f,.inl ⟨g,c,d⟩⟩)
  .exact .inr (.inr ⟨e,f,.inr ⟨g,c,d⟩⟩)
 .rintro(h|h|⟨e,f,⟨g,c,d⟩|⟨g,c,d⟩⟩)
  .exact .inl h
  .exact .inr (.inl h)
  .exact .inr (.inr (.inl ⟨g,c,d,e,f⟩))
  .exact .inr (.inr (.inr ⟨g,c,d,e,f⟩))
def Yby(a b:List Zv):Sst (Nd a b) (Nd a b).length:=Zyo (Zl1 _)
theorem Zub(x:Int):∀l:List Int,(Zl0 x l).length<=l.length+1
 | []=>aH _
 | y::l=>by
  have:=Zub x l;unfold Zl0;split
  .exact aH _
  .split
   .exact Nat.le_succ _
   .simp only [dI];omega
theorem Zt8:∀l:List Int,(Zsq l).length<=l.length
 | []=>aH _
 | x::l=>by have:=Zt8 l;have:=Zub x (Zsq l);show(Zl0 x (Zsq l)).length<=_;simp only [dI];omega
theorem Zql(a b:List Zv)(i:Nat):(Zfr a b i).length<=2+a.length+b.length:=by have c:=Zqm (cmF a b) (Ak a b) a;have d:=Zqm (cmF a b) (Ak a b) b;unfold Zfr;split<;>split<;>simp<;>omega
def Zqn(a b:List Zv):(Nd a b).length<=2+a.length+b.length:=aB (Zt8 _) (Zql a b 2)
structure Bks (a b:List Zv):Prop where
 two:2<=(Nd a b).length
 hd:(Nd a b).getD 0 0=cmF a b
 ls:(Nd a b).getD ((Nd a b).length-1) 0=Ak a b
 lt:∀k,k+1<(Nd a b).length->cmF a b<=(Nd a b).getD k 0/\(Nd a b).getD k 0<(Nd a b).getD (k+1) 0/\(Nd a b).getD (k+1) 0<=Ak a b
 no:∀k,k+1<(Nd a b).length->∀g,g∈a\/g∈b->¬((Nd a b).getD k 0<g.1.1/\g.1.1<(Nd a b).getD (k+1) 0)
theorem bks(h:cmF a b<Ak a b):Bks a b:=by
 have hs:=Yby a b;have w:cmF a b∈Nd a b:=Zaa.2 (.inl rfl);have y:Ak a b∈Nd a b:=Zaa.2 (.inr (.inl rfl));have f:∀x∈Nd a b,cmF a b<=x/\x<=Ak a b:=λx F=>by rcases Zaa.1 F with l|l|⟨l,s,_⟩<;>omega
 obtain⟨i,hi,u⟩:=Gs.1 w;obtain⟨j,N,v⟩:=Gs.1 y;have t:2<=(Nd a b).length:=by
  by_cases e:i=j
  .subst e;omega
  .omega
 have z:(Nd a b).getD 0 0=cmF a b:=by
  by_cases e:i=0
  .subst e;exact u
  .have l:=hs 0 i O hi;have s:=(f _ (Zd (zs:=Nd a b) (i:=0) (d:=0))).1;omega
 have H:(Nd a b).getD ((Nd a b).length-1) 0=Ak a b:=by
  by_cases e:j=(Nd a b).length-1
  .rw [<-e];exact v
  .have l:=hs j ((Nd a b).length-1) O O;have s:=(f _ (Zd (zs:=Nd a b) (i:=(Nd a b).length-1) (d:=0))).2;omega
 refine⟨t,z,H,λk o=>⟨(f _ (Zd)).1,hs k (k+1) O o,(f _ (Zd o)).2⟩,λk o g n M=>?_⟩;have l:=(f _ (Zd (zs:=Nd a b) (i:=k) (d:=0))).1;have s:=(f _ (Zd (zs:=Nd a b) (i:=k+1) (d:=0) o)).2;have B:g.1.1∈Nd a b:=Zaa.2 (.inr (.inr ⟨O,O,by
  rcases n with n|n
  .exact .inl ⟨g,n,rfl⟩
  .exact .inr ⟨g,n,rfl⟩⟩))
 obtain⟨q,D,I⟩:=Gs.1 B;rcases jD q k with c|c|c
 .have:=hs q k c O;omega
 .subst c;omega
 .rcases jD q (k+1)with d|d|d
  .omega
  .subst d;omega
  .have:=hs (k+1) q d D;omega
theorem Ybe{fr c:Int}{g:Zv}(h:Ku fr c g=true):fr<g.1.2.1/\g.1.1<c:=by unfold Ku cA cB at h;have:=cF h;exact⟨O,O⟩
theorem Ybd{fr c:Int}{ps:List Zv}(e:Chn ps)(h:ps≠[])(s:spF ps<=fr)(t:fr<c)(u:c<=spL ps)(j:∀g∈ps,¬(fr<g.1.1/\g.1.1<c)):(ps.filter (Ku fr c)).length=1:=by
 have v:=Yj6 e h s t u;have l:0<(ps.filter (Ku fr c)).length:=aE.2 v;rcases bA 1 (ps.filter (Ku fr c)).length with d|d
 .exfalso;have n:=aL l;have o:=aL d;obtain⟨i,f1,f2⟩:=Zqt e 0 _ _ n o;have w:=(gT.1 (fO l)).2;have y:=(gT.1 (fO d)).2;have f:=(gT.1 (fO d)).1;have D:=e.eq i _ _ f1 f2;have z:=Ybe w;have B:=Ybe y;exact j _ f ⟨O,O⟩
 .omega
def Zg1(ts:List Int)(ps:List Zv):Nat->List Zvs
 | 0=>[]
 | n+1=>Zg1 ts ps n ++ Zdc (ts.getD n 0) (ts.getD (n+1) 0) ps
def Ck(ts:List Int)(a b:List Zv):Nat->Bool
 | 0=>true
 | n+1=>Ck ts a b n && (Oj (ts.getD n 0) (ts.getD (n+1) 0) a && Oj (ts.getD n 0) (ts.getD (n+1) 0) b)
def Zxu(a b:List Zv):Bool:=Ck (Nd a b) a b ((Nd a b).length-1)
def Dl(a b:List Zv):Int:=if cmF a b>=Ak a b then 9 else if Zxu a b then 0 else 7
def Ih(a b ps:List Zv):List Zvs:=if Dl a b=0 then Zg1 (Nd a b) ps ((Nd a b).length-1)else []
theorem Zvb{ts:List Int}{a b:List Zv} : ∀{n m:Nat},n<=m->Ck ts a b m=true->Ck ts a b n=true
 | n,0,h,c=>by obtain rfl:n=0:=O;rfl
 | n,m+1,h,c=>by
  rcases bA m n with d|d
  .obtain rfl:n=m+1:=O;exact c
  .refine Zvb d ?_;have:Ck ts a b (m+1)=(Ck ts a b m && (Oj (ts.getD m 0) (ts.getD (m+1) 0) a && Oj (ts.getD m 0) (ts.getD (m+1) 0) b)):=rfl;rw [this,aQ]at c;exact c.1
def tik(a b:List Zv)(i k:Nat):List Int:=Zfr a b i ++ inn (cmF a b) (Ak a b) ((Er i a b).take k)
theorem tik_0(a b:List Zv)(i:Nat):tik a b i 0=Zfr a b i:=by unfold tik;rw [dV];exact iS _
theorem tik_t(e:k<(Er i a b).length)(c:cmF a b<((Er i a b).getD k G0).1.1)(d:((Er i a b).getD k G0).1.1<Ak a b):tik a b i (k+1)=tik a b i k ++ [((Er i a b).getD k G0).1.1]:=by unfold tik;rw [inn_t e c d,eD]
theorem tik_f(c:k<(Er i a b).length)(h:¬(cmF a b<((Er i a b).getD k G0).1.1/\((Er i a b).getD k G0).1.1<Ak a b)):tik a b i (k+1)=tik a b i k:=by unfold tik;rw [inn_f c h]
theorem tik_e(hi:i<2):tik a b i (Er i a b).length=Zfr a b (i+1):=by unfold tik;rw [bM,tms_s hi]
theorem Zt9(a b:List Zv)(i:Nat):(Er i a b).length<=a.length+b.length:=by unfold Er;split<;>omega
theorem Ynv(a b:List Zv)(i k:Nat):(tik a b i k).length<=2+2*(a.length+b.length):=by have c:=Zql a b i;have d:=Zqm (cmF a b) (Ak a b) ((Er i a b).take k);have e:=Zt9 a b i;have f:((Er i a b).take k).length<=(Er i a b).length:=List.length_take_le' _ _;unfold tik;rw [aY];omega
def tms_ne(a b:List Zv)(i:Nat):Zfr a b i≠[]:=λh=>nomatch h
theorem tms_2(a b:List Zv)(i:Nat):2<=(Zfr a b i).length:=by unfold Zfr;simp
section
variable {P:Program} {N:Nat} {sc:Nat->Prop} {env:Pz} {H:Hp}
theorem Ymp{f g sd:SL}(i j k n:Nat)(l:lk H j=some (Ph 6 Oq qG (Xn f) a))(o:lk H k=some (Ph 6 Oq qG (Xn g) b))(c:Nat.beq j 0=false)(d:Nat.beq k 0=false)(hi:i<2) :
  ∀e w,Sat N sc env H e w->Sat N sc env ((n,Ph 6 Oq qG (Xn ([f,g].getD i sd)) (Er i a b))::H) e w:=by
 match i,hi with
 | 0,_=>exact Zb9 j n l c rfl (λ_ h=>h) (λ_ h=>h) rfl
 | 1,_=>exact Zb9 k n o d rfl (λ_ h=>h) (λ_ h=>h) rfl
end
theorem Zot(h:cmF a b>=Ak a b)(ps:List Zv):Dl a b=9/\Ih a b ps=[]:=by have e:Dl a b=9:=aF h;exact⟨e,by unfold Ih;rw [e];rfl⟩
theorem Zcd(h:¬cmF a b>=Ak a b){n:Nat}(g:n+1<(Nd a b).length)(f:(Oj ((Nd a b).getD n 0) ((Nd a b).getD (n+1) 0) a && Oj ((Nd a b).getD n 0) ((Nd a b).getD (n+1) 0) b)=false)(ps:List Zv):Dl a b=7/\Ih a b ps=[]:=by
 have k:Zxu a b=false:=by
  cases hk:Zxu a b with
  | false=>rfl
  | true=>
   have c:=Zvb (n:=n+1) O hk;have d:Ck (Nd a b) a b (n+1)=(Ck (Nd a b) a b n && (Oj ((Nd a b).getD n 0) ((Nd a b).getD (n+1) 0) a && Oj ((Nd a b).getD n 0) ((Nd a b).getD (n+1) 0) b)):=rfl;rw [d,f,lN]at c;exact c.symm
 have e:Dl a b=7:=by unfold Dl;rw [aD h,k];rfl
 exact⟨e,by unfold Ih;rw [e];rfl⟩
theorem Zou(h:¬cmF a b>=Ak a b){n:Nat}(d:n+1=(Nd a b).length)(c:Ck (Nd a b) a b n=true):Dl a b=0/\∀ps,Ih a b ps=Zg1 (Nd a b) ps n:=by
 have k:Zxu a b=true:=by unfold Zxu;rw [show(Nd a b).length-1=n by omega];exact c
 have e:Dl a b=0:=by unfold Dl;rw [aD h,k];rfl
 exact⟨e,λps=>by unfold Ih;rw [e,aF rfl,show(Nd a b).length-1=n by omega]⟩
theorem com_k{n:Nat}(h:Ck (Nd a b) a b n=true)(c:Oj ((Nd a b).getD n 0) ((Nd a b).getD (n+1) 0) a=true)(d:Oj ((Nd a b).getD n 0) ((Nd a b).getD (n+1) 0) b=true):Ck (Nd a b) a b (n+1)=true:=by show(Ck (Nd a b) a b n && (_ && _))=true;rw [h,c,d];rfl
theorem Ybi{ps zs:List Zv}{n:Nat}(h:zs.map unS=Zg1 ts ps n)(c:us.map unS=Zdc (ts.getD n 0) (ts.getD (n+1) 0) ps):(zs ++ us).map unS=Zg1 ts ps (n+1):=by rw [dY,h,c];rfl
theorem com_u{ps:List Zv}{fr c:Int}(hi:∀g∈ps,Gin g)(h:Om ps=true)(l:spF ps<=fr)(n:fr<c)(o:c<=spL ps)(d:∀g∈ps,¬(fr<g.1.1/\g.1.1<c))(t:Oj fr c ps=true)(u:us.map unS=Zdc fr c ps):us.length=1:=by have j:=(Gi h).2.1;have s:=Ybd (Zcw hi h).1 (λe=>by rw [e]at j;simp at j) l n o d;have f:=aI List.length u;rw [aP]at f;rw [f];unfold Zdc;rw [aF t,aP,s]
theorem Ykh{n:Nat}(hi:∀g∈a,Gin g)(h:Om a=true)(B:Bks a b)(c:n+1<(Nd a b).length)(j:Oj ((Nd a b).getD n 0) ((Nd a b).getD (n+1) 0) a=true)(o:us.map unS=Zdc ((Nd a b).getD n 0) ((Nd a b).getD (n+1) 0) a):us.length=1:=by obtain⟨d,e,f⟩:=B.lt n c;unfold cmF at d;unfold Ak at f;exact com_u hi h O e O (λg l=>B.no n c g (.inl l)) j o
theorem Ykg{n:Nat}(hi:∀g∈b,Gin g)(h:Om b=true)(B:Bks a b)(c:n+1<(Nd a b).length)(j:Oj ((Nd a b).getD n 0) ((Nd a b).getD (n+1) 0) b=true)(o:us.map unS=Zdc ((Nd a b).getD n 0) ((Nd a b).getD (n+1) 0) b):us.length=1:=by obtain⟨d,e,f⟩:=B.lt n c;unfold cmF at d;unfold Ak at f;exact com_u hi h O e O (λg l=>B.no n c g (.inr l)) j o
theorem cm_two{a b:Bool}(h:¬(a=true/\b=true)):a=false\/(a=true/\b=false):=by cases a<;>cases b<;>simp_all
theorem Zif{a b:Bool}(h:a=false):(a && b)=false:=by rw [h];rfl
theorem Zie{a b:Bool}(h:b=false):(a && b)=false:=by rw [h];exact lN _
end Go.Sky

