/- Rules, arithmetic and contracts: part 15. No conditions but those that each theorem names. -/
import Derived.Test.YteikicbnfbgpnaaGreatEh13
set_option linter.all false
namespace Go.Sky
variable{c p ts:List Int}{ov x M x0 x1 x2 x3 x4 d G o a':Int}{b a r qs us:List Zf}{q:Zf}{i k:Nat}
def Ylt:∀n,n<6->∀j,j<n+1->∀k,k<j+1->(Oa n j:Int)*w60 n j k=60*(Oa (n-k) (j-k):Int):=O6
theorem Zea(f:Nat->Int)(a:Int):∀m,Yg (λk=>a*f k) m=a*Yg f m
 | 0=>by show(0:Int)=a*0;omega
 | m+1=>by rw [Yn,Yn,Zea f a m,mJ]
theorem Yo6(g:1<=c.length/\c.length<=6){j:Nat}(e:j<c.length):(Oa (c.length-1) j:Int)*ctl c j (j+1)=60*It (c.length-1) c j:=by unfold ctl It;rw [<-Zea,<-Zea];refine Yx λk f=>?_;have:=Ylt (c.length-1) O1 j O1 k O1;show(Oa (c.length-1) j:Int)*(cf c k*w60 (c.length-1) j k)=60*(cf c k*_);rw [mO,this,mO]
theorem Ykm{n j:Nat}(h:j<n+1):(0:Int)<(Oa n j:Int):=by have:=Zjn (n:=n) (k:=j) O1;omega
theorem Ybq(v:1<=c.length/\c.length<=6) : Zma c ov=true↔∀j,j<c.length->((It (c.length-1) c j).natAbs:Int)<=1048576*ov*(Oa (c.length-1) j:Int):=by
 have f:∀j,j<c.length->((((ctl c j (j+1)).natAbs:Int)<=62914560*ov)↔((It (c.length-1) c j).natAbs:Int)<=1048576*ov*(Oa (c.length-1) j:Int)):=λj e=>by
  have t:=Yo6 v e;have l:=Ykm (n:=c.length-1) (j:=j) O1;have m:=aL Int.natAbs t;rw [cL,cL,dK]at m;generalize (ctl c j (j+1)).natAbs=x at *;generalize (It (c.length-1) c j).natAbs=y at *;generalize Oa (c.length-1) j=q at *;have s:(q:Int)*(x:Int)=60*(y:Int):=by exact_mod_cast m
  constructor
  .intro h;have g:=jH h (eQ l);rw [s]at g;have u:(q:Int)*(62914560*ov)=60*(1048576*ov*q):=O5;omega
  .intro h;have g:60*(y:Int)<=(q:Int)*(62914560*ov):=by have u:(q:Int)*(62914560*ov)=60*(1048576*ov*q):=O5;omega
   rw [<-s]at g;exact mI g l
 constructor
 .intro h j e;unfold Zma at h;rw [cI]at h;exact(f j e).1 (bH (h j (fE.2 e)))
 .intro h;exact Zxt λj e=>(f j e).2 (h j e)
def Xq{b:Int} : ((x.natAbs:Int)<=b)↔(-b<=x/\x<=b):=O1
def cfb0(f:0<=M)(e:-(M*1)<=(x0*1)/\(x0*1)<=M*1):(-(2047*M)<=x0/\x0<=2047*M):=O1
def bre00(c:List Int):It 0 c 0=cf c 0*1:=O12
theorem cfb1(g:0<=M)(e:-(M*1)<=(x0*1)/\(x0*1)<=M*1)(f:-(M*1)<=(x0*1+x1*1)/\(x0*1+x1*1)<=M*1):(-(2047*M)<=x0/\x0<=2047*M)/\(-(2047*M)<=x1/\x1<=2047*M):=by refine⟨⟨?_,?_⟩,⟨?_,?_⟩⟩<;>omega
def bre10(c:List Int):It 1 c 0=cf c 0*1:=O12
def bre11(c:List Int):It 1 c 1=cf c 0*1+cf c 1*1:=O12
theorem cfb2(h:0<=M)(e:-(M*1)<=(x0*1)/\(x0*1)<=M*1)(f:-(M*2)<=(x0*2+x1*1)/\(x0*2+x1*1)<=M*2)(g:-(M*1)<=(x0*1+x1*1+x2*1)/\(x0*1+x1*1+x2*1)<=M*1):(-(2047*M)<=x0/\x0<=2047*M)/\(-(2047*M)<=x1/\x1<=2047*M)/\(-(2047*M)<=x2/\x2<=2047*M):=by refine⟨⟨?_,?_⟩,⟨?_,?_⟩,⟨?_,?_⟩⟩<;>omega
def bre20(c:List Int):It 2 c 0=cf c 0*1:=O12
def bre21(c:List Int):It 2 c 1=cf c 0*2+cf c 1*1:=O12
def bre22(c:List Int):It 2 c 2=cf c 0*1+cf c 1*1+cf c 2*1:=O12
theorem cfb3(j:0<=M)(e:-(M*1)<=(x0*1)/\(x0*1)<=M*1)(f:-(M*3)<=(x0*3+x1*1)/\(x0*3+x1*1)<=M*3)(g:-(M*3)<=(x0*3+x1*2+x2*1)/\(x0*3+x1*2+x2*1)<=M*3)(h:-(M*1)<=(x0*1+x1*1+x2*1+x3*1)/\(x0*1+x1*1+x2*1+x3*1)<=M*1):(-(2047*M)<=x0/\x0<=2047*M)/\(-(2047*M)<=x1/\x1<=2047*M)/\(-(2047*M)<=x2/\x2<=2047*M)/\(-(2047*M)<=x3/\x3<=2047*M):=by refine⟨⟨?_,?_⟩,⟨?_,?_⟩,⟨?_,?_⟩,⟨?_,?_⟩⟩<;>omega
def bre30(c:List Int):It 3 c 0=cf c 0*1:=O12
def bre31(c:List Int):It 3 c 1=cf c 0*3+cf c 1*1:=O12
def bre32(c:List Int):It 3 c 2=cf c 0*3+cf c 1*2+cf c 2*1:=O12
def bre33(c:List Int):It 3 c 3=cf c 0*1+cf c 1*1+cf c 2*1+cf c 3*1:=O12
theorem cfb4(l:0<=M)(e:-(M*1)<=(x0*1)/\(x0*1)<=M*1)(f:-(M*4)<=(x0*4+x1*1)/\(x0*4+x1*1)<=M*4)(g:-(M*6)<=(x0*6+x1*3+x2*1)/\(x0*6+x1*3+x2*1)<=M*6)(h:-(M*4)<=(x0*4+x1*3+x2*2+x3*1)/\(x0*4+x1*3+x2*2+x3*1)<=M*4)(j:-(M*1)<=(x0*1+x1*1+x2*1+x3*1+x4*1)/\(x0*1+x1*1+x2*1+x3*1+x4*1)<=M*1):(-(2047*M)<=x0/\x0<=2047*M)/\(-(2047*M)<=x1/\x1<=2047*M)/\(-(2047*M)<=x2/\x2<=2047*M)/\(-(2047*M)<=x3/\x3<=2047*M)/\(-(2047*M)<=x4/\x4<=2047*M):=by refine⟨⟨?_,?_⟩,⟨?_,?_⟩,⟨?_,?_⟩,⟨?_,?_⟩,⟨?_,?_⟩⟩<;>omega
def bre40(c:List Int):It 4 c 0=cf c 0*1:=O12
def bre41(c:List Int):It 4 c 1=cf c 0*4+cf c 1*1:=O12
def bre42(c:List Int):It 4 c 2=cf c 0*6+cf c 1*3+cf c 2*1:=O12
def bre43(c:List Int):It 4 c 3=cf c 0*4+cf c 1*3+cf c 2*2+cf c 3*1:=O12
def bre44(c:List Int):It 4 c 4=cf c 0*1+cf c 1*1+cf c 2*1+cf c 3*1+cf c 4*1:=O12
theorem cfb5{e:Int}(n:0<=M)(f:-(M*1)<=(x0*1)/\(x0*1)<=M*1)(g:-(M*5)<=(x0*5+x1*1)/\(x0*5+x1*1)<=M*5)(h:-(M*10)<=(x0*10+x1*4+x2*1)/\(x0*10+x1*4+x2*1)<=M*10)(j:-(M*10)<=(x0*10+x1*6+x2*3+x3*1)/\(x0*10+x1*6+x2*3+x3*1)<=M*10)(l:-(M*5)<=(x0*5+x1*4+x2*3+x3*2+x4*1)/\(x0*5+x1*4+x2*3+x3*2+x4*1)<=M*5)(m:-(M*1)<=(x0*1+x1*1+x2*1+x3*1+x4*1+e*1)/\(x0*1+x1*1+x2*1+x3*1+x4*1+e*1)<=M*1):(-(2047*M)<=x0/\x0<=2047*M)/\(-(2047*M)<=x1/\x1<=2047*M)/\(-(2047*M)<=x2/\x2<=2047*M)/\(-(2047*M)<=x3/\x3<=2047*M)/\(-(2047*M)<=x4/\x4<=2047*M)/\(-(2047*M)<=e/\e<=2047*M):=by refine⟨⟨?_,?_⟩,⟨?_,?_⟩,⟨?_,?_⟩,⟨?_,?_⟩,⟨?_,?_⟩,⟨?_,?_⟩⟩<;>omega
def bre50(c:List Int):It 5 c 0=cf c 0*1:=O12
def bre51(c:List Int):It 5 c 1=cf c 0*5+cf c 1*1:=O12
def bre52(c:List Int):It 5 c 2=cf c 0*10+cf c 1*4+cf c 2*1:=O12
def bre53(c:List Int):It 5 c 3=cf c 0*10+cf c 1*6+cf c 2*3+cf c 3*1:=O12
def bre54(c:List Int):It 5 c 4=cf c 0*5+cf c 1*4+cf c 2*3+cf c 3*2+cf c 4*1:=O12
def bre55(c:List Int):It 5 c 5=cf c 0*1+cf c 1*1+cf c 2*1+cf c 3*1+cf c 4*1+cf c 5*1:=O12
theorem cf_brS{n:Nat}(v:n<6)(y:c.length<=n+1)(h:∀j,j<n+1->((It n c j).natAbs:Int)<=M*(Oa n j:Int))(k:Nat):((cf c k).natAbs:Int)<=2047*M:=by
 have s:0<=M:=by have f:=h 0 O1;rw [Zl5]at f;omega
 by_cases w:k<n+1
 .rw [Xq]
  match n,v with
  | 0,_=>
   have f:=Xq.1 (h 0 O3);rw [bre00,show(Oa 0 0:Int)=1 from rfl]at f;have e:=cfb0 s f;obtain rfl:k=0:=O1;exact e
  | 1,_=>
   have f:=Xq.1 (h 0 O3);rw [bre10,show(Oa 1 0:Int)=1 from rfl]at f;have g:=Xq.1 (h 1 O3);rw [bre11,show(Oa 1 1:Int)=1 from rfl]at g;have e:=cfb1 s f g;rcases(show k=0\/k=1 by omega)with rfl|rfl
   .exact e.1
   .exact e.2
  | 2,_=>
   have f:=Xq.1 (h 0 O3);rw [bre20,show(Oa 2 0:Int)=1 from rfl]at f;have g:=Xq.1 (h 1 O3);rw [bre21,show(Oa 2 1:Int)=2 from rfl]at g;have l:=Xq.1 (h 2 O3);rw [bre22,show(Oa 2 2:Int)=1 from rfl]at l;have e:=cfb2 s f g l;rcases(show k=0\/k=1\/k=2 by omega)with rfl|rfl|rfl
   .exact e.1
   .exact e.2.1
   .exact e.2.2
  | 3,_=>
   have f:=Xq.1 (h 0 O3);rw [bre30,show(Oa 3 0:Int)=1 from rfl]at f;have g:=Xq.1 (h 1 O3);rw [bre31,show(Oa 3 1:Int)=3 from rfl]at g;have l:=Xq.1 (h 2 O3);rw [bre32,show(Oa 3 2:Int)=3 from rfl]at l;have m:=Xq.1 (h 3 O3);rw [bre33,show(Oa 3 3:Int)=1 from rfl]at m;have e:=cfb3 s f g l m;rcases(show k=0\/k=1\/k=2\/k=3 by omega)with rfl|rfl|rfl|rfl
   .exact e.1
   .exact e.2.1
   .exact e.2.2.1
   .exact e.2.2.2
  | 4,_=>
   have f:=Xq.1 (h 0 O3);rw [bre40,show(Oa 4 0:Int)=1 from rfl]at f;have g:=Xq.1 (h 1 O3);rw [bre41,show(Oa 4 1:Int)=4 from rfl]at g;have l:=Xq.1 (h 2 O3);rw [bre42,show(Oa 4 2:Int)=6 from rfl]at l;have m:=Xq.1 (h 3 O3);rw [bre43,show(Oa 4 3:Int)=4 from rfl]at m;have t:=Xq.1 (h 4 O3);rw [bre44,show(Oa 4 4:Int)=1 from rfl]at t;have e:=cfb4 s f g l m t;rcases(show k=0\/k=1\/k=2\/k=3\/k=4 by omega)with rfl|rfl|rfl|rfl|rfl
   .exact e.1
   .exact e.2.1
   .exact e.2.2.1
   .exact e.2.2.2.1
   .exact e.2.2.2.2
  | 5,_=>
   have f:=Xq.1 (h 0 O3);rw [bre50,show(Oa 5 0:Int)=1 from rfl]at f;have g:=Xq.1 (h 1 O3);rw [bre51,show(Oa 5 1:Int)=5 from rfl]at g;have l:=Xq.1 (h 2 O3);rw [bre52,show(Oa 5 2:Int)=10 from rfl]at l;have m:=Xq.1 (h 3 O3);rw [bre53,show(Oa 5 3:Int)=10 from rfl]at m;have t:=Xq.1 (h 4 O3);rw [bre54,show(Oa 5 4:Int)=5 from rfl]at t;have u:=Xq.1 (h 5 O3);rw [bre55,show(Oa 5 5:Int)=1 from rfl]at u;have e:=cfb5 s f g l m t u;rcases(show k=0\/k=1\/k=2\/k=3\/k=4\/k=5 by omega)with rfl|rfl|rfl|rfl|rfl|rfl
   .exact e.1
   .exact e.2.1
   .exact e.2.2.1
   .exact e.2.2.2.1
   .exact e.2.2.2.2.1
   .exact e.2.2.2.2.2
 .rw [Yr O1];simp;omega
structure AxC (c:List Int) (ov:Int):Prop where
 l:1<=c.length/\c.length<=6
 t:¬(1<c.length/\c.getD (c.length-1) 0=0)
 b:∀j,j<c.length->((It (c.length-1) c j).natAbs:Int)<=1048576*ov*(Oa (c.length-1) j:Int)
theorem AxC.of(h:axB c ov=true):AxC c ov:=by unfold axB at h;simp only [aO,gJ,jU,cK,iA]at h;have g:1<=c.length/\c.length<=6:=⟨h.1.1.1,h.1.1.2⟩;exact⟨g,λf=>by rcases h.1.2 with e|e;exact e f.1;exact e f.2,(Ybq g).1 h.2⟩
def AxC.to(h:AxC c ov):axB c ov=true:=Yb1 h.l.1 h.l.2 h.t ((Ybq h.l).2 h.b)
def tzl_nz(e:c.getD (c.length-1) 0≠0):tzl c=c:=Ap (.inr e)
theorem ax_tzl(h:AxC c ov):(tzl c=c)\/c=[0]:=by
 by_cases e:c.getD (c.length-1) 0=0
 .have j:c.length=1:=by
   have l:=h.l;have f:=h.t;by_cases g:1<c.length
   .exact absurd ⟨g,e⟩ f
   .omega
  right
  match c,j with
  | [x],_=>simp at e;rw [e]
 .exact .inl (tzl_nz e)
theorem Zah(h:AxC c ov){a b:Int}{t u:Rat}(f:t*(d:Rat)=(a:Rat)+(b:Rat)*u):Zb (Ot c a b d) u=(d:Rat)^5*Zb c t:=by
 unfold Ot;rw [Gu];rcases ax_tzl h with e|e
 .have g:=h.l;rw [e,Zkr a b d f O1,Zbp];have:(d:Rat)^5=(d:Rat)^(6-c.length)*(d:Rat)^(c.length-1):=by rw [<-Yb6];congr 1;omega
  rw [this];grind
 .subst e;rw [show tzl [0]=[]from by decide,show Kt [] a b d=[]from rfl];show _*(0:Rat)=_*(((0:Int):Rat)+t*0);push_cast;grind
def Zf9 (c:List Int)(a b d:Int):(Ot c a b d).length<=c.length:=aB Mw (aB (Zen _ _ _ _) (Ko c))
theorem Ybp(h:AxC c ov){a b:Int}(f:0<=a)(g:0<=b)(e:a+b<=d)(l:0<d):∀j,j<c.length->((It (c.length-1) (Ot c a b d) j).natAbs:Int)<=1048576*(ov*d^5)*(Oa (c.length-1) j:Int):=λj s=>by have y:=h.l;have w:=Zf9 c a b d;have:=Ypz (c:=c) (X:=Ot c a b d) (n:=c.length-1) (m:=5) (B:=1048576*ov) O1 O1 f g e l (λt u v=>Zah h v) (λj s=>h.b j O1) j O1;rw [fF]at this;rw [fF];rw [fF,<-fF ov]at this;exact this
theorem cf_cmp(h:AxC c ov){a b:Int}(f:0<=a)(g:0<=b)(e:a+b<=d)(l:0<d)(k:Nat):((cf (Ot c a b d) k).natAbs:Int)<=ov*d^5*2146435072:=by have t:=h.l;have m:=Zf9 c a b d;have:=cf_brS (n:=c.length-1) O1 (c:=Ot c a b d) O1 (M:=1048576*(ov*d^5)) (λj s=>Ybp h f g e l j O1) k;omega
theorem Zkk{g:Zf}(h:seB g=true):AxC g.2.1.2 g.1.2.2/\AxC g.2.2.1.2 g.1.2.2/\AxC g.2.2.2.2 g.1.2.2:=by have e:Dq g.1.1 g.1.2.1 g.1.2.2 g.2.1.2 g.2.2.1.2 g.2.2.2.2=true:=h;unfold Dq at e;simp only [aO]at e;exact⟨.of e.1.1.1.2,.of e.1.1.2,.of e.1.2⟩
theorem Yj9{fr e:Int}{g:Zf}(f:Cx g)(h:Ny fr e g=true):0<=cA fr g-g.1.1/\0<cB e g-cA fr g/\(cA fr g-g.1.1)+(cB e g-cA fr g)<=g.1.2.1-g.1.1/\0<g.1.2.1-g.1.1:=by have m:=bH h;have j:=f.t1;have l:=f.t2;unfold cA cB at *;exact⟨O1,O1,O1,O1⟩
theorem Yh6{fr v:Int}{g:Zf}(hi:Gin g)(hs:seB g=true)(h:Ny fr v g=true):MdG fr v g:=by
 have f:Cx g:=Qv hi hs;obtain⟨B,D,F⟩:=Zkk hs;obtain⟨H,I,N,P⟩:=Yj9 f h;obtain⟨t,u,-,-⟩:=cut_b f h;have W:=f.t3;have V:=f.t1;have R:=f.o1;have S:=f.o2;have j:1<=g.1.2.1-g.1.1/\g.1.2.1-g.1.1<=3600000:=⟨O1,O1⟩;have w:=Zq9 f.hx f.lx t u j;have y:=Zq9 f.hy f.ly t u j;have z:=Zq9 f.hz f.lz t u j;have s:0<cO g:=gE O1 (jG O1);have n:((cO g).natAbs:Int)=cO g:=O1;have m:∀{c:List Int},AxC c g.1.2.2->∀k,(cf (cX fr v g c) k).natAbs<=(cO g).natAbs*2146435072:=λQ k=>by
  have:=cf_cmp Q H (eQ I) N P k;have e:(((cO g).natAbs*2146435072:Nat):Int)=cO g*2146435072:=by rw [fL,n];rfl
  refine lT.1 ?_;rw [e];exact this
 refine⟨s,?_,λi=>?_,λi=>?_,λi k=>?_⟩
 .have Y:bl g.1.2.2.natAbs<=40:=(Qi 40 _).2 O1;have Z:=Znr j;have:=Ya g.1.2.2 ((g.1.2.1-g.1.1)^5);show bl (g.1.2.2*(g.1.2.1-g.1.1)^5).natAbs<=1000;omega
 .exact Be (p:=λl:List Int=>Sz 1000 l) w.2.2.2.2.2.2.1 y.2.2.2.2.2.2.1 z.2.2.2.2.2.2.1
 .exact Be (p:=λl:List Int=>l.length<=6) w.2.2.2.2.2.2.2 y.2.2.2.2.2.2.2 z.2.2.2.2.2.2.2
 .exact Be (p:=λl:List Int=>(cf l k).natAbs<=(cO g).natAbs*2146435072) (m B k) (m D k) (m F k)
theorem Yn8(h:AxC c ov)(n:c.getD (c.length-1) 0≠0){a b:Int}(v:0<b)(y:0<d):(Ot c a b d).length=c.length:=by
 have D:=h.l;have B:=Zf9 c a b d;rcases bC (Ot c a b d).length c.length with q|q
 .exfalso;have w:(b:Rat)≠0:=by
    have:(0:Rat)<(b:Rat):=by exact_mod_cast v
    grind
  have z:(d:Rat)≠0:=by
    have:(0:Rat)<(d:Rat):=by exact_mod_cast y
    grind
  have m:∀t:Rat,t*(d:Rat)=(a:Rat)+(b:Rat)*((t*d-a)/b):=λt=>O5;by_cases j:(Ot c a b d).length=0
  .have s:=aF j;have:∀t:Rat,Zb c t=0:=λt=>by
    have e:=Zah h (m t);rw [s]at e;have f:(d:Rat)^5*Zb c t=0:=e.symm;have l:(d:Rat)^5≠0:=by rw [show(d:Rat)^5=d*d*d*d*d by rw [eD,eD,eD,eD,eD,eZ];grind];grind
    grind
   exact n (Zo7 this _)
  .have g:∀t:Rat,Zb ((Kt (Ot c a b d) (-a) d b).map λq=>1*q) t=Zb (c.map λq=>b^((Ot c a b d).length-1)*d^5*q) t:=λt=>by rw [Zi,Zi];have e:=Zah h (m t);have f:=Zkr (p:=Ot c a b d) (-a) d b (t:=(t*d-a)/b) (u:=t) (by push_cast;grind) j;rw [f,e];push_cast;rw [<-Zbp,<-Zbp];push_cast;grind
   have e:=Om g (c.length-1);rw [Dj,Dj,Yr (by have:=Zen (Ot c a b d) (-a) d b;omega)]at e;have f:b^((Ot c a b d).length-1)*d^5≠0:=bE (Int.pow_ne_zero O1) (Int.pow_ne_zero O1);have l:b^((Ot c a b d).length-1)*d^5*cf c (c.length-1)=0:=O1;rcases fN.1 l with q|q
   .exact f q
   .exact n q
 .omega
theorem Zxp{X:List Int}(f:0<G)(e:∀x∈X,G∣x)(i:Nat):cf (Dy X G) i*G=cf X i:=by
 unfold Dy;split
 .rename_i h;rw [aF h]
  match i with
  | 0=>show(0:Int)*G=cf [] 0;rw [dD];rfl
  | i+1=>show(0:Int)*G=cf [] (i+1);rw [dD];rfl
 .rw [Zct O8];by_cases hi:i<X.length
  .have:cf X i∈X:=Ze hi;exact gN (e _ this)
  .rw [Yr O1];simp
theorem Ym3{X:List Int}(e:0<G)(f:∀x∈X,G∣x)(u:Rat):Zb (Dy X G) u*(G:Rat)=Zb X u:=by rw [kW,<-Zi];exact Oh u _ _ λi=>by rw [Dj,dB,Zxp e f]
theorem Zh2(f g:Nat->Int)(a:Int)(h:∀k,f k*a=g k):∀m,Yg f m*a=Yg g m
 | 0=>dD _
 | m+1=>by rw [Yn,Yn,mL,Zh2 f g a h m,h]
theorem Ypy{X:List Int}(e:0<G)(f:∀x∈X,G∣x)(n j:Nat):It n (Dy X G) j*G=It n X j:=by unfold It;exact Zh2 _ _ _ (λk=>by rw [mF,Zxp e f]) _
theorem Yn7(X:List Int)(G:Int):(Dy X G).length=max X.length 1:=by
 unfold Dy;split
 .rename_i h;rw [h];rfl
 .rw [aP];omega
theorem Zx1(h:AxC c ov){a b:Int}(H:0<=a)(w:0<b)(s:a+b<=d)(y:0<d)(n:0<G)(B:∀x∈Ot c a b d,G∣x)(N:o*G=ov*d^5):AxC (Dy (Ot c a b d) G) o/\(Dy (Ot c a b d) G).length=c.length:=by
 have Q:=h.l;have f:(Dy (Ot c a b d) G).length=c.length/\(1<c.length->(Ot c a b d).length=c.length):=by
  rw [Yn7];by_cases D:c.getD (c.length-1) 0=0
  .have:=h.t;have I:=Zf9 c a b d;have g:c.length=1:=by
    by_cases l:1<c.length
    .exact absurd ⟨l,D⟩ this
    .omega
   exact⟨O1,λl=>O1⟩
  .have:=Yn8 h D (a:=a) w y;exact⟨O1,λ_=>this⟩
 refine⟨⟨O1,λ⟨g,t⟩=>?_,λj z=>?_⟩,f.1⟩
 .rw [f.1]at g t;have l:cf (Dy (Ot c a b d) G) (c.length-1)=0:=t;have u:=Zxp n B (c.length-1);rw [l,dD]at u;have m:=f.2 g;have P:Tr (Ot c a b d):=Qf;have v:=P.mem (λe=>by rw [e]at m;simp at m;omega);rw [m]at v;exact v u.symm
 .rw [f.1]at z ⊢;have g:=Ybp h H (eQ w) s y j z;rw [<-Ypy n B,<-N,cL]at g;have F:((G.natAbs:Nat):Int)=G:=O1;push_cast at g;rw [F]at g;refine Int.le_of_mul_le_mul_right (a:=G) ?_ n;refine Int.le_trans g (pH ?_);grind
theorem Zua{G:Int}(e:0<G):∀(l:List Int) (o:Int),Nq (G*o) (l.map (G*·))=G*Nq o l
 | [],o=>rfl
 | x::l,o=>by show Nq ((Int.gcd (G*o) (G*x):Nat):Int) (l.map (G*·))=G*Nq ((Int.gcd o x:Nat):Int) l;rw [Int.gcd_mul_left];push_cast;rw [show((G.natAbs:Nat):Int)=G by omega];exact Zua e l _
theorem Zlm{X:List Int}(g:0<G)(e:∀x∈X,G∣x)(j:0<=o):Nq o ((Dy X G).map (G*·))=Nq o X:=by
 unfold Dy;split
 .rename_i h;rw [aF h];show((Int.gcd o (G*0):Nat):Int)=o;rw [eG,Int.gcd_zero_right];omega
 .congr 1;rw [lQ]
  conv=>rhs;rw [<-pO X]
  refine lN λx f=>?_;show G*(x/G)=x;exact lG (e x f)
theorem Yok{X Y Z:List Int}{f:Int}(g:0<o)(e:0<Gj o X Y Z)(n:∀x∈X,Gj o X Y Z∣x)(s:∀x∈Y,Gj o X Y Z∣x)(t:∀x∈Z,Gj o X Y Z∣x)(h:Gj o X Y Z*f=o) :
  Nq f (Dy X (Gj o X Y Z) ++ Dy Y (Gj o X Y Z) ++ Dy Z (Gj o X Y Z))=1:=by
 have j:=Zua e (Dy X (Gj o X Y Z) ++ Dy Y (Gj o X Y Z) ++ Dy Z (Gj o X Y Z)) f;rw [h,dZ,dZ,Hk,Hk,Zlm e n (eQ g),Zlm e s (Zdn _ _ (eQ g)),Zlm e t (Zdn _ _ (Zdn _ _ (eQ g)))]at j;have l:Gj o X Y Z=Nq (Nq (Nq o X) Y) Z:=by show Nq o (X ++ Y ++ Z)=_;rw [Hk,Hk]
 rw [<-l]at j;generalize Nq f _=r at *;have m:Gj o X Y Z*r=Gj o X Y Z*1:=O1;exact iM O1 m
structure Prt (q g:Zf) (G:Int):Prop where
 g0:0<G
 a0:0<=q.1.1-g.1.1
 b0:0<q.1.2.1-q.1.1
 ab:(q.1.1-g.1.1)+(q.1.2.1-q.1.1)<=g.1.2.1-g.1.1
 o:q.1.2.2*G=g.1.2.2*(g.1.2.1-g.1.1)^5
 x:∀i (t u:Rat),t*((g.1.2.1-g.1.1:Int):Rat)=((q.1.1-g.1.1:Int):Rat)+((q.1.2.1-q.1.1:Int):Rat)*u->Zb (Zo i q.2.1.2 q.2.2.1.2 q.2.2.2.2) u*(G:Rat)=((g.1.2.1-g.1.1:Int):Rat)^5*Zb (Zo i g.2.1.2 g.2.2.1.2 g.2.2.2.2) t
theorem Zw0{X:List Int}(h:∀k,(X.getD k 0/G).natAbs<=9223372036854775807):∀a∈Dy X G,Oc a:=λa e=>by
 unfold Dy at e;split at e
 .rw [bN.1 e];exact⟨O3,O3⟩
 .obtain⟨x,g,rfl⟩:=dH.1 e;obtain⟨k,f⟩:=kZ.1 g;have:=h k;rw [aC,f]at this;simp only [fG]at this;exact⟨O1,O1⟩
theorem Zpe{a b:Int}{t u:Rat}(f:AxC c ov)(e:0<G)(g:∀x∈Ot c a b d,G∣x)(h:t*(d:Rat)=(a:Rat)+(b:Rat)*u):Zb (Dy (Ot c a b d) G) u*(G:Rat)=(d:Rat)^5*Zb c t:=by rw [Ym3 e g];exact Zah f h
theorem Zjm{fr e:Int}{g:Zf}(hi:Gin g)(hs:seB g=true)(hp:Ny fr e g=true)(hk:Cq fr e g=true)(hu:Ns q=Zgl fr e g):Gin q/\seB q=true/\Prt q g (cG fr e g):=by
 have S:Cx g:=Qv hi hs;obtain⟨a1,a2,a3⟩:=Zkk hs;obtain⟨F,H,I,P⟩:=Yj9 S hp;have R:=Yh6 hi hs hp;obtain⟨g1,⟨s,a4⟩,Q⟩:=R.g;have m:0<cG fr e g:=g1;have w:∀x∈cX fr e g g.2.1.2,cG fr e g∣x:=Q 0 O3;have y:∀x∈cX fr e g g.2.2.1.2,cG fr e g∣x:=Q 1 O3;have z:∀x∈cX fr e g g.2.2.2.2,cG fr e g∣x:=Q 2 O3;have B:cG fr e g*s=cO g:=a4.symm;have v:cO g/cG fr e g=s:=by rw [<-B];exact fW _ O1
 have f:cO g/cG fr e g<=4294967296:=bH hk;have a5:0<cO g:=R.o;have a9:0<s:=by
  by_cases h:0<s
  .exact h
  .have:=iI (eQ m) (show s<=0 by omega);omega
 have n:s*cG fr e g=g.1.2.2*(g.1.2.1-g.1.1)^5:=by rw [dB];exact B
 obtain⟨x1,x2⟩:=Zx1 a1 F H I P m w n;obtain⟨y1,y2⟩:=Zx1 a2 F H I P m y n;obtain⟨z1,z2⟩:=Zx1 a3 F H I P m z n;obtain⟨⟨qf,qt,qo⟩,⟨sx,qx⟩,⟨sy,qy⟩,⟨sz,qz⟩⟩:=q;unfold Ns Zgl at hu;rw [mdO_t f,Zn0 f,Zn0 f,Zn0 f,v]at hu;injection hu with h1 h2;injection h1 with hf h1;injection h1 with ht N;injection h2 with hx h2;injection h2 with hy hz;dsimp only at hf ht N hx hy hz;subst hf ht hx hy hz;have N:=N.symm;subst N;have j:=λi (hi:i<3) k=>R.fit (i:=i) f hi k;have a7:=bH hp;have b0:=S.t1;have b1:=S.t3;have V:∀a∈Dy (cX fr e g g.2.1.2) (cG fr e g),Oc a:=Zw0 (j 0 O3);have W:∀a∈Dy (cX fr e g g.2.2.1.2) (cG fr e g),Oc a:=Zw0 (j 1 O3);have a0:∀a∈Dy (cX fr e g g.2.2.2.2) (cG fr e g),Oc a:=Zw0 (j 2 O3);have a8:s<=4294967296:=v▸f;have a6:0<=cA fr g/\cB e g<=3600000:=by unfold cA cB;exact⟨O1,O1⟩
 have i1:Oc (cA fr g):=⟨O1,O1⟩;have i2:Oc (cB e g):=⟨O1,O1⟩;have i3:Oc s:=⟨O1,O1⟩;refine⟨⟨i1,i2,i3,V,W,a0⟩,?_,⟨m,F,H,by show(cA fr g-g.1.1)+(cB e g-cA fr g)<=_;exact I,n,λi t u D=>?_⟩⟩
 .show Dq (cA fr g) (cB e g) s _ _ _=true;unfold Dq Zvt;simp only [aO,cK];exact⟨⟨⟨⟨⟨⟨⟨⟨O1,O1⟩,O1⟩,O1⟩,O1⟩,x1.to⟩,y1.to⟩,z1.to⟩,Yok a5 m w y z B⟩
 .have l:t*((g.1.2.1-g.1.1:Int):Rat)=((cA fr g-g.1.1:Int):Rat)+((cB e g-cA fr g:Int):Rat)*u:=D;clear D;have k0:=Zpe a1 m w l;have k1:=Zpe a2 m y l;have k2:=Zpe a3 m z l;dsimp only;generalize Dy (cX fr e g g.2.1.2) (cG fr e g)=X at *;generalize Dy (cX fr e g g.2.2.1.2) (cG fr e g)=Y at *;generalize Dy (cX fr e g g.2.2.2.2) (cG fr e g)=Z at *;generalize ((cG fr e g:Int):Rat)=GG at *;generalize ((g.1.2.1-g.1.1:Int):Rat)^5=DD at *
  match i with
  | 0=>exact k0
  | 1=>exact k1
  | i+2=>exact k2
def cgb0(f:0<=M)(e:-(M*1)<=(x0*1)/\(x0*1)<=M*1):(-(80*M)<=x0/\x0<=80*M):=O1
theorem cgb1(g:0<=M)(e:-(M*1)<=(x0*1)/\(x0*1)<=M*1)(f:-(M*1)<=(x0*1+x1*1)/\(x0*1+x1*1)<=M*1):(-(80*M)<=x0/\x0<=80*M)/\(-(80*M)<=x1/\x1<=80*M):=by refine⟨⟨?_,?_⟩,⟨?_,?_⟩⟩<;>omega
theorem cgb2(h:0<=M)(e:-(M*1)<=(x0*1)/\(x0*1)<=M*1)(f:-(M*2)<=(x0*2+x1*1)/\(x0*2+x1*1)<=M*2)(g:-(M*1)<=(x0*1+x1*1+x2*1)/\(x0*1+x1*1+x2*1)<=M*1):(-(80*M)<=x0/\x0<=80*M)/\(-(80*M)<=x1/\x1<=80*M)/\(-(80*M)<=x2/\x2<=80*M):=by refine⟨⟨?_,?_⟩,⟨?_,?_⟩,⟨?_,?_⟩⟩<;>omega
theorem cgb3(j:0<=M)(e:-(M*1)<=(x0*1)/\(x0*1)<=M*1)(f:-(M*3)<=(x0*3+x1*1)/\(x0*3+x1*1)<=M*3)(g:-(M*3)<=(x0*3+x1*2+x2*1)/\(x0*3+x1*2+x2*1)<=M*3)(h:-(M*1)<=(x0*1+x1*1+x2*1+x3*1)/\(x0*1+x1*1+x2*1+x3*1)<=M*1):(-(80*M)<=x0/\x0<=80*M)/\(-(80*M)<=x1/\x1<=80*M)/\(-(80*M)<=x2/\x2<=80*M)/\(-(80*M)<=x3/\x3<=80*M):=by refine⟨⟨?_,?_⟩,⟨?_,?_⟩,⟨?_,?_⟩,⟨?_,?_⟩⟩<;>omega
theorem cgb4(l:0<=M)(e:-(M*1)<=(x0*1)/\(x0*1)<=M*1)(f:-(M*4)<=(x0*4+x1*1)/\(x0*4+x1*1)<=M*4)(g:-(M*6)<=(x0*6+x1*3+x2*1)/\(x0*6+x1*3+x2*1)<=M*6)(h:-(M*4)<=(x0*4+x1*3+x2*2+x3*1)/\(x0*4+x1*3+x2*2+x3*1)<=M*4)(j:-(M*1)<=(x0*1+x1*1+x2*1+x3*1+x4*1)/\(x0*1+x1*1+x2*1+x3*1+x4*1)<=M*1):(-(80*M)<=x0/\x0<=80*M)/\(-(80*M)<=x1/\x1<=80*M)/\(-(80*M)<=x2/\x2<=80*M)/\(-(80*M)<=x3/\x3<=80*M)/\(-(80*M)<=x4/\x4<=80*M):=by refine⟨⟨?_,?_⟩,⟨?_,?_⟩,⟨?_,?_⟩,⟨?_,?_⟩,⟨?_,?_⟩⟩<;>omega
theorem cgb5{e:Int}(n:0<=M)(f:-(M*1)<=(x0*1)/\(x0*1)<=M*1)(g:-(M*5)<=(x0*5+x1*1)/\(x0*5+x1*1)<=M*5)(h:-(M*10)<=(x0*10+x1*4+x2*1)/\(x0*10+x1*4+x2*1)<=M*10)(j:-(M*10)<=(x0*10+x1*6+x2*3+x3*1)/\(x0*10+x1*6+x2*3+x3*1)<=M*10)(l:-(M*5)<=(x0*5+x1*4+x2*3+x3*2+x4*1)/\(x0*5+x1*4+x2*3+x3*2+x4*1)<=M*5)(m:-(M*1)<=(x0*1+x1*1+x2*1+x3*1+x4*1+e*1)/\(x0*1+x1*1+x2*1+x3*1+x4*1+e*1)<=M*1):(-(80*M)<=x0/\x0<=80*M)/\(-(80*M)<=x1/\x1<=80*M)/\(-(80*M)<=x2/\x2<=80*M)/\(-(80*M)<=x3/\x3<=80*M)/\(-(80*M)<=x4/\x4<=80*M)/\(-(80*M)<=e/\e<=80*M):=by refine⟨⟨?_,?_⟩,⟨?_,?_⟩,⟨?_,?_⟩,⟨?_,?_⟩,⟨?_,?_⟩,⟨?_,?_⟩⟩<;>omega
theorem cg_brS{n:Nat}(v:n<6)(y:c.length<=n+1)(h:∀j,j<n+1->((It n c j).natAbs:Int)<=M*(Oa n j:Int))(k:Nat):((cf c k).natAbs:Int)<=80*M:=by
 have s:0<=M:=by have f:=h 0 O1;rw [Zl5]at f;omega
 by_cases w:k<n+1
 .rw [Xq]
  match n,v with
  | 0,_=>
   have f:=Xq.1 (h 0 O3);rw [bre00,show(Oa 0 0:Int)=1 from rfl]at f;have e:=cgb0 s f;obtain rfl:k=0:=O1;exact e
  | 1,_=>
   have f:=Xq.1 (h 0 O3);rw [bre10,show(Oa 1 0:Int)=1 from rfl]at f;have g:=Xq.1 (h 1 O3);rw [bre11,show(Oa 1 1:Int)=1 from rfl]at g;have e:=cgb1 s f g;rcases(show k=0\/k=1 by omega)with rfl|rfl
   .exact e.1
   .exact e.2
  | 2,_=>
   have f:=Xq.1 (h 0 O3);rw [bre20,show(Oa 2 0:Int)=1 from rfl]at f;have g:=Xq.1 (h 1 O3);rw [bre21,show(Oa 2 1:Int)=2 from rfl]at g;have l:=Xq.1 (h 2 O3);rw [bre22,show(Oa 2 2:Int)=1 from rfl]at l;have e:=cgb2 s f g l;rcases(show k=0\/k=1\/k=2 by omega)with rfl|rfl|rfl
   .exact e.1
   .exact e.2.1
   .exact e.2.2
  | 3,_=>
   have f:=Xq.1 (h 0 O3);rw [bre30,show(Oa 3 0:Int)=1 from rfl]at f;have g:=Xq.1 (h 1 O3);rw [bre31,show(Oa 3 1:Int)=3 from rfl]at g;have l:=Xq.1 (h 2 O3);rw [bre32,show(Oa 3 2:Int)=3 from rfl]at l;have m:=Xq.1 (h 3 O3);rw [bre33,show(Oa 3 3:Int)=1 from rfl]at m;have e:=cgb3 s f g l m;rcases(show k=0\/k=1\/k=2\/k=3 by omega)with rfl|rfl|rfl|rfl
   .exact e.1
   .exact e.2.1
   .exact e.2.2.1
   .exact e.2.2.2
  | 4,_=>
   have f:=Xq.1 (h 0 O3);rw [bre40,show(Oa 4 0:Int)=1 from rfl]at f;have g:=Xq.1 (h 1 O3);rw [bre41,show(Oa 4 1:Int)=4 from rfl]at g;have l:=Xq.1 (h 2 O3);rw [bre42,show(Oa 4 2:Int)=6 from rfl]at l;have m:=Xq.1 (h 3 O3);rw [bre43,show(Oa 4 3:Int)=4 from rfl]at m;have t:=Xq.1 (h 4 O3);rw [bre44,show(Oa 4 4:Int)=1 from rfl]at t;have e:=cgb4 s f g l m t;rcases(show k=0\/k=1\/k=2\/k=3\/k=4 by omega)with rfl|rfl|rfl|rfl|rfl
   .exact e.1
   .exact e.2.1
   .exact e.2.2.1
   .exact e.2.2.2.1
   .exact e.2.2.2.2
  | 5,_=>
   have f:=Xq.1 (h 0 O3);rw [bre50,show(Oa 5 0:Int)=1 from rfl]at f;have g:=Xq.1 (h 1 O3);rw [bre51,show(Oa 5 1:Int)=5 from rfl]at g;have l:=Xq.1 (h 2 O3);rw [bre52,show(Oa 5 2:Int)=10 from rfl]at l;have m:=Xq.1 (h 3 O3);rw [bre53,show(Oa 5 3:Int)=10 from rfl]at m;have t:=Xq.1 (h 4 O3);rw [bre54,show(Oa 5 4:Int)=5 from rfl]at t;have u:=Xq.1 (h 5 O3);rw [bre55,show(Oa 5 5:Int)=1 from rfl]at u;have e:=cgb5 s f g l m t u;rcases(show k=0\/k=1\/k=2\/k=3\/k=4\/k=5 by omega)with rfl|rfl|rfl|rfl|rfl|rfl
   .exact e.1
   .exact e.2.1
   .exact e.2.2.1
   .exact e.2.2.2.1
   .exact e.2.2.2.2.1
   .exact e.2.2.2.2.2
 .rw [Yr O1];simp;omega
theorem AxC.cg(h:AxC c ov)(k:Nat):((cf c k).natAbs:Int)<=83886080*ov:=by have f:=h.l;have:=cg_brS (n:=c.length-1) O1 (c:=c) O1 (M:=1048576*ov) (λj e=>h.b j O1) k;omega
theorem Zzn(c:List Int)(a:Int):∀k,plS c a 1 k=Yg (λk=>cf c k*a^k) k
 | 0=>rfl
 | k+1=>by show plS c a 1 k+plT c a 1 k=_;rw [Yn,Zzn c a k];congr 1;show c.getD k 0*(a^k*1^_)=cf c k*a^k;rw [pX,gD];rfl
theorem Znp(f:Nat->Int):∀n,((Yg f n:Int):Rat)=Ix (λi=>(f i:Rat)) n
 | 0=>rfl
 | n+1=>by rw [Yn,Nc,<-Znp f n];push_cast;rfl
theorem Yhe(c:List Int)(a:Int):((pl c a 1:Int):Rat)=Zb c (a:Rat):=by
 unfold pl;rw [Zzn,Znp]
 conv=>rhs;rw [<-Zbd c]
 rw [Zfk];exact Mv _ λi hi=>by rw [<-Zbp];push_cast;rfl
theorem Yoj{p h g e D:Int}(w:0<G)(v:0<D)(t:e*G=g*D)(u:h*G=p*D):((Int.gcd e h:Nat):Int)*G=((Int.gcd g p:Nat):Int)*D:=by have j:=pJ e G h;have l:=pJ g D p;rw [t,u,l]at j;have m:((G.natAbs:Nat):Int)=G:=O1;have s:((D.natAbs:Nat):Int)=D:=O1;have f:=aL (λn:Nat=>(n:Int)) j;push_cast at f;rw [m,s]at f;exact f.symm
theorem Ya1{p h g f D:Int}(y:0<G)(u:0<D)(v:0<g)(l:h*G=p*D)(j:f*G=g*D)(w:g∣p):h/f=p/g:=by
 obtain⟨t,rfl⟩:=w;have m:h*G=(f*t)*G:=by rw [l,mF g t D,<-j,mF]
 have n:h=f*t:=mC O1 m;have s:f≠0:=λe=>by rw [e,dD]at j;have:=gE v u;omega
 rw [n,fW _ s,fW _ O1]
theorem Zqe(o a:Int)(x y z:List Int):∀i j,j<=i->gS o a 1 x y z i∣gS o a 1 x y z j/\∀k,k<j->gS o a 1 x y z i∣pl (Zo k x y z) a 1
 | 0,j,h=>by obtain rfl:j=0:=O1;exact⟨kV _,λk e=>O1⟩
 | i+1,j,h=>by
  have f:gS o a 1 x y z (i+1)∣gS o a 1 x y z i:=jD ..;have m:gS o a 1 x y z (i+1)∣pl (Zo i x y z) a 1:=iB ..;by_cases n:j=i+1
  .subst n;obtain⟨l,g⟩:=Zqe o a x y z i i (aI _);exact⟨kV _,λk e=>by
    rcases bM.1 e with q|q
    .exact fC f (g k q)
    .subst q;exact m⟩
  .obtain⟨l,g⟩:=Zqe o a x y z i j O1;exact⟨fC f l,λk e=>fC f (g k e)⟩
theorem Prt.pl{g:Zf}(h:Prt q g G){a:Int}(j:a*(g.1.2.1-g.1.1)=(q.1.1-g.1.1)+(q.1.2.1-q.1.1)*a')(i:Nat) :
  Sky.pl (Zo i q.2.1.2 q.2.2.1.2 q.2.2.2.2) a' 1*G=Sky.pl (Zo i g.2.1.2 g.2.2.1.2 g.2.2.2.2) a 1*(g.1.2.1-g.1.1)^5:=by
 have e:=h.x i (a:Rat) (a':Rat) (by exact_mod_cast j);rw [<-Yhe,<-Yhe,<-Zbp]at e;have f:((Sky.pl (Zo i q.2.1.2 q.2.2.1.2 q.2.2.2.2) a' 1*G:Int):Rat)=((Sky.pl (Zo i g.2.1.2 g.2.2.1.2 g.2.2.2.2) a 1*(g.1.2.1-g.1.1)^5:Int):Rat):=by rw [Rat.intCast_mul,Rat.intCast_mul,e,kW]
 exact_mod_cast f
theorem Zz5{g:Zf}(h:Prt q g G)(t:Cx g){a:Int}(n:0<=a/\a<=1)(u:a*(g.1.2.1-g.1.1)=(q.1.1-g.1.1)+(q.1.2.1-q.1.1)*a') :
  (∀i,i<3->pl (Zo i q.2.1.2 q.2.2.1.2 q.2.2.2.2) a' 1/gS q.1.2.2 a' 1 q.2.1.2 q.2.2.1.2 q.2.2.2.2 3=pl (Zo i g.2.1.2 g.2.2.1.2 g.2.2.2.2) a 1/gS g.1.2.2 a 1 g.2.1.2 g.2.2.1.2 g.2.2.2.2 3)/\
  q.1.2.2*1^5/gS q.1.2.2 a' 1 q.2.1.2 q.2.2.1.2 q.2.2.2.2 3=g.1.2.2*1^5/gS g.1.2.2 a 1 g.2.1.2 g.2.2.1.2 g.2.2.2.2 3:=by
 have s:0<g.1.2.1-g.1.1:=by have:=h.a0;have:=h.b0;have:=h.ab;omega
 have j:0<(g.1.2.1-g.1.1)^5:=jG s;have e:=(Zie t (a:=a) (d:=1) ⟨n.1,O1⟩ ⟨O3,O3⟩ 3).1;have f:=λi=>h.pl u i;have hs:∀i,gS q.1.2.2 a' 1 q.2.1.2 q.2.2.1.2 q.2.2.2.2 i*G=gS g.1.2.2 a 1 g.2.1.2 g.2.2.1.2 g.2.2.2.2 i*(g.1.2.1-g.1.1)^5:=by
  intro i
  induction i with
  | zero=>
   show q.1.2.2*1^5*G=g.1.2.2*1^5*_;rw [pX,gD,gD];exact h.o
  | succ i v=>
   show((Int.gcd (gS q.1.2.2 a' 1 q.2.1.2 q.2.2.1.2 q.2.2.2.2 i) (pl (Zo i q.2.1.2 q.2.2.1.2 q.2.2.2.2) a' 1):Nat):Int)*G=((Int.gcd (gS g.1.2.2 a 1 g.2.1.2 g.2.2.1.2 g.2.2.2.2 i) (pl (Zo i g.2.1.2 g.2.2.1.2 g.2.2.2.2) a 1):Nat):Int)*_;exact Yoj h.g0 j v (f i)
 obtain⟨w,l⟩:=Zqe g.1.2.2 a g.2.1.2 g.2.2.1.2 g.2.2.2.2 3 3 (aI _);obtain⟨m,-⟩:=Zqe g.1.2.2 a g.2.1.2 g.2.2.1.2 g.2.2.2.2 3 0 O3;refine⟨λi hi=>Ya1 h.g0 j e (f i) (hs 3) (l i hi),Ya1 h.g0 j e ?_ (hs 3) m⟩;rw [pX,gD,gD];exact h.o
theorem me_prt{g h r:Zf}{K:Int}(u:Cx g)(v:Cx h)(y:Prt q g G)(z:Prt r h K)(j:q.1.2.1=g.1.2.1)(f:r.1.1=h.1.1)(w:meG g h=true):meG q r=true:=by
 obtain⟨e,B⟩:=Zz5 y u (a:=1) (a':=1) ⟨O3,O3⟩ (by rw [j];omega);obtain⟨r1,r2⟩:=Zz5 z v (a:=0) (a':=0) ⟨O3,O3⟩ (by rw [f];omega);unfold meG Zd0 Zy4 at *;rw [aO,eV,eV]at *;obtain⟨l,m,n,s,t⟩:=w;refine⟨by rw [j,f];exact l,?_,?_,?_,?_⟩
 .exact(e 0 O3).trans (m.trans (r1 0 O3).symm)
 .exact(e 1 O3).trans (n.trans (r1 1 O3).symm)
 .exact(e 2 O3).trans (s.trans (r1 2 O3).symm)
 .exact B.trans (t.trans r2.symm)
structure Chn (ps:List Zf):Prop where
 lt:∀g∈ps,g.1.1<g.1.2.1
 eq:∀(i:Nat) (g h:Zf),ps[i]? = some g->ps[i+1]? = some h->g.1.2.1=h.1.1
def Chn.tail{g:Zf}(h:Chn (g::r)):Chn r:=⟨λx e=>h.lt x (bG _ e),λi x y e f=>h.eq (i+1) x y e f⟩
theorem Chn.ge:∀{r:List Zf} {g:Zf},Chn (g::r)->∀x∈r,g.1.2.1<=x.1.1
 | [],_,_,_,e=>nomatch e
 | h::r,g,hc,x,e=>by
  have f:=hc.eq 0 g h rfl rfl;rcases bB.1 e with rfl|e
  .omega
  .have:=Chn.ge hc.tail x e;have:=hc.lt h O8;omega
theorem Zji{fr n:Int} : ∀{ps:List Zf},Chn ps->∀(j:Nat) (f l:Zf),(ps.filter (Ny fr n))[j]? = some f->(ps.filter (Ny fr n))[j+1]? = some l->∃i:Nat,ps[i]? = some f/\ps[i+1]? = some l
 | [],_,j,f,l,h,_=>by simp at h
 | g::r,hc,j,f,l,h1,e=>by
  cases hp:Ny fr n g with
  | false=>
   rw [gG (by rw [hp];exact dJ)]at h1 e;obtain⟨i,a,b⟩:=Zji hc.tail j f l h1 e;exact⟨i+1,a,b⟩
  | true=>
   rw [eP hp]at h1 e
   match j with
   | j+1=>
    obtain⟨i,a,b⟩:=Zji hc.tail j f l h1 e;exact⟨i+1,a,b⟩
   | 0=>
    obtain rfl:g=f:=by simpa using h1
    have e:(r.filter (Ny fr n))[0]? = some l:=e;have v:l∈r.filter (Ny fr n):=eU e;obtain⟨m,s⟩:=fA.1 v
    match r,hc,e,m with
    | h::r,hc,e,m=>
     have y:=hc.eq 0 g h rfl rfl;have z:=hc.lt h O8;have w:=bH hp;have t:=bH s;have u:Ny fr n h=true:=by
      refine aJ ?_;unfold cA cB at *;rcases bB.1 m with rfl|q
      .exact t
      .have:=Chn.ge hc.tail l q;omega
     rw [eP u]at e;obtain rfl:h=l:=by simpa using e
     exact⟨0,rfl,rfl⟩
theorem getD_some{α:Type}{l:List α}{x d:α}(h:l[i]? = some x):l.getD i d=x:=by rw [aC,h];rfl
theorem Dt{ps:List Zf}(hi:∀g∈ps,Gin g)(u:Yc ps=true):Chn ps/\(∀g∈ps,seB g=true)/\∀(i:Nat) (g h:Zf),ps[i]? = some g->ps[i+1]? = some h->meG g h=true:=by
 obtain⟨t,v,w⟩:=Zp u;have m:∀g∈ps,seB g=true:=λg f=>by obtain⟨i,j,e⟩:=cY.1 f;have:=Qt (t i j);rw [aC,aD j,fG,e]at this;exact this
 have l:∀(i:Nat) (g h:Zf),ps[i]? = some g->ps[i+1]? = some h->meG g h=true:=λi g h f n=>by have s:=(dP.1 n).1;have:=t (i+1) s;rw [Bj (Qt this) O1,fY,getD_some f,getD_some n]at this;exact this
 refine⟨⟨λg f=>(Qv (hi g f) (m g f)).t2,λi g h f n=>?_⟩,m,l⟩;have:=l i g h f n;unfold meG Zd0 at this;rw [aO,eV]at this;exact this.1
structure Pat (fr to:Int) (ps qs:List Zf):Prop where
 gin:∀q∈qs,Gin q
 pb:Yc qs=true
 len:qs.length=(ps.filter (Ny fr to)).length
 prt:∀(j:Nat) (q:Zf),qs[j]? = some q->∃f:Zf,(ps.filter (Ny fr to))[j]? = some f/\f∈ps/\Prt q f (cG fr to f)
 nxt:∀(j:Nat) (q r:Zf),qs[j]? = some q->qs[j+1]? = some r->∃(i:Nat) (f h:Zf),ps[i]? = some f/\ps[i+1]? = some h/\Prt q f (cG fr to f)/\Prt r h (cG fr to h)/\q.1.2.1=f.1.2.1/\r.1.1=h.1.1
theorem Yj8{fr m:Int}{ps:List Zf}(hi:∀g∈ps,Gin g)(R:Yc ps=true)(y:Qh fr m ps=true)(W:qs.map Ns=(ps.filter (Ny fr m)).map (Zgl fr m))(P:ps.filter (Ny fr m)≠[]):Pat fr m ps qs:=by
 obtain⟨S,u,N⟩:=Dt hi R;have hl:qs.length=(ps.filter (Ny fr m)).length:=by have:=aL List.length W;rwa [aP,aP]at this
 have D:∀(j:Nat) (q:Zf),qs[j]? = some q->∃f:Zf,(ps.filter (Ny fr m))[j]? = some f/\f∈ps/\Ny fr m f=true/\Ns q=Zgl fr m f/\Gin q/\seB q=true/\Prt q f (cG fr m f):=λj q n=>by have a0:=(dP.1 n).1;have z:(ps.filter (Ny fr m))[j]? = some ((ps.filter (Ny fr m))[j]' O1):=aD O1;generalize (ps.filter (Ny fr m))[j]' O1=f at z;obtain⟨v,F⟩:=fA.1 (eU z);have e:=aL (λl:List Zc0=>l[j]?) W;simp only [dW,n,z,Option.map_some,kR]at e;have hk:Cq fr m f=true:=cI.1 y f (eU z);obtain⟨a,b,c⟩:=Zjm (hi f v) (u f v) F hk e;exact⟨f,z,v,F,e,a,b,c⟩
 have V:∀(j:Nat) (q r:Zf),qs[j]? = some q->qs[j+1]? = some r->∃(i:Nat) (f h:Zf),ps[i]? = some f/\ps[i+1]? = some h/\Prt q f (cG fr m f)/\Prt r h (cG fr m h)/\q.1.2.1=f.1.2.1/\r.1.1=h.1.1:=λj q r n hr=>by
  obtain⟨f,f1,f2,f3,f4,-,-,f7⟩:=D j q n;obtain⟨h,I,h2,h3,h4,-,-,h7⟩:=D (j+1) r hr;obtain⟨i,Y,Z⟩:=Zji S j f h f1 I;have e1:=S.eq i f h Y Z;have c1:=bH f3;have c2:=bH h3;have q1:q.1=(cA fr f,cB m f,mdO (cO f) (cG fr m f)):=aL Prod.fst f4;have r1:r.1=(cA fr h,cB m h,mdO (cO h) (cG fr m h)):=aL Prod.fst h4;refine⟨i,f,h,Y,Z,f7,h7,?_,?_⟩
  .rw [q1];show cB m f=_;unfold cA cB at *;omega
  .rw [r1];show cA fr h=_;unfold cA cB at *;omega
 have B:∀q∈qs,Gin q:=λq Q=>by obtain⟨j,n⟩:=kZ.1 Q;obtain⟨f,-,-,-,-,h,-⟩:=D j q n;exact h
 have w:qs.length<=256:=by have I:=iL (Ny fr m) ps;have h2:=(Zp R).2.2;omega
 have I:1<=qs.length:=by have:=aG.2 P;omega
 refine⟨B,?_,hl,λj q n=>?_,V⟩
 .rw [Zfz (λi s=>?_),aJ ⟨I,w⟩];have n:qs[i]? = some (qs[i]'(s)):=aD s;generalize qs[i]'(s)=q at n;obtain⟨f,-,-,-,-,-,hs,-⟩:=D i q n;rcases aS i with H|H
  .exact Zpq (by rw [getD_some n];exact hs) H
  .rw [Bj (by rw [getD_some n];exact hs) H,getD_some n];have t:qs[i-1]? = some (qs[i-1]' O1):=aD O1;generalize qs[i-1]' O1=p at t;rw [getD_some t];obtain⟨k,f,h,k1,k2,k3,k4,k5,k6⟩:=V (i-1) p q t (by rw [Nat.sub_add_cancel H];exact n);have v:=eU k1;have F:=eU k2;exact me_prt (Qv (hi f v) (u f v)) (Qv (hi h F) (u h F)) k3 k4 k5 k6 (N k f h k1 k2)
 .obtain⟨f,f1,f2,-,-,-,-,f7⟩:=D j q n;exact⟨f,f1,f2,f7⟩
theorem Zxi{fr j:Int} : ∀{ps:List Zf},Chn ps->ps≠[]->Ep ps<=fr->fr<j->j<=Bc ps->ps.filter (Ny fr j)≠[]
 | [],_,h,_,_,_=>absurd rfl h
 | g::r,hc,_,n,h2,f=>by
  have t:=hc.lt g O8;have n:g.1.1<=fr:=n;by_cases l:Ny fr j g=true
  .rw [eP l];exact List.cons_ne_nil _ _
  .have m:¬cA fr g<cB j g:=λh=>l (aJ h);have e:g.1.2.1<=fr:=by unfold cA cB at m;omega
   rw [gG l]
   match r,hc,f with
   | [],_,f=>
    have f:j<=g.1.2.1:=f;omega
   | h::r,hc,f=>
    have s:=hc.eq 0 g h rfl rfl;refine Zxi hc.tail (List.cons_ne_nil _ _) (by show h.1.1<=fr;omega) h2 ?_;have:Bc (g::h::r)=Bc (h::r):=by unfold Bc;simp
    rw [<-this];exact f
theorem bl_dl{a b:Int}{n:Nat}(h:bl a.natAbs<=n):bl (a/b).natAbs<=n:=by rw [Qi]at h ⊢;exact bD (gO a b) h
def jqP(fr h ov:Int)(x y z:List Int)(e g f:Int)(x2 j l:List Int)(i:Nat):Prop:=qr (bgS (Zo i x2 j l)) (Af [f,g-e])=qr (enS (Zo i x y z)) (Af [ov,h-fr])
def refS(o:Nat)(x y z:List Int):Nat->List Int
 | 0=>[]
 | i+1=>Ax (refS o x y z i) (Qn (dN o (tzl (Zo i x y z))) (dN o (tzl (Zo i x y z))))
def refC(o:Nat)(m ov T:Int):Int:=m^2*ov^2*T^(2*o)
def refF(o:Nat)(m ov T:Int)(x y z:List Int):List Int:=Aw (tzl [refC o m ov T]) (Zm (refS o x y z 3) (1000^(2*o)))
def frB(ps:List Zf)(f e:Int)(i:Nat):Int:=
 if 0<i/\joG (ps.getD (i-1) G0) (ps.getD i G0)=false then 1 else if Ck (Yi4 1 f (ps.getD i G0))=true then 2 else if Ck (Yi4 2 e (ps.getD i G0))=true then 3 else 0
def fiB(ps:List Zf)(f e:Int):Option (Nat×Int):=((List.range ps.length).find? λi=>decide (frB ps f e i≠0)).map λi=>(i,frB ps f e i)
theorem tf(b:Bool):b=false\/b=true:=by cases b<;>simp
def fiI(o:Option (Nat×Int)):Int:=match o with
 | none=>0
 | some g=>g.1
def fiC(o:Option (Nat×Int)):Int:=match o with
 | none=>0
 | some g=>g.2
abbrev firV (o:Option (Nat×Int)):Value:= .tuple #[.agg #[.int .i64 (fiI o),.int .i64 (fiC o)],.bool o.isSome,.int .i64 0]
theorem Zfl(p q:List Int)(x:Rat):Zb (Ax p q) x=Zb p x+Zb q x:=by rw [<-Xc];exact Oh x _ _ λi=>by rw [Zjo,Nz]
theorem Ygj(p q:List Int)(x:Rat):Zb (Aw p q) x=Zb p x-Zb q x:=by
 have:Zb (Aw p q) x=Zb (Nx p (q.map λa=>-1*a)) x:=Oh x _ _ λi=>by rw [Ao,Nz,Xz];omega
 rw [this,Xc,Zi];push_cast;grind
theorem Ygl(p:List Int)(x:Rat):Zb p x=(Yz p:Rat)*Zb (Zx p) x:=by rw [<-Zi];exact Oh x _ _ λi=>by rw [Xz,dB,Hx]
theorem Yke(h:Tr p)(e:p≠[]):(0:Rat)<(Yz p:Rat):=by have f:=Bi h e;have g:=Ox p;exact_mod_cast (show 0<Yz p by omega)
theorem Ztn(h:Tr p)(x:Rat):Zb (Zx p) x<0↔Zb p x<0:=by
 by_cases e:p=[]
 .subst e;rfl
 .have f:=Yke h e;rw [Ygl p];constructor
  .intro h;have:=Rat.mul_lt_mul_of_pos_left h f;rw [Rat.mul_zero]at this;exact this
  .intro h;by_cases q:Zb (Zx p) x<0
   .exact q
   .exact absurd (aM (dC f) (kD.1 q)) (nJ.2 h)
def spd(o:Nat)(x y z:List Int)(u:Rat):Rat:=Zb (refS o x y z 3) u
def lstB(o:Nat)(ps:List Zf):Nat:=Ymb (λn=>Yij o ps (n:Int)) 14 0 10000
def lsV(o:Nat)(ps:List Zf):Nat:=if Yij o ps 10000 then lstB o ps else 0
theorem Ycf(a b:Bool):a=false\/(a=true/\b=false)\/(a=true/\b=true):=by cases a<;>cases b<;>simp
def dR(o:Nat)(c:List Int)(u:Rat):Rat:=Zb (dN o (tzl c)) u
theorem Prt.num{g:Zf}(h:Prt q g G):∃v s:Rat,0<=v/\0<s/\v+s<=1/\s*((g.1.2.1-g.1.1:Int):Rat)=((q.1.2.1-q.1.1:Int):Rat)/\v*((g.1.2.1-g.1.1:Int):Rat)=((q.1.1-g.1.1:Int):Rat)/\(0:Rat)<((g.1.2.1-g.1.1:Int):Rat)/\
  ∀i (u:Rat),Zb (Zo i q.2.1.2 q.2.2.1.2 q.2.2.2.2) u*(G:Rat)=((g.1.2.1-g.1.1:Int):Rat)^5*Zb (Zo i g.2.1.2 g.2.2.1.2 g.2.2.2.2) (v+s*u):=by
 have m:=h.a0;have n:=h.b0;have t:=h.ab;have B:=h.x;generalize g.1.2.1-g.1.1=d at *;generalize q.1.2.1-q.1.1=b at *;generalize q.1.1-g.1.1=a at *;have j:(0:Rat)<(d:Rat):=by exact_mod_cast (show 0<d by omega)
 have w:(0:Rat)<=(a:Rat):=by exact_mod_cast m
 have z:(0:Rat)<(b:Rat):=by exact_mod_cast n
 have y:(a:Rat)+(b:Rat)<=(d:Rat):=by exact_mod_cast t
 have hi:0<(d:Rat)⁻¹:=gX.2 j;have e:(a:Rat)/d*d=a:=eE O5;have f:(b:Rat)/d*d=b:=eE O5;refine⟨(a:Rat)/d,(b:Rat)/d,?_,?_,?_,f,e,j,λi u=>B i _ u (by
  have l:(b:Rat)/d*u*d=((b:Rat)/d*d)*u:=by rw [lD,kW u,<-lD]
  rw [Rat.add_mul,e,l,f])⟩
 .rw [gF];exact aM w (dC hi)
 .rw [gF];exact aV z hi
 .have:((a:Rat)/d+b/d)*d<=1*d:=by rw [Rat.add_mul,e,f];grind
  exact Rat.le_of_mul_le_mul_right this j
theorem lh_pat{fr h:Int}{ps:List Zf}(hi:∀g∈ps,Gin g)(j:Yc ps=true)(l:Ep ps<=fr/\fr<h/\h<=Bc ps)(f:Qh fr h ps=true)(m:qs.map Ns=Bn fr h ps):Pat fr h ps qs:=
 Yj8 hi j f (m.trans (aK f)) (Zxi (Dt hi j).1 (λe=>by have:=(Zp j).2.1;rw [e]at this;simp at this) l.1 l.2.1 l.2.2)
def Zxj{fr e:Int}{ps:List Zf}(h:Qh fr e ps=true):Zmy fr e ps=0:=aK h
theorem Ykc{fr e:Int}{ps:List Zf}(h:Qh fr e ps=false):Zmy fr e ps=7:=aH (by rw [h];exact dJ)
def lh_M{fr f:Int}{ps:List Zf}(hi:∀g∈ps,Gin g)(h:Yc ps=true):∀g∈ps,Ny fr f g=true->MdG fr f g:=λg e j=>Yh6 (hi g e) ((Dt hi h).2.1 g e) j
def inn(fr e:Int)(ps:List Zf):List Int:=(ps.filter λg=>decide (fr<g.1.1) && decide (g.1.1<e)).map λg=>g.1.1
theorem inn_t{fr e:Int}{ps:List Zf}(j:k<ps.length)(f:fr<(ps.getD k G0).1.1)(h:(ps.getD k G0).1.1<e):inn fr e (ps.take (k+1))=inn fr e (ps.take k) ++ [(ps.getD k G0).1.1]:=by unfold inn;rw [Zos (x:=ps.getD k G0) (by rw [aC,aD j];rfl),gC,dZ];rw [show List.filter (λg:Zf=>decide (fr<g.1.1) && decide (g.1.1<e)) [ps.getD k G0]=[ps.getD k G0]from eP (by rw [aJ f,aJ h];rfl)];rfl
theorem inn_f{fr e:Int}{ps:List Zf}(j:k<ps.length)(h:¬(fr<(ps.getD k G0).1.1/\(ps.getD k G0).1.1<e)):inn fr e (ps.take (k+1))=inn fr e (ps.take k):=by
 unfold inn;rw [Zos (x:=ps.getD k G0) (by rw [aC,aD j];rfl),gC,dZ];rw [show List.filter (λg:Zf=>decide (fr<g.1.1) && decide (g.1.1<e)) [ps.getD k G0]=[] by rw [gG (λf=>by rw [aO]at f;exact h ⟨bH f.1,bH f.2⟩)];rfl]
 simp
theorem Zp6(fr e:Int)(ps:List Zf):(inn fr e ps).length<=ps.length:=by unfold inn;rw [aP];exact iL _ _
theorem Zz3{fr j:Int}{ps:List Zf} : x∈inn fr j ps↔∃g∈ps,g.1.1=x/\fr<x/\x<j:=by
 unfold inn;rw [dH];constructor
 .rintro⟨g,h,rfl⟩;obtain⟨f,e⟩:=fA.1 h;simp only [aO,cK]at e;exact⟨g,f,rfl,e.1,e.2⟩
 .rintro⟨g,h,rfl,f,e⟩;exact⟨g,fA.2 ⟨h,by simp [f,e]⟩,rfl⟩
def Fj(a b:List Zf):Int:=max (Ep a) (Ep b)
def Fi(a b:List Zf):Int:=min (Bc a) (Bc b)
def Zd8(a b:List Zf)(i:Nat):List Int:=Fj a b::Fi a b::((if 1<=i then inn (Fj a b) (Fi a b) a else []) ++ (if 2<=i then inn (Fj a b) (Fi a b) b else []))
def Od(a b:List Zf):List Int:=Zmr (Zd8 a b 2)
def Ej{α:Type _}(i:Nat)(a b:α):α:=if i=0 then a else b
theorem tms_s(h:i<2):Zd8 a b (i+1)=Zd8 a b i ++ inn (Fj a b) (Fi a b) (Ej i a b):=by
 match i,h with
 | 0,_=>simp [Zd8,Ej]
 | 1,_=>simp [Zd8,Ej]
theorem Zdh : x∈Od a b↔x=Fj a b\/x=Fi a b\/(Fj a b<x/\x<Fi a b/\((∃g∈a,g.1.1=x)\/∃g∈b,g.1.1=x)):=by
 unfold Od;rw [Zcg];show x∈Fj a b::Fi a b::(inn _ _ a ++ inn _ _ b)↔_;rw [bB,bB,cQ,Zz3,Zz3];constructor
 .rintro(h|h|⟨g,e,f,j,l⟩|⟨g,e,f,j,l⟩)
  .exact .inl h
  .exact .inr (.inl h)
  .exact .inr (.inr ⟨j,l,.inl ⟨g,e,f⟩⟩)
  .exact .inr (.inr ⟨j,l,.inr ⟨g,e,f⟩⟩)
 .rintro(h|h|⟨j,l,⟨g,e,f⟩|⟨g,e,f⟩⟩)
  .exact .inl h
  .exact .inr (.inl h)
  .exact .inr (.inr (.inl ⟨g,e,f,j,l⟩))
  .exact .inr (.inr (.inr ⟨g,e,f,j,l⟩))
def Ypw(a b:List Zf):Sst (Od a b) (Od a b).length:=Zyn (Bl _)
theorem Zt2(x:Int):∀l:List Int,(Zlj x l).length<=l.length+1
 | []=>aI _
 | y::l=>by
  have:=Zt2 x l;unfold Zlj;split
  .exact aI _
  .split
   .exact Nat.le_succ _
   .simp only [eA];omega
theorem Ztz:∀l:List Int,(Zmr l).length<=l.length
 | []=>aI _
 | x::l=>by have:=Ztz l;have:=Zt2 x (Zmr l);show(Zlj x (Zmr l)).length<=_;simp only [eA];omega
theorem Zp5(a b:List Zf)(i:Nat):(Zd8 a b i).length<=2+a.length+b.length:=by have e:=Zp6 (Fj a b) (Fi a b) a;have f:=Zp6 (Fj a b) (Fi a b) b;unfold Zd8;split<;>split<;>simp<;>omega
def Yac(a b:List Zf):(Od a b).length<=2+a.length+b.length:=aB (Ztz _) (Zp5 a b 2)
structure Bks (a b:List Zf):Prop where
 two:2<=(Od a b).length
 hd:(Od a b).getD 0 0=Fj a b
 ls:(Od a b).getD ((Od a b).length-1) 0=Fi a b
 lt:∀k,k+1<(Od a b).length->Fj a b<=(Od a b).getD k 0/\(Od a b).getD k 0<(Od a b).getD (k+1) 0/\(Od a b).getD (k+1) 0<=Fi a b
 no:∀k,k+1<(Od a b).length->∀g,g∈a\/g∈b->¬((Od a b).getD k 0<g.1.1/\g.1.1<(Od a b).getD (k+1) 0)
theorem bks (a:List Zf)(b:List Zf)(h:Fj a b<Fi a b):Bks a b:=by
 have hs:=Ypw a b;have w:Fj a b∈Od a b:=Zdh.2 (.inl rfl);have y:Fi a b∈Od a b:=Zdh.2 (.inr (.inl rfl));have f:∀x∈Od a b,Fj a b<=x/\x<=Fi a b:=λx F=>by rcases Zdh.1 F with l|l|⟨l,s,_⟩<;>omega
 obtain⟨i,hi,u⟩:=Fv.1 w;obtain⟨j,P,v⟩:=Fv.1 y;have t:2<=(Od a b).length:=by
  by_cases e:i=j
  .subst e;omega
  .omega
 have z:(Od a b).getD 0 0=Fj a b:=by
  by_cases e:i=0
  .subst e;exact u
  .have l:=hs 0 i O1 hi;have s:=(f _ (Ze (zs:=Od a b) (i:=0) (d:=0))).1;omega
 have H:(Od a b).getD ((Od a b).length-1) 0=Fi a b:=by
  by_cases e:j=(Od a b).length-1
  .rw [<-e];exact v
  .have l:=hs j ((Od a b).length-1) O1 O1;have s:=(f _ (Ze (zs:=Od a b) (i:=(Od a b).length-1) (d:=0))).2;omega
 refine⟨t,z,H,λk n=>⟨(f _ Ze).1,hs k (k+1) O1 n,(f _ (Ze n)).2⟩,λk n g m N=>?_⟩;have l:=(f _ (Ze (zs:=Od a b) (i:=k) (d:=0))).1;have s:=(f _ (Ze (zs:=Od a b) (i:=k+1) (d:=0) n)).2;have B:g.1.1∈Od a b:=Zdh.2 (.inr (.inr ⟨O1,O1,by
  rcases m with m|m
  .exact .inl ⟨g,m,rfl⟩
  .exact .inr ⟨g,m,rfl⟩⟩))
 obtain⟨q,D,I⟩:=Fv.1 B;rcases iW q k with c|c|c
 .have:=hs q k c O1;omega
 .subst c;omega
 .rcases iW q (k+1)with d|d|d
  .omega
  .subst d;omega
  .have:=hs (k+1) q d D;omega
theorem Yba{fr e:Int}{g:Zf}(h:Ny fr e g=true):fr<g.1.2.1/\g.1.1<e:=by unfold Ny cA cB at h;have:=bH h;exact⟨O1,O1⟩
theorem Zq4{fr e:Int}{ps:List Zf}(h:Chn ps)(l:ps≠[])(u:Ep ps<=fr)(v:fr<e)(w:e<=Bc ps)(m:∀g∈ps,¬(fr<g.1.1/\g.1.1<e)):(ps.filter (Ny fr e)).length=1:=by
 have y:=Zxi h l u v w;have n:0<(ps.filter (Ny fr e)).length:=aG.2 y;rcases bC 1 (ps.filter (Ny fr e)).length with f|f
 .exfalso;have s:=aD n;have t:=aD f;obtain⟨i,f1,f2⟩:=Zji h 0 _ _ s t;have z:=(fA.1 (gQ n)).2;have B:=(fA.1 (gQ f)).2;have j:=(fA.1 (gQ f)).1;have H:=h.eq i _ _ f1 f2;have D:=Yba z;have F:=Yba B;exact m _ j ⟨O1,O1⟩
 .omega
def Zew(ts:List Int)(ps:List Zf):Nat->List Zc0
 | 0=>[]
 | n+1=>Zew ts ps n ++ Bn (ts.getD n 0) (ts.getD (n+1) 0) ps
def Kz(ts:List Int)(a b:List Zf):Nat->Bool
 | 0=>true
 | n+1=>Kz ts a b n && (Qh (ts.getD n 0) (ts.getD (n+1) 0) a && Qh (ts.getD n 0) (ts.getD (n+1) 0) b)
def Zq7(a b:List Zf):Bool:=Kz (Od a b) a b ((Od a b).length-1)
def Gc(a b:List Zf):Int:=if Fj a b>=Fi a b then 9 else if Zq7 a b then 0 else 7
def Mx(a b ps:List Zf):List Zc0:=if Gc a b=0 then Zew (Od a b) ps ((Od a b).length-1)else []
theorem Zuy{ts:List Int}{a b:List Zf} : ∀{n m:Nat},n<=m->Kz ts a b m=true->Kz ts a b n=true
 | n,0,h,e=>by obtain rfl:n=0:=O1;rfl
 | n,m+1,h,e=>by
  rcases bC m n with f|f
  .obtain rfl:n=m+1:=O1;exact e
  .refine Zuy f ?_;have:Kz ts a b (m+1)=(Kz ts a b m && (Qh (ts.getD m 0) (ts.getD (m+1) 0) a && Qh (ts.getD m 0) (ts.getD (m+1) 0) b)):=rfl;rw [this,aO]at e;exact e.1
def tik(a b:List Zf)(i k:Nat):List Int:=Zd8 a b i ++ inn (Fj a b) (Fi a b) ((Ej i a b).take k)
theorem tik_0(a b:List Zf)(i:Nat):tik a b i 0=Zd8 a b i:=by unfold tik;rw [fB];exact iP _
theorem tik_t(g:k<(Ej i a b).length)(e:Fj a b<((Ej i a b).getD k G0).1.1)(f:((Ej i a b).getD k G0).1.1<Fi a b):tik a b i (k+1)=tik a b i k ++ [((Ej i a b).getD k G0).1.1]:=by unfold tik;rw [inn_t g e f,cS]
theorem tik_f(e:k<(Ej i a b).length)(h:¬(Fj a b<((Ej i a b).getD k G0).1.1/\((Ej i a b).getD k G0).1.1<Fi a b)):tik a b i (k+1)=tik a b i k:=by unfold tik;rw [inn_f e h]
theorem tik_e(hi:i<2):tik a b i (Ej i a b).length=Zd8 a b (i+1):=by unfold tik;rw [bO,tms_s hi]
theorem Zt0(a b:List Zf)(i:Nat):(Ej i a b).length<=a.length+b.length:=by unfold Ej;split<;>omega
theorem Yn5(a b:List Zf)(i k:Nat):(tik a b i k).length<=2+2*(a.length+b.length):=by have e:=Zp5 a b i;have f:=Zp6 (Fj a b) (Fi a b) ((Ej i a b).take k);have g:=Zt0 a b i;have h:((Ej i a b).take k).length<=(Ej i a b).length:=List.length_take_le' _ _;unfold tik;rw [aW];omega
def tms_ne(a b:List Zf)(i:Nat):Zd8 a b i≠[]:=λh=>nomatch h
theorem tms_2(a b:List Zf)(i:Nat):2<=(Zd8 a b i).length:=by unfold Zd8;simp
section
variable {P:Program} {N:Nat} {sc:Nat->Prop} {env:Qy} {H:Hp}
theorem Ymw{g l sd:SL}(i j k n:Nat)(m:lk H j=some (Xp 6 Xv qG (Xx g) a))(s:lk H k=some (Xp 6 Xv qG (Xx l) b))(e:Nat.beq j 0=false)(f:Nat.beq k 0=false)(hi:i<2) :
  ∀a' w,Sat N sc env H a' w->Sat N sc env ((n,Xp 6 Xv qG (Xx ([g,l].getD i sd)) (Ej i a b))::H) a' w:=by
 match i,hi with
 | 0,_=>exact Zb9 j n m e rfl (λ_ h=>h) (λ_ h=>h) rfl
 | 1,_=>exact Zb9 k n s f rfl (λ_ h=>h) (λ_ h=>h) rfl
end
theorem Ykf(h:Fj a b>=Fi a b)(ps:List Zf):Gc a b=9/\Mx a b ps=[]:=by have e:Gc a b=9:=aK h;exact⟨e,by unfold Mx;rw [e];rfl⟩
theorem Zod(h:¬Fj a b>=Fi a b){n:Nat}(l:n+1<(Od a b).length)(j:(Qh ((Od a b).getD n 0) ((Od a b).getD (n+1) 0) a && Qh ((Od a b).getD n 0) ((Od a b).getD (n+1) 0) b)=false)(ps:List Zf):Gc a b=7/\Mx a b ps=[]:=by
 have k:Zq7 a b=false:=by
  cases hk:Zq7 a b with
  | false=>rfl
  | true=>
   have f:=Zuy (n:=n+1) O1 hk;have g:Kz (Od a b) a b (n+1)=(Kz (Od a b) a b n && (Qh ((Od a b).getD n 0) ((Od a b).getD (n+1) 0) a && Qh ((Od a b).getD n 0) ((Od a b).getD (n+1) 0) b)):=rfl;rw [g,j,mE]at f;exact f.symm
 have e:Gc a b=7:=by unfold Gc;rw [aH h,k];rfl
 exact⟨e,by unfold Mx;rw [e];rfl⟩
theorem Ykg(h:¬Fj a b>=Fi a b){n:Nat}(g:n+1=(Od a b).length)(f:Kz (Od a b) a b n=true):Gc a b=0/\∀ps,Mx a b ps=Zew (Od a b) ps n:=by
 have k:Zq7 a b=true:=by unfold Zq7;rw [show(Od a b).length-1=n by omega];exact f
 have e:Gc a b=0:=by unfold Gc;rw [aH h,k];rfl
 exact⟨e,λps=>by unfold Mx;rw [e,aK rfl,show(Od a b).length-1=n by omega]⟩
theorem com_k{n:Nat}(h:Kz (Od a b) a b n=true)(e:Qh ((Od a b).getD n 0) ((Od a b).getD (n+1) 0) a=true)(f:Qh ((Od a b).getD n 0) ((Od a b).getD (n+1) 0) b=true):Kz (Od a b) a b (n+1)=true:=by show(Kz (Od a b) a b n && (_ && _))=true;rw [h,e,f];rfl
theorem com_z{ps zs:List Zf}{n:Nat}(h:zs.map Ns=Zew ts ps n)(e:us.map Ns=Bn (ts.getD n 0) (ts.getD (n+1) 0) ps):(zs ++ us).map Ns=Zew ts ps (n+1):=by rw [dZ,h,e];rfl
theorem com_u{ps:List Zf}{fr f:Int}(hi:∀g∈ps,Gin g)(l:Yc ps=true)(n:Ep ps<=fr)(s:fr<f)(t:f<=Bc ps)(h:∀g∈ps,¬(fr<g.1.1/\g.1.1<f))(v:Qh fr f ps=true)(w:us.map Ns=Bn fr f ps):us.length=1:=by have m:=(Zp l).2.1;have u:=Zq4 (Dt hi l).1 (λe=>by rw [e]at m;simp at m) n s t h;have j:=aL List.length w;rw [aP]at j;rw [j];unfold Bn;rw [aK v,aP,u]
theorem com_ua{n:Nat}(hi:∀g∈a,Gin g)(l:Yc a=true)(B:Bks a b)(e:n+1<(Od a b).length)(m:Qh ((Od a b).getD n 0) ((Od a b).getD (n+1) 0) a=true)(t:us.map Ns=Bn ((Od a b).getD n 0) ((Od a b).getD (n+1) 0) a):us.length=1:=by obtain⟨f,h,j⟩:=B.lt n e;unfold Fj at f;unfold Fi at j;exact com_u hi l O1 h O1 (λg s=>B.no n e g (.inl s)) m t
theorem com_ub{n:Nat}(hi:∀g∈b,Gin g)(l:Yc b=true)(B:Bks a b)(e:n+1<(Od a b).length)(m:Qh ((Od a b).getD n 0) ((Od a b).getD (n+1) 0) b=true)(t:us.map Ns=Bn ((Od a b).getD n 0) ((Od a b).getD (n+1) 0) b):us.length=1:=by obtain⟨f,h,j⟩:=B.lt n e;unfold Fj at f;unfold Fi at j;exact com_u hi l O1 h O1 (λg s=>B.no n e g (.inr s)) m t
theorem Zx3{a b:Bool}(h:a=false):(a && b)=false:=by rw [h];rfl
theorem Zx2{a b:Bool}(h:b=false):(a && b)=false:=by rw [h];exact mE _
end Go.Sky
namespace Go.Sky
variable{c p q ns:List Int}{x M:Nat}{f:Nat->List Int}
section
variable {P:Program} {N:Nat} {sc:Nat->Prop} {env:Qy} {H:Hp}
end
def KA:Nat:=360287970189639680
theorem AxC.ka{a:Int}(h:AxC c a)(b:1<=a)(d:a<=4294967296):Ab KA (tzl c):=λk=>by have:=h.cg k;rw [Il];unfold KA;omega
def BG:Nat:=2^250*2^250
theorem bl_two{a b:Nat}(h:x<2^a*2^b):bl x<=a+b:=(Qi (a+b) x).2 (by rw [bX];exact h)
def Ybu(h:x<BG):bl x<=500:=bl_two (a:=250) (b:=250) h
def Ab.sg(h:Ab M p)(a:M<BG):Sz 500 p:=λi=>Ybu (bD (h i) a)
def Zbs(h:Ab M p)(a:M<BG)(d:Tr p)(b:p.length<=25):Vp p:=⟨(h.sg a).mono O3,d,b⟩
theorem Zsu{c:Int}(h:Ab M p)(b:M*c.natAbs<BG)(i:Nat):bl (cf p i*c).natAbs<=65536:=by have a:=Bq h c i;rw [Xk]at a;exact aB (Ybu (bD a b)) O3
theorem ad_ab{K:Nat}(h:Ab M p)(e:Ab K q)(d:M+K<BG)(i:Nat):bl (cf p i+cf q i).natAbs<=65536/\bl (cf p i-cf q i).natAbs<=65536:=by have a:=h i;have b:=e i;exact⟨aB (Ybu (bD (by omega:_<=M+K) d)) O3,aB (Ybu (bD (by omega:_<=M+K) d)) O3⟩
theorem mf_ab(h:Ab M p)(b:M<BG)(d:p.length<=11):¬Ah p p:=λa=>by have m:=Pu (h.sg b);rcases a.2.2 with w|w<;>omega
def dfP(p q:List Int)(a b:Int):List Int:=Aw (Zm (tzl p) b) (Zm (tzl q) a)
def dfK(p q:List Int)(a b k:Int):List Int:=Zm (dfP p q a b) k
def sqK(p q:List Int)(a b k:Int):List Int:=Qn (dfK p q a b k) (dfK p q a b k)
def sqP(p q:List Int)(a b:Int):List Int:=Qn (dfP p q a b) (dfP p q a b)
def KD:Nat:=KA*4294967296+KA*4294967296
structure FmX (p q:List Int) (a b k:Int):Prop where
 v1:Vp (tzl p)
 v2:Vp (tzl q)
 b1:bl b.natAbs<=65536
 a1:bl a.natAbs<=65536
 k1:bl k.natAbs<=65536
 s1:∀i,bl (cf (tzl p) i*b).natAbs<=65536
 s2:∀i,bl (cf (tzl q) i*a).natAbs<=65536
 v3:Vp (Zm (tzl p) b)
 v4:Vp (Zm (tzl q) a)
 s3:∀i,bl (cf (Zm (tzl p) b) i-cf (Zm (tzl q) a) i).natAbs<=65536
 v5:Vp (dfP p q a b)
 s4:∀i,bl (cf (dfP p q a b) i*k).natAbs<=65536
 v6:Vp (dfK p q a b k)
 m6:¬Ah (dfK p q a b k) (dfK p q a b k)
 v7:Vp (sqK p q a b k)
 ab:Ab (6*((KD*100)*(KD*100))) (sqK p q a b k)
 l:(sqK p q a b k).length<=11
 m5:¬Ah (dfP p q a b) (dfP p q a b)
 v8:Vp (sqP p q a b)
 ab8:Ab (6*((KD*100)*(KD*100))) (sqP p q a b)
 l8:(sqP p q a b).length<=11
theorem fmX{a b k:Int}(l:Ab KA (tzl p))(m:Ab KA (tzl q))(lp:p.length<=6)(I:q.length<=6)(w:1<=a/\a<=4294967296)(y:1<=b/\b<=4294967296)(Q:1<=k/\k<=100):FmX p q a b k:=by
 have o:(tzl p).length<=6:=aB (Ko p) lp;have r:(tzl q).length<=6:=aB (Ko q) I;have s:Ab (KA*4294967296) (Zm (tzl p) b):=(Bq l b).mono (bL _ O1);have t:Ab (KA*4294967296) (Zm (tzl q) a):=(Bq m a).mono (bL _ O1);have d:Ab KD (dfP p q a b):=ab_sub s t;have e:Ab (KD*100) (dfK p q a b k):=(Bq d k).mono (bL _ O1);have j:Ab (KD*100) (dfP p q a b):=d.mono O6;have l3:(Zm (tzl p) b).length<=6:=aB Mw o;have G:(Zm (tzl q) a).length<=6:=aB Mw r;have g:(dfP p q a b).length<=6:=Yn9 l3 G;have n:(dfK p q a b k).length<=6:=aB Mw g;have t5:Tr (dfP p q a b):=Qo _;have t6:Tr (dfK p q a b k):=Qo _;have u:=Yle e e n;have v:=Yle j j g;have z:=Yad t6 t6 n n;have B:=Yad t5 t5 g g;have h:∀c:Int,1<=c/\c<=4294967296->bl c.natAbs<=65536:=λc F=>aB ((Qi 40 _).2 O1) O6;have D:∀c:Int,1<=c/\c<=4294967296->KA*c.natAbs<BG:=λc F=>bD (bL KA (by omega:c.natAbs<=4294967296)) O6;exact⟨Zbs l O6 (Qo _) O1,Zbs m O6 (Qo _) O1,h b y,h a w,h k O1,Zsu l (D b y),Zsu m (D a w),
  Zbs s O6 (Qo _) O1,Zbs t O6 (Qo _) O1,λi=>(ad_ab s t O6 i).2,Zbs d O6 t5 O1,
  Zsu d (bD (bL KD (by omega:k.natAbs<=100)) O6),Zbs e O6 t6 O1,mf_ab e O6 O1,Zbs u O6 Qb (by have:(sqK p q a b k).length<=_:=z;omega),u,z,
  mf_ab j O6 O1,Zbs v O6 Qb (by have:(sqP p q a b).length<=_:=B;omega),v,B⟩
def ngC(ns:List Int):Nat->List Int
 | 0=>[-1]
 | i+1=>Zm (Zm (ngC ns i) (ns.getD i 0)) (ns.getD i 0)
def sqN(ns:List Int):Nat->Nat
 | 0=>1
 | i+1=>sqN ns i*(ns.getD i 0).natAbs*(ns.getD i 0).natAbs
theorem Zpv(ns:List Int):∀i,Ab (sqN ns i) (ngC ns i)/\(ngC ns i).length<=1/\Tr (ngC ns i)
 | 0=>⟨λi=>by
   match i with
   | 0=>show(cf [-1] 0).natAbs<=1;decide
   | i+1=>show(cf [-1] (i+1)).natAbs<=1;rw [Yr O8];decide,aI _,show Tr [-1]from .inr O3⟩
 | i+1=>by obtain⟨a,b,d⟩:=Zpv ns i;exact⟨Bq (Bq a _) _,aB Mw (aB Mw b),Qo _⟩
theorem Yfh{ns:List Int}{B:Nat}(h:∀i,(ns.getD i 0).natAbs<=B):∀i,sqN ns i<=(B*B)^i
 | 0=>aI _
 | i+1=>by rw [cC,<-cZ];exact bA (bA (Yfh h i) (h i)) (h i)
structure NgX (ns:List Int) (i:Nat):Prop where
 b:bl (ns.getD i 0).natAbs<=65536
 inn:Oc (ns.getD i 0)
 v:Vp (ngC ns i)
 s:∀k,bl (cf (ngC ns i) k*ns.getD i 0).natAbs<=65536
 v2:Vp (Zm (ngC ns i) (ns.getD i 0))
 s2:∀k,bl (cf (Zm (ngC ns i) (ns.getD i 0)) k*ns.getD i 0).natAbs<=65536
theorem ngX(h:∀i,(ns.getD i 0).natAbs<=4294967296){i:Nat}(hi:i<=4):NgX ns i:=by obtain⟨j,n,k⟩:=Zpv ns i;have e:=Yfh h i;have g:(4294967296*4294967296)^i<=(4294967296*4294967296)^4:=dO O6 hi;have a:Ab ((4294967296*4294967296)^4) (ngC ns i):=j.mono (aB e g);have b:=h i;have d:Ab ((4294967296*4294967296)^4*4294967296) (Zm (ngC ns i) (ns.getD i 0)):=(Bq a _).mono (bL _ b);have l:(4294967296*4294967296)^4*(ns.getD i 0).natAbs<BG:=bD (bL _ b) O6;have m:(4294967296*4294967296)^4*4294967296*(ns.getD i 0).natAbs<BG:=bD (bL _ b) O6;exact⟨aB ((Qi 40 _).2 O1) O6,⟨O1,O1⟩,Zbs a O6 k O1,Zsu a l,Zbs d O6 (Qo _) (aB Mw O1),Zsu d m⟩
def smP(c:List Int)(f:Nat->List Int):Nat->List Int
 | 0=>c
 | i+1=>Ax (smP c f i) (f i)
theorem Yfn{c:List Int}{f:Nat->List Int}{C F:Nat}(a:Ab C c)(d:c.length<=11)(g:Tr c)(b:∀i,Ab F (f i))(e:∀i,(f i).length<=11):∀i,Ab (C+i*F) (smP c f i)/\(smP c f i).length<=11/\Tr (smP c f i)
 | 0=>⟨by rw [iE];exact a,d,g⟩
 | i+1=>by obtain⟨h,j,k⟩:=Yfn a d g b e i;exact⟨by rw [eJ,<-gT];exact ab_add h (b i),Yoa j (e i),Qo _⟩
structure SmX (c:List Int) (f:Nat->List Int):Prop where
 v:∀i,i<=3->Vp (smP c f i)
 s:∀i,i<3->∀k,bl (cf (smP c f i) k+cf (f i) k).natAbs<=65536
 d:Cvd (Zx (smP c f 3))
theorem smX(m:Ab (2^190) c)(r:c.length<=1)(o:Tr c)(l:∀i,Ab (6*((KD*100)*(KD*100))) (f i))(n:∀i,(f i).length<=11):SmX c f:=by
 have b:=Yfn m O1 o l n;have g:∀i,i<=3->2^190+i*(6*((KD*100)*(KD*100)))<2^205:=λi hi=>bD (Nat.add_le_add_left (aN _ hi) _) O6;have a:(2:Nat)^205<BG:=O6;refine⟨λi hi=>?_,λi hi k=>?_,?_⟩
 .obtain⟨d,j,h⟩:=b i;exact Zbs d (jQ (g i hi) a) h O1
 .obtain⟨d,j,h⟩:=b i;refine(ad_ab d (l i) ?_ k).1;have:=g (i+1) hi;rw [eJ]at this;have e:=jQ this a;omega
 .obtain⟨d,j,h⟩:=b 3;have hs:=d.sz (g 3 (aI _));exact⟨Im (Zbs d (jQ (g 3 (aI _)) a) h O1),Fm hs,by rw [Zz];exact j⟩
end Go.Sky
namespace Go.Sky
variable{m ov D d:Int}{x y z:List Int}{a b xs:List Zf}
theorem fillG{g h j c e f:Value}:Instr.fill (λi=>some (i*3,3)) ((List.range (1*3)).map ((Value.agg #[g,h,j]).cells[· % (Value.agg #[g,h,j]).cells.size]!)).toArray [(0,.agg #[c,e,f])]=some #[c,e,f]:=by
 simp [Instr.fill,Value.cells,List.range,List.range.loop]
 try rfl
def Zwz(m:Int)(l:List Int):Bool:=l.all λx=>decide (-m<=x) && decide (x<=m)
theorem insB_t{l:List Int}(h:∀i,i<l.length->-m<=l.getD i 0/\l.getD i 0<=m):Zwz m l=true:=cI.2 λx g=>by obtain⟨k,f,rfl⟩:=Fv.1 g;obtain⟨c,e⟩:=h k f;rw [aJ c,aJ e];rfl
theorem Yin (i:Nat){l:List Int}(hi:i<l.length)(h:¬(-m<=l.getD i 0/\l.getD i 0<=m)):Zwz m l=false:=by
 cases hb:Zwz m l with
 | false=>rfl
 | true=>
  have:=cI.1 hb _ (Ze (d:=0) hi);rw [aO]at this;exact absurd ⟨bH this.1,bH this.2⟩ h
def ptB(x y z:Int):Bool:=Zwz 1048576 [x,y,z]
def znB(D n d:Int):Bool:=decide (1<=D/\D<=4194304/\1<=n/\n<=d/\d<=100)
theorem mulb{x y:Int}{A B:Nat}(c:x.natAbs<=A)(e:y.natAbs<=B):(x*y).natAbs<=A*B:=by rw [cL];exact bA c e
def ptsB(e f g h c i D n d:Int):Bool:=decide (D*d*(D*d)<=(e-h)*d*((e-h)*d)+(f-c)*d*((f-c)*d)+(g-i)*n*((g-i)*n))
def fqZ(n d ov c:Int)(x y z e f g:List Int)(i:Nat):List Int:=sqK (Zo i x y z) (Zo i e f g) ov c (Zo i d d n)
def cnZ(D d ov c:Int):List Int:=ngC [D,d,ov,c] 4
def smZ(D n d ov c:Int)(x y z e f g:List Int)(i:Nat):List Int:=smP (cnZ D d ov c) (fqZ n d ov c x y z e f g) i
def fmZ(D n d ov c:Int)(x y z e f g:List Int):List Int:=Zx (smZ D n d ov c x y z e f g 3)
structure FzX (D n d ov ov2:Int) (x y z x2 y2 z2:List Int):Prop where
 X:∀i,FmX (Zo i x y z) (Zo i x2 y2 z2) ov ov2 (Zo i d d n)
 K:∀i,Oc (Zo i d d n)
 N:∀i,i<=4->NgX [D,d,ov,ov2] i
 Q:SmX (cnZ D d ov ov2) (fqZ n d ov ov2 x y z x2 y2 z2)
theorem Zg8{fr k:Int}(h:Dq fr k ov x y z=true)(i:Nat):Ab KA (tzl (Zo i x y z)):=by unfold Dq Zvt at h;simp only [aO,cK]at h;obtain⟨⟨⟨⟨⟨⟨⟨⟨n,o⟩,q⟩,c⟩,e⟩,f⟩,g⟩,j⟩,-⟩:=h;exact Be (p:=λl=>Ab KA (tzl l)) ((AxC.of f).ka c e) ((AxC.of g).ka c e) ((AxC.of j).ka c e)
def tzlm1:(if 25<(tzl [(-1:Int)]).length then []else tzl [-1])=[-1]:=O3
abbrev GpT:=(Int×Int)×(SL×List Int)
abbrev Cd (g:GpT):Value:= .agg #[.int .i64 g.1.1,.int .i64 g.1.2,Xx g.2.1]
abbrev qGp (g:GpT):Pc:=Yw 2 wv (Xx g.2.1) g.2.2
abbrev Gp0:GpT:=((0,0),((none,0,0),[]))
abbrev GpU:=Int×Int×List Int
def unP(g:GpT):GpU:=(g.1.1,g.1.2,g.2.2)
def gpZ(D n d:Int)(g h:Zc0):GpU:=(g.1.1,g.1.2.1,fmZ D n d g.1.2.2 h.1.2.2 g.2.1 g.2.2.1 g.2.2.2 h.2.1 h.2.2.1 h.2.2.2)
def Mi(D n d:Int)(a b:List Zf):List GpU:=List.zipWith (gpZ D n d) (Mx a b a) (Mx a b b)
def Oo(a b:List Zf):Int:=if Gc a b=9 then 0 else Gc a b
def Zxl(h:Gc a b≠0)(ps:List Zf):Mx a b ps=[]:=aH h
theorem Zw1{n:Int}(h:Gc a b≠0):Mi D n d a b=[]:=by unfold Mi;rw [Zxl h];rfl
theorem Zlg (a:List Zf)(b:List Zf)(ps:List Zf){ts:List Int}(c:∀k,Qh (ts.getD k 0) (ts.getD (k+1) 0) a=true->Qh (ts.getD k 0) (ts.getD (k+1) 0) b=true->k+1<ts.length->(Bn (ts.getD k 0) (ts.getD (k+1) 0) ps).length=1):∀n,n+1<=ts.length->Kz ts a b n=true->(Zew ts ps n).length=n
 | 0,_,_=>rfl
 | n+1,g,e=>by have f:Kz ts a b (n+1)=(Kz ts a b n && (Qh (ts.getD n 0) (ts.getD (n+1) 0) a && Qh (ts.getD n 0) (ts.getD (n+1) 0) b)):=rfl;rw [f,aO,aO]at e;show(Zew ts ps n ++ Bn _ _ ps).length=_;rw [aW,Zlg _ _ _ c n O1 e.1,c n e.2.1 e.2.2 O1]
theorem Ykb{ps:List Zf}{fr c:Int}(hi:∀g∈ps,Gin g)(h:Yc ps=true)(j:Ep ps<=fr)(k:fr<c)(l:c<=Bc ps)(f:∀g∈ps,¬(fr<g.1.1/\g.1.1<c))(n:Qh fr c ps=true):(Bn fr c ps).length=1:=by have i:=(Zp h).2.1;unfold Bn;rw [aK n,aP,Zq4 (Dt hi h).1 (λe=>by rw [e]at i;simp at i) j k l f]
theorem Zxm(a b:List Zf):Gc a b=9\/Gc a b=0\/Gc a b=7:=by
 unfold Gc;split
 .exact .inl rfl
 .split
  .exact .inr (.inl rfl)
  .exact .inr (.inr rfl)
theorem Ykh(h:Gc a b=0):¬Fj a b>=Fi a b/\Zq7 a b=true:=by
 unfold Gc at h;by_cases c:Fj a b>=Fi a b
 .rw [aK c]at h;exact absurd h O3
 .rw [aH c]at h;cases hk:Zq7 a b with
  | true=>exact⟨c,rfl⟩
  | false=>rw [hk]at h;exact absurd h O3
theorem Yo9(p:∀g∈a,Gin g)(q:∀g∈b,Gin g)(l:Yc a=true)(n:Yc b=true):(Mx a b a).length=(Mx a b b).length/\(Mx a b a).length<=2+a.length+b.length:=by
 by_cases h:Gc a b=0
 .obtain⟨F,r⟩:=Ykh h;have B:=bks a b O1;have w:=B.two;have e:∀ps,Mx a b ps=Zew (Od a b) ps ((Od a b).length-1):=λps=>aK h;have u:=Zlg a b a (ts:=Od a b) (λk s t c=>by obtain⟨f,i,j⟩:=B.lt k c;unfold Fj at f;unfold Fi at j;exact Ykb p l O1 i O1 (λg o=>B.no k c g (.inl o)) s) ((Od a b).length-1) O1 r
  have v:=Zlg a b b (ts:=Od a b) (λk s t c=>by obtain⟨f,i,j⟩:=B.lt k c;unfold Fj at f;unfold Fi at j;exact Ykb q n O1 i O1 (λg o=>B.no k c g (.inr o)) t) ((Od a b).length-1) O1 r
  have G:=Yac a b;rw [e,e,u,v];exact⟨rfl,O1⟩
 .rw [Zxl h,Zxl h];exact⟨rfl,bJ _⟩
theorem Zq6{ps zs:List Zf}(hi:∀g∈ps,Gin g)(r:Yc ps=true)(v:zs.map Ns=Mx a b ps):∀q∈zs,Gin q/\seB q=true:=by
 have k:∀n,∀u∈Zew (Od a b) ps n,∃(fr f:Int) (g:Zf),g∈ps/\Ny fr f g=true/\Cq fr f g=true/\u=Zgl fr f g:=λn=>by
  induction n with
  | zero=>intro u j;cases j
  | succ n w=>
   intro u j;rcases cQ.1 (show u∈Zew (Od a b) ps n ++ _ from j)with h|h
   .exact w u h
   .unfold Bn at h;split at h
    .rename_i s;obtain⟨g,l,rfl⟩:=dH.1 h;obtain⟨c,i⟩:=fA.1 l;exact⟨_,_,g,c,i,cI.1 s g l,rfl⟩
    .cases h
 intro q t;have e:Ns q∈Mx a b ps:=by rw [<-v];exact dH.2 ⟨q,t,rfl⟩
 unfold Mx at e;split at e
 .obtain⟨fr,f,g,c,i,o,p⟩:=k _ _ e;have:=Zjm (hi g c) ((Dt hi r).2.1 g c) i o p;exact⟨this.1,this.2.1⟩
 .cases e
theorem zip_s{α β γ:Type}{f:α->β->γ} : ∀{l:List α} {m:List β} {k:Nat} {x:α} {y:β},l[k]? = some x->m[k]? = some y->(List.zipWith f l m).take (k+1)=(List.zipWith f l m).take k ++ [f x y]
 | [],_,_,_,_,h,_=>by simp at h
 | _::_,[],_,_,_,_,h=>by simp at h
 | a::l,b::m,0,x,y,h,h2=>by simp at h h2;subst h;subst h2;simp
 | a::l,b::m,k+1,x,y,h,h2=>by have:=zip_s (f:=f) (l:=l) (m:=m) (k:=k) (by simpa using h) (by simpa using h2);simp only [nK,lM,this,jA]
def gpY(q:Zf)(g:SL×List Int):GpT:=((q.1.1,q.1.2.1),g)
theorem Yoh{n:Int}{ys:List Zf}{zs:List GpT}{k:Nat}{g:SL×List Int}(l:xs.map Ns=Mx a b a)(o:ys.map Ns=Mx a b b)(h:zs.map unP=(Mi D n d a b).take k)(e:k<xs.length)(c:k<ys.length)(j:g.2=fmZ D n d (xs.getD k G0).1.2.2 (ys.getD k G0).1.2.2 (xs.getD k G0).2.1.2 (xs.getD k G0).2.2.1.2 (xs.getD k G0).2.2.2.2 (ys.getD k G0).2.1.2 (ys.getD k G0).2.2.1.2 (ys.getD k G0).2.2.2.2) :
  (zs ++ [gpY (xs.getD k G0) g]).map unP=(Mi D n d a b).take (k+1):=by
 have f:(Mx a b a)[k]? = some (Ns (xs.getD k G0)):=by rw [<-l,dW,aD e,aC,aD e];rfl
 have i:(Mx a b b)[k]? = some (Ns (ys.getD k G0)):=by rw [<-o,dW,aD c,aC,aD c];rfl
 unfold Mi at h ⊢;rw [zip_s f i,dZ,h,bT,jM];simp only [gpY,unP,gpZ,Ns];rw [j]
theorem gp_all{n:Int}{zs:List GpT}(c:xs.map Ns=Mx a b a)(f:(Mx a b a).length=(Mx a b b).length)(h:zs.map unP=(Mi D n d a b).take xs.length):zs.map unP=Mi D n d a b:=by rw [h,cE];have e:=aL List.length c;rw [aP]at e;unfold Mi;rw [oK];omega
def Yiy(h:Gc a b=9):Oo a b=0:=aK h
def gapE_n(h:¬Gc a b=9):Oo a b=Gc a b:=aH h
theorem Zn4{fr c:Int}(h:Sgo fr c ov x y z):Oc ov:=⟨by have:=h.o1;omega,by have:=h.o2;omega⟩
def Zqg(l:List GpU):Option GpU:=l.find? λg=>Ck g.2.2
def Az(l:List GpU):Int×Int×Bool:=match Zqg l with
 | some g=>(g.1,g.2.1,true)
 | none=>(0,0,false)
theorem fst_n{l:List GpU}(h:∀i,i<l.length->Ck (l.getD i (0,0,[])).2.2=false):Az l=(0,0,false):=by
 have:Zqg l=none:=kO.2 λg c=>by obtain⟨i,hi,rfl⟩:=cY.1 c;have:=h i hi;rw [aC,aD hi]at this;rw [show Ck (l[i]).2.2=false from this];exact dJ
 unfold Az;rw [this]
theorem Zj2(zs:List GpT)(k:Nat):(zs.map unP).getD k (0,0,[])=unP (zs.getD k Gp0):=by rw [aC,dW,aC];cases zs[k]?<;>rfl
def mkS(u:Zc0):Zf:=(u.1,((none,0,0),u.2.1),((none,0,0),u.2.2.1),((none,0,0),u.2.2.2))
theorem Zyc(l:List Zc0):(l.map mkS).map Ns=l:=by rw [lQ];exact List.map_id' _
theorem fst_no{l:List GpU}{zs:List GpT}(h:zs.map unP=l)(c:∀i,i<zs.length->Ck (zs.getD i Gp0).2.2=false):Az l=(0,0,false):=by subst h;exact fst_n λi hi=>by rw [Zj2];exact c i (by rw [aP]at hi;exact hi)
def Ho(D n d:Int)(a b:List Zf):Bool:=decide (Oo a b=0) && !(Az (Mi D n d a b)).2.2
open Go.Proofs
def pPa:Enc Tryz.prog 38 1 Xx:=Enc.flat Tryz.sizeOf38 Tryz.isAgg38 (λ_=>rfl)
def pGp:Enc Tryz.prog 130 3 Cd:=Enc.agg O3 Tryz.sizeOf130 Tryz.isAgg130 (λx=>⟨[.int .i64 x.1.1,.int .i64 x.1.2,Xx x.2.1],rfl,rfl,O11⟩)
@[reducible,instance] def encPaI:EncT Tryz.prog 38 1 Xx:=⟨pPa⟩
@[reducible,instance] def encGpI:EncT Tryz.prog 130 3 Cd:=⟨pGp⟩
def ti_a3:Tryz.prog.info? 190=some Tryz.t190:=O7
end Go.Sky

