/- Rules, arithmetic and contracts: part 15. No conditions but those that each theorem names. -/
import Derived.Test.YtlnoheikolgejaaGreatLa13
set_option linter.all false
namespace Go.Sky
variable{c ts:List Int}{ov x M x0 x1 x2 x3 x4 d G o:Int}{b a r us:List Zj}{q:Zj}{i:Nat}
def Yfm:∀n,n<6->∀j,j<n+1->∀k,k<j+1->(Ph n j:Int)*w60 n j k=60*(Ph (n-k) (j-k):Int):=O6
theorem Zcv(f:Nat->Int)(a:Int):∀m,Yb (λk=>a*f k) m=a*Yb f m
 | 0=>by show(0:Int)=a*0;omega
 | m+1=>by rw [Yk,Yk,Zcv f a m,kK]
theorem Yiv(g:1<=c.length/\c.length<=6){j:Nat}(e:j<c.length):(Ph (c.length-1) j:Int)*ctl c j (j+1)=60*Ka (c.length-1) c j:=by unfold ctl Ka;rw [<-Zcv,<-Zcv];refine Yq λk f=>?_;have:=Yfm (c.length-1) O j O k O;show(Ph (c.length-1) j:Int)*(cf c k*w60 (c.length-1) j k)=60*(cf c k*_);rw [lQ,this,lQ]
theorem Yd9{n j:Nat}(h:j<n+1):(0:Int)<(Ph n j:Int):=by have:=Znl (n:=n) (k:=j) O;omega
theorem Zwc(t:1<=c.length/\c.length<=6) : Zjn c ov=true↔∀j,j<c.length->((Ka (c.length-1) c j).natAbs:Int)<=1048576*ov*(Ph (c.length-1) j:Int):=by
 have f:∀j,j<c.length->((((ctl c j (j+1)).natAbs:Int)<=62914560*ov)↔((Ka (c.length-1) c j).natAbs:Int)<=1048576*ov*(Ph (c.length-1) j:Int)):=λj e=>by
  have p:=Yiv t e;have k:=Yd9 (n:=c.length-1) (j:=j) O;have l:=aL Int.natAbs p;rw [cJ,cJ,eC]at l;generalize (ctl c j (j+1)).natAbs=x at *;generalize (Ka (c.length-1) c j).natAbs=y at *;generalize Ph (c.length-1) j=q at *;have m:(q:Int)*(x:Int)=60*(y:Int):=by exact_mod_cast l
  constructor
  .intro h;have g:=iH h (eE k);rw [m]at g;have s:(q:Int)*(62914560*ov)=60*(1048576*ov*q):=O4;omega
  .intro h;have g:60*(y:Int)<=(q:Int)*(62914560*ov):=by have s:(q:Int)*(62914560*ov)=60*(1048576*ov*q):=O4;omega
   rw [<-m]at g;exact lL g k
 constructor
 .intro h j e;unfold Zjn at h;rw [bW]at h;exact(f j e).1 (bT (h j (iC.2 e)))
 .intro h;exact Yeh λj e=>(f j e).2 (h j e)
def Xe{b:Int} : ((x.natAbs:Int)<=b)↔(-b<=x/\x<=b):=O
def cfb0(f:0<=M)(e:-(M*1)<=(x0*1)/\(x0*1)<=M*1):(-(2047*M)<=x0/\x0<=2047*M):=O
def bre00(c:List Int):Ka 0 c 0=cf c 0*1:=O11
theorem cfb1(g:0<=M)(e:-(M*1)<=(x0*1)/\(x0*1)<=M*1)(f:-(M*1)<=(x0*1+x1*1)/\(x0*1+x1*1)<=M*1):(-(2047*M)<=x0/\x0<=2047*M)/\(-(2047*M)<=x1/\x1<=2047*M):=by refine⟨⟨?_,?_⟩,⟨?_,?_⟩⟩<;>omega
def bre10(c:List Int):Ka 1 c 0=cf c 0*1:=O11
def bre11(c:List Int):Ka 1 c 1=cf c 0*1+cf c 1*1:=O11
theorem cfb2(h:0<=M)(e:-(M*1)<=(x0*1)/\(x0*1)<=M*1)(f:-(M*2)<=(x0*2+x1*1)/\(x0*2+x1*1)<=M*2)(g:-(M*1)<=(x0*1+x1*1+x2*1)/\(x0*1+x1*1+x2*1)<=M*1):(-(2047*M)<=x0/\x0<=2047*M)/\(-(2047*M)<=x1/\x1<=2047*M)/\(-(2047*M)<=x2/\x2<=2047*M):=by refine⟨⟨?_,?_⟩,⟨?_,?_⟩,⟨?_,?_⟩⟩<;>omega
def bre20(c:List Int):Ka 2 c 0=cf c 0*1:=O11
def bre21(c:List Int):Ka 2 c 1=cf c 0*2+cf c 1*1:=O11
def bre22(c:List Int):Ka 2 c 2=cf c 0*1+cf c 1*1+cf c 2*1:=O11
theorem cfb3(j:0<=M)(e:-(M*1)<=(x0*1)/\(x0*1)<=M*1)(f:-(M*3)<=(x0*3+x1*1)/\(x0*3+x1*1)<=M*3)(g:-(M*3)<=(x0*3+x1*2+x2*1)/\(x0*3+x1*2+x2*1)<=M*3)(h:-(M*1)<=(x0*1+x1*1+x2*1+x3*1)/\(x0*1+x1*1+x2*1+x3*1)<=M*1):(-(2047*M)<=x0/\x0<=2047*M)/\(-(2047*M)<=x1/\x1<=2047*M)/\(-(2047*M)<=x2/\x2<=2047*M)/\(-(2047*M)<=x3/\x3<=2047*M):=by refine⟨⟨?_,?_⟩,⟨?_,?_⟩,⟨?_,?_⟩,⟨?_,?_⟩⟩<;>omega
def bre30(c:List Int):Ka 3 c 0=cf c 0*1:=O11
def bre31(c:List Int):Ka 3 c 1=cf c 0*3+cf c 1*1:=O11
def bre32(c:List Int):Ka 3 c 2=cf c 0*3+cf c 1*2+cf c 2*1:=O11
def bre33(c:List Int):Ka 3 c 3=cf c 0*1+cf c 1*1+cf c 2*1+cf c 3*1:=O11
theorem cfb4(k:0<=M)(e:-(M*1)<=(x0*1)/\(x0*1)<=M*1)(f:-(M*4)<=(x0*4+x1*1)/\(x0*4+x1*1)<=M*4)(g:-(M*6)<=(x0*6+x1*3+x2*1)/\(x0*6+x1*3+x2*1)<=M*6)(h:-(M*4)<=(x0*4+x1*3+x2*2+x3*1)/\(x0*4+x1*3+x2*2+x3*1)<=M*4)(j:-(M*1)<=(x0*1+x1*1+x2*1+x3*1+x4*1)/\(x0*1+x1*1+x2*1+x3*1+x4*1)<=M*1):(-(2047*M)<=x0/\x0<=2047*M)/\(-(2047*M)<=x1/\x1<=2047*M)/\(-(2047*M)<=x2/\x2<=2047*M)/\(-(2047*M)<=x3/\x3<=2047*M)/\(-(2047*M)<=x4/\x4<=2047*M):=by refine⟨⟨?_,?_⟩,⟨?_,?_⟩,⟨?_,?_⟩,⟨?_,?_⟩,⟨?_,?_⟩⟩<;>omega
def bre40(c:List Int):Ka 4 c 0=cf c 0*1:=O11
def bre41(c:List Int):Ka 4 c 1=cf c 0*4+cf c 1*1:=O11
def bre42(c:List Int):Ka 4 c 2=cf c 0*6+cf c 1*3+cf c 2*1:=O11
def bre43(c:List Int):Ka 4 c 3=cf c 0*4+cf c 1*3+cf c 2*2+cf c 3*1:=O11
def bre44(c:List Int):Ka 4 c 4=cf c 0*1+cf c 1*1+cf c 2*1+cf c 3*1+cf c 4*1:=O11
theorem cfb5{e:Int}(m:0<=M)(f:-(M*1)<=(x0*1)/\(x0*1)<=M*1)(g:-(M*5)<=(x0*5+x1*1)/\(x0*5+x1*1)<=M*5)(h:-(M*10)<=(x0*10+x1*4+x2*1)/\(x0*10+x1*4+x2*1)<=M*10)(j:-(M*10)<=(x0*10+x1*6+x2*3+x3*1)/\(x0*10+x1*6+x2*3+x3*1)<=M*10)(k:-(M*5)<=(x0*5+x1*4+x2*3+x3*2+x4*1)/\(x0*5+x1*4+x2*3+x3*2+x4*1)<=M*5)(l:-(M*1)<=(x0*1+x1*1+x2*1+x3*1+x4*1+e*1)/\(x0*1+x1*1+x2*1+x3*1+x4*1+e*1)<=M*1):(-(2047*M)<=x0/\x0<=2047*M)/\(-(2047*M)<=x1/\x1<=2047*M)/\(-(2047*M)<=x2/\x2<=2047*M)/\(-(2047*M)<=x3/\x3<=2047*M)/\(-(2047*M)<=x4/\x4<=2047*M)/\(-(2047*M)<=e/\e<=2047*M):=by refine⟨⟨?_,?_⟩,⟨?_,?_⟩,⟨?_,?_⟩,⟨?_,?_⟩,⟨?_,?_⟩,⟨?_,?_⟩⟩<;>omega
def bre50(c:List Int):Ka 5 c 0=cf c 0*1:=O11
def bre51(c:List Int):Ka 5 c 1=cf c 0*5+cf c 1*1:=O11
def bre52(c:List Int):Ka 5 c 2=cf c 0*10+cf c 1*4+cf c 2*1:=O11
def bre53(c:List Int):Ka 5 c 3=cf c 0*10+cf c 1*6+cf c 2*3+cf c 3*1:=O11
def bre54(c:List Int):Ka 5 c 4=cf c 0*5+cf c 1*4+cf c 2*3+cf c 3*2+cf c 4*1:=O11
def bre55(c:List Int):Ka 5 c 5=cf c 0*1+cf c 1*1+cf c 2*1+cf c 3*1+cf c 4*1+cf c 5*1:=O11
theorem cf_brS{n:Nat}(u:n<6)(w:c.length<=n+1)(h:∀j,j<n+1->((Ka n c j).natAbs:Int)<=M*(Ph n j:Int))(k:Nat):((cf c k).natAbs:Int)<=2047*M:=by
 have p:0<=M:=by have f:=h 0 O;rw [Zjh]at f;omega
 by_cases v:k<n+1
 .rw [Xe]
  match n,u with
  | 0,_=>
   have f:=Xe.1 (h 0 O3);rw [bre00,show(Ph 0 0:Int)=1 from rfl]at f;have e:=cfb0 p f;obtain rfl:k=0:=O;exact e
  | 1,_=>
   have f:=Xe.1 (h 0 O3);rw [bre10,show(Ph 1 0:Int)=1 from rfl]at f;have g:=Xe.1 (h 1 O3);rw [bre11,show(Ph 1 1:Int)=1 from rfl]at g;have e:=cfb1 p f g;rcases(show k=0\/k=1 by omega)with rfl|rfl
   .exact e.1
   .exact e.2
  | 2,_=>
   have f:=Xe.1 (h 0 O3);rw [bre20,show(Ph 2 0:Int)=1 from rfl]at f;have g:=Xe.1 (h 1 O3);rw [bre21,show(Ph 2 1:Int)=2 from rfl]at g;have l:=Xe.1 (h 2 O3);rw [bre22,show(Ph 2 2:Int)=1 from rfl]at l;have e:=cfb2 p f g l;rcases(show k=0\/k=1\/k=2 by omega)with rfl|rfl|rfl
   .exact e.1
   .exact e.2.1
   .exact e.2.2
  | 3,_=>
   have f:=Xe.1 (h 0 O3);rw [bre30,show(Ph 3 0:Int)=1 from rfl]at f;have g:=Xe.1 (h 1 O3);rw [bre31,show(Ph 3 1:Int)=3 from rfl]at g;have l:=Xe.1 (h 2 O3);rw [bre32,show(Ph 3 2:Int)=3 from rfl]at l;have m:=Xe.1 (h 3 O3);rw [bre33,show(Ph 3 3:Int)=1 from rfl]at m;have e:=cfb3 p f g l m;rcases(show k=0\/k=1\/k=2\/k=3 by omega)with rfl|rfl|rfl|rfl
   .exact e.1
   .exact e.2.1
   .exact e.2.2.1
   .exact e.2.2.2
  | 4,_=>
   have f:=Xe.1 (h 0 O3);rw [bre40,show(Ph 4 0:Int)=1 from rfl]at f;have g:=Xe.1 (h 1 O3);rw [bre41,show(Ph 4 1:Int)=4 from rfl]at g;have l:=Xe.1 (h 2 O3);rw [bre42,show(Ph 4 2:Int)=6 from rfl]at l;have m:=Xe.1 (h 3 O3);rw [bre43,show(Ph 4 3:Int)=4 from rfl]at m;have s:=Xe.1 (h 4 O3);rw [bre44,show(Ph 4 4:Int)=1 from rfl]at s;have e:=cfb4 p f g l m s;rcases(show k=0\/k=1\/k=2\/k=3\/k=4 by omega)with rfl|rfl|rfl|rfl|rfl
   .exact e.1
   .exact e.2.1
   .exact e.2.2.1
   .exact e.2.2.2.1
   .exact e.2.2.2.2
  | 5,_=>
   have f:=Xe.1 (h 0 O3);rw [bre50,show(Ph 5 0:Int)=1 from rfl]at f;have g:=Xe.1 (h 1 O3);rw [bre51,show(Ph 5 1:Int)=5 from rfl]at g;have l:=Xe.1 (h 2 O3);rw [bre52,show(Ph 5 2:Int)=10 from rfl]at l;have m:=Xe.1 (h 3 O3);rw [bre53,show(Ph 5 3:Int)=10 from rfl]at m;have s:=Xe.1 (h 4 O3);rw [bre54,show(Ph 5 4:Int)=5 from rfl]at s;have t:=Xe.1 (h 5 O3);rw [bre55,show(Ph 5 5:Int)=1 from rfl]at t;have e:=cfb5 p f g l m s t;rcases(show k=0\/k=1\/k=2\/k=3\/k=4\/k=5 by omega)with rfl|rfl|rfl|rfl|rfl|rfl
   .exact e.1
   .exact e.2.1
   .exact e.2.2.1
   .exact e.2.2.2.1
   .exact e.2.2.2.2.1
   .exact e.2.2.2.2.2
 .rw [Yl O];simp;omega
structure AxC (c:List Int) (ov:Int):Prop where
 l:1<=c.length/\c.length<=6
 t:¬(1<c.length/\c.getD (c.length-1) 0=0)
 b:∀j,j<c.length->((Ka (c.length-1) c j).natAbs:Int)<=1048576*ov*(Ph (c.length-1) j:Int)
theorem AxC.of(h:axB c ov=true):AxC c ov:=by unfold axB at h;simp only [aP,fY,kB,cL,iG]at h;have g:1<=c.length/\c.length<=6:=⟨h.1.1.1,h.1.1.2⟩;exact⟨g,λf=>by rcases h.1.2 with e|e;exact e f.1;exact e f.2,(Zwc g).1 h.2⟩
def AxC.to(h:AxC c ov):axB c ov=true:=Yex h.l.1 h.l.2 h.t ((Zwc h.l).2 h.b)
def tzl_nz(e:c.getD (c.length-1) 0≠0):tzl c=c:=Cw (.inr e)
theorem ax_tzl(h:AxC c ov):(tzl c=c)\/c=[0]:=by
 by_cases e:c.getD (c.length-1) 0=0
 .have j:c.length=1:=by
   have k:=h.l;have f:=h.t;by_cases g:1<c.length
   .exact absurd ⟨g,e⟩ f
   .omega
  right
  match c,j with
  | [x],_=>simp at e;rw [e]
 .exact .inl (tzl_nz e)
theorem Zd2(h:AxC c ov){a b:Int}{t u:Rat}(f:t*(d:Rat)=(a:Rat)+(b:Rat)*u):Zb (Oa c a b d) u=(d:Rat)^5*Zb c t:=by
 unfold Oa;rw [Zrw];rcases ax_tzl h with e|e
 .have g:=h.l;rw [e,Zh7 a b d f O,Zbm];have:(d:Rat)^5=(d:Rat)^(6-c.length)*(d:Rat)^(c.length-1):=by rw [<-Zwm];congr 1;omega
  rw [this];grind
 .subst e;rw [show tzl [0]=[]from by decide,show Le [] a b d=[]from rfl];show _*(0:Rat)=_*(((0:Int):Rat)+t*0);push_cast;grind
def Zel (c:List Int)(a b d:Int):(Oa c a b d).length<=c.length:=aB Mp (aB (Zc8 _ _ _ _) (Kl c))
theorem Zwb(h:AxC c ov){a b:Int}(f:0<=a)(g:0<=b)(e:a+b<=d)(k:0<d):∀j,j<c.length->((Ka (c.length-1) (Oa c a b d) j).natAbs:Int)<=1048576*(ov*d^5)*(Ph (c.length-1) j:Int):=λj l=>by have v:=h.l;have s:=Zel c a b d;have:=Yjm (c:=c) (X:=Oa c a b d) (n:=c.length-1) (m:=5) (B:=1048576*ov) O O f g e k (λt u p=>Zd2 h p) (λj l=>h.b j O) j O;rw [eT]at this;rw [eT];rw [eT,<-eT ov]at this;exact this
theorem cf_cmp(h:AxC c ov){a b:Int}(f:0<=a)(g:0<=b)(e:a+b<=d)(l:0<d)(k:Nat):((cf (Oa c a b d) k).natAbs:Int)<=ov*d^5*2146435072:=by have s:=h.l;have m:=Zel c a b d;have:=cf_brS (n:=c.length-1) O (c:=Oa c a b d) O (M:=1048576*(ov*d^5)) (λj p=>Zwb h f g e l j O) k;omega
theorem Zz5{g:Zj}(h:seB g=true):AxC g.2.1.2 g.1.2.2/\AxC g.2.2.1.2 g.1.2.2/\AxC g.2.2.2.2 g.1.2.2:=by have e:Bj g.1.1 g.1.2.1 g.1.2.2 g.2.1.2 g.2.2.1.2 g.2.2.2.2=true:=h;unfold Bj at e;simp only [aP]at e;exact⟨.of e.1.1.1.2,.of e.1.1.2,.of e.1.2⟩
theorem Ydw{fr e:Int}{g:Zj}(f:SgG g)(h:Kg fr e g=true):0<=cA fr g-g.1.1/\0<cB e g-cA fr g/\(cA fr g-g.1.1)+(cB e g-cA fr g)<=g.1.2.1-g.1.1/\0<g.1.2.1-g.1.1:=by have l:=bT h;have j:=f.t1;have k:=f.t2;unfold cA cB at *;exact⟨O,O,O,O⟩
theorem Ybl{fr v:Int}{g:Zj}(hi:Gin g)(hs:seB g=true)(h:Kg fr v g=true):MdG fr v g:=by
 have f:SgG g:=Hr hi hs;obtain⟨B,D,F⟩:=Zz5 hs;obtain⟨H,I,N,P⟩:=Ydw f h;obtain⟨t,u,-,-⟩:=cut_b f h;have W:=f.t3;have V:=f.t1;have R:=f.o1;have S:=f.o2;have j:1<=g.1.2.1-g.1.1/\g.1.2.1-g.1.1<=3600000:=⟨O,O⟩;have w:=Znk f.hx f.lx t u j;have y:=Znk f.hy f.ly t u j;have z:=Znk f.hz f.lz t u j;have s:0<cO g:=gW O (kN O);have n:((cO g).natAbs:Int)=cO g:=O;have m:∀{c:List Int},AxC c g.1.2.2->∀k,(cf (cX fr v g c) k).natAbs<=(cO g).natAbs*2146435072:=λQ k=>by
  have:=cf_cmp Q H (eE I) N P k;have e:(((cO g).natAbs*2146435072:Nat):Int)=cO g*2146435072:=by rw [fP,n];rfl
  refine lB.1 ?_;rw [e];exact this
 refine⟨s,?_,λi=>?_,λi=>?_,λi k=>?_⟩
 .have Y:bl g.1.2.2.natAbs<=40:=(Qg 40 _).2 O;have Z:=Zku j;have:=Xg g.1.2.2 ((g.1.2.1-g.1.1)^5);show bl (g.1.2.2*(g.1.2.1-g.1.1)^5).natAbs<=1000;omega
 .exact Ft (p:=λl:List Int=>Sz 1000 l) w.2.2.2.2.2.2.1 y.2.2.2.2.2.2.1 z.2.2.2.2.2.2.1
 .exact Ft (p:=λl:List Int=>l.length<=6) w.2.2.2.2.2.2.2 y.2.2.2.2.2.2.2 z.2.2.2.2.2.2.2
 .exact Ft (p:=λl:List Int=>(cf l k).natAbs<=(cO g).natAbs*2146435072) (m B k) (m D k) (m F k)
theorem Yhr(h:AxC c ov)(m:c.getD (c.length-1) 0≠0){a b:Int}(s:0<b)(w:0<d):(Oa c a b d).length=c.length:=by
 have B:=h.l;have z:=Zel c a b d;rcases bE (Oa c a b d).length c.length with q|q
 .exfalso;have v:(b:Rat)≠0:=by
    have:(0:Rat)<(b:Rat):=by exact_mod_cast s
    grind
  have y:(d:Rat)≠0:=by
    have:(0:Rat)<(d:Rat):=by exact_mod_cast w
    grind
  have l:∀t:Rat,t*(d:Rat)=(a:Rat)+(b:Rat)*((t*d-a)/b):=λt=>O4;by_cases j:(Oa c a b d).length=0
  .have n:=aE j;have:∀t:Rat,Zb c t=0:=λt=>by
    have e:=Zd2 h (l t);rw [n]at e;have f:(d:Rat)^5*Zb c t=0:=e.symm;have k:(d:Rat)^5≠0:=by rw [show(d:Rat)^5=d*d*d*d*d by rw [dK,dK,dK,dK,dK,eG];grind];grind
    grind
   exact m (Zl6 this _)
  .have g:∀t:Rat,Zb ((Le (Oa c a b d) (-a) d b).map λq=>1*q) t=Zb (c.map λq=>b^((Oa c a b d).length-1)*d^5*q) t:=λt=>by rw [Zg,Zg];have e:=Zd2 h (l t);have f:=Zh7 (p:=Oa c a b d) (-a) d b (t:=(t*d-a)/b) (u:=t) (by push_cast;grind) j;rw [f,e];push_cast;rw [<-Zbm,<-Zbm];push_cast;grind
   have e:=Ox g (c.length-1);rw [Fo,Fo,Yl (by have:=Zc8 (Oa c a b d) (-a) d b;omega)]at e;have f:b^((Oa c a b d).length-1)*d^5≠0:=bC (Int.pow_ne_zero O) (Int.pow_ne_zero O);have k:b^((Oa c a b d).length-1)*d^5*cf c (c.length-1)=0:=O;rcases eU.1 k with q|q
   .exact f q
   .exact m q
 .omega
theorem Zs0{X:List Int}(f:0<G)(e:∀x∈X,G∣x)(i:Nat):cf (Fz X G) i*G=cf X i:=by
 unfold Fz;split
 .rename_i h;rw [aE h]
  match i with
  | 0=>show(0:Int)*G=cf [] 0;rw [cY];rfl
  | i+1=>show(0:Int)*G=cf [] (i+1);rw [cY];rfl
 .rw [Zbj O7];by_cases hi:i<X.length
  .have:cf X i∈X:=Zk hi;exact iA (e _ this)
  .rw [Yl O];simp
theorem Ygt{X:List Int}(e:0<G)(f:∀x∈X,G∣x)(u:Rat):Zb (Fz X G) u*(G:Rat)=Zb X u:=by rw [jY,<-Zg];exact Pv u _ _ λi=>by rw [Fo,dJ,Zs0 e f]
theorem Zf3(f g:Nat->Int)(a:Int)(h:∀k,f k*a=g k):∀m,Yb f m*a=Yb g m
 | 0=>cY _
 | m+1=>by rw [Yk,Yk,lO,Zf3 f g a h m,h]
theorem Yjl{X:List Int}(e:0<G)(f:∀x∈X,G∣x)(n j:Nat):Ka n (Fz X G) j*G=Ka n X j:=by unfold Ka;exact Zf3 _ _ _ (λk=>by rw [Int.mul_right_comm,Zs0 e f]) _
theorem Yhq(X:List Int)(G:Int):(Fz X G).length=max X.length 1:=by
 unfold Fz;split
 .rename_i h;rw [h];rfl
 .rw [aQ];omega
theorem Zta(h:AxC c ov){a b:Int}(D:0<=a)(u:0<b)(n:a+b<=d)(v:0<d)(m:0<G)(y:∀x∈Oa c a b d,G∣x)(H:o*G=ov*d^5):AxC (Fz (Oa c a b d) G) o/\(Fz (Oa c a b d) G).length=c.length:=by
 have N:=h.l;have f:(Fz (Oa c a b d) G).length=c.length/\(1<c.length->(Oa c a b d).length=c.length):=by
  rw [Yhq];by_cases z:c.getD (c.length-1) 0=0
  .have:=h.t;have F:=Zel c a b d;have g:c.length=1:=by
    by_cases k:1<c.length
    .exact absurd ⟨k,z⟩ this
    .omega
   exact⟨O,λk=>O⟩
  .have:=Yhr h z (a:=a) u v;exact⟨O,λ_=>this⟩
 refine⟨⟨O,λ⟨g,p⟩=>?_,λj w=>?_⟩,f.1⟩
 .rw [f.1]at g p;have k:cf (Fz (Oa c a b d) G) (c.length-1)=0:=p;have s:=Zs0 m y (c.length-1);rw [k,cY]at s;have l:=f.2 g;have I:Tr (Oa c a b d):=Ob;have t:=I.mem (λe=>by rw [e]at l;simp at l;omega);rw [l]at t;exact t s.symm
 .rw [f.1]at w ⊢;have g:=Zwb h D (eE u) n v j w;rw [<-Yjl m y,<-H,cJ]at g;have B:((G.natAbs:Nat):Int)=G:=O;push_cast at g;rw [B]at g;refine Int.le_of_mul_le_mul_right (a:=G) ?_ m;refine Int.le_trans g (nY ?_);grind
theorem Zp8{G:Int}(e:0<G):∀(l:List Int) (o:Int),Mg (G*o) (l.map (G*·))=G*Mg o l
 | [],o=>rfl
 | x::l,o=>by show Mg ((Int.gcd (G*o) (G*x):Nat):Int) (l.map (G*·))=G*Mg ((Int.gcd o x:Nat):Int) l;rw [Int.gcd_mul_left];push_cast;rw [show((G.natAbs:Nat):Int)=G by omega];exact Zp8 e l _
theorem Zi3{X:List Int}(g:0<G)(e:∀x∈X,G∣x)(j:0<=o):Mg o ((Fz X G).map (G*·))=Mg o X:=by
 unfold Fz;split
 .rename_i h;rw [aE h];show((Int.gcd o (G*0):Nat):Int)=o;rw [dS,Int.gcd_zero_right];omega
 .congr 1;rw [kZ]
  conv=>rhs;rw [<-oC X]
  refine kV λx f=>?_;show G*(x/G)=x;exact kL (e x f)
theorem Yh5{X Y Z:List Int}{f:Int}(g:0<o)(e:0<Hj o X Y Z)(m:∀x∈X,Hj o X Y Z∣x)(n:∀x∈Y,Hj o X Y Z∣x)(p:∀x∈Z,Hj o X Y Z∣x)(h:Hj o X Y Z*f=o) :
  Mg f (Fz X (Hj o X Y Z) ++ Fz Y (Hj o X Y Z) ++ Fz Z (Hj o X Y Z))=1:=by
 have j:=Zp8 e (Fz X (Hj o X Y Z) ++ Fz Y (Hj o X Y Z) ++ Fz Z (Hj o X Y Z)) f;rw [h,cE,cE,Gf,Gf,Zi3 e m (eE g),Zi3 e n (Zeo _ _ (eE g)),Zi3 e p (Zeo _ _ (Zeo _ _ (eE g)))]at j;have k:Hj o X Y Z=Mg (Mg (Mg o X) Y) Z:=by show Mg o (X ++ Y ++ Z)=_;rw [Gf,Gf]
 rw [<-k]at j;generalize Mg f _=r at *;have l:Hj o X Y Z*r=Hj o X Y Z*1:=O;exact gO O l
structure Prt (q g:Zj) (G:Int):Prop where
 g0:0<G
 a0:0<=q.1.1-g.1.1
 b0:0<q.1.2.1-q.1.1
 ab:(q.1.1-g.1.1)+(q.1.2.1-q.1.1)<=g.1.2.1-g.1.1
 o:q.1.2.2*G=g.1.2.2*(g.1.2.1-g.1.1)^5
 x:∀i (t u:Rat),t*((g.1.2.1-g.1.1:Int):Rat)=((q.1.1-g.1.1:Int):Rat)+((q.1.2.1-q.1.1:Int):Rat)*u->Zb (Zt i q.2.1.2 q.2.2.1.2 q.2.2.2.2) u*(G:Rat)=((g.1.2.1-g.1.1:Int):Rat)^5*Zb (Zt i g.2.1.2 g.2.2.1.2 g.2.2.2.2) t
theorem Zsc{X:List Int}(h:∀k,(X.getD k 0/G).natAbs<=9223372036854775807):∀a∈Fz X G,Me a:=λa e=>by
 unfold Fz at e;split at e
 .rw [bZ.1 e];exact⟨O3,O3⟩
 .obtain⟨x,g,rfl⟩:=eQ.1 e;obtain⟨k,f⟩:=mO.1 g;have:=h k;rw [aC,f]at this;simp only [eI]at this;exact⟨O,O⟩
theorem Zma{a b:Int}{t u:Rat}(f:AxC c ov)(e:0<G)(g:∀x∈Oa c a b d,G∣x)(h:t*(d:Rat)=(a:Rat)+(b:Rat)*u):Zb (Fz (Oa c a b d) G) u*(G:Rat)=(d:Rat)^5*Zb c t:=by rw [Ygt e g];exact Zd2 f h
theorem Yiu{fr e:Int}{g:Zj}(hi:Gin g)(hs:seB g=true)(hp:Kg fr e g=true)(hk:Zfv fr e g=true)(hu:Mb q=Ydy fr e g):Gin q/\seB q=true/\Prt q g (cG fr e g):=by
 have R:SgG g:=Hr hi hs;obtain⟨a1,a2,a3⟩:=Zz5 hs;obtain⟨D,F,H,N⟩:=Ydw R hp;have Q:=Ybl hi hs hp;obtain⟨g1,⟨p,a0⟩,P⟩:=Q.g;have m:0<cG fr e g:=g1;have v:∀x∈cX fr e g g.2.1.2,cG fr e g∣x:=P 0 O3;have w:∀x∈cX fr e g g.2.2.1.2,cG fr e g∣x:=P 1 O3;have y:∀x∈cX fr e g g.2.2.2.2,cG fr e g∣x:=P 2 O3;have z:cG fr e g*p=cO g:=a0.symm;have s:cO g/cG fr e g=p:=by rw [<-z];exact jK _ O
 have f:cO g/cG fr e g<=4294967296:=bT hk;have a4:0<cO g:=Q.o;have a8:0<p:=by
  by_cases h:0<p
  .exact h
  .have:=gK (eE m) (show p<=0 by omega);omega
 have n:p*cG fr e g=g.1.2.2*(g.1.2.1-g.1.1)^5:=by rw [dJ];exact z
 obtain⟨x1,x2⟩:=Zta a1 D F H N m v n;obtain⟨y1,y2⟩:=Zta a2 D F H N m w n;obtain⟨z1,z2⟩:=Zta a3 D F H N m y n;obtain⟨⟨qf,qt,qo⟩,⟨sx,qx⟩,⟨sy,qy⟩,⟨sz,qz⟩⟩:=q;unfold Mb Ydy at hu;rw [mdO_t f,Zk4 f,Zk4 f,Zk4 f,s]at hu;injection hu with h1 h2;injection h1 with hf h1;injection h1 with ht I;injection h2 with hx h2;injection h2 with hy hz;dsimp only at hf ht I hx hy hz;subst hf ht hx hy hz;have I:=I.symm;subst I;have j:=λi (hi:i<3) k=>Q.fit (i:=i) f hi k;have a6:=bT hp;have a9:=R.t1;have b0:=R.t3;have S:∀a∈Fz (cX fr e g g.2.1.2) (cG fr e g),Me a:=Zsc (j 0 O3);have V:∀a∈Fz (cX fr e g g.2.2.1.2) (cG fr e g),Me a:=Zsc (j 1 O3);have W:∀a∈Fz (cX fr e g g.2.2.2.2) (cG fr e g),Me a:=Zsc (j 2 O3);have a7:p<=4294967296:=s▸f;have a5:0<=cA fr g/\cB e g<=3600000:=by unfold cA cB;exact⟨O,O⟩
 have i1:Me (cA fr g):=⟨O,O⟩;have i2:Me (cB e g):=⟨O,O⟩;have i3:Me p:=⟨O,O⟩;refine⟨⟨i1,i2,i3,S,V,W⟩,?_,⟨m,D,F,by show(cA fr g-g.1.1)+(cB e g-cA fr g)<=_;exact H,n,λi t u B=>?_⟩⟩
 .show Bj (cA fr g) (cB e g) p _ _ _=true;unfold Bj Zwt;simp only [aP,cL];exact⟨⟨⟨⟨⟨⟨⟨⟨O,O⟩,O⟩,O⟩,O⟩,x1.to⟩,y1.to⟩,z1.to⟩,Yh5 a4 m v w y z⟩
 .have l:t*((g.1.2.1-g.1.1:Int):Rat)=((cA fr g-g.1.1:Int):Rat)+((cB e g-cA fr g:Int):Rat)*u:=B;clear B;have k0:=Zma a1 m v l;have k1:=Zma a2 m w l;have k2:=Zma a3 m y l;dsimp only;generalize Fz (cX fr e g g.2.1.2) (cG fr e g)=X at *;generalize Fz (cX fr e g g.2.2.1.2) (cG fr e g)=Y at *;generalize Fz (cX fr e g g.2.2.2.2) (cG fr e g)=Z at *;generalize ((cG fr e g:Int):Rat)=GG at *;generalize ((g.1.2.1-g.1.1:Int):Rat)^5=DD at *
  match i with
  | 0=>exact k0
  | 1=>exact k1
  | i+2=>exact k2
def cgb0(f:0<=M)(e:-(M*1)<=(x0*1)/\(x0*1)<=M*1):(-(80*M)<=x0/\x0<=80*M):=O
theorem cgb1(g:0<=M)(e:-(M*1)<=(x0*1)/\(x0*1)<=M*1)(f:-(M*1)<=(x0*1+x1*1)/\(x0*1+x1*1)<=M*1):(-(80*M)<=x0/\x0<=80*M)/\(-(80*M)<=x1/\x1<=80*M):=by refine⟨⟨?_,?_⟩,⟨?_,?_⟩⟩<;>omega
theorem cgb2(h:0<=M)(e:-(M*1)<=(x0*1)/\(x0*1)<=M*1)(f:-(M*2)<=(x0*2+x1*1)/\(x0*2+x1*1)<=M*2)(g:-(M*1)<=(x0*1+x1*1+x2*1)/\(x0*1+x1*1+x2*1)<=M*1):(-(80*M)<=x0/\x0<=80*M)/\(-(80*M)<=x1/\x1<=80*M)/\(-(80*M)<=x2/\x2<=80*M):=by refine⟨⟨?_,?_⟩,⟨?_,?_⟩,⟨?_,?_⟩⟩<;>omega
theorem cgb3(j:0<=M)(e:-(M*1)<=(x0*1)/\(x0*1)<=M*1)(f:-(M*3)<=(x0*3+x1*1)/\(x0*3+x1*1)<=M*3)(g:-(M*3)<=(x0*3+x1*2+x2*1)/\(x0*3+x1*2+x2*1)<=M*3)(h:-(M*1)<=(x0*1+x1*1+x2*1+x3*1)/\(x0*1+x1*1+x2*1+x3*1)<=M*1):(-(80*M)<=x0/\x0<=80*M)/\(-(80*M)<=x1/\x1<=80*M)/\(-(80*M)<=x2/\x2<=80*M)/\(-(80*M)<=x3/\x3<=80*M):=by refine⟨⟨?_,?_⟩,⟨?_,?_⟩,⟨?_,?_⟩,⟨?_,?_⟩⟩<;>omega
theorem cgb4(k:0<=M)(e:-(M*1)<=(x0*1)/\(x0*1)<=M*1)(f:-(M*4)<=(x0*4+x1*1)/\(x0*4+x1*1)<=M*4)(g:-(M*6)<=(x0*6+x1*3+x2*1)/\(x0*6+x1*3+x2*1)<=M*6)(h:-(M*4)<=(x0*4+x1*3+x2*2+x3*1)/\(x0*4+x1*3+x2*2+x3*1)<=M*4)(j:-(M*1)<=(x0*1+x1*1+x2*1+x3*1+x4*1)/\(x0*1+x1*1+x2*1+x3*1+x4*1)<=M*1):(-(80*M)<=x0/\x0<=80*M)/\(-(80*M)<=x1/\x1<=80*M)/\(-(80*M)<=x2/\x2<=80*M)/\(-(80*M)<=x3/\x3<=80*M)/\(-(80*M)<=x4/\x4<=80*M):=by refine⟨⟨?_,?_⟩,⟨?_,?_⟩,⟨?_,?_⟩,⟨?_,?_⟩,⟨?_,?_⟩⟩<;>omega
theorem cgb5{e:Int}(m:0<=M)(f:-(M*1)<=(x0*1)/\(x0*1)<=M*1)(g:-(M*5)<=(x0*5+x1*1)/\(x0*5+x1*1)<=M*5)(h:-(M*10)<=(x0*10+x1*4+x2*1)/\(x0*10+x1*4+x2*1)<=M*10)(j:-(M*10)<=(x0*10+x1*6+x2*3+x3*1)/\(x0*10+x1*6+x2*3+x3*1)<=M*10)(k:-(M*5)<=(x0*5+x1*4+x2*3+x3*2+x4*1)/\(x0*5+x1*4+x2*3+x3*2+x4*1)<=M*5)(l:-(M*1)<=(x0*1+x1*1+x2*1+x3*1+x4*1+e*1)/\(x0*1+x1*1+x2*1+x3*1+x4*1+e*1)<=M*1):(-(80*M)<=x0/\x0<=80*M)/\(-(80*M)<=x1/\x1<=80*M)/\(-(80*M)<=x2/\x2<=80*M)/\(-(80*M)<=x3/\x3<=80*M)/\(-(80*M)<=x4/\x4<=80*M)/\(-(80*M)<=e/\e<=80*M):=by refine⟨⟨?_,?_⟩,⟨?_,?_⟩,⟨?_,?_⟩,⟨?_,?_⟩,⟨?_,?_⟩,⟨?_,?_⟩⟩<;>omega
theorem cg_brS{n:Nat}(u:n<6)(w:c.length<=n+1)(h:∀j,j<n+1->((Ka n c j).natAbs:Int)<=M*(Ph n j:Int))(k:Nat):((cf c k).natAbs:Int)<=80*M:=by
 have p:0<=M:=by have f:=h 0 O;rw [Zjh]at f;omega
 by_cases v:k<n+1
 .rw [Xe]
  match n,u with
  | 0,_=>
   have f:=Xe.1 (h 0 O3);rw [bre00,show(Ph 0 0:Int)=1 from rfl]at f;have e:=cgb0 p f;obtain rfl:k=0:=O;exact e
  | 1,_=>
   have f:=Xe.1 (h 0 O3);rw [bre10,show(Ph 1 0:Int)=1 from rfl]at f;have g:=Xe.1 (h 1 O3);rw [bre11,show(Ph 1 1:Int)=1 from rfl]at g;have e:=cgb1 p f g;rcases(show k=0\/k=1 by omega)with rfl|rfl
   .exact e.1
   .exact e.2
  | 2,_=>
   have f:=Xe.1 (h 0 O3);rw [bre20,show(Ph 2 0:Int)=1 from rfl]at f;have g:=Xe.1 (h 1 O3);rw [bre21,show(Ph 2 1:Int)=2 from rfl]at g;have l:=Xe.1 (h 2 O3);rw [bre22,show(Ph 2 2:Int)=1 from rfl]at l;have e:=cgb2 p f g l;rcases(show k=0\/k=1\/k=2 by omega)with rfl|rfl|rfl
   .exact e.1
   .exact e.2.1
   .exact e.2.2
  | 3,_=>
   have f:=Xe.1 (h 0 O3);rw [bre30,show(Ph 3 0:Int)=1 from rfl]at f;have g:=Xe.1 (h 1 O3);rw [bre31,show(Ph 3 1:Int)=3 from rfl]at g;have l:=Xe.1 (h 2 O3);rw [bre32,show(Ph 3 2:Int)=3 from rfl]at l;have m:=Xe.1 (h 3 O3);rw [bre33,show(Ph 3 3:Int)=1 from rfl]at m;have e:=cgb3 p f g l m;rcases(show k=0\/k=1\/k=2\/k=3 by omega)with rfl|rfl|rfl|rfl
   .exact e.1
   .exact e.2.1
   .exact e.2.2.1
   .exact e.2.2.2
  | 4,_=>
   have f:=Xe.1 (h 0 O3);rw [bre40,show(Ph 4 0:Int)=1 from rfl]at f;have g:=Xe.1 (h 1 O3);rw [bre41,show(Ph 4 1:Int)=4 from rfl]at g;have l:=Xe.1 (h 2 O3);rw [bre42,show(Ph 4 2:Int)=6 from rfl]at l;have m:=Xe.1 (h 3 O3);rw [bre43,show(Ph 4 3:Int)=4 from rfl]at m;have s:=Xe.1 (h 4 O3);rw [bre44,show(Ph 4 4:Int)=1 from rfl]at s;have e:=cgb4 p f g l m s;rcases(show k=0\/k=1\/k=2\/k=3\/k=4 by omega)with rfl|rfl|rfl|rfl|rfl
   .exact e.1
   .exact e.2.1
   .exact e.2.2.1
   .exact e.2.2.2.1
   .exact e.2.2.2.2
  | 5,_=>
   have f:=Xe.1 (h 0 O3);rw [bre50,show(Ph 5 0:Int)=1 from rfl]at f;have g:=Xe.1 (h 1 O3);rw [bre51,show(Ph 5 1:Int)=5 from rfl]at g;have l:=Xe.1 (h 2 O3);rw [bre52,show(Ph 5 2:Int)=10 from rfl]at l;have m:=Xe.1 (h 3 O3);rw [bre53,show(Ph 5 3:Int)=10 from rfl]at m;have s:=Xe.1 (h 4 O3);rw [bre54,show(Ph 5 4:Int)=5 from rfl]at s;have t:=Xe.1 (h 5 O3);rw [bre55,show(Ph 5 5:Int)=1 from rfl]at t;have e:=cgb5 p f g l m s t;rcases(show k=0\/k=1\/k=2\/k=3\/k=4\/k=5 by omega)with rfl|rfl|rfl|rfl|rfl|rfl
   .exact e.1
   .exact e.2.1
   .exact e.2.2.1
   .exact e.2.2.2.1
   .exact e.2.2.2.2.1
   .exact e.2.2.2.2.2
 .rw [Yl O];simp;omega
theorem AxC.cg(h:AxC c ov)(k:Nat):((cf c k).natAbs:Int)<=83886080*ov:=by have f:=h.l;have:=cg_brS (n:=c.length-1) O (c:=c) O (M:=1048576*ov) (λj e=>h.b j O) k;omega
theorem Zua(c:List Int)(a:Int):∀k,plS c a 1 k=Yb (λk=>cf c k*a^k) k
 | 0=>rfl
 | k+1=>by show plS c a 1 k+plT c a 1 k=_;rw [Yk,Zua c a k];congr 1;show c.getD k 0*(a^k*1^_)=cf c k*a^k;rw [Int.one_pow,kM];rfl
theorem Zkt(f:Nat->Int):∀n,((Yb f n:Int):Rat)=Kq (λi=>(f i:Rat)) n
 | 0=>rfl
 | n+1=>by rw [Yk,Oc,<-Zkt f n];push_cast;rfl
theorem Ya1(c:List Int)(a:Int):((pl c a 1:Int):Rat)=Zb c (a:Rat):=by
 unfold pl;rw [Zua,Zkt]
 conv=>rhs;rw [<-Zg6 c]
 rw [Zg2];exact Nd _ λi hi=>by rw [<-Zbm];push_cast;rfl
theorem Prt.pl{g:Zj}(h:Prt q g G){a e:Int}(k:a*(g.1.2.1-g.1.1)=(q.1.1-g.1.1)+(q.1.2.1-q.1.1)*e)(i:Nat) :
  Sky.pl (Zt i q.2.1.2 q.2.2.1.2 q.2.2.2.2) e 1*G=Sky.pl (Zt i g.2.1.2 g.2.2.1.2 g.2.2.2.2) a 1*(g.1.2.1-g.1.1)^5:=by
 have f:=h.x i (a:Rat) (e:Rat) (by exact_mod_cast k);rw [<-Ya1,<-Ya1,<-Zbm]at f;have j:((Sky.pl (Zt i q.2.1.2 q.2.2.1.2 q.2.2.2.2) e 1*G:Int):Rat)=((Sky.pl (Zt i g.2.1.2 g.2.2.1.2 g.2.2.2.2) a 1*(g.1.2.1-g.1.1)^5:Int):Rat):=by rw [Rat.intCast_mul,Rat.intCast_mul,f,jY]
 exact_mod_cast j
structure Chn (ps:List Zj):Prop where
 lt:∀g∈ps,g.1.1<g.1.2.1
 eq:∀(i:Nat) (g h:Zj),ps[i]? = some g->ps[i+1]? = some h->g.1.2.1=h.1.1
def Chn.tail{g:Zj}(h:Chn (g::r)):Chn r:=⟨λx e=>h.lt x (bJ _ e),λi x y e f=>h.eq (i+1) x y e f⟩
theorem Chn.ge:∀{r:List Zj} {g:Zj},Chn (g::r)->∀x∈r,g.1.2.1<=x.1.1
 | [],_,_,_,e=>nomatch e
 | h::r,g,hc,x,e=>by
  have f:=hc.eq 0 g h rfl rfl;rcases bG.1 e with rfl|e
  .omega
  .have:=Chn.ge hc.tail x e;have:=hc.lt h O7;omega
theorem Zm0{fr m:Int} : ∀{ps:List Zj},Chn ps->∀(j:Nat) (f k:Zj),(ps.filter (Kg fr m))[j]? = some f->(ps.filter (Kg fr m))[j+1]? = some k->∃i:Nat,ps[i]? = some f/\ps[i+1]? = some k
 | [],_,j,f,k,h,_=>by simp at h
 | g::r,hc,j,f,k,h1,e=>by
  cases hp:Kg fr m g with
  | false=>
   rw [fZ (by rw [hp];exact dG)]at h1 e;obtain⟨i,a,b⟩:=Zm0 hc.tail j f k h1 e;exact⟨i+1,a,b⟩
  | true=>
   rw [eO hp]at h1 e
   match j with
   | j+1=>
    obtain⟨i,a,b⟩:=Zm0 hc.tail j f k h1 e;exact⟨i+1,a,b⟩
   | 0=>
    obtain rfl:g=f:=by simpa using h1
    have e:(r.filter (Kg fr m))[0]? = some k:=e;have t:k∈r.filter (Kg fr m):=kQ e;obtain⟨l,n⟩:=fR.1 t
    match r,hc,e,l with
    | h::r,hc,e,l=>
     have v:=hc.eq 0 g h rfl rfl;have w:=hc.lt h O7;have u:=bT hp;have p:=bT n;have s:Kg fr m h=true:=by
      refine aN ?_;unfold cA cB at *;rcases bG.1 l with rfl|q
      .exact p
      .have:=Chn.ge hc.tail k q;omega
     rw [eO s]at e;obtain rfl:h=k:=by simpa using e
     exact⟨0,rfl,rfl⟩
theorem getD_some{α:Type}{l:List α}{x d:α}(h:l[i]? = some x):l.getD i d=x:=by rw [aC,h];rfl
theorem Zeb{ps:List Zj}(hi:∀g∈ps,Gin g)(s:Xk ps=true):Chn ps/\(∀g∈ps,seB g=true)/\∀(i:Nat) (g h:Zj),ps[i]? = some g->ps[i+1]? = some h->meG g h=true:=by
 obtain⟨p,t,u⟩:=Dh s;have l:∀g∈ps,seB g=true:=λg f=>by obtain⟨i,j,e⟩:=eA.1 f;have:=Zg5 (p i j);rw [aC,aH j,eI,e]at this;exact this
 have k:∀(i:Nat) (g h:Zj),ps[i]? = some g->ps[i+1]? = some h->meG g h=true:=λi g h f m=>by have n:=(eY.1 m).1;have:=p (i+1) n;rw [Zr4 (Zg5 this) O,fG,getD_some f,getD_some m]at this;exact this
 refine⟨⟨λg f=>(Hr (hi g f) (l g f)).t2,λi g h f m=>?_⟩,l,k⟩;have:=k i g h f m;unfold meG Zpm at this;rw [aP,fH]at this;exact this.1
structure Pat (fr to:Int) (ps qs:List Zj):Prop where
 gin:∀q∈qs,Gin q
 pb:Xk qs=true
 len:qs.length=(ps.filter (Kg fr to)).length
 prt:∀(j:Nat) (q:Zj),qs[j]? = some q->∃f:Zj,(ps.filter (Kg fr to))[j]? = some f/\f∈ps/\Prt q f (cG fr to f)
 nxt:∀(j:Nat) (q r:Zj),qs[j]? = some q->qs[j+1]? = some r->∃(i:Nat) (f h:Zj),ps[i]? = some f/\ps[i+1]? = some h/\Prt q f (cG fr to f)/\Prt r h (cG fr to h)/\q.1.2.1=f.1.2.1/\r.1.1=h.1.1
theorem Ydv{fr j:Int} : ∀{ps:List Zj},Chn ps->ps≠[]->spF ps<=fr->fr<j->j<=spL ps->ps.filter (Kg fr j)≠[]
 | [],_,h,_,_,_=>absurd rfl h
 | g::r,hc,_,m,h2,f=>by
  have p:=hc.lt g O7;have m:g.1.1<=fr:=m;by_cases k:Kg fr j g=true
  .rw [eO k];exact List.cons_ne_nil _ _
  .have l:¬cA fr g<cB j g:=λh=>k (aN h);have e:g.1.2.1<=fr:=by unfold cA cB at l;omega
   rw [fZ k]
   match r,hc,f with
   | [],_,f=>
    have f:j<=g.1.2.1:=f;omega
   | h::r,hc,f=>
    have n:=hc.eq 0 g h rfl rfl;refine Ydv hc.tail (List.cons_ne_nil _ _) (by show h.1.1<=fr;omega) h2 ?_;have:spL (g::h::r)=spL (h::r):=by unfold spL;simp
    rw [<-this];exact f
def jqP(fr h ov:Int)(x y z:List Int)(e g f:Int)(x2 j k:List Int)(i:Nat):Prop:=qr (bgS (Zt i x2 j k)) (Ck [f,g-e])=qr (enS (Zt i x y z)) (Ck [ov,h-fr])
def refS(o:Nat)(x y z:List Int):Nat->List Int
 | 0=>[]
 | i+1=>Za2 (refS o x y z i) (Qc (dN o (tzl (Zt i x y z))) (dN o (tzl (Zt i x y z))))
def refC(o:Nat)(m ov T:Int):Int:=m^2*ov^2*T^(2*o)
def refF(o:Nat)(m ov T:Int)(x y z:List Int):List Int:=Aq (tzl [refC o m ov T]) (Yf (refS o x y z 3) (1000^(2*o)))
def frB(ps:List Zj)(f e:Int)(i:Nat):Int:=
 if 0<i/\joG (ps.getD (i-1) G0) (ps.getD i G0)=false then 1 else if Et (Yct 1 f (ps.getD i G0))=true then 2 else if Et (Yct 2 e (ps.getD i G0))=true then 3 else 0
def fiB(ps:List Zj)(f e:Int):Option (Nat×Int):=((List.range ps.length).find? λi=>decide (frB ps f e i≠0)).map λi=>(i,frB ps f e i)
theorem tf(b:Bool):b=false\/b=true:=by cases b<;>simp
def fiI(o:Option (Nat×Int)):Int:=match o with
 | none=>0
 | some g=>g.1
def fiC(o:Option (Nat×Int)):Int:=match o with
 | none=>0
 | some g=>g.2
abbrev firV (o:Option (Nat×Int)):Value:= .tuple #[.agg #[.int .i64 (fiI o),.int .i64 (fiC o)],.bool o.isSome,.int .i64 0]
def spd(o:Nat)(x y z:List Int)(u:Rat):Rat:=Zb (refS o x y z 3) u
def lstB(o:Nat)(ps:List Zj):Nat:=Yf2 (λn=>Yb6 o ps (n:Int)) 14 0 10000
def lsV(o:Nat)(ps:List Zj):Nat:=if Yb6 o ps 10000 then lstB o ps else 0
theorem Zws(a b:Bool):a=false\/(a=true/\b=false)\/(a=true/\b=true):=by cases a<;>cases b<;>simp
def dR(o:Nat)(c:List Int)(u:Rat):Rat:=Zb (dN o (tzl c)) u
theorem Prt.num{g:Zj}(h:Prt q g G):∃v s:Rat,0<=v/\0<s/\v+s<=1/\s*((g.1.2.1-g.1.1:Int):Rat)=((q.1.2.1-q.1.1:Int):Rat)/\v*((g.1.2.1-g.1.1:Int):Rat)=((q.1.1-g.1.1:Int):Rat)/\(0:Rat)<((g.1.2.1-g.1.1:Int):Rat)/\
  ∀i (u:Rat),Zb (Zt i q.2.1.2 q.2.2.1.2 q.2.2.2.2) u*(G:Rat)=((g.1.2.1-g.1.1:Int):Rat)^5*Zb (Zt i g.2.1.2 g.2.2.1.2 g.2.2.2.2) (v+s*u):=by
 have l:=h.a0;have m:=h.b0;have n:=h.ab;have y:=h.x;generalize g.1.2.1-g.1.1=d at *;generalize q.1.2.1-q.1.1=b at *;generalize q.1.1-g.1.1=a at *;have j:(0:Rat)<(d:Rat):=by exact_mod_cast (show 0<d by omega)
 have p:(0:Rat)<=(a:Rat):=by exact_mod_cast l
 have w:(0:Rat)<(b:Rat):=by exact_mod_cast m
 have t:(a:Rat)+(b:Rat)<=(d:Rat):=by exact_mod_cast n
 have hi:0<(d:Rat)⁻¹:=fX.2 j;have e:(a:Rat)/d*d=a:=nO O4;have f:(b:Rat)/d*d=b:=nO O4;refine⟨(a:Rat)/d,(b:Rat)/d,?_,?_,?_,f,e,j,λi u=>y i _ u (by
  have k:(b:Rat)/d*u*d=((b:Rat)/d*d)*u:=by rw [kH,jY u,<-kH]
  rw [Rat.add_mul,e,k,f])⟩
 .rw [iY];exact aI p (dA hi)
 .rw [iY];exact aY w hi
 .have:((a:Rat)/d+b/d)*d<=1*d:=by rw [Rat.add_mul,e,f];grind
  exact Rat.le_of_mul_le_mul_right this j
def Zss{fr e:Int}{ps:List Zj}(h:Pn fr e ps=true):Zst fr e ps=0:=aF h
theorem Yd0{fr e:Int}{ps:List Zj}(h:Pn fr e ps=false):Zst fr e ps=7:=aD (by rw [h];exact dG)
def lh_M{fr f:Int}{ps:List Zj}(hi:∀g∈ps,Gin g)(h:Xk ps=true):∀g∈ps,Kg fr f g=true->MdG fr f g:=λg e j=>Ybl (hi g e) ((Zeb hi h).2.1 g e) j
def inn(fr e:Int)(ps:List Zj):List Int:=(ps.filter λg=>decide (fr<g.1.1) && decide (g.1.1<e)).map λg=>g.1.1
theorem inn_t{fr e:Int}{ps:List Zj}{k:Nat}(j:k<ps.length)(f:fr<(ps.getD k G0).1.1)(h:(ps.getD k G0).1.1<e):inn fr e (ps.take (k+1))=inn fr e (ps.take k) ++ [(ps.getD k G0).1.1]:=by unfold inn;rw [Zlu (x:=ps.getD k G0) (by rw [aC,aH j];rfl),fI,cE];rw [show List.filter (λg:Zj=>decide (fr<g.1.1) && decide (g.1.1<e)) [ps.getD k G0]=[ps.getD k G0]from eO (by rw [aN f,aN h];rfl)];rfl
theorem inn_f{fr e:Int}{ps:List Zj}{k:Nat}(j:k<ps.length)(h:¬(fr<(ps.getD k G0).1.1/\(ps.getD k G0).1.1<e)):inn fr e (ps.take (k+1))=inn fr e (ps.take k):=by
 unfold inn;rw [Zlu (x:=ps.getD k G0) (by rw [aC,aH j];rfl),fI,cE];rw [show List.filter (λg:Zj=>decide (fr<g.1.1) && decide (g.1.1<e)) [ps.getD k G0]=[] by rw [fZ (λf=>by rw [aP]at f;exact h ⟨bT f.1,bT f.2⟩)];rfl]
 simp
theorem Zmt(fr e:Int)(ps:List Zj):(inn fr e ps).length<=ps.length:=by unfold inn;rw [aQ];exact kC _ _
theorem Zuq{fr j:Int}{ps:List Zj} : x∈inn fr j ps↔∃g∈ps,g.1.1=x/\fr<x/\x<j:=by
 unfold inn;rw [eQ];constructor
 .rintro⟨g,h,rfl⟩;obtain⟨f,e⟩:=fR.1 h;simp only [aP,cL]at e;exact⟨g,f,rfl,e.1,e.2⟩
 .rintro⟨g,h,rfl,f,e⟩;exact⟨g,fR.2 ⟨h,by simp [f,e]⟩,rfl⟩
def cmF(a b:List Zj):Int:=max (spF a) (spF b)
def cmL(a b:List Zj):Int:=min (spL a) (spL b)
def Zdt(a b:List Zj)(i:Nat):List Int:=cmF a b::cmL a b::((if 1<=i then inn (cmF a b) (cmL a b) a else []) ++ (if 2<=i then inn (cmF a b) (cmL a b) b else []))
def Mi(a b:List Zj):List Int:=Zoj (Zdt a b 2)
def Gp{α:Type _}(i:Nat)(a b:α):α:=if i=0 then a else b
theorem tms_s(h:i<2):Zdt a b (i+1)=Zdt a b i ++ inn (cmF a b) (cmL a b) (Gp i a b):=by
 match i,h with
 | 0,_=>simp [Zdt,Gp]
 | 1,_=>simp [Zdt,Gp]
theorem Zg7 : x∈Mi a b↔x=cmF a b\/x=cmL a b\/(cmF a b<x/\x<cmL a b/\((∃g∈a,g.1.1=x)\/∃g∈b,g.1.1=x)):=by
 unfold Mi;rw [Ziq];show x∈cmF a b::cmL a b::(inn _ _ a ++ inn _ _ b)↔_;rw [bG,bG,cS,Zuq,Zuq];constructor
 .rintro(h|h|⟨g,e,f,j,k⟩|⟨g,e,f,j,k⟩)
  .exact .inl h
  .exact .inr (.inl h)
  .exact .inr (.inr ⟨j,k,.inl ⟨g,e,f⟩⟩)
  .exact .inr (.inr ⟨j,k,.inr ⟨g,e,f⟩⟩)
 .rintro(h|h|⟨j,k,⟨g,e,f⟩|⟨g,e,f⟩⟩)
  .exact .inl h
  .exact .inr (.inl h)
  .exact .inr (.inr (.inl ⟨g,e,f,j,k⟩))
  .exact .inr (.inr (.inr ⟨g,e,f,j,k⟩))
def Yjj(a b:List Zj):Sst (Mi a b) (Mi a b).length:=Ztp (Ziz _)
theorem Zpy(x:Int):∀l:List Int,(Ziy x l).length<=l.length+1
 | []=>aK _
 | y::l=>by
  have:=Zpy x l;unfold Ziy;split
  .exact aK _
  .split
   .exact Nat.le_succ _
   .simp only [cD];omega
theorem Zpw:∀l:List Int,(Zoj l).length<=l.length
 | []=>aK _
 | x::l=>by have:=Zpw l;have:=Zpy x (Zoj l);show(Ziy x (Zoj l)).length<=_;simp only [cD];omega
theorem Zms(a b:List Zj)(i:Nat):(Zdt a b i).length<=2+a.length+b.length:=by have e:=Zmt (cmF a b) (cmL a b) a;have f:=Zmt (cmF a b) (cmL a b) b;unfold Zdt;split<;>split<;>simp<;>omega
def Zuz(a b:List Zj):(Mi a b).length<=2+a.length+b.length:=aB (Zpw _) (Zms a b 2)
structure Bks (a b:List Zj):Prop where
 two:2<=(Mi a b).length
 hd:(Mi a b).getD 0 0=cmF a b
 ls:(Mi a b).getD ((Mi a b).length-1) 0=cmL a b
 lt:∀k,k+1<(Mi a b).length->cmF a b<=(Mi a b).getD k 0/\(Mi a b).getD k 0<(Mi a b).getD (k+1) 0/\(Mi a b).getD (k+1) 0<=cmL a b
 no:∀k,k+1<(Mi a b).length->∀g,g∈a\/g∈b->¬((Mi a b).getD k 0<g.1.1/\g.1.1<(Mi a b).getD (k+1) 0)
theorem bks (a:List Zj)(b:List Zj)(h:cmF a b<cmL a b):Bks a b:=by
 have hs:=Yjj a b;have v:cmF a b∈Mi a b:=Zg7.2 (.inl rfl);have w:cmL a b∈Mi a b:=Zg7.2 (.inr (.inl rfl));have f:∀x∈Mi a b,cmF a b<=x/\x<=cmL a b:=λx D=>by rcases Zg7.1 D with l|l|⟨l,p,_⟩<;>omega
 obtain⟨i,hi,t⟩:=Gb.1 v;obtain⟨j,N,u⟩:=Gb.1 w;have s:2<=(Mi a b).length:=by
  by_cases e:i=j
  .subst e;omega
  .omega
 have y:(Mi a b).getD 0 0=cmF a b:=by
  by_cases e:i=0
  .subst e;exact t
  .have l:=hs 0 i O hi;have p:=(f _ (Zk (zs:=Mi a b) (i:=0) (d:=0))).1;omega
 have F:(Mi a b).getD ((Mi a b).length-1) 0=cmL a b:=by
  by_cases e:j=(Mi a b).length-1
  .rw [<-e];exact u
  .have l:=hs j ((Mi a b).length-1) O O;have p:=(f _ (Zk (zs:=Mi a b) (i:=(Mi a b).length-1) (d:=0))).2;omega
 refine⟨s,y,F,λk n=>⟨(f _ Zk).1,hs k (k+1) O n,(f _ (Zk n)).2⟩,λk n g m I=>?_⟩;have l:=(f _ (Zk (zs:=Mi a b) (i:=k) (d:=0))).1;have p:=(f _ (Zk (zs:=Mi a b) (i:=k+1) (d:=0) n)).2;have z:g.1.1∈Mi a b:=Zg7.2 (.inr (.inr ⟨O,O,by
  rcases m with m|m
  .exact .inl ⟨g,m,rfl⟩
  .exact .inr ⟨g,m,rfl⟩⟩))
 obtain⟨q,B,H⟩:=Gb.1 z;rcases nZ q k with c|c|c
 .have:=hs q k c O;omega
 .subst c;omega
 .rcases nZ q (k+1)with d|d|d
  .omega
  .subst d;omega
  .have:=hs (k+1) q d B;omega
theorem Zvw{fr e:Int}{g:Zj}(h:Kg fr e g=true):fr<g.1.2.1/\g.1.1<e:=by unfold Kg cA cB at h;have:=bT h;exact⟨O,O⟩
theorem Zvv{fr e:Int}{ps:List Zj}(h:Chn ps)(k:ps≠[])(s:spF ps<=fr)(t:fr<e)(u:e<=spL ps)(l:∀g∈ps,¬(fr<g.1.1/\g.1.1<e)):(ps.filter (Kg fr e)).length=1:=by
 have v:=Ydv h k s t u;have m:0<(ps.filter (Kg fr e)).length:=aG.2 v;rcases bE 1 (ps.filter (Kg fr e)).length with f|f
 .exfalso;have n:=aH m;have p:=aH f;obtain⟨i,f1,f2⟩:=Zm0 h 0 _ _ n p;have w:=(fR.1 (eX m)).2;have y:=(fR.1 (eX f)).2;have j:=(fR.1 (eX f)).1;have D:=h.eq i _ _ f1 f2;have z:=Zvw w;have B:=Zvw y;exact l _ j ⟨O,O⟩
 .omega
def Zgr(ts:List Int)(ps:List Zj):Nat->List Ca
 | 0=>[]
 | n+1=>Zgr ts ps n ++ Zce (ts.getD n 0) (ts.getD (n+1) 0) ps
def Ej(ts:List Int)(a b:List Zj):Nat->Bool
 | 0=>true
 | n+1=>Ej ts a b n && (Pn (ts.getD n 0) (ts.getD (n+1) 0) a && Pn (ts.getD n 0) (ts.getD (n+1) 0) b)
def Zsw(a b:List Zj):Bool:=Ej (Mi a b) a b ((Mi a b).length-1)
def Bw(a b:List Zj):Int:=if cmF a b>=cmL a b then 9 else if Zsw a b then 0 else 7
def Nw(a b ps:List Zj):List Ca:=if Bw a b=0 then Zgr (Mi a b) ps ((Mi a b).length-1)else []
theorem Zqx{ts:List Int}{a b:List Zj} : ∀{n m:Nat},n<=m->Ej ts a b m=true->Ej ts a b n=true
 | n,0,h,e=>by obtain rfl:n=0:=O;rfl
 | n,m+1,h,e=>by
  rcases bE m n with f|f
  .obtain rfl:n=m+1:=O;exact e
  .refine Zqx f ?_;have:Ej ts a b (m+1)=(Ej ts a b m && (Pn (ts.getD m 0) (ts.getD (m+1) 0) a && Pn (ts.getD m 0) (ts.getD (m+1) 0) b)):=rfl;rw [this,aP]at e;exact e.1
def tik(a b:List Zj)(i k:Nat):List Int:=Zdt a b i ++ inn (cmF a b) (cmL a b) ((Gp i a b).take k)
theorem tik_0(a b:List Zj)(i:Nat):tik a b i 0=Zdt a b i:=by unfold tik;rw [dY];exact fE _
theorem tik_t{k:Nat}(g:k<(Gp i a b).length)(e:cmF a b<((Gp i a b).getD k G0).1.1)(f:((Gp i a b).getD k G0).1.1<cmL a b):tik a b i (k+1)=tik a b i k ++ [((Gp i a b).getD k G0).1.1]:=by unfold tik;rw [inn_t g e f,dV]
theorem tik_f{k:Nat}(e:k<(Gp i a b).length)(h:¬(cmF a b<((Gp i a b).getD k G0).1.1/\((Gp i a b).getD k G0).1.1<cmL a b)):tik a b i (k+1)=tik a b i k:=by unfold tik;rw [inn_f e h]
theorem tik_e(hi:i<2):tik a b i (Gp i a b).length=Zdt a b (i+1):=by unfold tik;rw [bM,tms_s hi]
theorem Zpx(a b:List Zj)(i:Nat):(Gp i a b).length<=a.length+b.length:=by unfold Gp;split<;>omega
theorem Yhp(a b:List Zj)(i k:Nat):(tik a b i k).length<=2+2*(a.length+b.length):=by have e:=Zms a b i;have f:=Zmt (cmF a b) (cmL a b) ((Gp i a b).take k);have g:=Zpx a b i;have h:((Gp i a b).take k).length<=(Gp i a b).length:=List.length_take_le' _ _;unfold tik;rw [aS];omega
def tms_ne(a b:List Zj)(i:Nat):Zdt a b i≠[]:=λh=>nomatch h
theorem tms_2(a b:List Zj)(i:Nat):2<=(Zdt a b i).length:=by unfold Zdt;simp
section
variable {P:Program} {N:Nat} {sc:Nat->Prop} {env:Xz} {H:Hp}
theorem Ygj{l m sd:SL}(i j k n:Nat)(p:lk H j=some (Qh 6 Qu qG (Xw l) a))(s:lk H k=some (Qh 6 Qu qG (Xw m) b))(e:Nat.beq j 0=false)(f:Nat.beq k 0=false)(hi:i<2) :
  ∀g w,Sat N sc env H g w->Sat N sc env ((n,Qh 6 Qu qG (Xw ([l,m].getD i sd)) (Gp i a b))::H) g w:=by
 match i,hi with
 | 0,_=>exact Zau j n p e rfl (λ_ h=>h) (λ_ h=>h) rfl
 | 1,_=>exact Zau k n s f rfl (λ_ h=>h) (λ_ h=>h) rfl
end
theorem Yd2(h:cmF a b>=cmL a b)(ps:List Zj):Bw a b=9/\Nw a b ps=[]:=by have e:Bw a b=9:=aF h;exact⟨e,by unfold Nw;rw [e];rfl⟩
theorem Zlg(h:¬cmF a b>=cmL a b){n:Nat}(l:n+1<(Mi a b).length)(j:(Pn ((Mi a b).getD n 0) ((Mi a b).getD (n+1) 0) a && Pn ((Mi a b).getD n 0) ((Mi a b).getD (n+1) 0) b)=false)(ps:List Zj):Bw a b=7/\Nw a b ps=[]:=by
 have k:Zsw a b=false:=by
  cases hk:Zsw a b with
  | false=>rfl
  | true=>
   have f:=Zqx (n:=n+1) O hk;have g:Ej (Mi a b) a b (n+1)=(Ej (Mi a b) a b n && (Pn ((Mi a b).getD n 0) ((Mi a b).getD (n+1) 0) a && Pn ((Mi a b).getD n 0) ((Mi a b).getD (n+1) 0) b)):=rfl;rw [g,j,iZ]at f;exact f.symm
 have e:Bw a b=7:=by unfold Bw;rw [aD h,k];rfl
 exact⟨e,by unfold Nw;rw [e];rfl⟩
theorem Yd3(h:¬cmF a b>=cmL a b){n:Nat}(g:n+1=(Mi a b).length)(f:Ej (Mi a b) a b n=true):Bw a b=0/\∀ps,Nw a b ps=Zgr (Mi a b) ps n:=by
 have k:Zsw a b=true:=by unfold Zsw;rw [show(Mi a b).length-1=n by omega];exact f
 have e:Bw a b=0:=by unfold Bw;rw [aD h,k];rfl
 exact⟨e,λps=>by unfold Nw;rw [e,aF rfl,show(Mi a b).length-1=n by omega]⟩
theorem com_k{n:Nat}(h:Ej (Mi a b) a b n=true)(e:Pn ((Mi a b).getD n 0) ((Mi a b).getD (n+1) 0) a=true)(f:Pn ((Mi a b).getD n 0) ((Mi a b).getD (n+1) 0) b=true):Ej (Mi a b) a b (n+1)=true:=by show(Ej (Mi a b) a b n && (_ && _))=true;rw [h,e,f];rfl
theorem com_z{ps zs:List Zj}{n:Nat}(h:zs.map Mb=Zgr ts ps n)(e:us.map Mb=Zce (ts.getD n 0) (ts.getD (n+1) 0) ps):(zs ++ us).map Mb=Zgr ts ps (n+1):=by rw [cE,h,e];rfl
theorem com_u{ps:List Zj}{fr f:Int}(hi:∀g∈ps,Gin g)(k:Xk ps=true)(m:spF ps<=fr)(n:fr<f)(p:f<=spL ps)(h:∀g∈ps,¬(fr<g.1.1/\g.1.1<f))(t:Pn fr f ps=true)(u:us.map Mb=Zce fr f ps):us.length=1:=by have l:=(Dh k).2.1;have s:=Zvv (Zeb hi k).1 (λe=>by rw [e]at l;simp at l) m n p h;have j:=aL List.length u;rw [aQ]at j;rw [j];unfold Zce;rw [aF t,aQ,s]
theorem com_ua{n:Nat}(hi:∀g∈a,Gin g)(k:Xk a=true)(B:Bks a b)(e:n+1<(Mi a b).length)(l:Pn ((Mi a b).getD n 0) ((Mi a b).getD (n+1) 0) a=true)(p:us.map Mb=Zce ((Mi a b).getD n 0) ((Mi a b).getD (n+1) 0) a):us.length=1:=by obtain⟨f,h,j⟩:=B.lt n e;unfold cmF at f;unfold cmL at j;exact com_u hi k O h O (λg m=>B.no n e g (.inl m)) l p
theorem com_ub{n:Nat}(hi:∀g∈b,Gin g)(k:Xk b=true)(B:Bks a b)(e:n+1<(Mi a b).length)(l:Pn ((Mi a b).getD n 0) ((Mi a b).getD (n+1) 0) b=true)(p:us.map Mb=Zce ((Mi a b).getD n 0) ((Mi a b).getD (n+1) 0) b):us.length=1:=by obtain⟨f,h,j⟩:=B.lt n e;unfold cmF at f;unfold cmL at j;exact com_u hi k O h O (λg m=>B.no n e g (.inr m)) l p
theorem Ztc{a b:Bool}(h:a=false):(a && b)=false:=by rw [h];rfl
theorem Ztb{a b:Bool}(h:b=false):(a && b)=false:=by rw [h];exact iZ _
end Go.Sky
namespace Go.Sky
variable{o:Oper}{x y:Operand}{t:TypeId}{i M:Nat}{kd:IntKind}{c p q ns:List Int}{f:Nat->List Int}
section
variable {P:Program} {N:Nat} {sc:Nat->Prop} {env:Xz} {H:Hp}
theorem d_ix4   {e:TypeId}   {m d g h j:Int} (s:o.op= .index t x y) (v:ev env x=some (.agg #[.int .i64 d,.int .i64 g,.int .i64 h,.int .i64 j])) (z:ev env y=some (.int kd m))
  (u:P.underlying t=some (.array 4 e)) (n:∀w,(sizeOf e).run P w= .ok 1 w) (l:∀w,(isAgg e).run P w= .ok false w) (b:m=(i:Int)) (r:i<4):Nf P N sc o env H (.int .i64 ([d,g,h,j].getD i 0)):=λa w hs=>by
 subst b;have k:i=0\/i=1\/i=2\/i=3:=O;rcases k with rfl|rfl|rfl|rfl<;>simp [execOp,s,hs.ev v,hs.ev z,Instr.index,asIntOf,run_underlying u,n,l,asAgg,part]
theorem d_ix9   {e:TypeId}   {m d g h:Int} {n r s j k l:Value} (D:o.op= .index t x y) (G:ev env x=some (.agg #[n,j,.int .i64 d,r,k,.int .i64 g,s,l,.int .i64 h])) (I:ev env y=some (.int kd m))
  (F:P.underlying t=some (.array 3 e)) (z:∀w,(sizeOf e).run P w= .ok 3 w) (v:∀w,(isAgg e).run P w= .ok true w) (b:m=(i:Int)) (B:i<3):Nf P N sc o env H (.agg #[Zt i n r s,Zt i j k l,.int .i64 (Zt i d g h)]):=λa w hs=>by
 subst b;have u:i=0\/i=1\/i=2:=O;rcases u with rfl|rfl|rfl<;>simp [execOp,D,hs.ev G,hs.ev I,Instr.index,asIntOf,run_underlying F,z,v,asAgg,part,Zt]
end
def KA:Nat:=360287970189639680
theorem AxC.ka{a:Int}(h:AxC c a)(b:1<=a)(d:a<=4294967296):Ab KA (tzl c):=λk=>by have:=h.cg k;rw [Lt];unfold KA;omega
def BG:Nat:=2^250*2^250
theorem bl_two{a b x:Nat}(h:x<2^a*2^b):bl x<=a+b:=(Qg (a+b) x).2 (by rw [bK];exact h)
def Zwg{x:Nat}(h:x<BG):bl x<=500:=bl_two (a:=250) (b:=250) h
def Ab.sg(h:Ab M p)(a:M<BG):Sz 500 p:=λi=>Zwg (bA (h i) a)
def Zab(h:Ab M p)(a:M<BG)(d:Tr p)(b:p.length<=25):Vp p:=⟨(h.sg a).mono O3,d,b⟩
theorem Zot{c:Int}(h:Ab M p)(b:M*c.natAbs<BG)(i:Nat):bl (cf p i*c).natAbs<=65536:=by have a:=Dz h c i;rw [Xx]at a;exact aB (Zwg (bA a b)) O3
theorem ad_ab{K:Nat}(h:Ab M p)(e:Ab K q)(d:M+K<BG)(i:Nat):bl (cf p i+cf q i).natAbs<=65536/\bl (cf p i-cf q i).natAbs<=65536:=by have a:=h i;have b:=e i;exact⟨aB (Zwg (bA (by omega:_<=M+K) d)) O3,aB (Zwg (bA (by omega:_<=M+K) d)) O3⟩
theorem mf_ab(h:Ab M p)(b:M<BG)(d:p.length<=11):¬Cn p p:=λa=>by have m:=Pd (h.sg b);rcases a.2.2 with w|w<;>omega
def dfP(p q:List Int)(a b:Int):List Int:=Aq (Yf (tzl p) b) (Yf (tzl q) a)
def dfK(p q:List Int)(a b k:Int):List Int:=Yf (dfP p q a b) k
def sqK(p q:List Int)(a b k:Int):List Int:=Qc (dfK p q a b k) (dfK p q a b k)
def sqP(p q:List Int)(a b:Int):List Int:=Qc (dfP p q a b) (dfP p q a b)
def KD:Nat:=KA*4294967296+KA*4294967296
structure FmX (p q:List Int) (a b k:Int):Prop where
 v1:Vp (tzl p)
 v2:Vp (tzl q)
 b1:bl b.natAbs<=65536
 a1:bl a.natAbs<=65536
 k1:bl k.natAbs<=65536
 s1:∀i,bl (cf (tzl p) i*b).natAbs<=65536
 s2:∀i,bl (cf (tzl q) i*a).natAbs<=65536
 v3:Vp (Yf (tzl p) b)
 v4:Vp (Yf (tzl q) a)
 s3:∀i,bl (cf (Yf (tzl p) b) i-cf (Yf (tzl q) a) i).natAbs<=65536
 v5:Vp (dfP p q a b)
 s4:∀i,bl (cf (dfP p q a b) i*k).natAbs<=65536
 v6:Vp (dfK p q a b k)
 m6:¬Cn (dfK p q a b k) (dfK p q a b k)
 v7:Vp (sqK p q a b k)
 ab:Ab (6*((KD*100)*(KD*100))) (sqK p q a b k)
 l:(sqK p q a b k).length<=11
 m5:¬Cn (dfP p q a b) (dfP p q a b)
 v8:Vp (sqP p q a b)
 ab8:Ab (6*((KD*100)*(KD*100))) (sqP p q a b)
 l8:(sqP p q a b).length<=11
theorem fmX{a b k:Int}(l:Ab KA (tzl p))(m:Ab KA (tzl q))(lp:p.length<=6)(S:q.length<=6)(B:1<=a/\a<=4294967296)(D:1<=b/\b<=4294967296)(V:1<=k/\k<=100):FmX p q a b k:=by
 have r:(tzl p).length<=6:=aB (Kl p) lp;have s:(tzl q).length<=6:=aB (Kl q) S;have u:Ab (KA*4294967296) (Yf (tzl p) b):=(Dz l b).mono (bD _ O);have v:Ab (KA*4294967296) (Yf (tzl q) a):=(Dz m a).mono (bD _ O);have d:Ab KD (dfP p q a b):=ab_sub u v;have e:Ab (KD*100) (dfK p q a b k):=(Dz d k).mono (bD _ O);have j:Ab (KD*100) (dfP p q a b):=d.mono O6;have l3:(Yf (tzl p) b).length<=6:=aB Mp r;have R:(Yf (tzl q) a).length<=6:=aB Mp s;have g:(dfP p q a b).length<=6:=Yht l3 R;have n:(dfK p q a b k).length<=6:=aB Mp g;have t5:Tr (dfP p q a b):=Qa _;have t6:Tr (dfK p q a b k):=Qa _;have w:=Ye5 e e n;have z:=Ye5 j j g;have F:=Zu0 t6 t6 n n;have G:=Zu0 t5 t5 g g;have h:∀c:Int,1<=c/\c<=4294967296->bl c.natAbs<=65536:=λc Q=>aB ((Qg 40 _).2 O) O6;have I:∀c:Int,1<=c/\c<=4294967296->KA*c.natAbs<BG:=λc Q=>bA (bD KA (by omega:c.natAbs<=4294967296)) O6;exact⟨Zab l O6 (Qa _) O,Zab m O6 (Qa _) O,h b D,h a B,h k O,Zot l (I b D),Zot m (I a B),
  Zab u O6 (Qa _) O,Zab v O6 (Qa _) O,λi=>(ad_ab u v O6 i).2,Zab d O6 t5 O,
  Zot d (bA (bD KD (by omega:k.natAbs<=100)) O6),Zab e O6 t6 O,mf_ab e O6 O,Zab w O6 Xy (by have:(sqK p q a b k).length<=_:=F;omega),w,F,
  mf_ab j O6 O,Zab z O6 Xy (by have:(sqP p q a b).length<=_:=G;omega),z,G⟩
def ngC(ns:List Int):Nat->List Int
 | 0=>[-1]
 | i+1=>Yf (Yf (ngC ns i) (ns.getD i 0)) (ns.getD i 0)
def sqN(ns:List Int):Nat->Nat
 | 0=>1
 | i+1=>sqN ns i*(ns.getD i 0).natAbs*(ns.getD i 0).natAbs
theorem Zik(ns:List Int):∀i,Ab (sqN ns i) (ngC ns i)/\(ngC ns i).length<=1/\Tr (ngC ns i)
 | 0=>⟨λi=>by
   match i with
   | 0=>show(cf [-1] 0).natAbs<=1;decide
   | i+1=>show(cf [-1] (i+1)).natAbs<=1;rw [Yl O7];decide,aK _,show Tr [-1]from .inr O3⟩
 | i+1=>by obtain⟨a,b,d⟩:=Zik ns i;exact⟨Dz (Dz a _) _,aB Mp (aB Mp b),Qa _⟩
theorem Zzn{ns:List Int}{B:Nat}(h:∀i,(ns.getD i 0).natAbs<=B):∀i,sqN ns i<=(B*B)^i
 | 0=>aK _
 | i+1=>by rw [cC,<-cT];exact aT (aT (Zzn h i) (h i)) (h i)
structure NgX (ns:List Int) (i:Nat):Prop where
 b:bl (ns.getD i 0).natAbs<=65536
 inn:Me (ns.getD i 0)
 v:Vp (ngC ns i)
 s:∀k,bl (cf (ngC ns i) k*ns.getD i 0).natAbs<=65536
 v2:Vp (Yf (ngC ns i) (ns.getD i 0))
 s2:∀k,bl (cf (Yf (ngC ns i) (ns.getD i 0)) k*ns.getD i 0).natAbs<=65536
theorem ngX(h:∀i,(ns.getD i 0).natAbs<=4294967296)(hi:i<=4):NgX ns i:=by obtain⟨j,n,k⟩:=Zik ns i;have e:=Zzn h i;have g:(4294967296*4294967296)^i<=(4294967296*4294967296)^4:=dE O6 hi;have a:Ab ((4294967296*4294967296)^4) (ngC ns i):=j.mono (aB e g);have b:=h i;have d:Ab ((4294967296*4294967296)^4*4294967296) (Yf (ngC ns i) (ns.getD i 0)):=(Dz a _).mono (bD _ b);have l:(4294967296*4294967296)^4*(ns.getD i 0).natAbs<BG:=bA (bD _ b) O6;have m:(4294967296*4294967296)^4*4294967296*(ns.getD i 0).natAbs<BG:=bA (bD _ b) O6;exact⟨aB ((Qg 40 _).2 O) O6,⟨O,O⟩,Zab a O6 k O,Zot a l,Zab d O6 (Qa _) (aB Mp O),Zot d m⟩
def smP(c:List Int)(f:Nat->List Int):Nat->List Int
 | 0=>c
 | i+1=>Za2 (smP c f i) (f i)
theorem Zzt{c:List Int}{f:Nat->List Int}{C F:Nat}(a:Ab C c)(d:c.length<=11)(g:Tr c)(b:∀i,Ab F (f i))(e:∀i,(f i).length<=11):∀i,Ab (C+i*F) (smP c f i)/\(smP c f i).length<=11/\Tr (smP c f i)
 | 0=>⟨by rw [gV];exact a,d,g⟩
 | i+1=>by obtain⟨h,j,k⟩:=Zzt a d g b e i;exact⟨by rw [eF,<-fT];exact ab_add h (b i),Yhu j (e i),Qa _⟩
structure SmX (c:List Int) (f:Nat->List Int):Prop where
 v:∀i,i<=3->Vp (smP c f i)
 s:∀i,i<3->∀k,bl (cf (smP c f i) k+cf (f i) k).natAbs<=65536
 d:Cvd (Yi (smP c f 3))
theorem smX(m:Ab (2^190) c)(s:c.length<=1)(r:Tr c)(l:∀i,Ab (6*((KD*100)*(KD*100))) (f i))(n:∀i,(f i).length<=11):SmX c f:=by
 have b:=Zzt m O r l n;have g:∀i,i<=3->2^190+i*(6*((KD*100)*(KD*100)))<2^205:=λi hi=>bA (Nat.add_le_add_left (aM _ hi) _) O6;have a:(2:Nat)^205<BG:=O6;refine⟨λi hi=>?_,λi hi k=>?_,?_⟩
 .obtain⟨d,j,h⟩:=b i;exact Zab d (jF (g i hi) a) h O
 .obtain⟨d,j,h⟩:=b i;refine(ad_ab d (l i) ?_ k).1;have:=g (i+1) hi;rw [eF]at this;have e:=jF this a;omega
 .obtain⟨d,j,h⟩:=b 3;have hs:=d.sz (g 3 (aK _));exact⟨Lv (Zab d (jF (g 3 (aK _)) a) h O),Fs hs,by rw [Zw];exact j⟩
end Go.Sky
namespace Go.Sky
variable{a0 a1 a2:Value}{m D d ov:Int}{x y z:List Int}{a b xs ys:List Zj}
theorem fill33{k l n o p q r s t c e f g h j:Value}:Instr.fill (λi=>some (i*3,3)) #[k,l,n,o,p,q,r,s,t] [(0,.agg #[a0,a1,a2]),(1,.agg #[c,e,f]),(2,.agg #[g,h,j])]=some #[a0,a1,a2,c,e,f,g,h,j]:=by simp [Instr.fill,Value.cells]
theorem Zvb{c e f:Value}:Instr.fill (λi=>some (i*3,3)) ((List.range (1*3)).map ((Value.agg #[c,e,f]).cells[· % (Value.agg #[c,e,f]).cells.size]!)).toArray [(0,.agg #[a0,a1,a2])]=some #[a0,a1,a2]:=by
 simp [Instr.fill,Value.cells,List.range,List.range.loop]
 try rfl
def Zp2(m:Int)(l:List Int):Bool:=l.all λx=>decide (-m<=x) && decide (x<=m)
theorem insB_t{l:List Int}(h:∀i,i<l.length->-m<=l.getD i 0/\l.getD i 0<=m):Zp2 m l=true:=bW.2 λx g=>by obtain⟨k,f,rfl⟩:=Gb.1 g;obtain⟨c,e⟩:=h k f;rw [aN c,aN e];rfl
theorem Yb9 (i:Nat){l:List Int}(hi:i<l.length)(h:¬(-m<=l.getD i 0/\l.getD i 0<=m)):Zp2 m l=false:=by
 cases hb:Zp2 m l with
 | false=>rfl
 | true=>
  have:=bW.1 hb _ (Zk (d:=0) hi);rw [aP]at this;exact absurd ⟨bT this.1,bT this.2⟩ h
def ptB(x y z:Int):Bool:=Zp2 1048576 [x,y,z]
theorem Yas{x y z:Int}(h:ptB x y z=true):(-1048576<=x/\x<=1048576)/\(-1048576<=y/\y<=1048576)/\(-1048576<=z/\z<=1048576):=by unfold ptB Zp2 at h;simp only [lX,List.all_nil,Bool.and_true,aP,cL]at h;exact h
def znB(D n d:Int):Bool:=decide (1<=D/\D<=4194304/\1<=n/\n<=d/\d<=100)
def zn_b{n:Int}(h:znB D n d=true):1<=D/\D<=4194304/\1<=n/\n<=d/\d<=100:=bT h
def ptsB(e f g h c i D n d:Int):Bool:=decide (D*d*(D*d)<=(e-h)*d*((e-h)*d)+(f-c)*d*((f-c)*d)+(g-i)*n*((g-i)*n))
def fqZ(n d ov c:Int)(x y z e f g:List Int)(i:Nat):List Int:=sqK (Zt i x y z) (Zt i e f g) ov c (Zt i d d n)
def cnZ(D d ov c:Int):List Int:=ngC [D,d,ov,c] 4
def smZ(D n d ov c:Int)(x y z e f g:List Int)(i:Nat):List Int:=smP (cnZ D d ov c) (fqZ n d ov c x y z e f g) i
def fmZ(D n d ov c:Int)(x y z e f g:List Int):List Int:=Yi (smZ D n d ov c x y z e f g 3)
structure FzX (D n d ov ov2:Int) (x y z x2 y2 z2:List Int):Prop where
 X:∀i,FmX (Zt i x y z) (Zt i x2 y2 z2) ov ov2 (Zt i d d n)
 K:∀i,Me (Zt i d d n)
 N:∀i,i<=4->NgX [D,d,ov,ov2] i
 Q:SmX (cnZ D d ov ov2) (fqZ n d ov ov2 x y z x2 y2 z2)
theorem Zat{fr k:Int}(h:Bj fr k ov x y z=true)(i:Nat):Ab KA (tzl (Zt i x y z)):=by unfold Bj Zwt at h;simp only [aP,cL]at h;obtain⟨⟨⟨⟨⟨⟨⟨⟨a1,a2⟩,n⟩,c⟩,e⟩,f⟩,g⟩,j⟩,-⟩:=h;exact Ft (p:=λl=>Ab KA (tzl l)) ((AxC.of f).ka c e) ((AxC.of g).ka c e) ((AxC.of j).ka c e)
theorem fzX{fr N j r c n:Int}{f g h:List Int}(o:Sgo fr N ov x y z)(e:Sgo j r c f g h)(w:∀i,Ab KA (tzl (Zt i x y z)))(l:∀i,Ab KA (tzl (Zt i f g h)))(F:znB D n d=true):FzX D n d ov c x y z f g h:=by
 obtain⟨Q,P,R,S,V⟩:=zn_b F;have G:=o.o1;have H:=o.o2;have I:=e.o1;have M:=e.o2;have u:∀i,1<=Zt i d d n/\Zt i d d n<=100:=λi=>Ft (p:=λk:Int=>1<=k/\k<=100) ⟨O,O⟩ ⟨O,O⟩ ⟨O,O⟩;have q:∀i,FmX (Zt i x y z) (Zt i f g h) ov c (Zt i d d n):=λi=>fmX (w i) (l i) (o.lc i).2 (e.lc i).2 ⟨G,H⟩ ⟨I,M⟩ (u i);have B:∀i,([D,d,ov,c].getD i 0).natAbs<=4294967296:=λi=>by
  match i with
  | 0=>show D.natAbs<=_;omega
  | 1=>show d.natAbs<=_;omega
  | 2=>show ov.natAbs<=_;omega
  | 3=>show c.natAbs<=_;omega
  | i+4=>show(0:Int).natAbs<=_;decide
 refine⟨q,λi=>?_,λi hi=>ngX B hi,?_⟩
 .obtain⟨s,t⟩:=u i;exact⟨O,O⟩
 .obtain⟨s,t,v⟩:=Zik [D,d,ov,c] 4;refine smX (s.mono ?_) t v (λi=>(q i).ab) (λi=>(q i).l);show 1*D.natAbs*D.natAbs*d.natAbs*d.natAbs*ov.natAbs*ov.natAbs*c.natAbs*c.natAbs<=2^190;refine aB (aT (aT (aT (aT (aT (aT (aT (aT (aK 1) (show D.natAbs<=4194304 by omega)) (show D.natAbs<=4194304 by omega)) (show d.natAbs<=100 by omega)) (show d.natAbs<=100 by omega)) (show ov.natAbs<=4294967296 by omega)) (show ov.natAbs<=4294967296 by omega)) (show c.natAbs<=4294967296 by omega)) (show c.natAbs<=4294967296 by omega)) O6
theorem Yh8{n c:Int}{e f g:List Int}(h:FzX D n d ov c x y z e f g):Cvd (fmZ D n d ov c x y z e f g):=by unfold fmZ smZ;exact h.Q.d
def tzlm1:(if 25<(tzl [(-1:Int)]).length then []else tzl [-1])=[-1]:=O3
abbrev GpT:=(Int×Int)×(SL×List Int)
abbrev Ei (g:GpT):Value:= .agg #[.int .i64 g.1.1,.int .i64 g.1.2,Xw g.2.1]
abbrev qGp (g:GpT):Pc:=Yg 2 wv (Xw g.2.1) g.2.2
abbrev Gp0:GpT:=((0,0),((none,0,0),[]))
abbrev GpU:=Int×Int×List Int
def unP(g:GpT):GpU:=(g.1.1,g.1.2,g.2.2)
def gpZ(D n d:Int)(g h:Ca):GpU:=(g.1.1,g.1.2.1,fmZ D n d g.1.2.2 h.1.2.2 g.2.1 g.2.2.1 g.2.2.2 h.2.1 h.2.2.1 h.2.2.2)
def Mu(D n d:Int)(a b:List Zj):List GpU:=List.zipWith (gpZ D n d) (Nw a b a) (Nw a b b)
def Gr(a b:List Zj):Int:=if Bw a b=9 then 0 else Bw a b
def Zsv(h:Bw a b≠0)(ps:List Zj):Nw a b ps=[]:=aD h
theorem Ycm{n:Int}(h:Bw a b≠0):Mu D n d a b=[]:=by unfold Mu;rw [Zsv h];rfl
theorem Zix (a:List Zj)(b:List Zj)(ps:List Zj){ts:List Int}(c:∀k,Pn (ts.getD k 0) (ts.getD (k+1) 0) a=true->Pn (ts.getD k 0) (ts.getD (k+1) 0) b=true->k+1<ts.length->(Zce (ts.getD k 0) (ts.getD (k+1) 0) ps).length=1):∀n,n+1<=ts.length->Ej ts a b n=true->(Zgr ts ps n).length=n
 | 0,_,_=>rfl
 | n+1,g,e=>by have f:Ej ts a b (n+1)=(Ej ts a b n && (Pn (ts.getD n 0) (ts.getD (n+1) 0) a && Pn (ts.getD n 0) (ts.getD (n+1) 0) b)):=rfl;rw [f,aP,aP]at e;show(Zgr ts ps n ++ Zce _ _ ps).length=_;rw [aS,Zix _ _ _ c n O e.1,c n e.2.1 e.2.2 O]
theorem Ydz{ps:List Zj}{fr c:Int}(hi:∀g∈ps,Gin g)(h:Xk ps=true)(j:spF ps<=fr)(k:fr<c)(l:c<=spL ps)(f:∀g∈ps,¬(fr<g.1.1/\g.1.1<c))(n:Pn fr c ps=true):(Zce fr c ps).length=1:=by have i:=(Dh h).2.1;unfold Zce;rw [aF n,aQ,Zvv (Zeb hi h).1 (λe=>by rw [e]at i;simp at i) j k l f]
theorem comE_0(h:Bw a b=0):¬cmF a b>=cmL a b/\Zsw a b=true:=by
 unfold Bw at h;by_cases c:cmF a b>=cmL a b
 .rw [aF c]at h;exact absurd h O3
 .rw [aD c]at h;cases hk:Zsw a b with
  | true=>exact⟨c,rfl⟩
  | false=>rw [hk]at h;exact absurd h O3
theorem Zni(p:∀g∈a,Gin g)(q:∀g∈b,Gin g)(l:Xk a=true)(n:Xk b=true):(Nw a b a).length=(Nw a b b).length/\(Nw a b a).length<=2+a.length+b.length:=by
 by_cases h:Bw a b=0
 .obtain⟨F,r⟩:=comE_0 h;have B:=bks a b O;have w:=B.two;have e:∀ps,Nw a b ps=Zgr (Mi a b) ps ((Mi a b).length-1):=λps=>aF h;have u:=Zix a b a (ts:=Mi a b) (λk s t c=>by obtain⟨f,i,j⟩:=B.lt k c;unfold cmF at f;unfold cmL at j;exact Ydz p l O i O (λg o=>B.no k c g (.inl o)) s) ((Mi a b).length-1) O r
  have v:=Zix a b b (ts:=Mi a b) (λk s t c=>by obtain⟨f,i,j⟩:=B.lt k c;unfold cmF at f;unfold cmL at j;exact Ydz q n O i O (λg o=>B.no k c g (.inr o)) t) ((Mi a b).length-1) O r
  have G:=Zuz a b;rw [e,e,u,v];exact⟨rfl,O⟩
 .rw [Zsv h,Zsv h];exact⟨rfl,bB _⟩
theorem Zbh{ps zs:List Zj}(hi:∀g∈ps,Gin g)(r:Xk ps=true)(v:zs.map Mb=Nw a b ps):∀q∈zs,Gin q/\seB q=true:=by
 have k:∀n,∀u∈Zgr (Mi a b) ps n,∃(fr f:Int) (g:Zj),g∈ps/\Kg fr f g=true/\Zfv fr f g=true/\u=Ydy fr f g:=λn=>by
  induction n with
  | zero=>intro u j;cases j
  | succ n w=>
   intro u j;rcases cS.1 (show u∈Zgr (Mi a b) ps n ++ _ from j)with h|h
   .exact w u h
   .unfold Zce at h;split at h
    .rename_i s;obtain⟨g,l,rfl⟩:=eQ.1 h;obtain⟨c,i⟩:=fR.1 l;exact⟨_,_,g,c,i,bW.1 s g l,rfl⟩
    .cases h
 intro q t;have e:Mb q∈Nw a b ps:=by rw [<-v];exact eQ.2 ⟨q,t,rfl⟩
 unfold Nw at e;split at e
 .obtain⟨fr,f,g,c,i,o,p⟩:=k _ _ e;have:=Yiu (hi g c) ((Zeb hi r).2.1 g c) i o p;exact⟨this.1,this.2.1⟩
 .cases e
theorem zip_s{α β γ:Type}{f:α->β->γ} : ∀{l:List α} {m:List β} {k:Nat} {x:α} {y:β},l[k]? = some x->m[k]? = some y->(List.zipWith f l m).take (k+1)=(List.zipWith f l m).take k ++ [f x y]
 | [],_,_,_,_,h,_=>by simp at h
 | _::_,[],_,_,_,_,h=>by simp at h
 | a::l,b::m,0,x,y,h,h2=>by simp at h h2;subst h;subst h2;simp
 | a::l,b::m,k+1,x,y,h,h2=>by have:=zip_s (f:=f) (l:=l) (m:=m) (k:=k) (by simpa using h) (by simpa using h2);simp only [List.zipWith_cons_cons,kU,this,eW]
def gpY(q:Zj)(g:SL×List Int):GpT:=((q.1.1,q.1.2.1),g)
theorem Zu4{n:Int}{zs:List GpT}{k:Nat}{g:SL×List Int}(l:xs.map Mb=Nw a b a)(o:ys.map Mb=Nw a b b)(h:zs.map unP=(Mu D n d a b).take k)(e:k<xs.length)(c:k<ys.length)(j:g.2=fmZ D n d (xs.getD k G0).1.2.2 (ys.getD k G0).1.2.2 (xs.getD k G0).2.1.2 (xs.getD k G0).2.2.1.2 (xs.getD k G0).2.2.2.2 (ys.getD k G0).2.1.2 (ys.getD k G0).2.2.1.2 (ys.getD k G0).2.2.2.2) :
  (zs ++ [gpY (xs.getD k G0) g]).map unP=(Mu D n d a b).take (k+1):=by
 have f:(Nw a b a)[k]? = some (Mb (xs.getD k G0)):=by rw [<-l,dZ,aH e,aC,aH e];rfl
 have i:(Nw a b b)[k]? = some (Mb (ys.getD k G0)):=by rw [<-o,dZ,aH c,aC,aH c];rfl
 unfold Mu at h ⊢;rw [zip_s f i,cE,h,bN,fL];simp only [gpY,unP,gpZ,Mb];rw [j]
theorem Yci{n:Int}{zs:List GpT}(c:xs.map Mb=Nw a b a)(f:(Nw a b a).length=(Nw a b b).length)(h:zs.map unP=(Mu D n d a b).take xs.length):zs.map unP=Mu D n d a b:=by rw [h,cK];have e:=aL List.length c;rw [aQ]at e;unfold Mu;rw [jI];omega
def Yco(h:Bw a b=9):Gr a b=0:=aF h
def Ycn(h:¬Bw a b=9):Gr a b=Bw a b:=aD h
theorem Zgc{fr c:Int}(h:Sgo fr c ov x y z):Me ov:=⟨by have:=h.o1;omega,by have:=h.o2;omega⟩
def Zsf(l:List GpU):Option GpU:=l.find? λg=>Et g.2.2
def Zaj(l:List GpU):Int×Int×Bool:=match Zsf l with
 | some g=>(g.1,g.2.1,true)
 | none=>(0,0,false)
theorem fst_n{l:List GpU}(h:∀i,i<l.length->Et (l.getD i (0,0,[])).2.2=false):Zaj l=(0,0,false):=by
 have:Zsf l=none:=nP.2 λg c=>by obtain⟨i,hi,rfl⟩:=eA.1 c;have:=h i hi;rw [aC,aH hi]at this;rw [show Et (l[i]).2.2=false from this];exact dG
 unfold Zaj;rw [this]
theorem fst_s:∀{l:List GpU} {k:Nat},k<l.length->(∀i,i<k->Et (l.getD i (0,0,[])).2.2=false)->Et (l.getD k (0,0,[])).2.2=true->Zsf l=some (l.getD k (0,0,[]))
 | [],_,c,_,_=>absurd c (cN _)
 | g::l,0,_,_,h2=>List.find?_cons_of_pos (by exact h2)
 | g::l,k+1,c,h1,h2=>by have e:Zsf (g::l)=Zsf l:=List.find?_cons_of_neg (by rw [show Et g.2.2=false from h1 0 (mE _)];exact dG);rw [e];exact fst_s (l:=l) (k:=k) (by simpa using c) (λi hi=>h1 (i+1) O) h2
theorem Zdp(zs:List GpT)(k:Nat):(zs.map unP).getD k (0,0,[])=unP (zs.getD k Gp0):=by rw [aC,dZ,aC];cases zs[k]?<;>rfl
theorem cvd_gp{n:Int}(j:∀g∈a,Gin g)(l:∀g∈b,Gin g)(c:Xk a=true)(f:Xk b=true)(M:znB D n d=true)(t:xs.map Mb=Nw a b a)(u:ys.map Mb=Nw a b b):∀g∈Mu D n d a b,Cvd g.2.2:=λg s=>by
 unfold Mu at s;obtain⟨k,G,e⟩:=eA.1 s;rw [mY]at e;subst e;rw [jI]at G;have h:k<(Nw a b a).length:=O;have i:k<(Nw a b b).length:=O;have N:(Nw a b a)[k]∈xs.map Mb:=by rw [t];exact eX h
 have P:(Nw a b b)[k]∈ys.map Mb:=by rw [u];exact eX i
 obtain⟨q,H,B⟩:=eQ.1 N;obtain⟨r,I,F⟩:=eQ.1 P;obtain⟨v,o⟩:=Zbh j c t q H;obtain⟨w,p⟩:=Zbh l f u r I;rw [<-B,<-F];simp only [gpZ,Mb];exact Yh8 (fzX (Hr v o) (Hr w p) (Zat o) (Zat p) M)
def mkS(u:Ca):Zj:=(u.1,((none,0,0),u.2.1),((none,0,0),u.2.2.1),((none,0,0),u.2.2.2))
theorem Ztl(l:List Ca):(l.map mkS).map Mb=l:=by rw [kZ];exact List.map_id' _
theorem cvd_at{n:Int}(f:∀g∈a,Gin g)(i:∀g∈b,Gin g)(c:Xk a=true)(e:Xk b=true)(o:znB D n d=true){zs:List GpT}(h:zs.map unP=Mu D n d a b){k:Nat}(j:k<zs.length):Cvd (zs.getD k Gp0).2.2:=by
 have l:unP (zs.getD k Gp0)∈Mu D n d a b:=by rw [<-h];exact eQ.2 ⟨_,Zk j,rfl⟩
 exact cvd_gp f i c e o (Ztl (Nw a b a)) (Ztl (Nw a b b)) _ l
theorem fst_at{l:List GpU}{zs:List GpT}(h:zs.map unP=l){k:Nat}(c:k<zs.length)(f:∀i,i<k->Et (zs.getD i Gp0).2.2=false)(e:Et (zs.getD k Gp0).2.2=true):Zaj l=((zs.getD k Gp0).1.1,(zs.getD k Gp0).1.2,true):=by subst h;have:=fst_s (l:=zs.map unP) (k:=k) (by rw [aQ];exact c) (λi hi=>by rw [Zdp];exact f i hi) (by rw [Zdp];exact e);unfold Zaj;rw [this,Zdp];rfl
theorem Ycr{l:List GpU}{zs:List GpT}(h:zs.map unP=l)(c:∀i,i<zs.length->Et (zs.getD i Gp0).2.2=false):Zaj l=(0,0,false):=by subst h;exact fst_n λi hi=>by rw [Zdp];exact c i (by rw [aQ]at hi;exact hi)
theorem Yh6{n:Int}(i:∀g∈a,Gin g)(j:∀g∈b,Gin g)(c:Xk a=true)(f:Xk b=true){zs:List GpT}(h:zs.map unP=Mu D n d a b):zs.length<=2+a.length+b.length:=by have k:=Zni i j c f;have e:=aL List.length h;rw [aQ]at e;unfold Mu at e;rw [jI]at e;omega
def apZ(D n d:Int)(a b:List Zj):Bool:=decide (Gr a b=0) && !(Zaj (Mu D n d a b)).2.2
theorem ap_t{n:Int}(h:Gr a b=0):apZ D n d a b=!(Zaj (Mu D n d a b)).2.2:=by unfold apZ;rw [aN h];rfl
theorem ap_f{n:Int}(h:¬Gr a b=0):apZ D n d a b=false:=by unfold apZ;rw [aJ h];rfl
open Go.Proofs
def pPa:Enc Tryz.prog 36 1 Xw:=Enc.flat Tryz.sizeOf36 Tryz.isAgg36 (λ_=>rfl)
def pGp:Enc Tryz.prog 178 3 Ei:=Enc.agg O3 Tryz.sizeOf178 Tryz.isAgg178 (λx=>⟨[.int .i64 x.1.1,.int .i64 x.1.2,Xw x.2.1],rfl,rfl,O10⟩)
@[reducible,instance] def encPaI:EncT Tryz.prog 36 1 Xw:=⟨pPa⟩
@[reducible,instance] def encGpI:EncT Tryz.prog 178 3 Ei:=⟨pGp⟩
def ti_a3:Tryz.prog.info? 409=some Tryz.t409:=O5
def ti_ax:Tryz.prog.info? 408=some Tryz.t408:=O5
theorem Yeq{c e f g h i:Value} : Tryz.prog.built 409 [(0,.agg #[a0,a1,a2]),(1,.agg #[c,e,f]),(2,.agg #[g,h,i])]=some #[a0,a1,a2,c,e,f,g,h,i]:=by refine Ff ti_a3 Tryz.underlying409 rfl ti_ax ?_;rw [show Tryz.t408.size=3 from rfl];exact fill33
end Go.Sky

