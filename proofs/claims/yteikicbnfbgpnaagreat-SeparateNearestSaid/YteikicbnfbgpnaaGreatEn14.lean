/- Rules, arithmetic and contracts: part 15. No conditions but those that each theorem names. -/
import Derived.Test.YteikicbnfbgpnaaGreatEn13
set_option linter.all false
namespace Go.Sky
variable{c p ts:List Int}{ov x M x0 x1 x2 x3 x4 d G o:Int}{b a r us:List Zl}{q:Zl}{i k:Nat}
def Yob:∀n,n<6->∀j,j<n+1->∀k,k<j+1->(Oq n j:Int)*w60 n j k=60*(Oq (n-k) (j-k):Int):=O5
theorem Zfb(f:Nat->Int)(a:Int):∀m,Ye (λk=>a*f k) m=a*Ye f m
 | 0=>by show(0:Int)=a*0;omega
 | m+1=>by rw [Yk,Yk,Zfb f a m,kS]
theorem Yrt(g:1<=c.length/\c.length<=6){j:Nat}(e:j<c.length):(Oq (c.length-1) j:Int)*ctl c j (j+1)=60*Hk (c.length-1) c j:=by unfold ctl Hk;rw [<-Zfb,<-Zfb];refine Xd λk f=>?_;have:=Yob (c.length-1) O j O k O;show(Oq (c.length-1) j:Int)*(cf c k*w60 (c.length-1) j k)=60*(cf c k*_);rw [mE,this,mE]
theorem Ym0{n j:Nat}(h:j<n+1):(0:Int)<(Oq n j:Int):=by have:=Zkx (n:=n) (k:=j) O;omega
theorem Ydn(v:1<=c.length/\c.length<=6) : Znp c ov=true↔∀j,j<c.length->((Hk (c.length-1) c j).natAbs:Int)<=1048576*ov*(Oq (c.length-1) j:Int):=by
 have f:∀j,j<c.length->((((ctl c j (j+1)).natAbs:Int)<=62914560*ov)↔((Hk (c.length-1) c j).natAbs:Int)<=1048576*ov*(Oq (c.length-1) j:Int)):=λj e=>by
  have t:=Yrt v e;have l:=Ym0 (n:=c.length-1) (j:=j) O;have m:=aH Int.natAbs t;rw [cJ,cJ,dH]at m;generalize (ctl c j (j+1)).natAbs=x at *;generalize (Hk (c.length-1) c j).natAbs=y at *;generalize Oq (c.length-1) j=q at *;have s:(q:Int)*(x:Int)=60*(y:Int):=by exact_mod_cast m
  constructor
  .intro h;have g:=iT h (eG l);rw [s]at g;have u:(q:Int)*(62914560*ov)=60*(1048576*ov*q):=O4;omega
  .intro h;have g:60*(y:Int)<=(q:Int)*(62914560*ov):=by have u:(q:Int)*(62914560*ov)=60*(1048576*ov*q):=O4;omega
   rw [<-s]at g;exact lX g l
 constructor
 .intro h j e;unfold Znp at h;rw [cP]at h;exact(f j e).1 (cE (h j (fR.2 e)))
 .intro h;exact Zzk λj e=>(f j e).2 (h j e)
def Qg{b:Int} : ((x.natAbs:Int)<=b)↔(-b<=x/\x<=b):=O
def cfb0(f:0<=M)(e:-(M*1)<=(x0*1)/\(x0*1)<=M*1):(-(2047*M)<=x0/\x0<=2047*M):=O
def bre00(c:List Int):Hk 0 c 0=cf c 0*1:=O10
theorem cfb1(g:0<=M)(e:-(M*1)<=(x0*1)/\(x0*1)<=M*1)(f:-(M*1)<=(x0*1+x1*1)/\(x0*1+x1*1)<=M*1):(-(2047*M)<=x0/\x0<=2047*M)/\(-(2047*M)<=x1/\x1<=2047*M):=by refine⟨⟨?_,?_⟩,⟨?_,?_⟩⟩<;>omega
def bre10(c:List Int):Hk 1 c 0=cf c 0*1:=O10
def bre11(c:List Int):Hk 1 c 1=cf c 0*1+cf c 1*1:=O10
theorem cfb2(h:0<=M)(e:-(M*1)<=(x0*1)/\(x0*1)<=M*1)(f:-(M*2)<=(x0*2+x1*1)/\(x0*2+x1*1)<=M*2)(g:-(M*1)<=(x0*1+x1*1+x2*1)/\(x0*1+x1*1+x2*1)<=M*1):(-(2047*M)<=x0/\x0<=2047*M)/\(-(2047*M)<=x1/\x1<=2047*M)/\(-(2047*M)<=x2/\x2<=2047*M):=by refine⟨⟨?_,?_⟩,⟨?_,?_⟩,⟨?_,?_⟩⟩<;>omega
def bre20(c:List Int):Hk 2 c 0=cf c 0*1:=O10
def bre21(c:List Int):Hk 2 c 1=cf c 0*2+cf c 1*1:=O10
def bre22(c:List Int):Hk 2 c 2=cf c 0*1+cf c 1*1+cf c 2*1:=O10
theorem cfb3(j:0<=M)(e:-(M*1)<=(x0*1)/\(x0*1)<=M*1)(f:-(M*3)<=(x0*3+x1*1)/\(x0*3+x1*1)<=M*3)(g:-(M*3)<=(x0*3+x1*2+x2*1)/\(x0*3+x1*2+x2*1)<=M*3)(h:-(M*1)<=(x0*1+x1*1+x2*1+x3*1)/\(x0*1+x1*1+x2*1+x3*1)<=M*1):(-(2047*M)<=x0/\x0<=2047*M)/\(-(2047*M)<=x1/\x1<=2047*M)/\(-(2047*M)<=x2/\x2<=2047*M)/\(-(2047*M)<=x3/\x3<=2047*M):=by refine⟨⟨?_,?_⟩,⟨?_,?_⟩,⟨?_,?_⟩,⟨?_,?_⟩⟩<;>omega
def bre30(c:List Int):Hk 3 c 0=cf c 0*1:=O10
def bre31(c:List Int):Hk 3 c 1=cf c 0*3+cf c 1*1:=O10
def bre32(c:List Int):Hk 3 c 2=cf c 0*3+cf c 1*2+cf c 2*1:=O10
def bre33(c:List Int):Hk 3 c 3=cf c 0*1+cf c 1*1+cf c 2*1+cf c 3*1:=O10
theorem cfb4(l:0<=M)(e:-(M*1)<=(x0*1)/\(x0*1)<=M*1)(f:-(M*4)<=(x0*4+x1*1)/\(x0*4+x1*1)<=M*4)(g:-(M*6)<=(x0*6+x1*3+x2*1)/\(x0*6+x1*3+x2*1)<=M*6)(h:-(M*4)<=(x0*4+x1*3+x2*2+x3*1)/\(x0*4+x1*3+x2*2+x3*1)<=M*4)(j:-(M*1)<=(x0*1+x1*1+x2*1+x3*1+x4*1)/\(x0*1+x1*1+x2*1+x3*1+x4*1)<=M*1):(-(2047*M)<=x0/\x0<=2047*M)/\(-(2047*M)<=x1/\x1<=2047*M)/\(-(2047*M)<=x2/\x2<=2047*M)/\(-(2047*M)<=x3/\x3<=2047*M)/\(-(2047*M)<=x4/\x4<=2047*M):=by refine⟨⟨?_,?_⟩,⟨?_,?_⟩,⟨?_,?_⟩,⟨?_,?_⟩,⟨?_,?_⟩⟩<;>omega
def bre40(c:List Int):Hk 4 c 0=cf c 0*1:=O10
def bre41(c:List Int):Hk 4 c 1=cf c 0*4+cf c 1*1:=O10
def bre42(c:List Int):Hk 4 c 2=cf c 0*6+cf c 1*3+cf c 2*1:=O10
def bre43(c:List Int):Hk 4 c 3=cf c 0*4+cf c 1*3+cf c 2*2+cf c 3*1:=O10
def bre44(c:List Int):Hk 4 c 4=cf c 0*1+cf c 1*1+cf c 2*1+cf c 3*1+cf c 4*1:=O10
theorem cfb5{e:Int}(n:0<=M)(f:-(M*1)<=(x0*1)/\(x0*1)<=M*1)(g:-(M*5)<=(x0*5+x1*1)/\(x0*5+x1*1)<=M*5)(h:-(M*10)<=(x0*10+x1*4+x2*1)/\(x0*10+x1*4+x2*1)<=M*10)(j:-(M*10)<=(x0*10+x1*6+x2*3+x3*1)/\(x0*10+x1*6+x2*3+x3*1)<=M*10)(l:-(M*5)<=(x0*5+x1*4+x2*3+x3*2+x4*1)/\(x0*5+x1*4+x2*3+x3*2+x4*1)<=M*5)(m:-(M*1)<=(x0*1+x1*1+x2*1+x3*1+x4*1+e*1)/\(x0*1+x1*1+x2*1+x3*1+x4*1+e*1)<=M*1):(-(2047*M)<=x0/\x0<=2047*M)/\(-(2047*M)<=x1/\x1<=2047*M)/\(-(2047*M)<=x2/\x2<=2047*M)/\(-(2047*M)<=x3/\x3<=2047*M)/\(-(2047*M)<=x4/\x4<=2047*M)/\(-(2047*M)<=e/\e<=2047*M):=by refine⟨⟨?_,?_⟩,⟨?_,?_⟩,⟨?_,?_⟩,⟨?_,?_⟩,⟨?_,?_⟩,⟨?_,?_⟩⟩<;>omega
def bre50(c:List Int):Hk 5 c 0=cf c 0*1:=O10
def bre51(c:List Int):Hk 5 c 1=cf c 0*5+cf c 1*1:=O10
def bre52(c:List Int):Hk 5 c 2=cf c 0*10+cf c 1*4+cf c 2*1:=O10
def bre53(c:List Int):Hk 5 c 3=cf c 0*10+cf c 1*6+cf c 2*3+cf c 3*1:=O10
def bre54(c:List Int):Hk 5 c 4=cf c 0*5+cf c 1*4+cf c 2*3+cf c 3*2+cf c 4*1:=O10
def bre55(c:List Int):Hk 5 c 5=cf c 0*1+cf c 1*1+cf c 2*1+cf c 3*1+cf c 4*1+cf c 5*1:=O10
theorem cf_brS{n:Nat}(v:n<6)(y:c.length<=n+1)(h:∀j,j<n+1->((Hk n c j).natAbs:Int)<=M*(Oq n j:Int))(k:Nat):((cf c k).natAbs:Int)<=2047*M:=by
 have s:0<=M:=by have f:=h 0 O;rw [Znj]at f;omega
 by_cases w:k<n+1
 .rw [Qg]
  match n,v with
  | 0,_=>
   have f:=Qg.1 (h 0 O3);rw [bre00,show(Oq 0 0:Int)=1 from rfl]at f;have e:=cfb0 s f;obtain rfl:k=0:=O;exact e
  | 1,_=>
   have f:=Qg.1 (h 0 O3);rw [bre10,show(Oq 1 0:Int)=1 from rfl]at f;have g:=Qg.1 (h 1 O3);rw [bre11,show(Oq 1 1:Int)=1 from rfl]at g;have e:=cfb1 s f g;rcases(show k=0\/k=1 by omega)with rfl|rfl
   .exact e.1
   .exact e.2
  | 2,_=>
   have f:=Qg.1 (h 0 O3);rw [bre20,show(Oq 2 0:Int)=1 from rfl]at f;have g:=Qg.1 (h 1 O3);rw [bre21,show(Oq 2 1:Int)=2 from rfl]at g;have l:=Qg.1 (h 2 O3);rw [bre22,show(Oq 2 2:Int)=1 from rfl]at l;have e:=cfb2 s f g l;rcases(show k=0\/k=1\/k=2 by omega)with rfl|rfl|rfl
   .exact e.1
   .exact e.2.1
   .exact e.2.2
  | 3,_=>
   have f:=Qg.1 (h 0 O3);rw [bre30,show(Oq 3 0:Int)=1 from rfl]at f;have g:=Qg.1 (h 1 O3);rw [bre31,show(Oq 3 1:Int)=3 from rfl]at g;have l:=Qg.1 (h 2 O3);rw [bre32,show(Oq 3 2:Int)=3 from rfl]at l;have m:=Qg.1 (h 3 O3);rw [bre33,show(Oq 3 3:Int)=1 from rfl]at m;have e:=cfb3 s f g l m;rcases(show k=0\/k=1\/k=2\/k=3 by omega)with rfl|rfl|rfl|rfl
   .exact e.1
   .exact e.2.1
   .exact e.2.2.1
   .exact e.2.2.2
  | 4,_=>
   have f:=Qg.1 (h 0 O3);rw [bre40,show(Oq 4 0:Int)=1 from rfl]at f;have g:=Qg.1 (h 1 O3);rw [bre41,show(Oq 4 1:Int)=4 from rfl]at g;have l:=Qg.1 (h 2 O3);rw [bre42,show(Oq 4 2:Int)=6 from rfl]at l;have m:=Qg.1 (h 3 O3);rw [bre43,show(Oq 4 3:Int)=4 from rfl]at m;have t:=Qg.1 (h 4 O3);rw [bre44,show(Oq 4 4:Int)=1 from rfl]at t;have e:=cfb4 s f g l m t;rcases(show k=0\/k=1\/k=2\/k=3\/k=4 by omega)with rfl|rfl|rfl|rfl|rfl
   .exact e.1
   .exact e.2.1
   .exact e.2.2.1
   .exact e.2.2.2.1
   .exact e.2.2.2.2
  | 5,_=>
   have f:=Qg.1 (h 0 O3);rw [bre50,show(Oq 5 0:Int)=1 from rfl]at f;have g:=Qg.1 (h 1 O3);rw [bre51,show(Oq 5 1:Int)=5 from rfl]at g;have l:=Qg.1 (h 2 O3);rw [bre52,show(Oq 5 2:Int)=10 from rfl]at l;have m:=Qg.1 (h 3 O3);rw [bre53,show(Oq 5 3:Int)=10 from rfl]at m;have t:=Qg.1 (h 4 O3);rw [bre54,show(Oq 5 4:Int)=5 from rfl]at t;have u:=Qg.1 (h 5 O3);rw [bre55,show(Oq 5 5:Int)=1 from rfl]at u;have e:=cfb5 s f g l m t u;rcases(show k=0\/k=1\/k=2\/k=3\/k=4\/k=5 by omega)with rfl|rfl|rfl|rfl|rfl|rfl
   .exact e.1
   .exact e.2.1
   .exact e.2.2.1
   .exact e.2.2.2.1
   .exact e.2.2.2.2.1
   .exact e.2.2.2.2.2
 .rw [Yf O];simp;omega
structure AxC (c:List Int) (ov:Int):Prop where
 l:1<=c.length/\c.length<=6
 t:¬(1<c.length/\c.getD (c.length-1) 0=0)
 b:∀j,j<c.length->((Hk (c.length-1) c j).natAbs:Int)<=1048576*ov*(Oq (c.length-1) j:Int)
theorem AxC.of(h:axB c ov=true):AxC c ov:=by unfold axB at h;simp only [aR,fS,jF,dO,gM]at h;have g:1<=c.length/\c.length<=6:=⟨h.1.1.1,h.1.1.2⟩;exact⟨g,λf=>by rcases h.1.2 with e|e;exact e f.1;exact e f.2,(Ydn g).1 h.2⟩
def AxC.to(h:AxC c ov):axB c ov=true:=Ydy h.l.1 h.l.2 h.t ((Ydn h.l).2 h.b)
def tzl_nz(e:c.getD (c.length-1) 0≠0):tzl c=c:=Ah (.inr e)
theorem Ynn(h:AxC c ov):(tzl c=c)\/c=[0]:=by
 by_cases e:c.getD (c.length-1) 0=0
 .have j:c.length=1:=by
   have l:=h.l;have f:=h.t;by_cases g:1<c.length
   .exact absurd ⟨g,e⟩ f
   .omega
  right
  match c,j with
  | [x],_=>simp at e;rw [e]
 .exact .inl (tzl_nz e)
theorem Zgi(h:AxC c ov){a b:Int}{t u:Rat}(f:t*(d:Rat)=(a:Rat)+(b:Rat)*u):Zf (Pd c a b d) u=(d:Rat)^5*Zf c t:=by
 unfold Pd;rw [Fn];rcases Ynn h with e|e
 .have g:=h.l;rw [e,Zlz a b d f O,Zdr];have:(d:Rat)^5=(d:Rat)^(6-c.length)*(d:Rat)^(c.length-1):=by rw [<-Yd2];congr 1;omega
  rw [this];grind
 .subst e;rw [show tzl [0]=[]from by decide,show Lm [] a b d=[]from rfl];show _*(0:Rat)=_*(((0:Int):Rat)+t*0);push_cast;grind
def Zg5 (c:List Int)(a b d:Int):(Pd c a b d).length<=c.length:=aB (Oh _) (aB (Zfm _ _ _ _) (Mj c))
theorem Ydm(h:AxC c ov){a b:Int}(f:0<=a)(g:0<=b)(e:a+b<=d)(l:0<d):∀j,j<c.length->((Hk (c.length-1) (Pd c a b d) j).natAbs:Int)<=1048576*(ov*d^5)*(Oq (c.length-1) j:Int):=λj s=>by have y:=h.l;have w:=Zg5 c a b d;have:=Ysn (c:=c) (X:=Pd c a b d) (n:=c.length-1) (m:=5) (B:=1048576*ov) O O f g e l (λt u v=>Zgi h v) (λj s=>h.b j O) j O;rw [eN]at this;rw [eN];rw [eN,<-eN ov]at this;exact this
theorem cf_cmp(h:AxC c ov){a b:Int}(f:0<=a)(g:0<=b)(e:a+b<=d)(l:0<d)(k:Nat):((cf (Pd c a b d) k).natAbs:Int)<=ov*d^5*2146435072:=by have t:=h.l;have m:=Zg5 c a b d;have:=cf_brS (n:=c.length-1) O (c:=Pd c a b d) O (M:=1048576*(ov*d^5)) (λj s=>Ydm h f g e l j O) k;omega
theorem Zxu{g:Zl}(h:seB g=true):AxC g.2.1.2 g.1.2.2/\AxC g.2.2.1.2 g.1.2.2/\AxC g.2.2.2.2 g.1.2.2:=by have e:Ba g.1.1 g.1.2.1 g.1.2.2 g.2.1.2 g.2.2.1.2 g.2.2.2.2=true:=h;unfold Ba at e;simp only [aR]at e;exact⟨.of e.1.1.1.2,.of e.1.1.2,.of e.1.2⟩
theorem Yml{fr e:Int}{g:Zl}(f:SgG g)(h:Ii fr e g=true):0<=cA fr g-g.1.1/\0<cB e g-cA fr g/\(cA fr g-g.1.1)+(cB e g-cA fr g)<=g.1.2.1-g.1.1/\0<g.1.2.1-g.1.1:=by have m:=cE h;have j:=f.t1;have l:=f.t2;unfold cA cB at *;exact⟨O,O,O,O⟩
theorem Zyk{fr v:Int}{g:Zl}(hi:Gin g)(hs:seB g=true)(h:Ii fr v g=true):MdG fr v g:=by
 have f:SgG g:=Lo hi hs;obtain⟨B,D,F⟩:=Zxu hs;obtain⟨H,I,N,P⟩:=Yml f h;obtain⟨t,u,-,-⟩:=cut_b f h;have W:=f.t3;have V:=f.t1;have R:=f.o1;have S:=f.o2;have j:1<=g.1.2.1-g.1.1/\g.1.2.1-g.1.1<=3600000:=⟨O,O⟩;have w:=Ziw f.hx f.lx t u j;have y:=Ziw f.hy f.ly t u j;have z:=Ziw f.hz f.lz t u j;have s:0<cO g:=iI O (kV O);have n:((cO g).natAbs:Int)=cO g:=O;have m:∀{c:List Int},AxC c g.1.2.2->∀k,(cf (cX fr v g c) k).natAbs<=(cO g).natAbs*2146435072:=λQ k=>by
  have:=cf_cmp Q H (eG I) N P k;have e:(((cO g).natAbs*2146435072:Nat):Int)=cO g*2146435072:=by rw [fB,n];rfl
  refine lG.1 ?_;rw [e];exact this
 refine⟨s,?_,λi=>?_,λi=>?_,λi k=>?_⟩
 .have Y:bl g.1.2.2.natAbs<=40:=(Qo 40 _).2 O;have Z:=Zjf j;have:=Yq g.1.2.2 ((g.1.2.1-g.1.1)^5);show bl (g.1.2.2*(g.1.2.1-g.1.1)^5).natAbs<=1000;omega
 .exact Cr (p:=λl:List Int=>Sz 1000 l) w.2.2.2.2.2.2.1 y.2.2.2.2.2.2.1 z.2.2.2.2.2.2.1
 .exact Cr (p:=λl:List Int=>l.length<=6) w.2.2.2.2.2.2.2 y.2.2.2.2.2.2.2 z.2.2.2.2.2.2.2
 .exact Cr (p:=λl:List Int=>(cf l k).natAbs<=(cO g).natAbs*2146435072) (m B k) (m D k) (m F k)
theorem Yqu(h:AxC c ov)(n:c.getD (c.length-1) 0≠0){a b:Int}(v:0<b)(y:0<d):(Pd c a b d).length=c.length:=by
 have D:=h.l;have B:=Zg5 c a b d;rcases aZ (Pd c a b d).length c.length with q|q
 .exfalso;have w:(b:Rat)≠0:=by
    have:(0:Rat)<(b:Rat):=by exact_mod_cast v
    grind
  have z:(d:Rat)≠0:=by
    have:(0:Rat)<(d:Rat):=by exact_mod_cast y
    grind
  have m:∀t:Rat,t*(d:Rat)=(a:Rat)+(b:Rat)*((t*d-a)/b):=λt=>O4;by_cases j:(Pd c a b d).length=0
  .have s:=aC j;have:∀t:Rat,Zf c t=0:=λt=>by
    have e:=Zgi h (m t);rw [s]at e;have f:(d:Rat)^5*Zf c t=0:=e.symm;have l:(d:Rat)^5≠0:=by rw [show(d:Rat)^5=d*d*d*d*d by rw [dY,dY,dY,dY,dY,eP];grind];grind
    grind
   exact n (Zqq this _)
  .have g:∀t:Rat,Zf ((Lm (Pd c a b d) (-a) d b).map λq=>1*q) t=Zf (c.map λq=>b^((Pd c a b d).length-1)*d^5*q) t:=λt=>by rw [Zo,Zo];have e:=Zgi h (m t);have f:=Zlz (p:=Pd c a b d) (-a) d b (t:=(t*d-a)/b) (u:=t) (by push_cast;grind) j;rw [f,e];push_cast;rw [<-Zdr,<-Zdr];push_cast;grind
   have e:=Nq g (c.length-1);rw [Cm,Cm,Yf (by have:=Zfm (Pd c a b d) (-a) d b;omega)]at e;have f:b^((Pd c a b d).length-1)*d^5≠0:=bJ (Int.pow_ne_zero O) (Int.pow_ne_zero O);have l:b^((Pd c a b d).length-1)*d^5*cf c (c.length-1)=0:=O;rcases eR.1 l with q|q
   .exact f q
   .exact n q
 .omega
theorem Zzg{X:List Int}(f:0<G)(e:∀x∈X,G∣x)(i:Nat):cf (Hu X G) i*G=cf X i:=by
 unfold Hu;split
 .rename_i h;rw [aC h]
  match i with
  | 0=>show(0:Int)*G=cf [] 0;rw [cM];rfl
  | i+1=>show(0:Int)*G=cf [] (i+1);rw [cM];rfl
 .rw [Zdp O7];by_cases hi:i<X.length
  .have:cf X i∈X:=Zd hi;exact iM (e _ this)
  .rw [Yf O];simp
theorem Ypm{X:List Int}(e:0<G)(f:∀x∈X,G∣x)(u:Rat):Zf (Hu X G) u*(G:Rat)=Zf X u:=by rw [kL,<-Zo];exact Oy u _ _ λi=>by rw [Cm,cQ,Zzg e f]
theorem Zi8(f g:Nat->Int)(a:Int)(h:∀k,f k*a=g k):∀m,Ye f m*a=Ye g m
 | 0=>cM _
 | m+1=>by rw [Yk,Yk,mB,Zi8 f g a h m,h]
theorem Ysm{X:List Int}(e:0<G)(f:∀x∈X,G∣x)(n j:Nat):Hk n (Hu X G) j*G=Hk n X j:=by unfold Hk;exact Zi8 _ _ _ (λk=>by rw [Int.mul_right_comm,Zzg e f]) _
theorem Yqt(X:List Int)(G:Int):(Hu X G).length=max X.length 1:=by
 unfold Hu;split
 .rename_i h;rw [h];rfl
 .rw [aP];omega
theorem Zzs(h:AxC c ov){a b:Int}(H:0<=a)(w:0<b)(s:a+b<=d)(y:0<d)(n:0<G)(B:∀x∈Pd c a b d,G∣x)(N:o*G=ov*d^5):AxC (Hu (Pd c a b d) G) o/\(Hu (Pd c a b d) G).length=c.length:=by
 have Q:=h.l;have f:(Hu (Pd c a b d) G).length=c.length/\(1<c.length->(Pd c a b d).length=c.length):=by
  rw [Yqt];by_cases D:c.getD (c.length-1) 0=0
  .have:=h.t;have I:=Zg5 c a b d;have g:c.length=1:=by
    by_cases l:1<c.length
    .exact absurd ⟨l,D⟩ this
    .omega
   exact⟨O,λl=>O⟩
  .have:=Yqu h D (a:=a) w y;exact⟨O,λ_=>this⟩
 refine⟨⟨O,λ⟨g,t⟩=>?_,λj z=>?_⟩,f.1⟩
 .rw [f.1]at g t;have l:cf (Hu (Pd c a b d) G) (c.length-1)=0:=t;have u:=Zzg n B (c.length-1);rw [l,cM]at u;have m:=f.2 g;have P:Tr (Pd c a b d):=Qk;have v:=P.mem (λe=>by rw [e]at m;simp at m;omega);rw [m]at v;exact v u.symm
 .rw [f.1]at z ⊢;have g:=Ydm h H (eG w) s y j z;rw [<-Ysm n B,<-N,cJ]at g;have F:((G.natAbs:Nat):Int)=G:=O;push_cast at g;rw [F]at g;refine Int.le_of_mul_le_mul_right (a:=G) ?_ n;refine Int.le_trans g (oK ?_);grind
theorem Zv5{G:Int}(e:0<G):∀(l:List Int) (o:Int),Me (G*o) (l.map (G*·))=G*Me o l
 | [],o=>rfl
 | x::l,o=>by show Me ((Int.gcd (G*o) (G*x):Nat):Int) (l.map (G*·))=G*Me ((Int.gcd o x:Nat):Int) l;rw [Int.gcd_mul_left];push_cast;rw [show((G.natAbs:Nat):Int)=G by omega];exact Zv5 e l _
theorem Zm1{X:List Int}(g:0<G)(e:∀x∈X,G∣x)(j:0<=o):Me o ((Hu X G).map (G*·))=Me o X:=by
 unfold Hu;split
 .rename_i h;rw [aC h];show((Int.gcd o (G*0):Nat):Int)=o;rw [dU,oB];omega
 .congr 1;rw [lF]
  conv=>rhs;rw [<-oN X]
  refine kZ λx f=>?_;show G*(x/G)=x;exact kU (e x f)
theorem Yq4{X Y Z:List Int}{f:Int}(g:0<o)(e:0<Kt o X Y Z)(n:∀x∈X,Kt o X Y Z∣x)(s:∀x∈Y,Kt o X Y Z∣x)(t:∀x∈Z,Kt o X Y Z∣x)(h:Kt o X Y Z*f=o) :
  Me f (Hu X (Kt o X Y Z) ++ Hu Y (Kt o X Y Z) ++ Hu Z (Kt o X Y Z))=1:=by
 have j:=Zv5 e (Hu X (Kt o X Y Z) ++ Hu Y (Kt o X Y Z) ++ Hu Z (Kt o X Y Z)) f;rw [h,dL,dL,Hj,Hj,Zm1 e n (eG g),Zm1 e s (Zg7 _ _ (eG g)),Zm1 e t (Zg7 _ _ (Zg7 _ _ (eG g)))]at j;have l:Kt o X Y Z=Me (Me (Me o X) Y) Z:=by show Me o (X ++ Y ++ Z)=_;rw [Hj,Hj]
 rw [<-l]at j;generalize Me f _=r at *;have m:Kt o X Y Z*r=Kt o X Y Z*1:=O;exact gX O m
structure Prt (q g:Zl) (G:Int):Prop where
 g0:0<G
 a0:0<=q.1.1-g.1.1
 b0:0<q.1.2.1-q.1.1
 ab:(q.1.1-g.1.1)+(q.1.2.1-q.1.1)<=g.1.2.1-g.1.1
 o:q.1.2.2*G=g.1.2.2*(g.1.2.1-g.1.1)^5
 x:∀i (t u:Rat),t*((g.1.2.1-g.1.1:Int):Rat)=((q.1.1-g.1.1:Int):Rat)+((q.1.2.1-q.1.1:Int):Rat)*u->Zf (Zu i q.2.1.2 q.2.2.1.2 q.2.2.2.2) u*(G:Rat)=((g.1.2.1-g.1.1:Int):Rat)^5*Zf (Zu i g.2.1.2 g.2.2.1.2 g.2.2.2.2) t
theorem Zyp{X:List Int}(h:∀k,(X.getD k 0/G).natAbs<=9223372036854775807):∀a∈Hu X G,Nz a:=λa e=>by
 unfold Hu at e;split at e
 .rw [bO.1 e];exact⟨O3,O3⟩
 .obtain⟨x,g,rfl⟩:=eJ.1 e;obtain⟨k,f⟩:=nG.1 g;have:=h k;rw [aE,f]at this;simp only [fE]at this;exact⟨O,O⟩
theorem Zq2{a b:Int}{t u:Rat}(f:AxC c ov)(e:0<G)(g:∀x∈Pd c a b d,G∣x)(h:t*(d:Rat)=(a:Rat)+(b:Rat)*u):Zf (Hu (Pd c a b d) G) u*(G:Rat)=(d:Rat)^5*Zf c t:=by rw [Ypm e g];exact Zgi f h
theorem Yrr{fr e:Int}{g:Zl}(hi:Gin g)(hs:seB g=true)(hp:Ii fr e g=true)(hk:Zhj fr e g=true)(hu:Gs q=Zws fr e g):Gin q/\seB q=true/\Prt q g (cG fr e g):=by
 have S:SgG g:=Lo hi hs;obtain⟨a1,a2,a3⟩:=Zxu hs;obtain⟨F,H,I,P⟩:=Yml S hp;have R:=Zyk hi hs hp;obtain⟨g1,⟨s,a4⟩,Q⟩:=R.g;have m:0<cG fr e g:=g1;have w:∀x∈cX fr e g g.2.1.2,cG fr e g∣x:=Q 0 O3;have y:∀x∈cX fr e g g.2.2.1.2,cG fr e g∣x:=Q 1 O3;have z:∀x∈cX fr e g g.2.2.2.2,cG fr e g∣x:=Q 2 O3;have B:cG fr e g*s=cO g:=a4.symm;have v:cO g/cG fr e g=s:=by rw [<-B];exact jY _ O
 have f:cO g/cG fr e g<=4294967296:=cE hk;have a5:0<cO g:=R.o;have a9:0<s:=by
  by_cases h:0<s
  .exact h
  .have:=gT (eG m) (show s<=0 by omega);omega
 have n:s*cG fr e g=g.1.2.2*(g.1.2.1-g.1.1)^5:=by rw [cQ];exact B
 obtain⟨x1,x2⟩:=Zzs a1 F H I P m w n;obtain⟨y1,y2⟩:=Zzs a2 F H I P m y n;obtain⟨z1,z2⟩:=Zzs a3 F H I P m z n;obtain⟨⟨qf,qt,qo⟩,⟨sx,qx⟩,⟨sy,qy⟩,⟨sz,qz⟩⟩:=q;unfold Gs Zws at hu;rw [mdO_t f,Zg0 f,Zg0 f,Zg0 f,v]at hu;injection hu with h1 h2;injection h1 with hf h1;injection h1 with ht N;injection h2 with hx h2;injection h2 with hy hz;dsimp only at hf ht N hx hy hz;subst hf ht hx hy hz;have N:=N.symm;subst N;have j:=λi (hi:i<3) k=>R.fit (i:=i) f hi k;have a7:=cE hp;have b0:=S.t1;have b1:=S.t3;have V:∀a∈Hu (cX fr e g g.2.1.2) (cG fr e g),Nz a:=Zyp (j 0 O3);have W:∀a∈Hu (cX fr e g g.2.2.1.2) (cG fr e g),Nz a:=Zyp (j 1 O3);have a0:∀a∈Hu (cX fr e g g.2.2.2.2) (cG fr e g),Nz a:=Zyp (j 2 O3);have a8:s<=4294967296:=v▸f;have a6:0<=cA fr g/\cB e g<=3600000:=by unfold cA cB;exact⟨O,O⟩
 have i1:Nz (cA fr g):=⟨O,O⟩;have i2:Nz (cB e g):=⟨O,O⟩;have i3:Nz s:=⟨O,O⟩;refine⟨⟨i1,i2,i3,V,W,a0⟩,?_,⟨m,F,H,by show(cA fr g-g.1.1)+(cB e g-cA fr g)<=_;exact I,n,λi t u D=>?_⟩⟩
 .show Ba (cA fr g) (cB e g) s _ _ _=true;unfold Ba Yec;simp only [aR,dO];exact⟨⟨⟨⟨⟨⟨⟨⟨O,O⟩,O⟩,O⟩,O⟩,x1.to⟩,y1.to⟩,z1.to⟩,Yq4 a5 m w y z B⟩
 .have l:t*((g.1.2.1-g.1.1:Int):Rat)=((cA fr g-g.1.1:Int):Rat)+((cB e g-cA fr g:Int):Rat)*u:=D;clear D;have k0:=Zq2 a1 m w l;have k1:=Zq2 a2 m y l;have k2:=Zq2 a3 m z l;dsimp only;generalize Hu (cX fr e g g.2.1.2) (cG fr e g)=X at *;generalize Hu (cX fr e g g.2.2.1.2) (cG fr e g)=Y at *;generalize Hu (cX fr e g g.2.2.2.2) (cG fr e g)=Z at *;generalize ((cG fr e g:Int):Rat)=GG at *;generalize ((g.1.2.1-g.1.1:Int):Rat)^5=DD at *
  match i with
  | 0=>exact k0
  | 1=>exact k1
  | i+2=>exact k2
def cgb0(f:0<=M)(e:-(M*1)<=(x0*1)/\(x0*1)<=M*1):(-(80*M)<=x0/\x0<=80*M):=O
theorem cgb1(g:0<=M)(e:-(M*1)<=(x0*1)/\(x0*1)<=M*1)(f:-(M*1)<=(x0*1+x1*1)/\(x0*1+x1*1)<=M*1):(-(80*M)<=x0/\x0<=80*M)/\(-(80*M)<=x1/\x1<=80*M):=by refine⟨⟨?_,?_⟩,⟨?_,?_⟩⟩<;>omega
theorem cgb2(h:0<=M)(e:-(M*1)<=(x0*1)/\(x0*1)<=M*1)(f:-(M*2)<=(x0*2+x1*1)/\(x0*2+x1*1)<=M*2)(g:-(M*1)<=(x0*1+x1*1+x2*1)/\(x0*1+x1*1+x2*1)<=M*1):(-(80*M)<=x0/\x0<=80*M)/\(-(80*M)<=x1/\x1<=80*M)/\(-(80*M)<=x2/\x2<=80*M):=by refine⟨⟨?_,?_⟩,⟨?_,?_⟩,⟨?_,?_⟩⟩<;>omega
theorem cgb3(j:0<=M)(e:-(M*1)<=(x0*1)/\(x0*1)<=M*1)(f:-(M*3)<=(x0*3+x1*1)/\(x0*3+x1*1)<=M*3)(g:-(M*3)<=(x0*3+x1*2+x2*1)/\(x0*3+x1*2+x2*1)<=M*3)(h:-(M*1)<=(x0*1+x1*1+x2*1+x3*1)/\(x0*1+x1*1+x2*1+x3*1)<=M*1):(-(80*M)<=x0/\x0<=80*M)/\(-(80*M)<=x1/\x1<=80*M)/\(-(80*M)<=x2/\x2<=80*M)/\(-(80*M)<=x3/\x3<=80*M):=by refine⟨⟨?_,?_⟩,⟨?_,?_⟩,⟨?_,?_⟩,⟨?_,?_⟩⟩<;>omega
theorem cgb4(l:0<=M)(e:-(M*1)<=(x0*1)/\(x0*1)<=M*1)(f:-(M*4)<=(x0*4+x1*1)/\(x0*4+x1*1)<=M*4)(g:-(M*6)<=(x0*6+x1*3+x2*1)/\(x0*6+x1*3+x2*1)<=M*6)(h:-(M*4)<=(x0*4+x1*3+x2*2+x3*1)/\(x0*4+x1*3+x2*2+x3*1)<=M*4)(j:-(M*1)<=(x0*1+x1*1+x2*1+x3*1+x4*1)/\(x0*1+x1*1+x2*1+x3*1+x4*1)<=M*1):(-(80*M)<=x0/\x0<=80*M)/\(-(80*M)<=x1/\x1<=80*M)/\(-(80*M)<=x2/\x2<=80*M)/\(-(80*M)<=x3/\x3<=80*M)/\(-(80*M)<=x4/\x4<=80*M):=by refine⟨⟨?_,?_⟩,⟨?_,?_⟩,⟨?_,?_⟩,⟨?_,?_⟩,⟨?_,?_⟩⟩<;>omega
theorem cgb5{e:Int}(n:0<=M)(f:-(M*1)<=(x0*1)/\(x0*1)<=M*1)(g:-(M*5)<=(x0*5+x1*1)/\(x0*5+x1*1)<=M*5)(h:-(M*10)<=(x0*10+x1*4+x2*1)/\(x0*10+x1*4+x2*1)<=M*10)(j:-(M*10)<=(x0*10+x1*6+x2*3+x3*1)/\(x0*10+x1*6+x2*3+x3*1)<=M*10)(l:-(M*5)<=(x0*5+x1*4+x2*3+x3*2+x4*1)/\(x0*5+x1*4+x2*3+x3*2+x4*1)<=M*5)(m:-(M*1)<=(x0*1+x1*1+x2*1+x3*1+x4*1+e*1)/\(x0*1+x1*1+x2*1+x3*1+x4*1+e*1)<=M*1):(-(80*M)<=x0/\x0<=80*M)/\(-(80*M)<=x1/\x1<=80*M)/\(-(80*M)<=x2/\x2<=80*M)/\(-(80*M)<=x3/\x3<=80*M)/\(-(80*M)<=x4/\x4<=80*M)/\(-(80*M)<=e/\e<=80*M):=by refine⟨⟨?_,?_⟩,⟨?_,?_⟩,⟨?_,?_⟩,⟨?_,?_⟩,⟨?_,?_⟩,⟨?_,?_⟩⟩<;>omega
theorem cg_brS{n:Nat}(v:n<6)(y:c.length<=n+1)(h:∀j,j<n+1->((Hk n c j).natAbs:Int)<=M*(Oq n j:Int))(k:Nat):((cf c k).natAbs:Int)<=80*M:=by
 have s:0<=M:=by have f:=h 0 O;rw [Znj]at f;omega
 by_cases w:k<n+1
 .rw [Qg]
  match n,v with
  | 0,_=>
   have f:=Qg.1 (h 0 O3);rw [bre00,show(Oq 0 0:Int)=1 from rfl]at f;have e:=cgb0 s f;obtain rfl:k=0:=O;exact e
  | 1,_=>
   have f:=Qg.1 (h 0 O3);rw [bre10,show(Oq 1 0:Int)=1 from rfl]at f;have g:=Qg.1 (h 1 O3);rw [bre11,show(Oq 1 1:Int)=1 from rfl]at g;have e:=cgb1 s f g;rcases(show k=0\/k=1 by omega)with rfl|rfl
   .exact e.1
   .exact e.2
  | 2,_=>
   have f:=Qg.1 (h 0 O3);rw [bre20,show(Oq 2 0:Int)=1 from rfl]at f;have g:=Qg.1 (h 1 O3);rw [bre21,show(Oq 2 1:Int)=2 from rfl]at g;have l:=Qg.1 (h 2 O3);rw [bre22,show(Oq 2 2:Int)=1 from rfl]at l;have e:=cgb2 s f g l;rcases(show k=0\/k=1\/k=2 by omega)with rfl|rfl|rfl
   .exact e.1
   .exact e.2.1
   .exact e.2.2
  | 3,_=>
   have f:=Qg.1 (h 0 O3);rw [bre30,show(Oq 3 0:Int)=1 from rfl]at f;have g:=Qg.1 (h 1 O3);rw [bre31,show(Oq 3 1:Int)=3 from rfl]at g;have l:=Qg.1 (h 2 O3);rw [bre32,show(Oq 3 2:Int)=3 from rfl]at l;have m:=Qg.1 (h 3 O3);rw [bre33,show(Oq 3 3:Int)=1 from rfl]at m;have e:=cgb3 s f g l m;rcases(show k=0\/k=1\/k=2\/k=3 by omega)with rfl|rfl|rfl|rfl
   .exact e.1
   .exact e.2.1
   .exact e.2.2.1
   .exact e.2.2.2
  | 4,_=>
   have f:=Qg.1 (h 0 O3);rw [bre40,show(Oq 4 0:Int)=1 from rfl]at f;have g:=Qg.1 (h 1 O3);rw [bre41,show(Oq 4 1:Int)=4 from rfl]at g;have l:=Qg.1 (h 2 O3);rw [bre42,show(Oq 4 2:Int)=6 from rfl]at l;have m:=Qg.1 (h 3 O3);rw [bre43,show(Oq 4 3:Int)=4 from rfl]at m;have t:=Qg.1 (h 4 O3);rw [bre44,show(Oq 4 4:Int)=1 from rfl]at t;have e:=cgb4 s f g l m t;rcases(show k=0\/k=1\/k=2\/k=3\/k=4 by omega)with rfl|rfl|rfl|rfl|rfl
   .exact e.1
   .exact e.2.1
   .exact e.2.2.1
   .exact e.2.2.2.1
   .exact e.2.2.2.2
  | 5,_=>
   have f:=Qg.1 (h 0 O3);rw [bre50,show(Oq 5 0:Int)=1 from rfl]at f;have g:=Qg.1 (h 1 O3);rw [bre51,show(Oq 5 1:Int)=5 from rfl]at g;have l:=Qg.1 (h 2 O3);rw [bre52,show(Oq 5 2:Int)=10 from rfl]at l;have m:=Qg.1 (h 3 O3);rw [bre53,show(Oq 5 3:Int)=10 from rfl]at m;have t:=Qg.1 (h 4 O3);rw [bre54,show(Oq 5 4:Int)=5 from rfl]at t;have u:=Qg.1 (h 5 O3);rw [bre55,show(Oq 5 5:Int)=1 from rfl]at u;have e:=cgb5 s f g l m t u;rcases(show k=0\/k=1\/k=2\/k=3\/k=4\/k=5 by omega)with rfl|rfl|rfl|rfl|rfl|rfl
   .exact e.1
   .exact e.2.1
   .exact e.2.2.1
   .exact e.2.2.2.1
   .exact e.2.2.2.2.1
   .exact e.2.2.2.2.2
 .rw [Yf O];simp;omega
theorem AxC.cg(h:AxC c ov)(k:Nat):((cf c k).natAbs:Int)<=83886080*ov:=by have f:=h.l;have:=cg_brS (n:=c.length-1) O (c:=c) O (M:=1048576*ov) (λj e=>h.b j O) k;omega
theorem Ybg(c:List Int)(a:Int):∀k,plS c a 1 k=Ye (λk=>cf c k*a^k) k
 | 0=>rfl
 | k+1=>by show plS c a 1 k+plT c a 1 k=_;rw [Yk,Ybg c a k];congr 1;show c.getD k 0*(a^k*1^_)=cf c k*a^k;rw [Int.one_pow,fH];rfl
theorem Zo8(f:Nat->Int):∀n,((Ye f n:Int):Rat)=Gb (λi=>(f i:Rat)) n
 | 0=>rfl
 | n+1=>by rw [Yk,Ml,<-Zo8 f n];push_cast;rfl
theorem Yjq(c:List Int)(a:Int):((pl c a 1:Int):Rat)=Zf c (a:Rat):=by
 unfold pl;rw [Ybg,Zo8]
 conv=>rhs;rw [<-Zei c]
 rw [Zkg];exact Lk _ λi hi=>by rw [<-Zdr];push_cast;rfl
theorem Prt.pl{g:Zl}(h:Prt q g G){a e:Int}(l:a*(g.1.2.1-g.1.1)=(q.1.1-g.1.1)+(q.1.2.1-q.1.1)*e)(i:Nat) :
  Sky.pl (Zu i q.2.1.2 q.2.2.1.2 q.2.2.2.2) e 1*G=Sky.pl (Zu i g.2.1.2 g.2.2.1.2 g.2.2.2.2) a 1*(g.1.2.1-g.1.1)^5:=by
 have f:=h.x i (a:Rat) (e:Rat) (by exact_mod_cast l);rw [<-Yjq,<-Yjq,<-Zdr]at f;have j:((Sky.pl (Zu i q.2.1.2 q.2.2.1.2 q.2.2.2.2) e 1*G:Int):Rat)=((Sky.pl (Zu i g.2.1.2 g.2.2.1.2 g.2.2.2.2) a 1*(g.1.2.1-g.1.1)^5:Int):Rat):=by rw [Rat.intCast_mul,Rat.intCast_mul,f,kL]
 exact_mod_cast j
structure Chn (ps:List Zl):Prop where
 lt:∀g∈ps,g.1.1<g.1.2.1
 eq:∀(i:Nat) (g h:Zl),ps[i]? = some g->ps[i+1]? = some h->g.1.2.1=h.1.1
def Chn.tail{g:Zl}(h:Chn (g::r)):Chn r:=⟨λx e=>h.lt x (bH _ e),λi x y e f=>h.eq (i+1) x y e f⟩
theorem Chn.ge:∀{r:List Zl} {g:Zl},Chn (g::r)->∀x∈r,g.1.2.1<=x.1.1
 | [],_,_,_,e=>nomatch e
 | h::r,g,hc,x,e=>by
  have f:=hc.eq 0 g h rfl rfl;rcases bE.1 e with rfl|e
  .omega
  .have:=Chn.ge hc.tail x e;have:=hc.lt h O7;omega
theorem Zr0{fr n:Int} : ∀{ps:List Zl},Chn ps->∀(j:Nat) (f l:Zl),(ps.filter (Ii fr n))[j]? = some f->(ps.filter (Ii fr n))[j+1]? = some l->∃i:Nat,ps[i]? = some f/\ps[i+1]? = some l
 | [],_,j,f,l,h,_=>by simp at h
 | g::r,hc,j,f,l,h1,e=>by
  cases hp:Ii fr n g with
  | false=>
   rw [fQ (by rw [hp];exact cW)]at h1 e;obtain⟨i,a,b⟩:=Zr0 hc.tail j f l h1 e;exact⟨i+1,a,b⟩
  | true=>
   rw [eF hp]at h1 e
   match j with
   | j+1=>
    obtain⟨i,a,b⟩:=Zr0 hc.tail j f l h1 e;exact⟨i+1,a,b⟩
   | 0=>
    obtain rfl:g=f:=by simpa using h1
    have e:(r.filter (Ii fr n))[0]? = some l:=e;have v:l∈r.filter (Ii fr n):=gL e;obtain⟨m,s⟩:=fW.1 v
    match r,hc,e,m with
    | h::r,hc,e,m=>
     have y:=hc.eq 0 g h rfl rfl;have z:=hc.lt h O7;have w:=cE hp;have t:=cE s;have u:Ii fr n h=true:=by
      refine aK ?_;unfold cA cB at *;rcases bE.1 m with rfl|q
      .exact t
      .have:=Chn.ge hc.tail l q;omega
     rw [eF u]at e;obtain rfl:h=l:=by simpa using e
     exact⟨0,rfl,rfl⟩
theorem getD_some{α:Type}{l:List α}{x d:α}(h:l[i]? = some x):l.getD i d=x:=by rw [aE,h];rfl
theorem Zc7{ps:List Zl}(hi:∀g∈ps,Gin g)(u:Xl ps=true):Chn ps/\(∀g∈ps,seB g=true)/\∀(i:Nat) (g h:Zl),ps[i]? = some g->ps[i+1]? = some h->meG g h=true:=by
 obtain⟨t,v,w⟩:=Nd u;have m:∀g∈ps,seB g=true:=λg f=>by obtain⟨i,j,e⟩:=eK.1 f;have:=Ew (t i j);rw [aE,aM j,fE,e]at this;exact this
 have l:∀(i:Nat) (g h:Zl),ps[i]? = some g->ps[i+1]? = some h->meG g h=true:=λi g h f n=>by have s:=(dZ.1 n).1;have:=t (i+1) s;rw [Zij (Ew this) O,eZ,getD_some f,getD_some n]at this;exact this
 refine⟨⟨λg f=>(Lo (hi g f) (m g f)).t2,λi g h f n=>?_⟩,m,l⟩;have:=l i g h f n;unfold meG Zmp at this;rw [aR,fN]at this;exact this.1
structure Pat (fr to:Int) (ps qs:List Zl):Prop where
 gin:∀q∈qs,Gin q
 pb:Xl qs=true
 len:qs.length=(ps.filter (Ii fr to)).length
 prt:∀(j:Nat) (q:Zl),qs[j]? = some q->∃f:Zl,(ps.filter (Ii fr to))[j]? = some f/\f∈ps/\Prt q f (cG fr to f)
 nxt:∀(j:Nat) (q r:Zl),qs[j]? = some q->qs[j+1]? = some r->∃(i:Nat) (f h:Zl),ps[i]? = some f/\ps[i+1]? = some h/\Prt q f (cG fr to f)/\Prt r h (cG fr to h)/\q.1.2.1=f.1.2.1/\r.1.1=h.1.1
theorem Ymk{fr j:Int} : ∀{ps:List Zl},Chn ps->ps≠[]->spF ps<=fr->fr<j->j<=spL ps->ps.filter (Ii fr j)≠[]
 | [],_,h,_,_,_=>absurd rfl h
 | g::r,hc,_,n,h2,f=>by
  have t:=hc.lt g O7;have n:g.1.1<=fr:=n;by_cases l:Ii fr j g=true
  .rw [eF l];exact List.cons_ne_nil _ _
  .have m:¬cA fr g<cB j g:=λh=>l (aK h);have e:g.1.2.1<=fr:=by unfold cA cB at m;omega
   rw [fQ l]
   match r,hc,f with
   | [],_,f=>
    have f:j<=g.1.2.1:=f;omega
   | h::r,hc,f=>
    have s:=hc.eq 0 g h rfl rfl;refine Ymk hc.tail (List.cons_ne_nil _ _) (by show h.1.1<=fr;omega) h2 ?_;have:spL (g::h::r)=spL (h::r):=by unfold spL;simp
    rw [<-this];exact f
theorem bl_dl{a b:Int}{n:Nat}(h:bl a.natAbs<=n):bl (a/b).natAbs<=n:=by rw [Qo]at h ⊢;exact bA (jW a b) h
def jqP(fr h ov:Int)(x y z:List Int)(e g f:Int)(x2 j l:List Int)(i:Nat):Prop:=qr (bgS (Zu i x2 j l)) (Zai [f,g-e])=qr (enS (Zu i x y z)) (Zai [ov,h-fr])
def refS(o:Nat)(x y z:List Int):Nat->List Int
 | 0=>[]
 | i+1=>Ht (refS o x y z i) (Qs (dN o (tzl (Zu i x y z))) (dN o (tzl (Zu i x y z))))
def refC(o:Nat)(m ov T:Int):Int:=m^2*ov^2*T^(2*o)
def refF(o:Nat)(m ov T:Int)(x y z:List Int):List Int:=Eh (tzl [refC o m ov T]) (Zq (refS o x y z 3) (1000^(2*o)))
theorem ps_Cm(a b:Int):PS.C (a*b)=PS.C a*PS.C b:=PS.ext' λi=>by rw [PS.C_mul_c];cases i<;>simp [PS.C]
theorem Yer{k:Int}:Qs (Zq p k) (Zq p k)=Zq (Qs p p) (k*k):=(Qm).ps_inj Qk (by rw [Zkj,Zif,Zif,Zkj,ps_Cm];grind)
theorem sz_one{c:Int}{n:Nat}(h:bl c.natAbs<=n):Sz n [c]:=Sz.of_mem λt e=>by rw [bO.1 e];exact h
def frB(ps:List Zl)(f e:Int)(i:Nat):Int:=
 if 0<i/\joG (ps.getD (i-1) G0) (ps.getD i G0)=false then 1 else if Ir (Ylf 1 f (ps.getD i G0))=true then 2 else if Ir (Ylf 2 e (ps.getD i G0))=true then 3 else 0
def fiB(ps:List Zl)(f e:Int):Option (Nat×Int):=((List.range ps.length).find? λi=>decide (frB ps f e i≠0)).map λi=>(i,frB ps f e i)
theorem tf(b:Bool):b=false\/b=true:=by cases b<;>simp
def fiI(o:Option (Nat×Int)):Int:=match o with
 | none=>0
 | some g=>g.1
def fiC(o:Option (Nat×Int)):Int:=match o with
 | none=>0
 | some g=>g.2
abbrev firV (o:Option (Nat×Int)):Value:= .tuple #[.agg #[.int .i64 (fiI o),.int .i64 (fiC o)],.bool o.isSome,.int .i64 0]
theorem Zl0(p q:List Int)(x:Rat):Zf (Ht p q) x=Zf p x+Zf q x:=by rw [<-Xp];exact Oy x _ _ λi=>by rw [Dh,Mv]
theorem Yik(p q:List Int)(x:Rat):Zf (Eh p q) x=Zf p x-Zf q x:=by
 have:Zf (Eh p q) x=Zf (Mu p (q.map λa=>-1*a)) x:=Oy x _ _ λi=>by rw [Il,Mv,Qq];omega
 rw [this,Xp,Zo];push_cast;grind
theorem Yim(p:List Int)(x:Rat):Zf p x=(Ys p:Rat)*Zf (Zw p) x:=by rw [<-Zo];exact Oy x _ _ λi=>by rw [Qq,cQ,Gp]
theorem Zwv(h:Tr p)(e:p≠[]):(0:Rat)<(Ys p:Rat):=by have f:=Cw h e;have g:=Nr p;exact_mod_cast (show 0<Ys p by omega)
theorem Zvg(h:Tr p)(x:Rat):Zf (Zw p) x<0↔Zf p x<0:=by
 by_cases e:p=[]
 .subst e;rfl
 .have f:=Zwv h e;rw [Yim p];constructor
  .intro h;have:=Rat.mul_lt_mul_of_pos_left h f;rw [Rat.mul_zero]at this;exact this
  .intro h;by_cases q:Zf (Zw p) x<0
   .exact q
   .exact absurd (aL (dE f) (Rat.not_lt.1 q)) (Rat.not_le.2 h)
def spd(o:Nat)(x y z:List Int)(u:Rat):Rat:=Zf (refS o x y z 3) u
def lstB(o:Nat)(ps:List Zl):Nat:=Yov (λn=>Ykx o ps (n:Int)) 14 0 10000
def lsV(o:Nat)(ps:List Zl):Nat:=if Ykx o ps 10000 then lstB o ps else 0
theorem Zop(a b:Bool):a=false\/(a=true/\b=false)\/(a=true/\b=true):=by cases a<;>cases b<;>simp
def dR(o:Nat)(c:List Int)(u:Rat):Rat:=Zf (dN o (tzl c)) u
theorem Prt.num{g:Zl}(h:Prt q g G):∃v s:Rat,0<=v/\0<s/\v+s<=1/\s*((g.1.2.1-g.1.1:Int):Rat)=((q.1.2.1-q.1.1:Int):Rat)/\v*((g.1.2.1-g.1.1:Int):Rat)=((q.1.1-g.1.1:Int):Rat)/\(0:Rat)<((g.1.2.1-g.1.1:Int):Rat)/\
  ∀i (u:Rat),Zf (Zu i q.2.1.2 q.2.2.1.2 q.2.2.2.2) u*(G:Rat)=((g.1.2.1-g.1.1:Int):Rat)^5*Zf (Zu i g.2.1.2 g.2.2.1.2 g.2.2.2.2) (v+s*u):=by
 have m:=h.a0;have n:=h.b0;have t:=h.ab;have B:=h.x;generalize g.1.2.1-g.1.1=d at *;generalize q.1.2.1-q.1.1=b at *;generalize q.1.1-g.1.1=a at *;have j:(0:Rat)<(d:Rat):=by exact_mod_cast (show 0<d by omega)
 have w:(0:Rat)<=(a:Rat):=by exact_mod_cast m
 have z:(0:Rat)<(b:Rat):=by exact_mod_cast n
 have y:(a:Rat)+(b:Rat)<=(d:Rat):=by exact_mod_cast t
 have hi:0<(d:Rat)⁻¹:=gK.2 j;have e:(a:Rat)/d*d=a:=oC O4;have f:(b:Rat)/d*d=b:=oC O4;refine⟨(a:Rat)/d,(b:Rat)/d,?_,?_,?_,f,e,j,λi u=>B i _ u (by
  have l:(b:Rat)/d*u*d=((b:Rat)/d*d)*u:=by rw [kR,kL u,<-kR]
  rw [Rat.add_mul,e,l,f])⟩
 .rw [jQ];exact aL w (dE hi)
 .rw [jQ];exact bC z hi
 .have:((a:Rat)/d+b/d)*d<=1*d:=by rw [Rat.add_mul,e,f];grind
  exact Rat.le_of_mul_le_mul_right this j
def Zzb{fr e:Int}{ps:List Zl}(h:Oj fr e ps=true):Zwt fr e ps=0:=aG h
theorem Zza{fr e:Int}{ps:List Zl}(h:Oj fr e ps=false):Zwt fr e ps=7:=aD (by rw [h];exact cW)
def lh_M{fr f:Int}{ps:List Zl}(hi:∀g∈ps,Gin g)(h:Xl ps=true):∀g∈ps,Ii fr f g=true->MdG fr f g:=λg e j=>Zyk (hi g e) ((Zc7 hi h).2.1 g e) j
def inn(fr e:Int)(ps:List Zl):List Int:=(ps.filter λg=>decide (fr<g.1.1) && decide (g.1.1<e)).map λg=>g.1.1
theorem inn_t{fr e:Int}{ps:List Zl}(j:k<ps.length)(f:fr<(ps.getD k G0).1.1)(h:(ps.getD k G0).1.1<e):inn fr e (ps.take (k+1))=inn fr e (ps.take k) ++ [(ps.getD k G0).1.1]:=by unfold inn;rw [Zh3 (x:=ps.getD k G0) (by rw [aE,aM j];rfl),fP,dL];rw [show List.filter (λg:Zl=>decide (fr<g.1.1) && decide (g.1.1<e)) [ps.getD k G0]=[ps.getD k G0]from eF (by rw [aK f,aK h];rfl)];rfl
theorem inn_f{fr e:Int}{ps:List Zl}(j:k<ps.length)(h:¬(fr<(ps.getD k G0).1.1/\(ps.getD k G0).1.1<e)):inn fr e (ps.take (k+1))=inn fr e (ps.take k):=by
 unfold inn;rw [Zh3 (x:=ps.getD k G0) (by rw [aE,aM j];rfl),fP,dL];rw [show List.filter (λg:Zl=>decide (fr<g.1.1) && decide (g.1.1<e)) [ps.getD k G0]=[] by rw [fQ (λf=>by rw [aR]at f;exact h ⟨cE f.1,cE f.2⟩)];rfl]
 simp
theorem Zrq(fr e:Int)(ps:List Zl):(inn fr e ps).length<=ps.length:=by unfold inn;rw [aP];exact jG _ _
theorem Ybv{fr j:Int}{ps:List Zl} : x∈inn fr j ps↔∃g∈ps,g.1.1=x/\fr<x/\x<j:=by
 unfold inn;rw [eJ];constructor
 .rintro⟨g,h,rfl⟩;obtain⟨f,e⟩:=fW.1 h;simp only [aR,dO]at e;exact⟨g,f,rfl,e.1,e.2⟩
 .rintro⟨g,h,rfl,f,e⟩;exact⟨g,fW.2 ⟨h,by simp [f,e]⟩,rfl⟩
def cmF(a b:List Zl):Int:=max (spF a) (spF b)
def Aw(a b:List Zl):Int:=min (spL a) (spL b)
def Zf5(a b:List Zl)(i:Nat):List Int:=cmF a b::Aw a b::((if 1<=i then inn (cmF a b) (Aw a b) a else []) ++ (if 2<=i then inn (cmF a b) (Aw a b) b else []))
def Oz(a b:List Zl):List Int:=Zt4 (Zf5 a b 2)
def Dm{α:Type _}(i:Nat)(a b:α):α:=if i=0 then a else b
theorem tms_s(h:i<2):Zf5 a b (i+1)=Zf5 a b i ++ inn (cmF a b) (Aw a b) (Dm i a b):=by
 match i,h with
 | 0,_=>simp [Zf5,Dm]
 | 1,_=>simp [Zf5,Dm]
theorem Zal : x∈Oz a b↔x=cmF a b\/x=Aw a b\/(cmF a b<x/\x<Aw a b/\((∃g∈a,g.1.1=x)\/∃g∈b,g.1.1=x)):=by
 unfold Oz;rw [Zmn];show x∈cmF a b::Aw a b::(inn _ _ a ++ inn _ _ b)↔_;rw [bE,bE,cZ,Ybv,Ybv];constructor
 .rintro(h|h|⟨g,e,f,j,l⟩|⟨g,e,f,j,l⟩)
  .exact .inl h
  .exact .inr (.inl h)
  .exact .inr (.inr ⟨j,l,.inl ⟨g,e,f⟩⟩)
  .exact .inr (.inr ⟨j,l,.inr ⟨g,e,f⟩⟩)
 .rintro(h|h|⟨j,l,⟨g,e,f⟩|⟨g,e,f⟩⟩)
  .exact .inl h
  .exact .inr (.inl h)
  .exact .inr (.inr (.inl ⟨g,e,f,j,l⟩))
  .exact .inr (.inr (.inr ⟨g,e,f,j,l⟩))
def Ydl(a b:List Zl):Sst (Oz a b) (Oz a b).length:=Yaa (Zmx _)
theorem Zvw(x:Int):∀l:List Int,(Zmw x l).length<=l.length+1
 | []=>aI _
 | y::l=>by
  have:=Zvw x l;unfold Zmw;split
  .exact aI _
  .split
   .exact Nat.le_succ _
   .simp only [dV];omega
theorem Zvt:∀l:List Int,(Zt4 l).length<=l.length
 | []=>aI _
 | x::l=>by have:=Zvt l;have:=Zvw x (Zt4 l);show(Zmw x (Zt4 l)).length<=_;simp only [dV];omega
theorem Zrp(a b:List Zl)(i:Nat):(Zf5 a b i).length<=2+a.length+b.length:=by have e:=Zrq (cmF a b) (Aw a b) a;have f:=Zrq (cmF a b) (Aw a b) b;unfold Zf5;split<;>split<;>simp<;>omega
def Zrr(a b:List Zl):(Oz a b).length<=2+a.length+b.length:=aB (Zvt _) (Zrp a b 2)
structure Bks (a b:List Zl):Prop where
 two:2<=(Oz a b).length
 hd:(Oz a b).getD 0 0=cmF a b
 ls:(Oz a b).getD ((Oz a b).length-1) 0=Aw a b
 lt:∀k,k+1<(Oz a b).length->cmF a b<=(Oz a b).getD k 0/\(Oz a b).getD k 0<(Oz a b).getD (k+1) 0/\(Oz a b).getD (k+1) 0<=Aw a b
 no:∀k,k+1<(Oz a b).length->∀g,g∈a\/g∈b->¬((Oz a b).getD k 0<g.1.1/\g.1.1<(Oz a b).getD (k+1) 0)
theorem bks (a:List Zl)(b:List Zl)(h:cmF a b<Aw a b):Bks a b:=by
 have hs:=Ydl a b;have w:cmF a b∈Oz a b:=Zal.2 (.inl rfl);have y:Aw a b∈Oz a b:=Zal.2 (.inr (.inl rfl));have f:∀x∈Oz a b,cmF a b<=x/\x<=Aw a b:=λx F=>by rcases Zal.1 F with l|l|⟨l,s,_⟩<;>omega
 obtain⟨i,hi,u⟩:=Ez.1 w;obtain⟨j,P,v⟩:=Ez.1 y;have t:2<=(Oz a b).length:=by
  by_cases e:i=j
  .subst e;omega
  .omega
 have z:(Oz a b).getD 0 0=cmF a b:=by
  by_cases e:i=0
  .subst e;exact u
  .have l:=hs 0 i O hi;have s:=(f _ (Zd (zs:=Oz a b) (i:=0) (d:=0))).1;omega
 have H:(Oz a b).getD ((Oz a b).length-1) 0=Aw a b:=by
  by_cases e:j=(Oz a b).length-1
  .rw [<-e];exact v
  .have l:=hs j ((Oz a b).length-1) O O;have s:=(f _ (Zd (zs:=Oz a b) (i:=(Oz a b).length-1) (d:=0))).2;omega
 refine⟨t,z,H,λk n=>⟨(f _ Zd).1,hs k (k+1) O n,(f _ (Zd n)).2⟩,λk n g m N=>?_⟩;have l:=(f _ (Zd (zs:=Oz a b) (i:=k) (d:=0))).1;have s:=(f _ (Zd (zs:=Oz a b) (i:=k+1) (d:=0) n)).2;have B:g.1.1∈Oz a b:=Zal.2 (.inr (.inr ⟨O,O,by
  rcases m with m|m
  .exact .inl ⟨g,m,rfl⟩
  .exact .inr ⟨g,m,rfl⟩⟩))
 obtain⟨q,D,I⟩:=Ez.1 B;rcases iJ q k with c|c|c
 .have:=hs q k c O;omega
 .subst c;omega
 .rcases iJ q (k+1)with d|d|d
  .omega
  .subst d;omega
  .have:=hs (k+1) q d D;omega
theorem Yc2{fr e:Int}{g:Zl}(h:Ii fr e g=true):fr<g.1.2.1/\g.1.1<e:=by unfold Ii cA cB at h;have:=cE h;exact⟨O,O⟩
theorem Yc1{fr e:Int}{ps:List Zl}(h:Chn ps)(l:ps≠[])(u:spF ps<=fr)(v:fr<e)(w:e<=spL ps)(m:∀g∈ps,¬(fr<g.1.1/\g.1.1<e)):(ps.filter (Ii fr e)).length=1:=by
 have y:=Ymk h l u v w;have n:0<(ps.filter (Ii fr e)).length:=aF.2 y;rcases aZ 1 (ps.filter (Ii fr e)).length with f|f
 .exfalso;have s:=aM n;have t:=aM f;obtain⟨i,f1,f2⟩:=Zr0 h 0 _ _ s t;have z:=(fW.1 (fY n)).2;have B:=(fW.1 (fY f)).2;have j:=(fW.1 (fY f)).1;have H:=h.eq i _ _ f1 f2;have D:=Yc2 z;have F:=Yc2 B;exact m _ j ⟨O,O⟩
 .omega
def Zfs(ts:List Int)(ps:List Zl):Nat->List Zof
 | 0=>[]
 | n+1=>Zfs ts ps n ++ Zdo (ts.getD n 0) (ts.getD (n+1) 0) ps
def Cy(ts:List Int)(a b:List Zl):Nat->Bool
 | 0=>true
 | n+1=>Cy ts a b n && (Oj (ts.getD n 0) (ts.getD (n+1) 0) a && Oj (ts.getD n 0) (ts.getD (n+1) 0) b)
def Zzd(a b:List Zl):Bool:=Cy (Oz a b) a b ((Oz a b).length-1)
def Gv(a b:List Zl):Int:=if cmF a b>=Aw a b then 9 else if Zzd a b then 0 else 7
def Lr(a b ps:List Zl):List Zof:=if Gv a b=0 then Zfs (Oz a b) ps ((Oz a b).length-1)else []
theorem Zwy{ts:List Int}{a b:List Zl} : ∀{n m:Nat},n<=m->Cy ts a b m=true->Cy ts a b n=true
 | n,0,h,e=>by obtain rfl:n=0:=O;rfl
 | n,m+1,h,e=>by
  rcases aZ m n with f|f
  .obtain rfl:n=m+1:=O;exact e
  .refine Zwy f ?_;have:Cy ts a b (m+1)=(Cy ts a b m && (Oj (ts.getD m 0) (ts.getD (m+1) 0) a && Oj (ts.getD m 0) (ts.getD (m+1) 0) b)):=rfl;rw [this,aR]at e;exact e.1
def tik(a b:List Zl)(i k:Nat):List Int:=Zf5 a b i ++ inn (cmF a b) (Aw a b) ((Dm i a b).take k)
theorem tik_0(a b:List Zl)(i:Nat):tik a b i 0=Zf5 a b i:=by unfold tik;rw [dS];exact iA _
theorem tik_t(g:k<(Dm i a b).length)(e:cmF a b<((Dm i a b).getD k G0).1.1)(f:((Dm i a b).getD k G0).1.1<Aw a b):tik a b i (k+1)=tik a b i k ++ [((Dm i a b).getD k G0).1.1]:=by unfold tik;rw [inn_t g e f,dB]
theorem tik_f(e:k<(Dm i a b).length)(h:¬(cmF a b<((Dm i a b).getD k G0).1.1/\((Dm i a b).getD k G0).1.1<Aw a b)):tik a b i (k+1)=tik a b i k:=by unfold tik;rw [inn_f e h]
theorem tik_e(hi:i<2):tik a b i (Dm i a b).length=Zf5 a b (i+1):=by unfold tik;rw [bK,tms_s hi]
theorem Zvu(a b:List Zl)(i:Nat):(Dm i a b).length<=a.length+b.length:=by unfold Dm;split<;>omega
theorem Yqs(a b:List Zl)(i k:Nat):(tik a b i k).length<=2+2*(a.length+b.length):=by have e:=Zrp a b i;have f:=Zrq (cmF a b) (Aw a b) ((Dm i a b).take k);have g:=Zvu a b i;have h:((Dm i a b).take k).length<=(Dm i a b).length:=List.length_take_le' _ _;unfold tik;rw [aS];omega
def tms_ne(a b:List Zl)(i:Nat):Zf5 a b i≠[]:=λh=>nomatch h
theorem tms_2(a b:List Zl)(i:Nat):2<=(Zf5 a b i).length:=by unfold Zf5;simp
section
variable {P:Program} {N:Nat} {sc:Nat->Prop} {env:Pw} {H:Hp}
theorem Ype{l m sd:SL}(i j k n:Nat)(s:lk H j=some (Xs 6 Qj qG (Xm l) a))(t:lk H k=some (Xs 6 Qj qG (Xm m) b))(e:Nat.beq j 0=false)(f:Nat.beq k 0=false)(hi:i<2) :
  ∀g w,Sat N sc env H g w->Sat N sc env ((n,Xs 6 Qj qG (Xm ([l,m].getD i sd)) (Dm i a b))::H) g w:=by
 match i,hi with
 | 0,_=>exact Zc1 j n s e rfl (λ_ h=>h) (λ_ h=>h) rfl
 | 1,_=>exact Zc1 k n t f rfl (λ_ h=>h) (λ_ h=>h) rfl
end
theorem Zpu(h:cmF a b>=Aw a b)(ps:List Zl):Gv a b=9/\Lr a b ps=[]:=by have e:Gv a b=9:=aG h;exact⟨e,by unfold Lr;rw [e];rfl⟩
theorem Zcp(h:¬cmF a b>=Aw a b){n:Nat}(l:n+1<(Oz a b).length)(j:(Oj ((Oz a b).getD n 0) ((Oz a b).getD (n+1) 0) a && Oj ((Oz a b).getD n 0) ((Oz a b).getD (n+1) 0) b)=false)(ps:List Zl):Gv a b=7/\Lr a b ps=[]:=by
 have k:Zzd a b=false:=by
  cases hk:Zzd a b with
  | false=>rfl
  | true=>
   have f:=Zwy (n:=n+1) O hk;have g:Cy (Oz a b) a b (n+1)=(Cy (Oz a b) a b n && (Oj ((Oz a b).getD n 0) ((Oz a b).getD (n+1) 0) a && Oj ((Oz a b).getD n 0) ((Oz a b).getD (n+1) 0) b)):=rfl;rw [g,j,lQ]at f;exact f.symm
 have e:Gv a b=7:=by unfold Gv;rw [aD h,k];rfl
 exact⟨e,by unfold Lr;rw [e];rfl⟩
theorem Zpv(h:¬cmF a b>=Aw a b){n:Nat}(g:n+1=(Oz a b).length)(f:Cy (Oz a b) a b n=true):Gv a b=0/\∀ps,Lr a b ps=Zfs (Oz a b) ps n:=by
 have k:Zzd a b=true:=by unfold Zzd;rw [show(Oz a b).length-1=n by omega];exact f
 have e:Gv a b=0:=by unfold Gv;rw [aD h,k];rfl
 exact⟨e,λps=>by unfold Lr;rw [e,aG rfl,show(Oz a b).length-1=n by omega]⟩
theorem com_k{n:Nat}(h:Cy (Oz a b) a b n=true)(e:Oj ((Oz a b).getD n 0) ((Oz a b).getD (n+1) 0) a=true)(f:Oj ((Oz a b).getD n 0) ((Oz a b).getD (n+1) 0) b=true):Cy (Oz a b) a b (n+1)=true:=by show(Cy (Oz a b) a b n && (_ && _))=true;rw [h,e,f];rfl
theorem Yc6{ps zs:List Zl}{n:Nat}(h:zs.map Gs=Zfs ts ps n)(e:us.map Gs=Zdo (ts.getD n 0) (ts.getD (n+1) 0) ps):(zs ++ us).map Gs=Zfs ts ps (n+1):=by rw [dL,h,e];rfl
theorem com_u{ps:List Zl}{fr f:Int}(hi:∀g∈ps,Gin g)(l:Xl ps=true)(n:spF ps<=fr)(s:fr<f)(t:f<=spL ps)(h:∀g∈ps,¬(fr<g.1.1/\g.1.1<f))(v:Oj fr f ps=true)(w:us.map Gs=Zdo fr f ps):us.length=1:=by have m:=(Nd l).2.1;have u:=Yc1 (Zc7 hi l).1 (λe=>by rw [e]at m;simp at m) n s t h;have j:=aH List.length w;rw [aP]at j;rw [j];unfold Zdo;rw [aG v,aP,u]
theorem Ymt{n:Nat}(hi:∀g∈a,Gin g)(l:Xl a=true)(B:Bks a b)(e:n+1<(Oz a b).length)(m:Oj ((Oz a b).getD n 0) ((Oz a b).getD (n+1) 0) a=true)(t:us.map Gs=Zdo ((Oz a b).getD n 0) ((Oz a b).getD (n+1) 0) a):us.length=1:=by obtain⟨f,h,j⟩:=B.lt n e;unfold cmF at f;unfold Aw at j;exact com_u hi l O h O (λg s=>B.no n e g (.inl s)) m t
theorem Yms{n:Nat}(hi:∀g∈b,Gin g)(l:Xl b=true)(B:Bks a b)(e:n+1<(Oz a b).length)(m:Oj ((Oz a b).getD n 0) ((Oz a b).getD (n+1) 0) b=true)(t:us.map Gs=Zdo ((Oz a b).getD n 0) ((Oz a b).getD (n+1) 0) b):us.length=1:=by obtain⟨f,h,j⟩:=B.lt n e;unfold cmF at f;unfold Aw at j;exact com_u hi l O h O (λg s=>B.no n e g (.inr s)) m t
theorem Ymy{a b:Bool}(h:¬(a=true/\b=true)):a=false\/(a=true/\b=false):=by cases a<;>cases b<;>simp_all
theorem Zi0{a b:Bool}(h:a=false):(a && b)=false:=by rw [h];rfl
theorem Ziz{a b:Bool}(h:b=false):(a && b)=false:=by rw [h];exact lQ _
end Go.Sky
namespace Go.Sky
variable{c p q ns:List Int}{x M:Nat}{f:Nat->List Int}
section
variable {P:Program} {N:Nat} {sc:Nat->Prop} {env:Pw} {H:Hp}
end
def KA:Nat:=360287970189639680
theorem AxC.ka{a:Int}(h:AxC c a)(b:1<=a)(d:a<=4294967296):Ab KA (tzl c):=λk=>by have:=h.cg k;rw [Lc];unfold KA;omega
def BG:Nat:=2^250*2^250
theorem bl_two{a b:Nat}(h:x<2^a*2^b):bl x<=a+b:=(Qo (a+b) x).2 (by rw [bW];exact h)
def Zw6(h:x<BG):bl x<=500:=bl_two (a:=250) (b:=250) h
def Ab.sg(h:Ab M p)(a:M<BG):Sz 500 p:=λi=>Zw6 (bA (h i) a)
def Cq(h:Ab M p)(a:M<BG)(d:Tr p)(b:p.length<=25):Vp p:=⟨(h.sg a).mono O3,d,b⟩
theorem Zuj{c:Int}(h:Ab M p)(b:M*c.natAbs<BG)(i:Nat):bl (cf p i*c).natAbs<=65536:=by have a:=Az h c i;rw [Yl]at a;exact aB (Zw6 (bA a b)) O3
theorem ad_ab{K:Nat}(h:Ab M p)(e:Ab K q)(d:M+K<BG)(i:Nat):bl (cf p i+cf q i).natAbs<=65536/\bl (cf p i-cf q i).natAbs<=65536:=by have a:=h i;have b:=e i;exact⟨aB (Zw6 (bA (by omega:_<=M+K) d)) O3,aB (Zw6 (bA (by omega:_<=M+K) d)) O3⟩
theorem mf_ab(h:Ab M p)(b:M<BG)(d:p.length<=11):¬Zak p p:=λa=>by have m:=Qu (h.sg b);rcases a.2.2 with w|w<;>omega
def dfP(p q:List Int)(a b:Int):List Int:=Eh (Zq (tzl p) b) (Zq (tzl q) a)
def dfK(p q:List Int)(a b k:Int):List Int:=Zq (dfP p q a b) k
def sqK(p q:List Int)(a b k:Int):List Int:=Qs (dfK p q a b k) (dfK p q a b k)
def sqP(p q:List Int)(a b:Int):List Int:=Qs (dfP p q a b) (dfP p q a b)
def KD:Nat:=KA*4294967296+KA*4294967296
structure FmX (p q:List Int) (a b k:Int):Prop where
 v1:Vp (tzl p)
 v2:Vp (tzl q)
 b1:bl b.natAbs<=65536
 a1:bl a.natAbs<=65536
 k1:bl k.natAbs<=65536
 s1:∀i,bl (cf (tzl p) i*b).natAbs<=65536
 s2:∀i,bl (cf (tzl q) i*a).natAbs<=65536
 v3:Vp (Zq (tzl p) b)
 v4:Vp (Zq (tzl q) a)
 s3:∀i,bl (cf (Zq (tzl p) b) i-cf (Zq (tzl q) a) i).natAbs<=65536
 v5:Vp (dfP p q a b)
 s4:∀i,bl (cf (dfP p q a b) i*k).natAbs<=65536
 v6:Vp (dfK p q a b k)
 m6:¬Zak (dfK p q a b k) (dfK p q a b k)
 v7:Vp (sqK p q a b k)
 ab:Ab (6*((KD*100)*(KD*100))) (sqK p q a b k)
 l:(sqK p q a b k).length<=11
 m5:¬Zak (dfP p q a b) (dfP p q a b)
 v8:Vp (sqP p q a b)
 ab8:Ab (6*((KD*100)*(KD*100))) (sqP p q a b)
 l8:(sqP p q a b).length<=11
theorem fmX{a b k:Int}(l:Ab KA (tzl p))(m:Ab KA (tzl q))(lp:p.length<=6)(Q:q.length<=6)(w:1<=a/\a<=4294967296)(y:1<=b/\b<=4294967296)(R:1<=k/\k<=100):FmX p q a b k:=by
 have o:(tzl p).length<=6:=aB (Mj p) lp;have r:(tzl q).length<=6:=aB (Mj q) Q;have s:Ab (KA*4294967296) (Zq (tzl p) b):=(Az l b).mono (bB _ O);have t:Ab (KA*4294967296) (Zq (tzl q) a):=(Az m a).mono (bB _ O);have d:Ab KD (dfP p q a b):=Ynu s t;have e:Ab (KD*100) (dfK p q a b k):=(Az d k).mono (bB _ O);have j:Ab (KD*100) (dfP p q a b):=d.mono O5;have G:(Zq (tzl p) b).length<=6:=aB (Oh _) o;have I:(Zq (tzl q) a).length<=6:=aB (Oh _) r;have g:(dfP p q a b).length<=6:=Yb1 G I;have n:(dfK p q a b k).length<=6:=aB (Oh _) g;have t5:Tr (dfP p q a b):=Qi _;have t6:Tr (dfK p q a b k):=Qi _;have u:=Ynv e e n;have v:=Ynv j j g;have z:=Yb2 t6 t6 n n;have B:=Yb2 t5 t5 g g;have h:∀c:Int,1<=c/\c<=4294967296->bl c.natAbs<=65536:=λc F=>aB ((Qo 40 _).2 O) O5;have D:∀c:Int,1<=c/\c<=4294967296->KA*c.natAbs<BG:=λc F=>bA (bB KA (by omega:c.natAbs<=4294967296)) O5;exact⟨Cq l O5 (Qi _) O,Cq m O5 (Qi _) O,h b y,h a w,h k O,Zuj l (D b y),Zuj m (D a w),
  Cq s O5 (Qi _) O,Cq t O5 (Qi _) O,λi=>(ad_ab s t O5 i).2,Cq d O5 t5 O,
  Zuj d (bA (bB KD (by omega:k.natAbs<=100)) O5),Cq e O5 t6 O,mf_ab e O5 O,Cq u O5 Qm (by have:(sqK p q a b k).length<=_:=z;omega),u,z,
  mf_ab j O5 O,Cq v O5 Qm (by have:(sqP p q a b).length<=_:=B;omega),v,B⟩
def ngC(ns:List Int):Nat->List Int
 | 0=>[-1]
 | i+1=>Zq (Zq (ngC ns i) (ns.getD i 0)) (ns.getD i 0)
def sqN(ns:List Int):Nat->Nat
 | 0=>1
 | i+1=>sqN ns i*(ns.getD i 0).natAbs*(ns.getD i 0).natAbs
theorem Zrg(ns:List Int):∀i,Ab (sqN ns i) (ngC ns i)/\(ngC ns i).length<=1/\Tr (ngC ns i)
 | 0=>⟨λi=>by
   match i with
   | 0=>show(cf [-1] 0).natAbs<=1;decide
   | i+1=>show(cf [-1] (i+1)).natAbs<=1;rw [Yf O7];decide,aI _,show Tr [-1]from .inr O3⟩
 | i+1=>by obtain⟨a,b,d⟩:=Zrg ns i;exact⟨Az (Az a _) _,aB (Oh _) (aB (Oh _) b),Qi _⟩
theorem Yhk{ns:List Int}{B:Nat}(h:∀i,(ns.getD i 0).natAbs<=B):∀i,sqN ns i<=(B*B)^i
 | 0=>aI _
 | i+1=>by rw [bX,<-cY];exact aU (aU (Yhk h i) (h i)) (h i)
structure NgX (ns:List Int) (i:Nat):Prop where
 b:bl (ns.getD i 0).natAbs<=65536
 inn:Nz (ns.getD i 0)
 v:Vp (ngC ns i)
 s:∀k,bl (cf (ngC ns i) k*ns.getD i 0).natAbs<=65536
 v2:Vp (Zq (ngC ns i) (ns.getD i 0))
 s2:∀k,bl (cf (Zq (ngC ns i) (ns.getD i 0)) k*ns.getD i 0).natAbs<=65536
theorem ngX(h:∀i,(ns.getD i 0).natAbs<=4294967296){i:Nat}(hi:i<=4):NgX ns i:=by obtain⟨j,n,k⟩:=Zrg ns i;have e:=Yhk h i;have g:(4294967296*4294967296)^i<=(4294967296*4294967296)^4:=dK O5 hi;have a:Ab ((4294967296*4294967296)^4) (ngC ns i):=j.mono (aB e g);have b:=h i;have d:Ab ((4294967296*4294967296)^4*4294967296) (Zq (ngC ns i) (ns.getD i 0)):=(Az a _).mono (bB _ b);have l:(4294967296*4294967296)^4*(ns.getD i 0).natAbs<BG:=bA (bB _ b) O5;have m:(4294967296*4294967296)^4*4294967296*(ns.getD i 0).natAbs<BG:=bA (bB _ b) O5;exact⟨aB ((Qo 40 _).2 O) O5,⟨O,O⟩,Cq a O5 k O,Zuj a l,Cq d O5 (Qi _) (aB (Oh _) O),Zuj d m⟩
def smP(c:List Int)(f:Nat->List Int):Nat->List Int
 | 0=>c
 | i+1=>Ht (smP c f i) (f i)
theorem Yhr{c:List Int}{f:Nat->List Int}{C F:Nat}(a:Ab C c)(d:c.length<=11)(g:Tr c)(b:∀i,Ab F (f i))(e:∀i,(f i).length<=11):∀i,Ab (C+i*F) (smP c f i)/\(smP c f i).length<=11/\Tr (smP c f i)
 | 0=>⟨by rw [gP];exact a,d,g⟩
 | i+1=>by obtain⟨h,j,k⟩:=Yhr a d g b e i;exact⟨by rw [dA,<-gC];exact Zzu h (b i),Zrs j (e i),Qi _⟩
structure SmX (c:List Int) (f:Nat->List Int):Prop where
 v:∀i,i<=3->Vp (smP c f i)
 s:∀i,i<3->∀k,bl (cf (smP c f i) k+cf (f i) k).natAbs<=65536
 d:Cvd (Zw (smP c f 3))
theorem smX(m:Ab (2^190) c)(r:c.length<=1)(o:Tr c)(l:∀i,Ab (6*((KD*100)*(KD*100))) (f i))(n:∀i,(f i).length<=11):SmX c f:=by
 have b:=Yhr m O o l n;have g:∀i,i<=3->2^190+i*(6*((KD*100)*(KD*100)))<2^205:=λi hi=>bA (Nat.add_le_add_left (aJ _ hi) _) O5;have a:(2:Nat)^205<BG:=O5;refine⟨λi hi=>?_,λi hi k=>?_,?_⟩
 .obtain⟨d,j,h⟩:=b i;exact Cq d (jU (g i hi) a) h O
 .obtain⟨d,j,h⟩:=b i;refine(ad_ab d (l i) ?_ k).1;have:=g (i+1) hi;rw [dA]at this;have e:=jU this a;omega
 .obtain⟨d,j,h⟩:=b 3;have hs:=d.sz (g 3 (aI _));exact⟨Kb (Cq d (jU (g 3 (aI _)) a) h O),Hz hs,by rw [Zy];exact j⟩
end Go.Sky
namespace Go.Sky
variable{a b xs:List Zl}{ov D d:Int}{x y z:List Int}
theorem Yll{g h j c e f:Value}:Instr.fill (λi=>some (i*3,3)) ((List.range (1*3)).map ((Value.agg #[g,h,j]).cells[· % (Value.agg #[g,h,j]).cells.size]!)).toArray [(0,.agg #[c,e,f])]=some #[c,e,f]:=by
 simp [Instr.fill,Value.cells,List.range,List.range.loop]
 try rfl
def insB(m:Int)(l:List Int):Bool:=l.all λx=>decide (-m<=x) && decide (x<=m)
def ptB(x y z:Int):Bool:=insB 1048576 [x,y,z]
def znB(D n d:Int):Bool:=decide (1<=D/\D<=4194304/\1<=n/\n<=d/\d<=100)
theorem Yke (x:Int)(y:Int)(A:Nat)(B:Nat)(c:x.natAbs<=A)(e:y.natAbs<=B):(x*y).natAbs<=A*B:=by rw [cJ];exact aU c e
def ptsB(e f g h c i D n d:Int):Bool:=decide (D*d*(D*d)<=(e-h)*d*((e-h)*d)+(f-c)*d*((f-c)*d)+(g-i)*n*((g-i)*n))
theorem Yja{a b c:Bool}(h:¬(a=true/\b=true/\c=true)):a=false\/(a=true/\b=false)\/(a=true/\b=true/\c=false):=by cases a<;>cases b<;>cases c<;>simp_all
def fqZ(n d ov c:Int)(x y z e f g:List Int)(i:Nat):List Int:=sqK (Zu i x y z) (Zu i e f g) ov c (Zu i d d n)
def cnZ(D d ov c:Int):List Int:=ngC [D,d,ov,c] 4
def smZ(D n d ov c:Int)(x y z e f g:List Int)(i:Nat):List Int:=smP (cnZ D d ov c) (fqZ n d ov c x y z e f g) i
def fmZ(D n d ov c:Int)(x y z e f g:List Int):List Int:=Zw (smZ D n d ov c x y z e f g 3)
structure FzX (D n d ov ov2:Int) (x y z x2 y2 z2:List Int):Prop where
 X:∀i,FmX (Zu i x y z) (Zu i x2 y2 z2) ov ov2 (Zu i d d n)
 K:∀i,Nz (Zu i d d n)
 N:∀i,i<=4->NgX [D,d,ov,ov2] i
 Q:SmX (cnZ D d ov ov2) (fqZ n d ov ov2 x y z x2 y2 z2)
theorem Zax{fr k:Int}(h:Ba fr k ov x y z=true)(i:Nat):Ab KA (tzl (Zu i x y z)):=by unfold Ba Yec at h;simp only [aR,dO]at h;obtain⟨⟨⟨⟨⟨⟨⟨⟨m,n⟩,o⟩,c⟩,e⟩,f⟩,g⟩,j⟩,-⟩:=h;exact Cr (p:=λl=>Ab KA (tzl l)) ((AxC.of f).ka c e) ((AxC.of g).ka c e) ((AxC.of j).ka c e)
def tzlm1:(if 25<(tzl [(-1:Int)]).length then []else tzl [-1])=[-1]:=O3
abbrev GpT:=(Int×Int)×(SL×List Int)
abbrev Gi (g:GpT):Value:= .agg #[.int .i64 g.1.1,.int .i64 g.1.2,Xm g.2.1]
abbrev qGp (g:GpT):Pc:=Yx 2 wv (Xm g.2.1) g.2.2
abbrev Gp0:GpT:=((0,0),((none,0,0),[]))
abbrev GpU:=Int×Int×List Int
def unP(g:GpT):GpU:=(g.1.1,g.1.2,g.2.2)
def gpZ(D n d:Int)(g h:Zof):GpU:=(g.1.1,g.1.2.1,fmZ D n d g.1.2.2 h.1.2.2 g.2.1 g.2.2.1 g.2.2.2 h.2.1 h.2.2.1 h.2.2.2)
def Mg(D n d:Int)(a b:List Zl):List GpU:=List.zipWith (gpZ D n d) (Lr a b a) (Lr a b b)
def Iv(a b:List Zl):Int:=if Gv a b=9 then 0 else Gv a b
def Zsp(h:Gv a b≠0)(ps:List Zl):Lr a b ps=[]:=aD h
theorem Zrx{n:Int}(h:Gv a b≠0):Mg D n d a b=[]:=by unfold Mg;rw [Zsp h];rfl
theorem Zg4 (c:List Int)(a:List Zl)(b:List Zl)(ps:List Zl)(e:∀k,Oj (c.getD k 0) (c.getD (k+1) 0) a=true->Oj (c.getD k 0) (c.getD (k+1) 0) b=true->k+1<c.length->(Zdo (c.getD k 0) (c.getD (k+1) 0) ps).length=1):∀n,n+1<=c.length->Cy c a b n=true->(Zfs c ps n).length=n
 | 0,_,_=>rfl
 | n+1,h,f=>by have g:Cy c a b (n+1)=(Cy c a b n && (Oj (c.getD n 0) (c.getD (n+1) 0) a && Oj (c.getD n 0) (c.getD (n+1) 0) b)):=rfl;rw [g,aR,aR]at f;show(Zfs c ps n ++ Zdo _ _ ps).length=_;rw [aS,Zg4 _ _ _ _ e n O f.1,e n f.2.1 f.2.2 O]
theorem Zy9{ps:List Zl}{fr c:Int}(hi:∀g∈ps,Gin g)(h:Xl ps=true)(j:spF ps<=fr)(k:fr<c)(l:c<=spL ps)(f:∀g∈ps,¬(fr<g.1.1/\g.1.1<c))(m:Oj fr c ps=true):(Zdo fr c ps).length=1:=by have i:=(Nd h).2.1;unfold Zdo;rw [aG m,aP,Yc1 (Zc7 hi h).1 (λe=>by rw [e]at i;simp at i) j k l f]
theorem Znh(a b:List Zl):Gv a b=9\/Gv a b=0\/Gv a b=7:=by
 unfold Gv;split
 .exact .inl rfl
 .split
  .exact .inr (.inl rfl)
  .exact .inr (.inr rfl)
theorem Ymu(h:Gv a b=0):¬cmF a b>=Aw a b/\Zzd a b=true:=by
 unfold Gv at h;by_cases c:cmF a b>=Aw a b
 .rw [aG c]at h;exact absurd h O3
 .rw [aD c]at h;cases hk:Zzd a b with
  | true=>exact⟨c,rfl⟩
  | false=>rw [hk]at h;exact absurd h O3
theorem Zso(o:∀g∈a,Gin g)(p:∀g∈b,Gin g)(l:Xl a=true)(m:Xl b=true):(Lr a b a).length=(Lr a b b).length/\(Lr a b a).length<=2+a.length+b.length:=by
 by_cases h:Gv a b=0
 .obtain⟨w,q⟩:=Ymu h;have B:=bks a b O;have v:=B.two;have e:∀ps,Lr a b ps=Zfs (Oz a b) ps ((Oz a b).length-1):=λps=>aG h;have t:=Zg4 (Oz a b) a b a (λk r s c=>by obtain⟨f,i,j⟩:=B.lt k c;unfold cmF at f;unfold Aw at j;exact Zy9 o l O i O (λg n=>B.no k c g (.inl n)) r) ((Oz a b).length-1) O q
  have u:=Zg4 (Oz a b) a b b (λk r s c=>by obtain⟨f,i,j⟩:=B.lt k c;unfold cmF at f;unfold Aw at j;exact Zy9 p m O i O (λg n=>B.no k c g (.inr n)) s) ((Oz a b).length-1) O q
  have F:=Zrr a b;rw [e,e,t,u];exact⟨rfl,O⟩
 .rw [Zsp h,Zsp h];exact⟨rfl,bD _⟩
theorem Ziv{ps zs:List Zl}(hi:∀g∈ps,Gin g)(p:Xl ps=true)(t:zs.map Gs=Lr a b ps):∀q∈zs,Gin q/\seB q=true:=by
 have k:∀n,∀u∈Zfs (Oz a b) ps n,∃(fr f:Int) (g:Zl),g∈ps/\Ii fr f g=true/\Zhj fr f g=true/\u=Zws fr f g:=λn=>by
  induction n with
  | zero=>intro u j;cases j
  | succ n v=>
   intro u j;rcases cZ.1 (show u∈Zfs (Oz a b) ps n ++ _ from j)with h|h
   .exact v u h
   .unfold Zdo at h;split at h
    .rename_i r;obtain⟨g,l,rfl⟩:=eJ.1 h;obtain⟨c,i⟩:=fW.1 l;exact⟨_,_,g,c,i,cP.1 r g l,rfl⟩
    .cases h
 intro q s;have e:Gs q∈Lr a b ps:=by rw [<-t];exact eJ.2 ⟨q,s,rfl⟩
 unfold Lr at e;split at e
 .obtain⟨fr,f,g,c,i,m,o⟩:=k _ _ e;have:=Yrr (hi g c) ((Zc7 hi p).2.1 g c) i m o;exact⟨this.1,this.2.1⟩
 .cases e
theorem zip_s{α β γ:Type}{f:α->β->γ} : ∀{l:List α} {m:List β} {k:Nat} {x:α} {y:β},l[k]? = some x->m[k]? = some y->(List.zipWith f l m).take (k+1)=(List.zipWith f l m).take k ++ [f x y]
 | [],_,_,_,_,h,_=>by simp at h
 | _::_,[],_,_,_,_,h=>by simp at h
 | a::l,b::m,0,x,y,h,h2=>by simp at h h2;subst h;subst h2;simp
 | a::l,b::m,k+1,x,y,h,h2=>by have:=zip_s (f:=f) (l:=l) (m:=m) (k:=k) (by simpa using h) (by simpa using h2);simp only [mU,kY,this,iO]
def gpY(q:Zl)(g:SL×List Int):GpT:=((q.1.1,q.1.2.1),g)
theorem Yb7{n:Int}{ys:List Zl}{zs:List GpT}{k:Nat}{g:SL×List Int}(l:xs.map Gs=Lr a b a)(m:ys.map Gs=Lr a b b)(h:zs.map unP=(Mg D n d a b).take k)(e:k<xs.length)(c:k<ys.length)(j:g.2=fmZ D n d (xs.getD k G0).1.2.2 (ys.getD k G0).1.2.2 (xs.getD k G0).2.1.2 (xs.getD k G0).2.2.1.2 (xs.getD k G0).2.2.2.2 (ys.getD k G0).2.1.2 (ys.getD k G0).2.2.1.2 (ys.getD k G0).2.2.2.2) :
  (zs ++ [gpY (xs.getD k G0) g]).map unP=(Mg D n d a b).take (k+1):=by
 have f:(Lr a b a)[k]? = some (Gs (xs.getD k G0)):=by rw [<-l,eI,aM e,aE,aM e];rfl
 have i:(Lr a b b)[k]? = some (Gs (ys.getD k G0)):=by rw [<-m,eI,aM c,aE,aM c];rfl
 unfold Mg at h ⊢;rw [zip_s f i,dL,h,bZ,gD];simp only [gpY,unP,gpZ,Gs];rw [j]
theorem Yla{n:Int}{zs:List GpT}(c:xs.map Gs=Lr a b a)(f:(Lr a b a).length=(Lr a b b).length)(h:zs.map unP=(Mg D n d a b).take xs.length):zs.map unP=Mg D n d a b:=by rw [h,bM];have e:=aH List.length c;rw [aP]at e;unfold Mg;rw [lB];omega
def Zys(h:Gv a b=9):Iv a b=0:=aG h
def Zry(h:¬Gv a b=9):Iv a b=Gv a b:=aD h
theorem Zpj{fr c:Int}(h:Sgo fr c ov x y z):Nz ov:=⟨by have:=h.o1;omega,by have:=h.o2;omega⟩
def Zjy(l:List GpU):Option GpU:=l.find? λg=>Ir g.2.2
def Cb(l:List GpU):Int×Int×Bool:=match Zjy l with
 | some g=>(g.1,g.2.1,true)
 | none=>(0,0,false)
theorem fst_n{l:List GpU}(h:∀i,i<l.length->Ir (l.getD i (0,0,[])).2.2=false):Cb l=(0,0,false):=by
 have:Zjy l=none:=kE.2 λg c=>by obtain⟨i,hi,rfl⟩:=eK.1 c;have:=h i hi;rw [aE,aM hi]at this;rw [show Ir (l[i]).2.2=false from this];exact cW
 unfold Cb;rw [this]
theorem Za4(zs:List GpT)(k:Nat):(zs.map unP).getD k (0,0,[])=unP (zs.getD k Gp0):=by rw [aE,eI,aE];cases zs[k]?<;>rfl
def mkS(u:Zof):Zl:=(u.1,((none,0,0),u.2.1),((none,0,0),u.2.2.1),((none,0,0),u.2.2.2))
theorem Zz1(l:List Zof):(l.map mkS).map Gs=l:=by rw [lF];exact List.map_id' _
theorem fst_no{l:List GpU}{zs:List GpT}(h:zs.map unP=l)(c:∀i,i<zs.length->Ir (zs.getD i Gp0).2.2=false):Cb l=(0,0,false):=by subst h;exact fst_n λi hi=>by rw [Za4];exact c i (by rw [aP]at hi;exact hi)
def Ek(D n d:Int)(a b:List Zl):Bool:=decide (Iv a b=0) && !(Cb (Mg D n d a b)).2.2
theorem ap_t{n:Int}(h:Iv a b=0):Ek D n d a b=!(Cb (Mg D n d a b)).2.2:=by unfold Ek;rw [aK h];rfl
theorem ap_f{n:Int}(h:¬Iv a b=0):Ek D n d a b=false:=by unfold Ek;rw [aN h];rfl
open Go.Proofs
def pPa:Enc Tryz.prog 38 1 Xm:=Enc.flat Tryz.sizeOf38 Tryz.isAgg38 (λ_=>rfl)
def pGp:Enc Tryz.prog 130 3 Gi:=Enc.agg O3 Tryz.sizeOf130 Tryz.isAgg130 (λx=>⟨[.int .i64 x.1.1,.int .i64 x.1.2,Xm x.2.1],rfl,rfl,O11⟩)
@[reducible,instance] def encPaI:EncT Tryz.prog 38 1 Xm:=⟨pPa⟩
@[reducible,instance] def encGpI:EncT Tryz.prog 130 3 Gi:=⟨pGp⟩
def ti_a3:Tryz.prog.info? 190=some Tryz.t190:=O6
end Go.Sky

