/- Rules, arithmetic and contracts: part 15. No conditions but those that each theorem names. -/
import Derived.Test.YteikicbnfbgpnaaGreatDe13
set_option linter.all false
namespace Go.Sky
variable{c p ts:List Int}{ov x M x0 x1 x2 x3 x4 d G o:Int}{b a r us:List Zi}{q:Zi}{i k:Nat}
def Yis:∀n,n<6->∀j,j<n+1->∀k,k<j+1->(Pp n j:Int)*w60 n j k=60*(Pp (n-k) (j-k):Int):=O8
theorem Zd2(f:Nat->Int)(a:Int):∀m,Yd (λk=>a*f k) m=a*Yd f m
 | 0=>by show(0:Int)=a*0;omega
 | m+1=>by rw [Yf,Yf,Zd2 f a m,lW]
theorem Ylv(g:1<=c.length/\c.length<=6){j:Nat}(e:j<c.length):(Pp (c.length-1) j:Int)*ctl c j (j+1)=60*Ln (c.length-1) c j:=by unfold ctl Ln;rw [<-Zd2,<-Zd2];refine Yp λk f=>?_;have:=Yis (c.length-1) O1 j O1 k O1;show(Pp (c.length-1) j:Int)*(cf c k*w60 (c.length-1) j k)=60*(cf c k*_);rw [mB,this,mB]
theorem Yhj{n j:Nat}(h:j<n+1):(0:Int)<(Pp n j:Int):=by have:=Zis (n:=n) (k:=j) O1;omega
theorem Zzc(v:1<=c.length/\c.length<=6) : Zlk c ov=true↔∀j,j<c.length->((Ln (c.length-1) c j).natAbs:Int)<=1048576*ov*(Pp (c.length-1) j:Int):=by
 have f:∀j,j<c.length->((((ctl c j (j+1)).natAbs:Int)<=62914560*ov)↔((Ln (c.length-1) c j).natAbs:Int)<=1048576*ov*(Pp (c.length-1) j:Int)):=λj e=>by
  have t:=Ylv v e;have l:=Yhj (n:=c.length-1) (j:=j) O1;have m:=aK Int.natAbs t;rw [cF,cF,dC]at m;generalize (ctl c j (j+1)).natAbs=x at *;generalize (Ln (c.length-1) c j).natAbs=y at *;generalize Pp (c.length-1) j=q at *;have s:(q:Int)*(x:Int)=60*(y:Int):=by exact_mod_cast m
  constructor
  .intro h;have g:=iQ h (dY l);rw [s]at g;have u:(q:Int)*(62914560*ov)=60*(1048576*ov*q):=O5;omega
  .intro h;have g:60*(y:Int)<=(q:Int)*(62914560*ov):=by have u:(q:Int)*(62914560*ov)=60*(1048576*ov*q):=O5;omega
   rw [<-s]at g;exact lS g l
 constructor
 .intro h j e;unfold Zlk at h;rw [cL]at h;exact(f j e).1 (bL (h j (gE.2 e)))
 .intro h;exact Zvs λj e=>(f j e).2 (h j e)
def Xl{b:Int} : ((x.natAbs:Int)<=b)↔(-b<=x/\x<=b):=O1
def cfb0(f:0<=M)(e:-(M*1)<=(x0*1)/\(x0*1)<=M*1):(-(2047*M)<=x0/\x0<=2047*M):=O1
def bre00(c:List Int):Ln 0 c 0=cf c 0*1:=O11
theorem cfb1(g:0<=M)(e:-(M*1)<=(x0*1)/\(x0*1)<=M*1)(f:-(M*1)<=(x0*1+x1*1)/\(x0*1+x1*1)<=M*1):(-(2047*M)<=x0/\x0<=2047*M)/\(-(2047*M)<=x1/\x1<=2047*M):=by refine⟨⟨?_,?_⟩,⟨?_,?_⟩⟩<;>omega
def bre10(c:List Int):Ln 1 c 0=cf c 0*1:=O11
def bre11(c:List Int):Ln 1 c 1=cf c 0*1+cf c 1*1:=O11
theorem cfb2(h:0<=M)(e:-(M*1)<=(x0*1)/\(x0*1)<=M*1)(f:-(M*2)<=(x0*2+x1*1)/\(x0*2+x1*1)<=M*2)(g:-(M*1)<=(x0*1+x1*1+x2*1)/\(x0*1+x1*1+x2*1)<=M*1):(-(2047*M)<=x0/\x0<=2047*M)/\(-(2047*M)<=x1/\x1<=2047*M)/\(-(2047*M)<=x2/\x2<=2047*M):=by refine⟨⟨?_,?_⟩,⟨?_,?_⟩,⟨?_,?_⟩⟩<;>omega
def bre20(c:List Int):Ln 2 c 0=cf c 0*1:=O11
def bre21(c:List Int):Ln 2 c 1=cf c 0*2+cf c 1*1:=O11
def bre22(c:List Int):Ln 2 c 2=cf c 0*1+cf c 1*1+cf c 2*1:=O11
theorem cfb3(j:0<=M)(e:-(M*1)<=(x0*1)/\(x0*1)<=M*1)(f:-(M*3)<=(x0*3+x1*1)/\(x0*3+x1*1)<=M*3)(g:-(M*3)<=(x0*3+x1*2+x2*1)/\(x0*3+x1*2+x2*1)<=M*3)(h:-(M*1)<=(x0*1+x1*1+x2*1+x3*1)/\(x0*1+x1*1+x2*1+x3*1)<=M*1):(-(2047*M)<=x0/\x0<=2047*M)/\(-(2047*M)<=x1/\x1<=2047*M)/\(-(2047*M)<=x2/\x2<=2047*M)/\(-(2047*M)<=x3/\x3<=2047*M):=by refine⟨⟨?_,?_⟩,⟨?_,?_⟩,⟨?_,?_⟩,⟨?_,?_⟩⟩<;>omega
def bre30(c:List Int):Ln 3 c 0=cf c 0*1:=O11
def bre31(c:List Int):Ln 3 c 1=cf c 0*3+cf c 1*1:=O11
def bre32(c:List Int):Ln 3 c 2=cf c 0*3+cf c 1*2+cf c 2*1:=O11
def bre33(c:List Int):Ln 3 c 3=cf c 0*1+cf c 1*1+cf c 2*1+cf c 3*1:=O11
theorem cfb4(l:0<=M)(e:-(M*1)<=(x0*1)/\(x0*1)<=M*1)(f:-(M*4)<=(x0*4+x1*1)/\(x0*4+x1*1)<=M*4)(g:-(M*6)<=(x0*6+x1*3+x2*1)/\(x0*6+x1*3+x2*1)<=M*6)(h:-(M*4)<=(x0*4+x1*3+x2*2+x3*1)/\(x0*4+x1*3+x2*2+x3*1)<=M*4)(j:-(M*1)<=(x0*1+x1*1+x2*1+x3*1+x4*1)/\(x0*1+x1*1+x2*1+x3*1+x4*1)<=M*1):(-(2047*M)<=x0/\x0<=2047*M)/\(-(2047*M)<=x1/\x1<=2047*M)/\(-(2047*M)<=x2/\x2<=2047*M)/\(-(2047*M)<=x3/\x3<=2047*M)/\(-(2047*M)<=x4/\x4<=2047*M):=by refine⟨⟨?_,?_⟩,⟨?_,?_⟩,⟨?_,?_⟩,⟨?_,?_⟩,⟨?_,?_⟩⟩<;>omega
def bre40(c:List Int):Ln 4 c 0=cf c 0*1:=O11
def bre41(c:List Int):Ln 4 c 1=cf c 0*4+cf c 1*1:=O11
def bre42(c:List Int):Ln 4 c 2=cf c 0*6+cf c 1*3+cf c 2*1:=O11
def bre43(c:List Int):Ln 4 c 3=cf c 0*4+cf c 1*3+cf c 2*2+cf c 3*1:=O11
def bre44(c:List Int):Ln 4 c 4=cf c 0*1+cf c 1*1+cf c 2*1+cf c 3*1+cf c 4*1:=O11
theorem cfb5{e:Int}(n:0<=M)(f:-(M*1)<=(x0*1)/\(x0*1)<=M*1)(g:-(M*5)<=(x0*5+x1*1)/\(x0*5+x1*1)<=M*5)(h:-(M*10)<=(x0*10+x1*4+x2*1)/\(x0*10+x1*4+x2*1)<=M*10)(j:-(M*10)<=(x0*10+x1*6+x2*3+x3*1)/\(x0*10+x1*6+x2*3+x3*1)<=M*10)(l:-(M*5)<=(x0*5+x1*4+x2*3+x3*2+x4*1)/\(x0*5+x1*4+x2*3+x3*2+x4*1)<=M*5)(m:-(M*1)<=(x0*1+x1*1+x2*1+x3*1+x4*1+e*1)/\(x0*1+x1*1+x2*1+x3*1+x4*1+e*1)<=M*1):(-(2047*M)<=x0/\x0<=2047*M)/\(-(2047*M)<=x1/\x1<=2047*M)/\(-(2047*M)<=x2/\x2<=2047*M)/\(-(2047*M)<=x3/\x3<=2047*M)/\(-(2047*M)<=x4/\x4<=2047*M)/\(-(2047*M)<=e/\e<=2047*M):=by refine⟨⟨?_,?_⟩,⟨?_,?_⟩,⟨?_,?_⟩,⟨?_,?_⟩,⟨?_,?_⟩,⟨?_,?_⟩⟩<;>omega
def bre50(c:List Int):Ln 5 c 0=cf c 0*1:=O11
def bre51(c:List Int):Ln 5 c 1=cf c 0*5+cf c 1*1:=O11
def bre52(c:List Int):Ln 5 c 2=cf c 0*10+cf c 1*4+cf c 2*1:=O11
def bre53(c:List Int):Ln 5 c 3=cf c 0*10+cf c 1*6+cf c 2*3+cf c 3*1:=O11
def bre54(c:List Int):Ln 5 c 4=cf c 0*5+cf c 1*4+cf c 2*3+cf c 3*2+cf c 4*1:=O11
def bre55(c:List Int):Ln 5 c 5=cf c 0*1+cf c 1*1+cf c 2*1+cf c 3*1+cf c 4*1+cf c 5*1:=O11
theorem cf_brS{n:Nat}(v:n<6)(y:c.length<=n+1)(h:∀j,j<n+1->((Ln n c j).natAbs:Int)<=M*(Pp n j:Int))(k:Nat):((cf c k).natAbs:Int)<=2047*M:=by
 have s:0<=M:=by have f:=h 0 O1;rw [Zhx]at f;omega
 by_cases w:k<n+1
 .rw [Xl]
  match n,v with
  | 0,_=>
   have f:=Xl.1 (h 0 O4);rw [bre00,show(Pp 0 0:Int)=1 from rfl]at f;have e:=cfb0 s f;obtain rfl:k=0:=O1;exact e
  | 1,_=>
   have f:=Xl.1 (h 0 O4);rw [bre10,show(Pp 1 0:Int)=1 from rfl]at f;have g:=Xl.1 (h 1 O4);rw [bre11,show(Pp 1 1:Int)=1 from rfl]at g;have e:=cfb1 s f g;rcases(show k=0\/k=1 by omega)with rfl|rfl
   .exact e.1
   .exact e.2
  | 2,_=>
   have f:=Xl.1 (h 0 O4);rw [bre20,show(Pp 2 0:Int)=1 from rfl]at f;have g:=Xl.1 (h 1 O4);rw [bre21,show(Pp 2 1:Int)=2 from rfl]at g;have l:=Xl.1 (h 2 O4);rw [bre22,show(Pp 2 2:Int)=1 from rfl]at l;have e:=cfb2 s f g l;rcases(show k=0\/k=1\/k=2 by omega)with rfl|rfl|rfl
   .exact e.1
   .exact e.2.1
   .exact e.2.2
  | 3,_=>
   have f:=Xl.1 (h 0 O4);rw [bre30,show(Pp 3 0:Int)=1 from rfl]at f;have g:=Xl.1 (h 1 O4);rw [bre31,show(Pp 3 1:Int)=3 from rfl]at g;have l:=Xl.1 (h 2 O4);rw [bre32,show(Pp 3 2:Int)=3 from rfl]at l;have m:=Xl.1 (h 3 O4);rw [bre33,show(Pp 3 3:Int)=1 from rfl]at m;have e:=cfb3 s f g l m;rcases(show k=0\/k=1\/k=2\/k=3 by omega)with rfl|rfl|rfl|rfl
   .exact e.1
   .exact e.2.1
   .exact e.2.2.1
   .exact e.2.2.2
  | 4,_=>
   have f:=Xl.1 (h 0 O4);rw [bre40,show(Pp 4 0:Int)=1 from rfl]at f;have g:=Xl.1 (h 1 O4);rw [bre41,show(Pp 4 1:Int)=4 from rfl]at g;have l:=Xl.1 (h 2 O4);rw [bre42,show(Pp 4 2:Int)=6 from rfl]at l;have m:=Xl.1 (h 3 O4);rw [bre43,show(Pp 4 3:Int)=4 from rfl]at m;have t:=Xl.1 (h 4 O4);rw [bre44,show(Pp 4 4:Int)=1 from rfl]at t;have e:=cfb4 s f g l m t;rcases(show k=0\/k=1\/k=2\/k=3\/k=4 by omega)with rfl|rfl|rfl|rfl|rfl
   .exact e.1
   .exact e.2.1
   .exact e.2.2.1
   .exact e.2.2.2.1
   .exact e.2.2.2.2
  | 5,_=>
   have f:=Xl.1 (h 0 O4);rw [bre50,show(Pp 5 0:Int)=1 from rfl]at f;have g:=Xl.1 (h 1 O4);rw [bre51,show(Pp 5 1:Int)=5 from rfl]at g;have l:=Xl.1 (h 2 O4);rw [bre52,show(Pp 5 2:Int)=10 from rfl]at l;have m:=Xl.1 (h 3 O4);rw [bre53,show(Pp 5 3:Int)=10 from rfl]at m;have t:=Xl.1 (h 4 O4);rw [bre54,show(Pp 5 4:Int)=5 from rfl]at t;have u:=Xl.1 (h 5 O4);rw [bre55,show(Pp 5 5:Int)=1 from rfl]at u;have e:=cfb5 s f g l m t u;rcases(show k=0\/k=1\/k=2\/k=3\/k=4\/k=5 by omega)with rfl|rfl|rfl|rfl|rfl|rfl
   .exact e.1
   .exact e.2.1
   .exact e.2.2.1
   .exact e.2.2.2.1
   .exact e.2.2.2.2.1
   .exact e.2.2.2.2.2
 .rw [Yk O1];simp;omega
structure AxC (c:List Int) (ov:Int):Prop where
 l:1<=c.length/\c.length<=6
 t:¬(1<c.length/\c.getD (c.length-1) 0=0)
 b:∀j,j<c.length->((Ln (c.length-1) c j).natAbs:Int)<=1048576*ov*(Pp (c.length-1) j:Int)
theorem AxC.of(h:axB c ov=true):AxC c ov:=by unfold axB at h;simp only [aO,fP,jB,cK,gI]at h;have g:1<=c.length/\c.length<=6:=⟨h.1.1.1,h.1.1.2⟩;exact⟨g,λf=>by rcases h.1.2 with e|e;exact e f.1;exact e f.2,(Zzc g).1 h.2⟩
def AxC.to(h:AxC c ov):axB c ov=true:=Zzn h.l.1 h.l.2 h.t ((Zzc h.l).2 h.b)
def tzl_nz(e:c.getD (c.length-1) 0≠0):tzl c=c:=Ac (.inr e)
theorem ax_tzl(h:AxC c ov):(tzl c=c)\/c=[0]:=by
 by_cases e:c.getD (c.length-1) 0=0
 .have j:c.length=1:=by
   have l:=h.l;have f:=h.t;by_cases g:1<c.length
   .exact absurd ⟨g,e⟩ f
   .omega
  right
  match c,j with
  | [x],_=>simp at e;rw [e]
 .exact .inl (tzl_nz e)
theorem Zfa(h:AxC c ov){a b:Int}{t u:Rat}(f:t*(d:Rat)=(a:Rat)+(b:Rat)*u):Zb (Nf c a b d) u=(d:Rat)^5*Zb c t:=by
 unfold Nf;rw [Gl];rcases ax_tzl h with e|e
 .have g:=h.l;rw [e,Zjx a b d f O1,Zcg];have:(d:Rat)^5=(d:Rat)^(6-c.length)*(d:Rat)^(c.length-1):=by rw [<-Zzq];congr 1;omega
  rw [this];grind
 .subst e;rw [show tzl [0]=[]from by decide,show Ke [] a b d=[]from rfl];show _*(0:Rat)=_*(((0:Int):Rat)+t*0);push_cast;grind
def Zfu(a b d:Int):(Nf c a b d).length<=c.length:=aB (Ml _ _) (aB (Zec _ _ _ _) (Iu c))
theorem Zzb(h:AxC c ov){a b:Int}(f:0<=a)(g:0<=b)(e:a+b<=d)(l:0<d):∀j,j<c.length->((Ln (c.length-1) (Nf c a b d) j).natAbs:Int)<=1048576*(ov*d^5)*(Pp (c.length-1) j:Int):=λj s=>by have y:=h.l;have w:=Zfu (c:=c) a b d;have:=Yml (c:=c) (X:=Nf c a b d) (n:=c.length-1) (m:=5) (B:=1048576*ov) O1 O1 f g e l (λt u v=>Zfa h v) (λj s=>h.b j O1) j O1;rw [eU]at this;rw [eU];rw [eU,<-eU ov]at this;exact this
theorem cf_cmp(h:AxC c ov){a b:Int}(f:0<=a)(g:0<=b)(e:a+b<=d)(l:0<d)(k:Nat):((cf (Nf c a b d) k).natAbs:Int)<=ov*d^5*2146435072:=by have t:=h.l;have m:=Zfu (c:=c) a b d;have:=cf_brS (n:=c.length-1) O1 (c:=Nf c a b d) O1 (M:=1048576*(ov*d^5)) (λj s=>Zzb h f g e l j O1) k;omega
theorem Znz{g:Zi}(h:seB g=true):AxC g.2.1.2 g.1.2.2/\AxC g.2.2.1.2 g.1.2.2/\AxC g.2.2.2.2 g.1.2.2:=by have e:De g.1.1 g.1.2.1 g.1.2.2 g.2.1.2 g.2.2.1.2 g.2.2.2.2=true:=h;unfold De at e;simp only [aO]at e;exact⟨.of e.1.1.1.2,.of e.1.1.2,.of e.1.2⟩
theorem Yg7{fr e:Int}{g:Zi}(f:SgG g)(h:Ko fr e g=true):0<=cA fr g-g.1.1/\0<cB e g-cA fr g/\(cA fr g-g.1.1)+(cB e g-cA fr g)<=g.1.2.1-g.1.1/\0<g.1.2.1-g.1.1:=by have m:=bL h;have j:=f.t1;have l:=f.t2;unfold cA cB at *;exact⟨O1,O1,O1,O1⟩
theorem Yew{fr v:Int}{g:Zi}(hi:Gin g)(hs:seB g=true)(h:Ko fr v g=true):MdG fr v g:=by
 have f:SgG g:=Nx hi hs;obtain⟨B,D,F⟩:=Znz hs;obtain⟨H,I,N,P⟩:=Yg7 f h;obtain⟨t,u,-,-⟩:=cut_b f h;have W:=f.t3;have V:=f.t1;have R:=f.o1;have S:=f.o2;have j:1<=g.1.2.1-g.1.1/\g.1.2.1-g.1.1<=3600000:=⟨O1,O1⟩;have w:=Zp0 f.hx f.lx t u j;have y:=Zp0 f.hy f.ly t u j;have z:=Zp0 f.hz f.lz t u j;have s:0<cO g:=gO O1 (kD O1);have n:((cO g).natAbs:Int)=cO g:=O1;have m:∀{c:List Int},AxC c g.1.2.2->∀k,(cf (cX fr v g c) k).natAbs<=(cO g).natAbs*2146435072:=λQ k=>by
  have:=cf_cmp Q H (dY I) N P k;have e:(((cO g).natAbs*2146435072:Nat):Int)=cO g*2146435072:=by rw [eV,n];rfl
  refine lI.1 ?_;rw [e];exact this
 refine⟨s,?_,λi=>?_,λi=>?_,λi k=>?_⟩
 .have Y:bl g.1.2.2.natAbs<=40:=(Xz 40 _).2 O1;have Z:=Zmw j;have:=Xe g.1.2.2 ((g.1.2.1-g.1.1)^5);show bl (g.1.2.2*(g.1.2.1-g.1.1)^5).natAbs<=1000;omega
 .exact Gc (p:=λl:List Int=>Sz 1000 l) w.2.2.2.2.2.2.1 y.2.2.2.2.2.2.1 z.2.2.2.2.2.2.1
 .exact Gc (p:=λl:List Int=>l.length<=6) w.2.2.2.2.2.2.2 y.2.2.2.2.2.2.2 z.2.2.2.2.2.2.2
 .exact Gc (p:=λl:List Int=>(cf l k).natAbs<=(cO g).natAbs*2146435072) (m B k) (m D k) (m F k)
theorem Ykx(h:AxC c ov)(n:c.getD (c.length-1) 0≠0){a b:Int}(v:0<b)(y:0<d):(Nf c a b d).length=c.length:=by
 have D:=h.l;have B:=Zfu (c:=c) a b d;rcases bC (Nf c a b d).length c.length with q|q
 .exfalso;have w:(b:Rat)≠0:=by
    have:(0:Rat)<(b:Rat):=by exact_mod_cast v
    grind
  have z:(d:Rat)≠0:=by
    have:(0:Rat)<(d:Rat):=by exact_mod_cast y
    grind
  have m:∀t:Rat,t*(d:Rat)=(a:Rat)+(b:Rat)*((t*d-a)/b):=λt=>O5;by_cases j:(Nf c a b d).length=0
  .have s:=aD j;have:∀t:Rat,Zb c t=0:=λt=>by
    have e:=Zfa h (m t);rw [s]at e;have f:(d:Rat)^5*Zb c t=0:=e.symm;have l:(d:Rat)^5≠0:=by rw [show(d:Rat)^5=d*d*d*d*d by rw [dL,dL,dL,dL,dL,eG];grind];grind
    grind
   exact n (Zn7 this _)
  .have g:∀t:Rat,Zb ((Ke (Nf c a b d) (-a) d b).map λq=>1*q) t=Zb (c.map λq=>b^((Nf c a b d).length-1)*d^5*q) t:=λt=>by rw [Zh,Zh];have e:=Zfa h (m t);have f:=Zjx (p:=Nf c a b d) (-a) d b (t:=(t*d-a)/b) (u:=t) (by push_cast;grind) j;rw [f,e];push_cast;rw [<-Zcg,<-Zcg];push_cast;grind
   have e:=On g (c.length-1);rw [Da,Da,Yk (by have:=Zec (Nf c a b d) (-a) d b;omega)]at e;have f:b^((Nf c a b d).length-1)*d^5≠0:=bH (Int.pow_ne_zero O1) (Int.pow_ne_zero O1);have l:b^((Nf c a b d).length-1)*d^5*cf c (c.length-1)=0:=O1;rcases eX.1 l with q|q
   .exact f q
   .exact n q
 .omega
theorem Zvm{X:List Int}(f:0<G)(e:∀x∈X,G∣x)(i:Nat):cf (Dl X G) i*G=cf X i:=by
 unfold Dl;split
 .rename_i h;rw [aD h]
  match i with
  | 0=>show(0:Int)*G=cf [] 0;rw [dB];rfl
  | i+1=>show(0:Int)*G=cf [] (i+1);rw [dB];rfl
 .rw [Zcd _ _ O7];by_cases hi:i<X.length
  .have:cf X i∈X:=Ze hi;exact fU (e _ this)
  .rw [Yk O1];simp
theorem Yj0{X:List Int}(e:0<G)(f:∀x∈X,G∣x)(u:Rat):Zb (Dl X G) u*(G:Rat)=Zb X u:=by rw [jN,<-Zh];exact Oa u _ _ λi=>by rw [Da,cY,Zvm e f]
theorem Zhh(f g:Nat->Int)(a:Int)(h:∀k,f k*a=g k):∀m,Yd f m*a=Yd g m
 | 0=>dB _
 | m+1=>by rw [Yf,Yf,lY,Zhh f g a h m,h]
theorem Ymk{X:List Int}(e:0<G)(f:∀x∈X,G∣x)(n j:Nat):Ln n (Dl X G) j*G=Ln n X j:=by unfold Ln;exact Zhh _ _ _ (λk=>by rw [Int.mul_right_comm,Zvm e f]) _
theorem Ykw(X:List Int)(G:Int):(Dl X G).length=max X.length 1:=by
 unfold Dl;split
 .rename_i h;rw [h];rfl
 .rw [aW];omega
theorem Zvz(h:AxC c ov){a b:Int}(H:0<=a)(w:0<b)(s:a+b<=d)(y:0<d)(n:0<G)(B:∀x∈Nf c a b d,G∣x)(N:o*G=ov*d^5):AxC (Dl (Nf c a b d) G) o/\(Dl (Nf c a b d) G).length=c.length:=by
 have Q:=h.l;have f:(Dl (Nf c a b d) G).length=c.length/\(1<c.length->(Nf c a b d).length=c.length):=by
  rw [Ykw];by_cases D:c.getD (c.length-1) 0=0
  .have:=h.t;have I:=Zfu (c:=c) a b d;have g:c.length=1:=by
    by_cases l:1<c.length
    .exact absurd ⟨l,D⟩ this
    .omega
   exact⟨O1,λl=>O1⟩
  .have:=Ykx h D (a:=a) w y;exact⟨O1,λ_=>this⟩
 refine⟨⟨O1,λ⟨g,t⟩=>?_,λj z=>?_⟩,f.1⟩
 .rw [f.1]at g t;have l:cf (Dl (Nf c a b d) G) (c.length-1)=0:=t;have u:=Zvm n B (c.length-1);rw [l,dB]at u;have m:=f.2 g;have P:Tr (Nf c a b d):=Xx _ _;have v:=P.mem (λe=>by rw [e]at m;simp at m;omega);rw [m]at v;exact v u.symm
 .rw [f.1]at z ⊢;have g:=Zzb h H (dY w) s y j z;rw [<-Ymk n B,<-N,cF]at g;have F:((G.natAbs:Nat):Int)=G:=O1;push_cast at g;rw [F]at g;refine fS (a:=G) ?_ n;refine mR g (oJ ?_);grind
theorem Zso{G:Int}(e:0<G):∀(l:List Int) (o:Int),Nt (G*o) (l.map (G*·))=G*Nt o l
 | [],o=>rfl
 | x::l,o=>by show Nt ((Int.gcd (G*o) (G*x):Nat):Int) (l.map (G*·))=G*Nt ((Int.gcd o x:Nat):Int) l;rw [Int.gcd_mul_left];push_cast;rw [show((G.natAbs:Nat):Int)=G by omega];exact Zso e l _
theorem Zky{X:List Int}(g:0<G)(e:∀x∈X,G∣x)(j:0<=o):Nt o ((Dl X G).map (G*·))=Nt o X:=by
 unfold Dl;split
 .rename_i h;rw [aD h];show((Int.gcd o (G*0):Nat):Int)=o;rw [dP,Int.gcd_zero_right];omega
 .congr 1;rw [lG]
  conv=>rhs;rw [<-oM X]
  refine lB λx f=>?_;show G*(x/G)=x;exact kU (e x f)
theorem Yk7{X Y Z:List Int}{f:Int}(g:0<o)(e:0<Fb o X Y Z)(n:∀x∈X,Fb o X Y Z∣x)(s:∀x∈Y,Fb o X Y Z∣x)(t:∀x∈Z,Fb o X Y Z∣x)(h:Fb o X Y Z*f=o) :
  Nt f (Dl X (Fb o X Y Z) ++ Dl Y (Fb o X Y Z) ++ Dl Z (Fb o X Y Z))=1:=by
 have j:=Zso e (Dl X (Fb o X Y Z) ++ Dl Y (Fb o X Y Z) ++ Dl Z (Fb o X Y Z)) f;rw [h,eK,eK,Hd,Hd,Zky e n (dY g),Zky e s (Zfv _ _ (dY g)),Zky e t (Zfv _ _ (Zfv _ _ (dY g)))]at j;have l:Fb o X Y Z=Nt (Nt (Nt o X) Y) Z:=by show Nt o (X ++ Y ++ Z)=_;rw [Hd,Hd]
 rw [<-l]at j;generalize Nt f _=r at *;have m:Fb o X Y Z*r=Fb o X Y Z*1:=O1;exact gX O1 m
structure Prt (q g:Zi) (G:Int):Prop where
 g0:0<G
 a0:0<=q.1.1-g.1.1
 b0:0<q.1.2.1-q.1.1
 ab:(q.1.1-g.1.1)+(q.1.2.1-q.1.1)<=g.1.2.1-g.1.1
 o:q.1.2.2*G=g.1.2.2*(g.1.2.1-g.1.1)^5
 x:∀i (t u:Rat),t*((g.1.2.1-g.1.1:Int):Rat)=((q.1.1-g.1.1:Int):Rat)+((q.1.2.1-q.1.1:Int):Rat)*u->Zb (Zk i q.2.1.2 q.2.2.1.2 q.2.2.2.2) u*(G:Rat)=((g.1.2.1-g.1.1:Int):Rat)^5*Zb (Zk i g.2.1.2 g.2.2.1.2 g.2.2.2.2) t
theorem Zuz{X:List Int}(h:∀k,(X.getD k 0/G).natAbs<=9223372036854775807):∀a∈Dl X G,Oz a:=λa e=>by
 unfold Dl at e;split at e
 .rw [aY.1 e];exact⟨O4,O4⟩
 .obtain⟨x,g,rfl⟩:=eN.1 e;obtain⟨k,f⟩:=nD.1 g;have:=h k;rw [aF,f]at this;simp only [eZ]at this;exact⟨O1,O1⟩
theorem Zoe{a b:Int}{t u:Rat}(f:AxC c ov)(e:0<G)(g:∀x∈Nf c a b d,G∣x)(h:t*(d:Rat)=(a:Rat)+(b:Rat)*u):Zb (Dl (Nf c a b d) G) u*(G:Rat)=(d:Rat)^5*Zb c t:=by rw [Yj0 e g];exact Zfa f h
theorem Zpv{fr e:Int}{g:Zi}(hi:Gin g)(hs:seB g=true)(hp:Ko fr e g=true)(hk:Zh6 fr e g=true)(hu:unS q=Zh5 fr e g):Gin q/\seB q=true/\Prt q g (cG fr e g):=by
 have S:SgG g:=Nx hi hs;obtain⟨a1,a2,a3⟩:=Znz hs;obtain⟨F,H,I,P⟩:=Yg7 S hp;have R:=Yew hi hs hp;obtain⟨g1,⟨s,a4⟩,Q⟩:=R.g;have m:0<cG fr e g:=g1;have w:∀x∈cX fr e g g.2.1.2,cG fr e g∣x:=Q 0 O4;have y:∀x∈cX fr e g g.2.2.1.2,cG fr e g∣x:=Q 1 O4;have z:∀x∈cX fr e g g.2.2.2.2,cG fr e g∣x:=Q 2 O4;have B:cG fr e g*s=cO g:=a4.symm;have v:cO g/cG fr e g=s:=by rw [<-B];exact fZ _ O1
 have f:cO g/cG fr e g<=4294967296:=bL hk;have a5:0<cO g:=R.o;have a9:0<s:=by
  by_cases h:0<s
  .exact h
  .have:=gR (dY m) (show s<=0 by omega);omega
 have n:s*cG fr e g=g.1.2.2*(g.1.2.1-g.1.1)^5:=by rw [cY];exact B
 obtain⟨x1,x2⟩:=Zvz a1 F H I P m w n;obtain⟨y1,y2⟩:=Zvz a2 F H I P m y n;obtain⟨z1,z2⟩:=Zvz a3 F H I P m z n;obtain⟨⟨qf,qt,qo⟩,⟨sx,qx⟩,⟨sy,qy⟩,⟨sz,qz⟩⟩:=q;unfold unS Zh5 at hu;rw [mdO_t f,Zm6 f,Zm6 f,Zm6 f,v]at hu;injection hu with h1 h2;injection h1 with hf h1;injection h1 with ht N;injection h2 with hx h2;injection h2 with hy hz;dsimp only at hf ht N hx hy hz;subst hf ht hx hy hz;have N:=N.symm;subst N;have j:=λi (hi:i<3) k=>R.fit (i:=i) f hi k;have a7:=bL hp;have b0:=S.t1;have b1:=S.t3;have V:∀a∈Dl (cX fr e g g.2.1.2) (cG fr e g),Oz a:=Zuz (j 0 O4);have W:∀a∈Dl (cX fr e g g.2.2.1.2) (cG fr e g),Oz a:=Zuz (j 1 O4);have a0:∀a∈Dl (cX fr e g g.2.2.2.2) (cG fr e g),Oz a:=Zuz (j 2 O4);have a8:s<=4294967296:=v▸f;have a6:0<=cA fr g/\cB e g<=3600000:=by unfold cA cB;exact⟨O1,O1⟩
 have i1:Oz (cA fr g):=⟨O1,O1⟩;have i2:Oz (cB e g):=⟨O1,O1⟩;have i3:Oz s:=⟨O1,O1⟩;refine⟨⟨i1,i2,i3,V,W,a0⟩,?_,⟨m,F,H,by show(cA fr g-g.1.1)+(cB e g-cA fr g)<=_;exact I,n,λi t u D=>?_⟩⟩
 .show De (cA fr g) (cB e g) s _ _ _=true;unfold De Zzw;simp only [aO,cK];exact⟨⟨⟨⟨⟨⟨⟨⟨O1,O1⟩,O1⟩,O1⟩,O1⟩,x1.to⟩,y1.to⟩,z1.to⟩,Yk7 a5 m w y z B⟩
 .have l:t*((g.1.2.1-g.1.1:Int):Rat)=((cA fr g-g.1.1:Int):Rat)+((cB e g-cA fr g:Int):Rat)*u:=D;clear D;have k0:=Zoe a1 m w l;have k1:=Zoe a2 m y l;have k2:=Zoe a3 m z l;dsimp only;generalize Dl (cX fr e g g.2.1.2) (cG fr e g)=X at *;generalize Dl (cX fr e g g.2.2.1.2) (cG fr e g)=Y at *;generalize Dl (cX fr e g g.2.2.2.2) (cG fr e g)=Z at *;generalize ((cG fr e g:Int):Rat)=GG at *;generalize ((g.1.2.1-g.1.1:Int):Rat)^5=DD at *
  match i with
  | 0=>exact k0
  | 1=>exact k1
  | i+2=>exact k2
def cgb0(f:0<=M)(e:-(M*1)<=(x0*1)/\(x0*1)<=M*1):(-(80*M)<=x0/\x0<=80*M):=O1
theorem cgb1(g:0<=M)(e:-(M*1)<=(x0*1)/\(x0*1)<=M*1)(f:-(M*1)<=(x0*1+x1*1)/\(x0*1+x1*1)<=M*1):(-(80*M)<=x0/\x0<=80*M)/\(-(80*M)<=x1/\x1<=80*M):=by refine⟨⟨?_,?_⟩,⟨?_,?_⟩⟩<;>omega
theorem cgb2(h:0<=M)(e:-(M*1)<=(x0*1)/\(x0*1)<=M*1)(f:-(M*2)<=(x0*2+x1*1)/\(x0*2+x1*1)<=M*2)(g:-(M*1)<=(x0*1+x1*1+x2*1)/\(x0*1+x1*1+x2*1)<=M*1):(-(80*M)<=x0/\x0<=80*M)/\(-(80*M)<=x1/\x1<=80*M)/\(-(80*M)<=x2/\x2<=80*M):=by refine⟨⟨?_,?_⟩,⟨?_,?_⟩,⟨?_,?_⟩⟩<;>omega
theorem cgb3(j:0<=M)(e:-(M*1)<=(x0*1)/\(x0*1)<=M*1)(f:-(M*3)<=(x0*3+x1*1)/\(x0*3+x1*1)<=M*3)(g:-(M*3)<=(x0*3+x1*2+x2*1)/\(x0*3+x1*2+x2*1)<=M*3)(h:-(M*1)<=(x0*1+x1*1+x2*1+x3*1)/\(x0*1+x1*1+x2*1+x3*1)<=M*1):(-(80*M)<=x0/\x0<=80*M)/\(-(80*M)<=x1/\x1<=80*M)/\(-(80*M)<=x2/\x2<=80*M)/\(-(80*M)<=x3/\x3<=80*M):=by refine⟨⟨?_,?_⟩,⟨?_,?_⟩,⟨?_,?_⟩,⟨?_,?_⟩⟩<;>omega
theorem cgb4(l:0<=M)(e:-(M*1)<=(x0*1)/\(x0*1)<=M*1)(f:-(M*4)<=(x0*4+x1*1)/\(x0*4+x1*1)<=M*4)(g:-(M*6)<=(x0*6+x1*3+x2*1)/\(x0*6+x1*3+x2*1)<=M*6)(h:-(M*4)<=(x0*4+x1*3+x2*2+x3*1)/\(x0*4+x1*3+x2*2+x3*1)<=M*4)(j:-(M*1)<=(x0*1+x1*1+x2*1+x3*1+x4*1)/\(x0*1+x1*1+x2*1+x3*1+x4*1)<=M*1):(-(80*M)<=x0/\x0<=80*M)/\(-(80*M)<=x1/\x1<=80*M)/\(-(80*M)<=x2/\x2<=80*M)/\(-(80*M)<=x3/\x3<=80*M)/\(-(80*M)<=x4/\x4<=80*M):=by refine⟨⟨?_,?_⟩,⟨?_,?_⟩,⟨?_,?_⟩,⟨?_,?_⟩,⟨?_,?_⟩⟩<;>omega
theorem cgb5{e:Int}(n:0<=M)(f:-(M*1)<=(x0*1)/\(x0*1)<=M*1)(g:-(M*5)<=(x0*5+x1*1)/\(x0*5+x1*1)<=M*5)(h:-(M*10)<=(x0*10+x1*4+x2*1)/\(x0*10+x1*4+x2*1)<=M*10)(j:-(M*10)<=(x0*10+x1*6+x2*3+x3*1)/\(x0*10+x1*6+x2*3+x3*1)<=M*10)(l:-(M*5)<=(x0*5+x1*4+x2*3+x3*2+x4*1)/\(x0*5+x1*4+x2*3+x3*2+x4*1)<=M*5)(m:-(M*1)<=(x0*1+x1*1+x2*1+x3*1+x4*1+e*1)/\(x0*1+x1*1+x2*1+x3*1+x4*1+e*1)<=M*1):(-(80*M)<=x0/\x0<=80*M)/\(-(80*M)<=x1/\x1<=80*M)/\(-(80*M)<=x2/\x2<=80*M)/\(-(80*M)<=x3/\x3<=80*M)/\(-(80*M)<=x4/\x4<=80*M)/\(-(80*M)<=e/\e<=80*M):=by refine⟨⟨?_,?_⟩,⟨?_,?_⟩,⟨?_,?_⟩,⟨?_,?_⟩,⟨?_,?_⟩,⟨?_,?_⟩⟩<;>omega
theorem cg_brS{n:Nat}(v:n<6)(y:c.length<=n+1)(h:∀j,j<n+1->((Ln n c j).natAbs:Int)<=M*(Pp n j:Int))(k:Nat):((cf c k).natAbs:Int)<=80*M:=by
 have s:0<=M:=by have f:=h 0 O1;rw [Zhx]at f;omega
 by_cases w:k<n+1
 .rw [Xl]
  match n,v with
  | 0,_=>
   have f:=Xl.1 (h 0 O4);rw [bre00,show(Pp 0 0:Int)=1 from rfl]at f;have e:=cgb0 s f;obtain rfl:k=0:=O1;exact e
  | 1,_=>
   have f:=Xl.1 (h 0 O4);rw [bre10,show(Pp 1 0:Int)=1 from rfl]at f;have g:=Xl.1 (h 1 O4);rw [bre11,show(Pp 1 1:Int)=1 from rfl]at g;have e:=cgb1 s f g;rcases(show k=0\/k=1 by omega)with rfl|rfl
   .exact e.1
   .exact e.2
  | 2,_=>
   have f:=Xl.1 (h 0 O4);rw [bre20,show(Pp 2 0:Int)=1 from rfl]at f;have g:=Xl.1 (h 1 O4);rw [bre21,show(Pp 2 1:Int)=2 from rfl]at g;have l:=Xl.1 (h 2 O4);rw [bre22,show(Pp 2 2:Int)=1 from rfl]at l;have e:=cgb2 s f g l;rcases(show k=0\/k=1\/k=2 by omega)with rfl|rfl|rfl
   .exact e.1
   .exact e.2.1
   .exact e.2.2
  | 3,_=>
   have f:=Xl.1 (h 0 O4);rw [bre30,show(Pp 3 0:Int)=1 from rfl]at f;have g:=Xl.1 (h 1 O4);rw [bre31,show(Pp 3 1:Int)=3 from rfl]at g;have l:=Xl.1 (h 2 O4);rw [bre32,show(Pp 3 2:Int)=3 from rfl]at l;have m:=Xl.1 (h 3 O4);rw [bre33,show(Pp 3 3:Int)=1 from rfl]at m;have e:=cgb3 s f g l m;rcases(show k=0\/k=1\/k=2\/k=3 by omega)with rfl|rfl|rfl|rfl
   .exact e.1
   .exact e.2.1
   .exact e.2.2.1
   .exact e.2.2.2
  | 4,_=>
   have f:=Xl.1 (h 0 O4);rw [bre40,show(Pp 4 0:Int)=1 from rfl]at f;have g:=Xl.1 (h 1 O4);rw [bre41,show(Pp 4 1:Int)=4 from rfl]at g;have l:=Xl.1 (h 2 O4);rw [bre42,show(Pp 4 2:Int)=6 from rfl]at l;have m:=Xl.1 (h 3 O4);rw [bre43,show(Pp 4 3:Int)=4 from rfl]at m;have t:=Xl.1 (h 4 O4);rw [bre44,show(Pp 4 4:Int)=1 from rfl]at t;have e:=cgb4 s f g l m t;rcases(show k=0\/k=1\/k=2\/k=3\/k=4 by omega)with rfl|rfl|rfl|rfl|rfl
   .exact e.1
   .exact e.2.1
   .exact e.2.2.1
   .exact e.2.2.2.1
   .exact e.2.2.2.2
  | 5,_=>
   have f:=Xl.1 (h 0 O4);rw [bre50,show(Pp 5 0:Int)=1 from rfl]at f;have g:=Xl.1 (h 1 O4);rw [bre51,show(Pp 5 1:Int)=5 from rfl]at g;have l:=Xl.1 (h 2 O4);rw [bre52,show(Pp 5 2:Int)=10 from rfl]at l;have m:=Xl.1 (h 3 O4);rw [bre53,show(Pp 5 3:Int)=10 from rfl]at m;have t:=Xl.1 (h 4 O4);rw [bre54,show(Pp 5 4:Int)=5 from rfl]at t;have u:=Xl.1 (h 5 O4);rw [bre55,show(Pp 5 5:Int)=1 from rfl]at u;have e:=cgb5 s f g l m t u;rcases(show k=0\/k=1\/k=2\/k=3\/k=4\/k=5 by omega)with rfl|rfl|rfl|rfl|rfl|rfl
   .exact e.1
   .exact e.2.1
   .exact e.2.2.1
   .exact e.2.2.2.1
   .exact e.2.2.2.2.1
   .exact e.2.2.2.2.2
 .rw [Yk O1];simp;omega
theorem AxC.cg(h:AxC c ov)(k:Nat):((cf c k).natAbs:Int)<=83886080*ov:=by have f:=h.l;have:=cg_brS (n:=c.length-1) O1 (c:=c) O1 (M:=1048576*ov) (λj e=>h.b j O1) k;omega
theorem Zw8(c:List Int)(a:Int):∀k,plS c a 1 k=Yd (λk=>cf c k*a^k) k
 | 0=>rfl
 | k+1=>by show plS c a 1 k+plT c a 1 k=_;rw [Yf,Zw8 c a k];congr 1;show c.getD k 0*(a^k*1^_)=cf c k*a^k;rw [Int.one_pow,iF];rfl
theorem Zmv(f:Nat->Int):∀n,((Yd f n:Int):Rat)=Ig (λi=>(f i:Rat)) n
 | 0=>rfl
 | n+1=>by rw [Yf,Od,<-Zmv f n];push_cast;rfl
theorem Yd8(c:List Int)(a:Int):((pl c a 1:Int):Rat)=Zb c (a:Rat):=by
 unfold pl;rw [Zw8,Zmv]
 conv=>rhs;rw [<-Zc3 c]
 rw [Ze9];exact Mj _ λi hi=>by rw [<-Zcg];push_cast;rfl
theorem Prt.pl{g:Zi}(h:Prt q g G){a e:Int}(l:a*(g.1.2.1-g.1.1)=(q.1.1-g.1.1)+(q.1.2.1-q.1.1)*e)(i:Nat) :
  Sky.pl (Zk i q.2.1.2 q.2.2.1.2 q.2.2.2.2) e 1*G=Sky.pl (Zk i g.2.1.2 g.2.2.1.2 g.2.2.2.2) a 1*(g.1.2.1-g.1.1)^5:=by
 have f:=h.x i (a:Rat) (e:Rat) (by exact_mod_cast l);rw [<-Yd8,<-Yd8,<-Zcg]at f;have j:((Sky.pl (Zk i q.2.1.2 q.2.2.1.2 q.2.2.2.2) e 1*G:Int):Rat)=((Sky.pl (Zk i g.2.1.2 g.2.2.1.2 g.2.2.2.2) a 1*(g.1.2.1-g.1.1)^5:Int):Rat):=by rw [Rat.intCast_mul,Rat.intCast_mul,f,jN]
 exact_mod_cast j
structure Chn (ps:List Zi):Prop where
 lt:∀g∈ps,g.1.1<g.1.2.1
 eq:∀(i:Nat) (g h:Zi),ps[i]? = some g->ps[i+1]? = some h->g.1.2.1=h.1.1
def Chn.tail{g:Zi}(h:Chn (g::r)):Chn r:=⟨λx e=>h.lt x (bF _ e),λi x y e f=>h.eq (i+1) x y e f⟩
theorem Chn.ge:∀{r:List Zi} {g:Zi},Chn (g::r)->∀x∈r,g.1.2.1<=x.1.1
 | [],_,_,_,e=>nomatch e
 | h::r,g,hc,x,e=>by
  have f:=hc.eq 0 g h rfl rfl;rcases bJ.1 e with rfl|e
  .omega
  .have:=Chn.ge hc.tail x e;have:=hc.lt h O7;omega
theorem Zpb{fr n:Int} : ∀{ps:List Zi},Chn ps->∀(j:Nat) (f l:Zi),(ps.filter (Ko fr n))[j]? = some f->(ps.filter (Ko fr n))[j+1]? = some l->∃i:Nat,ps[i]? = some f/\ps[i+1]? = some l
 | [],_,j,f,l,h,_=>by simp at h
 | g::r,hc,j,f,l,h1,e=>by
  cases hp:Ko fr n g with
  | false=>
   rw [gK (by rw [hp];exact dH)]at h1 e;obtain⟨i,a,b⟩:=Zpb hc.tail j f l h1 e;exact⟨i+1,a,b⟩
  | true=>
   rw [eI hp]at h1 e
   match j with
   | j+1=>
    obtain⟨i,a,b⟩:=Zpb hc.tail j f l h1 e;exact⟨i+1,a,b⟩
   | 0=>
    obtain rfl:g=f:=by simpa using h1
    have e:(r.filter (Ko fr n))[0]? = some l:=e;have v:l∈r.filter (Ko fr n):=kW e;obtain⟨m,s⟩:=fI.1 v
    match r,hc,e,m with
    | h::r,hc,e,m=>
     have y:=hc.eq 0 g h rfl rfl;have z:=hc.lt h O7;have w:=bL hp;have t:=bL s;have u:Ko fr n h=true:=by
      refine aM ?_;unfold cA cB at *;rcases bJ.1 m with rfl|q
      .exact t
      .have:=Chn.ge hc.tail l q;omega
     rw [eI u]at e;obtain rfl:h=l:=by simpa using e
     exact⟨0,rfl,rfl⟩
theorem getD_some{α:Type}{l:List α}{x d:α}(h:l[i]? = some x):l.getD i d=x:=by rw [aF,h];rfl
theorem Zbs{ps:List Zi}(hi:∀g∈ps,Gin g)(u:Yt ps=true):Chn ps/\(∀g∈ps,seB g=true)/\∀(i:Nat) (g h:Zi),ps[i]? = some g->ps[i+1]? = some h->meG g h=true:=by
 obtain⟨t,v,w⟩:=Yz u;have m:∀g∈ps,seB g=true:=λg f=>by obtain⟨i,j,e⟩:=eT.1 f;have:=Lm (t i j);rw [aF,aL j,eZ,e]at this;exact this
 have l:∀(i:Nat) (g h:Zi),ps[i]? = some g->ps[i+1]? = some h->meG g h=true:=λi g h f n=>by have s:=(fB.1 n).1;have:=t (i+1) s;rw [Zbu (Lm this) O1,fJ,getD_some f,getD_some n]at this;exact this
 refine⟨⟨λg f=>(Nx (hi g f) (m g f)).t2,λi g h f n=>?_⟩,m,l⟩;have:=l i g h f n;unfold meG Zht at this;rw [aO,fK]at this;exact this.1
structure Pat (fr to:Int) (ps qs:List Zi):Prop where
 gin:∀q∈qs,Gin q
 pb:Yt qs=true
 len:qs.length=(ps.filter (Ko fr to)).length
 prt:∀(j:Nat) (q:Zi),qs[j]? = some q->∃f:Zi,(ps.filter (Ko fr to))[j]? = some f/\f∈ps/\Prt q f (cG fr to f)
 nxt:∀(j:Nat) (q r:Zi),qs[j]? = some q->qs[j+1]? = some r->∃(i:Nat) (f h:Zi),ps[i]? = some f/\ps[i+1]? = some h/\Prt q f (cG fr to f)/\Prt r h (cG fr to h)/\q.1.2.1=f.1.2.1/\r.1.1=h.1.1
theorem Yg6{fr j:Int} : ∀{ps:List Zi},Chn ps->ps≠[]->spF ps<=fr->fr<j->j<=spL ps->ps.filter (Ko fr j)≠[]
 | [],_,h,_,_,_=>absurd rfl h
 | g::r,hc,_,n,h2,f=>by
  have t:=hc.lt g O7;have n:g.1.1<=fr:=n;by_cases l:Ko fr j g=true
  .rw [eI l];exact List.cons_ne_nil _ _
  .have m:¬cA fr g<cB j g:=λh=>l (aM h);have e:g.1.2.1<=fr:=by unfold cA cB at m;omega
   rw [gK l]
   match r,hc,f with
   | [],_,f=>
    have f:j<=g.1.2.1:=f;omega
   | h::r,hc,f=>
    have s:=hc.eq 0 g h rfl rfl;refine Yg6 hc.tail (List.cons_ne_nil _ _) (by show h.1.1<=fr;omega) h2 ?_;have:spL (g::h::r)=spL (h::r):=by unfold spL;simp
    rw [<-this];exact f
theorem bl_dl{a b:Int}{n:Nat}(h:bl a.natAbs<=n):bl (a/b).natAbs<=n:=by rw [Xz]at h ⊢;exact aZ (jP a b) h
def jqP(fr h ov:Int)(x y z:List Int)(e g f:Int)(x2 j l:List Int)(i:Nat):Prop:=qr (bgS (Zk i x2 j l)) (Bl [f,g-e])=qr (enS (Zk i x y z)) (Bl [ov,h-fr])
def refS(o:Nat)(x y z:List Int):Nat->List Int
 | 0=>[]
 | i+1=>Ah (refS o x y z i) (Qg (dN o (tzl (Zk i x y z))) (dN o (tzl (Zk i x y z))))
def refC(o:Nat)(m ov T:Int):Int:=m^2*ov^2*T^(2*o)
def refF(o:Nat)(m ov T:Int)(x y z:List Int):List Int:=Cb (tzl [refC o m ov T]) (Zl (refS o x y z 3) (1000^(2*o)))
def frB(ps:List Zi)(f e:Int)(i:Nat):Int:=
 if 0<i/\joG (ps.getD (i-1) G0) (ps.getD i G0)=false then 1 else if Fz (Yfu 1 f (ps.getD i G0))=true then 2 else if Fz (Yfu 2 e (ps.getD i G0))=true then 3 else 0
def fiB(ps:List Zi)(f e:Int):Option (Nat×Int):=((List.range ps.length).find? λi=>decide (frB ps f e i≠0)).map λi=>(i,frB ps f e i)
theorem tf(b:Bool):b=false\/b=true:=by cases b<;>simp
def fiI(o:Option (Nat×Int)):Int:=match o with
 | none=>0
 | some g=>g.1
def fiC(o:Option (Nat×Int)):Int:=match o with
 | none=>0
 | some g=>g.2
abbrev firV (o:Option (Nat×Int)):Value:= .tuple #[.agg #[.int .i64 (fiI o),.int .i64 (fiC o)],.bool o.isSome,.int .i64 0]
theorem Zjy(p q:List Int)(x:Rat):Zb (Ah p q) x=Zb p x+Zb q x:=by rw [<-Yx];exact Oa x _ _ λi=>by rw [Zp5,Nu]
theorem Zjw(p q:List Int)(x:Rat):Zb (Cb p q) x=Zb p x-Zb q x:=by
 have:Zb (Cb p q) x=Zb (Nr p (q.map λa=>-1*a)) x:=Oa x _ _ λi=>by rw [Ci,Nu,Xs];omega
 rw [this,Yx,Zh];push_cast;grind
theorem Ydn(p:List Int)(x:Rat):Zb p x=(Ys p:Rat)*Zb (Zu p) x:=by rw [<-Zh];exact Oa x _ _ λi=>by rw [Xs,cY,Hk]
theorem Yhc(h:Tr p)(e:p≠[]):(0:Rat)<(Ys p:Rat):=by have f:=Cx h e;have g:=Oq p;exact_mod_cast (show 0<Ys p by omega)
theorem Zr4(h:Tr p)(x:Rat):Zb (Zu p) x<0↔Zb p x<0:=by
 by_cases e:p=[]
 .subst e;rfl
 .have f:=Yhc h e;rw [Ydn p];constructor
  .intro h;have:=Rat.mul_lt_mul_of_pos_left h f;rw [Rat.mul_zero]at this;exact this
  .intro h;by_cases q:Zb (Zu p) x<0
   .exact q
   .exact absurd (aG (cW f) (mS.1 q)) (oR.2 h)
def spd(o:Nat)(x y z:List Int)(u:Rat):Rat:=Zb (refS o x y z 3) u
def lstB(o:Nat)(ps:List Zi):Nat:=Yjc (λn=>Yfa o ps (n:Int)) 14 0 10000
def lsV(o:Nat)(ps:List Zi):Nat:=if Yfa o ps 10000 then lstB o ps else 0
theorem Zzv(a b:Bool):a=false\/(a=true/\b=false)\/(a=true/\b=true):=by cases a<;>cases b<;>simp
def dR(o:Nat)(c:List Int)(u:Rat):Rat:=Zb (dN o (tzl c)) u
theorem Prt.num{g:Zi}(h:Prt q g G):∃v s:Rat,0<=v/\0<s/\v+s<=1/\s*((g.1.2.1-g.1.1:Int):Rat)=((q.1.2.1-q.1.1:Int):Rat)/\v*((g.1.2.1-g.1.1:Int):Rat)=((q.1.1-g.1.1:Int):Rat)/\(0:Rat)<((g.1.2.1-g.1.1:Int):Rat)/\
  ∀i (u:Rat),Zb (Zk i q.2.1.2 q.2.2.1.2 q.2.2.2.2) u*(G:Rat)=((g.1.2.1-g.1.1:Int):Rat)^5*Zb (Zk i g.2.1.2 g.2.2.1.2 g.2.2.2.2) (v+s*u):=by
 have m:=h.a0;have n:=h.b0;have t:=h.ab;have B:=h.x;generalize g.1.2.1-g.1.1=d at *;generalize q.1.2.1-q.1.1=b at *;generalize q.1.1-g.1.1=a at *;have j:(0:Rat)<(d:Rat):=by exact_mod_cast (show 0<d by omega)
 have w:(0:Rat)<=(a:Rat):=by exact_mod_cast m
 have z:(0:Rat)<(b:Rat):=by exact_mod_cast n
 have y:(a:Rat)+(b:Rat)<=(d:Rat):=by exact_mod_cast t
 have hi:0<(d:Rat)⁻¹:=gG.2 j;have e:(a:Rat)/d*d=a:=gW O5;have f:(b:Rat)/d*d=b:=gW O5;refine⟨(a:Rat)/d,(b:Rat)/d,?_,?_,?_,f,e,j,λi u=>B i _ u (by
  have l:(b:Rat)/d*u*d=((b:Rat)/d*d)*u:=by rw [kQ,jN u,<-kQ]
  rw [Rat.add_mul,e,l,f])⟩
 .rw [iI];exact aG w (cW hi)
 .rw [iI];exact aT z hi
 .have:((a:Rat)/d+b/d)*d<=1*d:=by rw [Rat.add_mul,e,f];grind
  exact Rat.le_of_mul_le_mul_right this j
def Zvf{fr e:Int}{ps:List Zi}(h:Pb fr e ps=true):Zvg fr e ps=0:=aH h
theorem Yha{fr e:Int}{ps:List Zi}(h:Pb fr e ps=false):Zvg fr e ps=7:=aE (by rw [h];exact dH)
def lh_M{fr f:Int}{ps:List Zi}(hi:∀g∈ps,Gin g)(h:Yt ps=true):∀g∈ps,Ko fr f g=true->MdG fr f g:=λg e j=>Yew (hi g e) ((Zbs hi h).2.1 g e) j
def inn(fr e:Int)(ps:List Zi):List Int:=(ps.filter λg=>decide (fr<g.1.1) && decide (g.1.1<e)).map λg=>g.1.1
theorem inn_t{fr e:Int}{ps:List Zi}(j:k<ps.length)(f:fr<(ps.getD k G0).1.1)(h:(ps.getD k G0).1.1<e):inn fr e (ps.take (k+1))=inn fr e (ps.take k) ++ [(ps.getD k G0).1.1]:=by unfold inn;rw [Zns (x:=ps.getD k G0) (by rw [aF,aL j];rfl),fM,eK];rw [show List.filter (λg:Zi=>decide (fr<g.1.1) && decide (g.1.1<e)) [ps.getD k G0]=[ps.getD k G0]from eI (by rw [aM f,aM h];rfl)];rfl
theorem inn_f{fr e:Int}{ps:List Zi}(j:k<ps.length)(h:¬(fr<(ps.getD k G0).1.1/\(ps.getD k G0).1.1<e)):inn fr e (ps.take (k+1))=inn fr e (ps.take k):=by
 unfold inn;rw [Zns (x:=ps.getD k G0) (by rw [aF,aL j];rfl),fM,eK];rw [show List.filter (λg:Zi=>decide (fr<g.1.1) && decide (g.1.1<e)) [ps.getD k G0]=[] by rw [gK (λf=>by rw [aO]at f;exact h ⟨bL f.1,bL f.2⟩)];rfl]
 simp
theorem Zo2(fr e:Int)(ps:List Zi):(inn fr e ps).length<=ps.length:=by unfold inn;rw [aW];exact kM _ _
theorem Zxi{fr j:Int}{ps:List Zi} : x∈inn fr j ps↔∃g∈ps,g.1.1=x/\fr<x/\x<j:=by
 unfold inn;rw [eN];constructor
 .rintro⟨g,h,rfl⟩;obtain⟨f,e⟩:=fI.1 h;simp only [aO,cK]at e;exact⟨g,f,rfl,e.1,e.2⟩
 .rintro⟨g,h,rfl,f,e⟩;exact⟨g,fI.2 ⟨h,by simp [f,e]⟩,rfl⟩
def Bw(a b:List Zi):Int:=max (spF a) (spF b)
def Bv(a b:List Zi):Int:=min (spL a) (spL b)
def Zd0(a b:List Zi)(i:Nat):List Int:=Bw a b::Bv a b::((if 1<=i then inn (Bw a b) (Bv a b) a else []) ++ (if 2<=i then inn (Bw a b) (Bv a b) b else []))
def Oc(a b:List Zi):List Int:=Zl1 (Zd0 a b 2)
def Fy{α:Type _}(i:Nat)(a b:α):α:=if i=0 then a else b
theorem tms_s(h:i<2):Zd0 a b (i+1)=Zd0 a b i ++ inn (Bw a b) (Bv a b) (Fy i a b):=by
 match i,h with
 | 0,_=>simp [Zd0,Fy]
 | 1,_=>simp [Zd0,Fy]
theorem Zil : x∈Oc a b↔x=Bw a b\/x=Bv a b\/(Bw a b<x/\x<Bv a b/\((∃g∈a,g.1.1=x)\/∃g∈b,g.1.1=x)):=by
 unfold Oc;rw [Zbw];show x∈Bw a b::Bv a b::(inn _ _ a ++ inn _ _ b)↔_;rw [bJ,bJ,cQ,Zxi,Zxi];constructor
 .rintro(h|h|⟨g,e,f,j,l⟩|⟨g,e,f,j,l⟩)
  .exact .inl h
  .exact .inr (.inl h)
  .exact .inr (.inr ⟨j,l,.inl ⟨g,e,f⟩⟩)
  .exact .inr (.inr ⟨j,l,.inr ⟨g,e,f⟩⟩)
 .rintro(h|h|⟨j,l,⟨g,e,f⟩|⟨g,e,f⟩⟩)
  .exact .inl h
  .exact .inr (.inl h)
  .exact .inr (.inr (.inl ⟨g,e,f,j,l⟩))
  .exact .inr (.inr (.inr ⟨g,e,f,j,l⟩))
def Ymj(a b:List Zi):Sst (Oc a b) (Oc a b).length:=Zwg (Zb2 _)
theorem Zsi(x:Int):∀l:List Int,(Zkv x l).length<=l.length+1
 | []=>aI _
 | y::l=>by
  have:=Zsi x l;unfold Zkv;split
  .exact aI _
  .split
   .exact Nat.le_succ _
   .simp only [dG];omega
theorem Zsf:∀l:List Int,(Zl1 l).length<=l.length
 | []=>aI _
 | x::l=>by have:=Zsf l;have:=Zsi x (Zl1 l);show(Zkv x (Zl1 l)).length<=_;simp only [dG];omega
theorem Zo1(a b:List Zi)(i:Nat):(Zd0 a b i).length<=2+a.length+b.length:=by have e:=Zo2 (Bw a b) (Bv a b) a;have f:=Zo2 (Bw a b) (Bv a b) b;unfold Zd0;split<;>split<;>simp<;>omega
def Zxq(a b:List Zi):(Oc a b).length<=2+a.length+b.length:=aB (Zsf _) (Zo1 a b 2)
structure Bks (a b:List Zi):Prop where
 two:2<=(Oc a b).length
 hd:(Oc a b).getD 0 0=Bw a b
 ls:(Oc a b).getD ((Oc a b).length-1) 0=Bv a b
 lt:∀k,k+1<(Oc a b).length->Bw a b<=(Oc a b).getD k 0/\(Oc a b).getD k 0<(Oc a b).getD (k+1) 0/\(Oc a b).getD (k+1) 0<=Bv a b
 no:∀k,k+1<(Oc a b).length->∀g,g∈a\/g∈b->¬((Oc a b).getD k 0<g.1.1/\g.1.1<(Oc a b).getD (k+1) 0)
theorem bks(h:Bw a b<Bv a b):Bks a b:=by
 have hs:=Ymj a b;have w:Bw a b∈Oc a b:=Zil.2 (.inl rfl);have y:Bv a b∈Oc a b:=Zil.2 (.inr (.inl rfl));have f:∀x∈Oc a b,Bw a b<=x/\x<=Bv a b:=λx F=>by rcases Zil.1 F with l|l|⟨l,s,_⟩<;>omega
 obtain⟨i,hi,u⟩:=Fm.1 w;obtain⟨j,P,v⟩:=Fm.1 y;have t:2<=(Oc a b).length:=by
  by_cases e:i=j
  .subst e;omega
  .omega
 have z:(Oc a b).getD 0 0=Bw a b:=by
  by_cases e:i=0
  .subst e;exact u
  .have l:=hs 0 i O1 hi;have s:=(f _ (Ze (zs:=Oc a b) (i:=0) (d:=0))).1;omega
 have H:(Oc a b).getD ((Oc a b).length-1) 0=Bv a b:=by
  by_cases e:j=(Oc a b).length-1
  .rw [<-e];exact v
  .have l:=hs j ((Oc a b).length-1) O1 O1;have s:=(f _ (Ze (zs:=Oc a b) (i:=(Oc a b).length-1) (d:=0))).2;omega
 refine⟨t,z,H,λk n=>⟨(f _ (Ze)).1,hs k (k+1) O1 n,(f _ (Ze n)).2⟩,λk n g m N=>?_⟩;have l:=(f _ (Ze (zs:=Oc a b) (i:=k) (d:=0))).1;have s:=(f _ (Ze (zs:=Oc a b) (i:=k+1) (d:=0) n)).2;have B:g.1.1∈Oc a b:=Zil.2 (.inr (.inr ⟨O1,O1,by
  rcases m with m|m
  .exact .inl ⟨g,m,rfl⟩
  .exact .inr ⟨g,m,rfl⟩⟩))
 obtain⟨q,D,I⟩:=Fm.1 B;rcases oL q k with c|c|c
 .have:=hs q k c O1;omega
 .subst c;omega
 .rcases oL q (k+1)with d|d|d
  .omega
  .subst d;omega
  .have:=hs (k+1) q d D;omega
theorem Zys{fr e:Int}{g:Zi}(h:Ko fr e g=true):fr<g.1.2.1/\g.1.1<e:=by unfold Ko cA cB at h;have:=bL h;exact⟨O1,O1⟩
theorem Zpw{fr e:Int}{ps:List Zi}(h:Chn ps)(l:ps≠[])(u:spF ps<=fr)(v:fr<e)(w:e<=spL ps)(m:∀g∈ps,¬(fr<g.1.1/\g.1.1<e)):(ps.filter (Ko fr e)).length=1:=by
 have y:=Yg6 h l u v w;have n:0<(ps.filter (Ko fr e)).length:=aC.2 y;rcases bC 1 (ps.filter (Ko fr e)).length with f|f
 .exfalso;have s:=aL n;have t:=aL f;obtain⟨i,f1,f2⟩:=Zpb h 0 _ _ s t;have z:=(fI.1 (eY n)).2;have B:=(fI.1 (eY f)).2;have j:=(fI.1 (eY f)).1;have H:=h.eq i _ _ f1 f2;have D:=Zys z;have F:=Zys B;exact m _ j ⟨O1,O1⟩
 .omega
def Ba(ts:List Int)(ps:List Zi):Nat->List Zl8
 | 0=>[]
 | n+1=>Ba ts ps n ++ Zaf (ts.getD n 0) (ts.getD (n+1) 0) ps
def Hf(ts:List Int)(a b:List Zi):Nat->Bool
 | 0=>true
 | n+1=>Hf ts a b n && (Pb (ts.getD n 0) (ts.getD (n+1) 0) a && Pb (ts.getD n 0) (ts.getD (n+1) 0) b)
def Ztd(a b:List Zi):Bool:=Hf (Oc a b) a b ((Oc a b).length-1)
def Fq(a b:List Zi):Int:=if Bw a b>=Bv a b then 9 else if Ztd a b then 0 else 7
def Ow(a b ps:List Zi):List Zl8:=if Fq a b=0 then Ba (Oc a b) ps ((Oc a b).length-1)else []
theorem Ztb{ts:List Int}{a b:List Zi} : ∀{n m:Nat},n<=m->Hf ts a b m=true->Hf ts a b n=true
 | n,0,h,e=>by obtain rfl:n=0:=O1;rfl
 | n,m+1,h,e=>by
  rcases bC m n with f|f
  .obtain rfl:n=m+1:=O1;exact e
  .refine Ztb f ?_;have:Hf ts a b (m+1)=(Hf ts a b m && (Pb (ts.getD m 0) (ts.getD (m+1) 0) a && Pb (ts.getD m 0) (ts.getD (m+1) 0) b)):=rfl;rw [this,aO]at e;exact e.1
def tik(a b:List Zi)(i k:Nat):List Int:=Zd0 a b i ++ inn (Bw a b) (Bv a b) ((Fy i a b).take k)
theorem tik_0(a b:List Zi)(i:Nat):tik a b i 0=Zd0 a b i:=by unfold tik;rw [eH];exact iX _
theorem tik_t(g:k<(Fy i a b).length)(e:Bw a b<((Fy i a b).getD k G0).1.1)(f:((Fy i a b).getD k G0).1.1<Bv a b):tik a b i (k+1)=tik a b i k ++ [((Fy i a b).getD k G0).1.1]:=by unfold tik;rw [inn_t g e f,dZ]
theorem tik_f(e:k<(Fy i a b).length)(h:¬(Bw a b<((Fy i a b).getD k G0).1.1/\((Fy i a b).getD k G0).1.1<Bv a b)):tik a b i (k+1)=tik a b i k:=by unfold tik;rw [inn_f e h]
theorem tik_e(hi:i<2):tik a b i (Fy i a b).length=Zd0 a b (i+1):=by unfold tik;rw [bP,tms_s hi]
theorem Zsg(a b:List Zi)(i:Nat):(Fy i a b).length<=a.length+b.length:=by unfold Fy;split<;>omega
theorem Ykv(a b:List Zi)(i k:Nat):(tik a b i k).length<=2+2*(a.length+b.length):=by have e:=Zo1 a b i;have f:=Zo2 (Bw a b) (Bv a b) ((Fy i a b).take k);have g:=Zsg a b i;have h:((Fy i a b).take k).length<=(Fy i a b).length:=List.length_take_le' _ _;unfold tik;rw [bA];omega
def tms_ne(a b:List Zi)(i:Nat):Zd0 a b i≠[]:=λh=>nomatch h
theorem tms_2(a b:List Zi)(i:Nat):2<=(Zd0 a b i).length:=by unfold Zd0;simp
section
variable {P:Program} {N:Nat} {sc:Nat->Prop} {env:Qt} {H:Hp}
theorem Yju{l m sd:SL}(i j k n:Nat)(s:lk H j=some (Qc 6 Pd qG (Qi l) a))(t:lk H k=some (Qc 6 Pd qG (Qi m) b))(e:Nat.beq j 0=false)(f:Nat.beq k 0=false)(hi:i<2) :
  ∀g w,Sat N sc env H g w->Sat N sc env ((n,Qc 6 Pd qG (Qi ([l,m].getD i sd)) (Fy i a b))::H) g w:=by
 match i,hi with
 | 0,_=>exact Zdj j n s e rfl (λ_ h=>h) (λ_ h=>h) rfl
 | 1,_=>exact Zdj k n t f rfl (λ_ h=>h) (λ_ h=>h) rfl
end
theorem Yhd(h:Bw a b>=Bv a b)(ps:List Zi):Fq a b=9/\Ow a b ps=[]:=by have e:Fq a b=9:=aH h;exact⟨e,by unfold Ow;rw [e];rfl⟩
theorem Znd(h:¬Bw a b>=Bv a b){n:Nat}(l:n+1<(Oc a b).length)(j:(Pb ((Oc a b).getD n 0) ((Oc a b).getD (n+1) 0) a && Pb ((Oc a b).getD n 0) ((Oc a b).getD (n+1) 0) b)=false)(ps:List Zi):Fq a b=7/\Ow a b ps=[]:=by
 have k:Ztd a b=false:=by
  cases hk:Ztd a b with
  | false=>rfl
  | true=>
   have f:=Ztb (n:=n+1) O1 hk;have g:Hf (Oc a b) a b (n+1)=(Hf (Oc a b) a b n && (Pb ((Oc a b).getD n 0) ((Oc a b).getD (n+1) 0) a && Pb ((Oc a b).getD n 0) ((Oc a b).getD (n+1) 0) b)):=rfl;rw [g,j,lP]at f;exact f.symm
 have e:Fq a b=7:=by unfold Fq;rw [aE h,k];rfl
 exact⟨e,by unfold Ow;rw [e];rfl⟩
theorem Yhe(h:¬Bw a b>=Bv a b){n:Nat}(g:n+1=(Oc a b).length)(f:Hf (Oc a b) a b n=true):Fq a b=0/\∀ps,Ow a b ps=Ba (Oc a b) ps n:=by
 have k:Ztd a b=true:=by unfold Ztd;rw [show(Oc a b).length-1=n by omega];exact f
 have e:Fq a b=0:=by unfold Fq;rw [aE h,k];rfl
 exact⟨e,λps=>by unfold Ow;rw [e,aH rfl,show(Oc a b).length-1=n by omega]⟩
theorem com_k{n:Nat}(h:Hf (Oc a b) a b n=true)(e:Pb ((Oc a b).getD n 0) ((Oc a b).getD (n+1) 0) a=true)(f:Pb ((Oc a b).getD n 0) ((Oc a b).getD (n+1) 0) b=true):Hf (Oc a b) a b (n+1)=true:=by show(Hf (Oc a b) a b n && (_ && _))=true;rw [h,e,f];rfl
theorem com_z{ps zs:List Zi}{n:Nat}(h:zs.map unS=Ba ts ps n)(e:us.map unS=Zaf (ts.getD n 0) (ts.getD (n+1) 0) ps):(zs ++ us).map unS=Ba ts ps (n+1):=by rw [eK,h,e];rfl
theorem com_u{ps:List Zi}{fr f:Int}(hi:∀g∈ps,Gin g)(l:Yt ps=true)(n:spF ps<=fr)(s:fr<f)(t:f<=spL ps)(h:∀g∈ps,¬(fr<g.1.1/\g.1.1<f))(v:Pb fr f ps=true)(w:us.map unS=Zaf fr f ps):us.length=1:=by have m:=(Yz l).2.1;have u:=Zpw (Zbs hi l).1 (λe=>by rw [e]at m;simp at m) n s t h;have j:=aK List.length w;rw [aW]at j;rw [j];unfold Zaf;rw [aH v,aW,u]
theorem com_ua{n:Nat}(hi:∀g∈a,Gin g)(l:Yt a=true)(B:Bks a b)(e:n+1<(Oc a b).length)(m:Pb ((Oc a b).getD n 0) ((Oc a b).getD (n+1) 0) a=true)(t:us.map unS=Zaf ((Oc a b).getD n 0) ((Oc a b).getD (n+1) 0) a):us.length=1:=by obtain⟨f,h,j⟩:=B.lt n e;unfold Bw at f;unfold Bv at j;exact com_u hi l O1 h O1 (λg s=>B.no n e g (.inl s)) m t
theorem com_ub{n:Nat}(hi:∀g∈b,Gin g)(l:Yt b=true)(B:Bks a b)(e:n+1<(Oc a b).length)(m:Pb ((Oc a b).getD n 0) ((Oc a b).getD (n+1) 0) b=true)(t:us.map unS=Zaf ((Oc a b).getD n 0) ((Oc a b).getD (n+1) 0) b):us.length=1:=by obtain⟨f,h,j⟩:=B.lt n e;unfold Bw at f;unfold Bv at j;exact com_u hi l O1 h O1 (λg s=>B.no n e g (.inr s)) m t
theorem Zv1{a b:Bool}(h:a=false):(a && b)=false:=by rw [h];rfl
theorem Zv0{a b:Bool}(h:b=false):(a && b)=false:=by rw [h];exact lP _
end Go.Sky
namespace Go.Sky
variable{o:Oper}{x y:Operand}{t:TypeId}{i M:Nat}{kd:IntKind}{c p q ns:List Int}{f:Nat->List Int}
section
variable {P:Program} {N:Nat} {sc:Nat->Prop} {env:Qt} {H:Hp}
theorem d_ix4   {e:TypeId}   {m d g h j:Int} (s:o.op= .index t x y) (v:ev env x=some (.agg #[.int .i64 d,.int .i64 g,.int .i64 h,.int .i64 j])) (z:ev env y=some (.int kd m))
  (u:P.underlying t=some (.array 4 e)) (n:∀w,(sizeOf e).run P w= .ok 1 w) (l:∀w,(isAgg e).run P w= .ok false w) (b:m=(i:Int)) (r:i<4):Nv P N sc o env H (.int .i64 ([d,g,h,j].getD i 0)):=λa w hs=>by
 subst b;have k:i=0\/i=1\/i=2\/i=3:=O1;rcases k with rfl|rfl|rfl|rfl<;>simp [execOp,s,hs.ev v,hs.ev z,Instr.index,asIntOf,run_underlying u,n,l,asAgg,part]
theorem d_ix9   {e:TypeId}   {m d g h:Int} {n r s j k l:Value} (D:o.op= .index t x y) (G:ev env x=some (.agg #[n,j,.int .i64 d,r,k,.int .i64 g,s,l,.int .i64 h])) (I:ev env y=some (.int kd m))
  (F:P.underlying t=some (.array 3 e)) (z:∀w,(sizeOf e).run P w= .ok 3 w) (v:∀w,(isAgg e).run P w= .ok true w) (b:m=(i:Int)) (B:i<3):Nv P N sc o env H (.agg #[Zk i n r s,Zk i j k l,.int .i64 (Zk i d g h)]):=λa w hs=>by
 subst b;have u:i=0\/i=1\/i=2:=O1;rcases u with rfl|rfl|rfl<;>simp [execOp,D,hs.ev G,hs.ev I,Instr.index,asIntOf,run_underlying F,z,v,asAgg,part,Zk]
end
def KA:Nat:=360287970189639680
theorem AxC.ka{a:Int}(h:AxC c a)(b:1<=a)(d:a<=4294967296):Ab KA (tzl c):=λk=>by have:=h.cg k;rw [Ky];unfold KA;omega
def BG:Nat:=2^250*2^250
theorem bl_two{a b x:Nat}(h:x<2^a*2^b):bl x<=a+b:=(Xz (a+b) x).2 (by rw [bR];exact h)
def Zzg{x:Nat}(h:x<BG):bl x<=500:=bl_two (a:=250) (b:=250) h
def Ab.sg(h:Ab M p)(a:M<BG):Sz 500 p:=λi=>Zzg (aZ (h i) a)
def Za6(h:Ab M p)(a:M<BG)(d:Tr p)(b:p.length<=25):Vp p:=⟨(h.sg a).mono O4,d,b⟩
theorem Zre{c:Int}(h:Ab M p)(b:M*c.natAbs<BG)(i:Nat):bl (cf p i*c).natAbs<=65536:=by have a:=Bc h c i;rw [Xg]at a;exact aB (Zzg (aZ a b)) O4
theorem ad_ab{K:Nat}(h:Ab M p)(e:Ab K q)(d:M+K<BG)(i:Nat):bl (cf p i+cf q i).natAbs<=65536/\bl (cf p i-cf q i).natAbs<=65536:=by have a:=h i;have b:=e i;exact⟨aB (Zzg (aZ (by omega:_<=M+K) d)) O4,aB (Zzg (aZ (by omega:_<=M+K) d)) O4⟩
theorem mf_ab(h:Ab M p)(b:M<BG)(d:p.length<=11):¬Bo p p:=λa=>by have m:=Pm (h.sg b);rcases a.2.2 with w|w<;>omega
def dfP(p q:List Int)(a b:Int):List Int:=Cb (Zl (tzl p) b) (Zl (tzl q) a)
def dfK(p q:List Int)(a b k:Int):List Int:=Zl (dfP p q a b) k
def sqK(p q:List Int)(a b k:Int):List Int:=Qg (dfK p q a b k) (dfK p q a b k)
def sqP(p q:List Int)(a b:Int):List Int:=Qg (dfP p q a b) (dfP p q a b)
def KD:Nat:=KA*4294967296+KA*4294967296
structure FmX (p q:List Int) (a b k:Int):Prop where
 v1:Vp (tzl p)
 v2:Vp (tzl q)
 b1:bl b.natAbs<=65536
 a1:bl a.natAbs<=65536
 k1:bl k.natAbs<=65536
 s1:∀i,bl (cf (tzl p) i*b).natAbs<=65536
 s2:∀i,bl (cf (tzl q) i*a).natAbs<=65536
 v3:Vp (Zl (tzl p) b)
 v4:Vp (Zl (tzl q) a)
 s3:∀i,bl (cf (Zl (tzl p) b) i-cf (Zl (tzl q) a) i).natAbs<=65536
 v5:Vp (dfP p q a b)
 s4:∀i,bl (cf (dfP p q a b) i*k).natAbs<=65536
 v6:Vp (dfK p q a b k)
 m6:¬Bo (dfK p q a b k) (dfK p q a b k)
 v7:Vp (sqK p q a b k)
 ab:Ab (6*((KD*100)*(KD*100))) (sqK p q a b k)
 l:(sqK p q a b k).length<=11
 m5:¬Bo (dfP p q a b) (dfP p q a b)
 v8:Vp (sqP p q a b)
 ab8:Ab (6*((KD*100)*(KD*100))) (sqP p q a b)
 l8:(sqP p q a b).length<=11
theorem fmX{a b k:Int}(l:Ab KA (tzl p))(m:Ab KA (tzl q))(lp:p.length<=6)(V:q.length<=6)(B:1<=a/\a<=4294967296)(D:1<=b/\b<=4294967296)(W:1<=k/\k<=100):FmX p q a b k:=by
 have r:(tzl p).length<=6:=aB (Iu p) lp;have s:(tzl q).length<=6:=aB (Iu q) V;have u:Ab (KA*4294967296) (Zl (tzl p) b):=(Bc l b).mono (bI _ O1);have v:Ab (KA*4294967296) (Zl (tzl q) a):=(Bc m a).mono (bI _ O1);have d:Ab KD (dfP p q a b):=ab_sub u v;have e:Ab (KD*100) (dfK p q a b k):=(Bc d k).mono (bI _ O1);have j:Ab (KD*100) (dfP p q a b):=d.mono O8;have R:(Zl (tzl p) b).length<=6:=aB (Ml _ _) r;have S:(Zl (tzl q) a).length<=6:=aB (Ml _ _) s;have g:(dfP p q a b).length<=6:=Zo3 R S;have n:(dfK p q a b k).length<=6:=aB (Ml _ _) g;have t5:Tr (dfP p q a b):=Qh _;have t6:Tr (dfK p q a b k):=Qh _;have w:=Yif e e n;have z:=Yif j j g;have F:=Zxr t6 t6 n n;have G:=Zxr t5 t5 g g;have h:∀c:Int,1<=c/\c<=4294967296->bl c.natAbs<=65536:=λc Q=>aB ((Xz 40 _).2 O1) O8;have I:∀c:Int,1<=c/\c<=4294967296->KA*c.natAbs<BG:=λc Q=>aZ (bI KA (by omega:c.natAbs<=4294967296)) O8;exact⟨Za6 l O8 (Qh _) O1,Za6 m O8 (Qh _) O1,h b D,h a B,h k O1,Zre l (I b D),Zre m (I a B),
  Za6 u O8 (Qh _) O1,Za6 v O8 (Qh _) O1,λi=>(ad_ab u v O8 i).2,Za6 d O8 t5 O1,
  Zre d (aZ (bI KD (by omega:k.natAbs<=100)) O8),Za6 e O8 t6 O1,mf_ab e O8 O1,Za6 w O8 (Xt _ _) (by have:(sqK p q a b k).length<=_:=F;omega),w,F,
  mf_ab j O8 O1,Za6 z O8 (Xt _ _) (by have:(sqP p q a b).length<=_:=G;omega),z,G⟩
def ngC(ns:List Int):Nat->List Int
 | 0=>[-1]
 | i+1=>Zl (Zl (ngC ns i) (ns.getD i 0)) (ns.getD i 0)
def sqN(ns:List Int):Nat->Nat
 | 0=>1
 | i+1=>sqN ns i*(ns.getD i 0).natAbs*(ns.getD i 0).natAbs
theorem Zke(ns:List Int):∀i,Ab (sqN ns i) (ngC ns i)/\(ngC ns i).length<=1/\Tr (ngC ns i)
 | 0=>⟨λi=>by
   match i with
   | 0=>show(cf [-1] 0).natAbs<=1;decide
   | i+1=>show(cf [-1] (i+1)).natAbs<=1;rw [Yk O7];decide,aI _,show Tr [-1]from .inr O4⟩
 | i+1=>by obtain⟨a,b,d⟩:=Zke ns i;exact⟨Bc (Bc a _) _,aB (Ml _ _) (aB (Ml _ _) b),Qh _⟩
theorem Ycp{ns:List Int}{B:Nat}(h:∀i,(ns.getD i 0).natAbs<=B):∀i,sqN ns i<=(B*B)^i
 | 0=>aI _
 | i+1=>by rw [bX,<-cN];exact aQ (aQ (Ycp h i) (h i)) (h i)
structure NgX (ns:List Int) (i:Nat):Prop where
 b:bl (ns.getD i 0).natAbs<=65536
 inn:Oz (ns.getD i 0)
 v:Vp (ngC ns i)
 s:∀k,bl (cf (ngC ns i) k*ns.getD i 0).natAbs<=65536
 v2:Vp (Zl (ngC ns i) (ns.getD i 0))
 s2:∀k,bl (cf (Zl (ngC ns i) (ns.getD i 0)) k*ns.getD i 0).natAbs<=65536
theorem ngX(h:∀i,(ns.getD i 0).natAbs<=4294967296)(hi:i<=4):NgX ns i:=by obtain⟨j,n,k⟩:=Zke ns i;have e:=Ycp h i;have g:(4294967296*4294967296)^i<=(4294967296*4294967296)^4:=dE O8 hi;have a:Ab ((4294967296*4294967296)^4) (ngC ns i):=j.mono (aB e g);have b:=h i;have d:Ab ((4294967296*4294967296)^4*4294967296) (Zl (ngC ns i) (ns.getD i 0)):=(Bc a _).mono (bI _ b);have l:(4294967296*4294967296)^4*(ns.getD i 0).natAbs<BG:=aZ (bI _ b) O8;have m:(4294967296*4294967296)^4*4294967296*(ns.getD i 0).natAbs<BG:=aZ (bI _ b) O8;exact⟨aB ((Xz 40 _).2 O1) O8,⟨O1,O1⟩,Za6 a O8 k O1,Zre a l,Za6 d O8 (Qh _) (aB (Ml _ _) O1),Zre d m⟩
def smP(c:List Int)(f:Nat->List Int):Nat->List Int
 | 0=>c
 | i+1=>Ah (smP c f i) (f i)
theorem Ycv{c:List Int}{f:Nat->List Int}{C F:Nat}(a:Ab C c)(d:c.length<=11)(g:Tr c)(b:∀i,Ab F (f i))(e:∀i,(f i).length<=11):∀i,Ab (C+i*F) (smP c f i)/\(smP c f i).length<=11/\Tr (smP c f i)
 | 0=>⟨by rw [gM];exact a,d,g⟩
 | i+1=>by obtain⟨h,j,k⟩:=Ycv a d g b e i;exact⟨by rw [eF,<-fX];exact ab_add h (b i),Yky j (e i),Qh _⟩
structure SmX (c:List Int) (f:Nat->List Int):Prop where
 v:∀i,i<=3->Vp (smP c f i)
 s:∀i,i<3->∀k,bl (cf (smP c f i) k+cf (f i) k).natAbs<=65536
 d:Cvd (Zu (smP c f 3))
theorem smX(m:Ab (2^190) c)(s:c.length<=1)(r:Tr c)(l:∀i,Ab (6*((KD*100)*(KD*100))) (f i))(n:∀i,(f i).length<=11):SmX c f:=by
 have b:=Ycv m O1 r l n;have g:∀i,i<=3->2^190+i*(6*((KD*100)*(KD*100)))<2^205:=λi hi=>aZ (Nat.add_le_add_left (aN _ hi) _) O8;have a:(2:Nat)^205<BG:=O8;refine⟨λi hi=>?_,λi hi k=>?_,?_⟩
 .obtain⟨d,j,h⟩:=b i;exact Za6 d (gN (g i hi) a) h O1
 .obtain⟨d,j,h⟩:=b i;refine(ad_ab d (l i) ?_ k).1;have:=g (i+1) hi;rw [eF]at this;have e:=gN this a;omega
 .obtain⟨d,j,h⟩:=b 3;have hs:=d.sz (g 3 (aI _));exact⟨Kz (Za6 d (gN (g 3 (aI _)) a) h O1),Fd hs,by rw [Zv];exact j⟩
end Go.Sky
namespace Go.Sky
variable{m D d ov:Int}{x y z:List Int}{a b xs ys:List Zi}{k:Nat}
theorem fill33(p q r s t u v w B c e f g h j l n o:Value):Instr.fill (λi=>some (i*3,3)) #[p,q,r,s,t,u,v,w,B] [(0,.agg #[c,e,f]),(1,.agg #[g,h,j]),(2,.agg #[l,n,o])]=some #[c,e,f,g,h,j,l,n,o]:=by simp [Instr.fill,Value.cells]
theorem fillG(g h j c e f:Value):Instr.fill (λi=>some (i*3,3)) ((List.range (1*3)).map ((Value.agg #[g,h,j]).cells[· % (Value.agg #[g,h,j]).cells.size]!)).toArray [(0,.agg #[c,e,f])]=some #[c,e,f]:=by
 simp [Instr.fill,Value.cells,List.range,List.range.loop]
 try rfl
def Zux(m:Int)(l:List Int):Bool:=l.all λx=>decide (-m<=x) && decide (x<=m)
theorem insB_t{l:List Int}(h:∀i,i<l.length->-m<=l.getD i 0/\l.getD i 0<=m):Zux m l=true:=cL.2 λx g=>by obtain⟨k,f,rfl⟩:=Fm.1 g;obtain⟨c,e⟩:=h k f;rw [aM c,aM e];rfl
theorem Yfd{l:List Int}{i:Nat}(hi:i<l.length)(h:¬(-m<=l.getD i 0/\l.getD i 0<=m)):Zux m l=false:=by
 cases hb:Zux m l with
 | false=>rfl
 | true=>
  have:=cL.1 hb _ (Ze (d:=0) hi);rw [aO]at this;exact absurd ⟨bL this.1,bL this.2⟩ h
def ptB(x y z:Int):Bool:=Zux 1048576 [x,y,z]
theorem pt_b{x y z:Int}(h:ptB x y z=true):(-1048576<=x/\x<=1048576)/\(-1048576<=y/\y<=1048576)/\(-1048576<=z/\z<=1048576):=by unfold ptB Zux at h;simp only [mG,List.all_nil,Bool.and_true,aO,cK]at h;exact h
def znB(D n d:Int):Bool:=decide (1<=D/\D<=4194304/\1<=n/\n<=d/\d<=100)
def Ziz{n:Int}(h:znB D n d=true):1<=D/\D<=4194304/\1<=n/\n<=d/\d<=100:=bL h
theorem Zr6{x y:Int}{A B:Nat}(c:x.natAbs<=A)(e:y.natAbs<=B):(x*y).natAbs<=A*B:=by rw [cF];exact aQ c e
def Yah(e f g h c i D n d:Int):Bool:=decide (D*d*(D*d)<=(e-h)*d*((e-h)*d)+(f-c)*d*((f-c)*d)+(g-i)*n*((g-i)*n))
def fqZ(n d ov c:Int)(x y z e f g:List Int)(i:Nat):List Int:=sqK (Zk i x y z) (Zk i e f g) ov c (Zk i d d n)
def cnZ(D d ov c:Int):List Int:=ngC [D,d,ov,c] 4
def smZ(D n d ov c:Int)(x y z e f g:List Int)(i:Nat):List Int:=smP (cnZ D d ov c) (fqZ n d ov c x y z e f g) i
def fmZ(D n d ov c:Int)(x y z e f g:List Int):List Int:=Zu (smZ D n d ov c x y z e f g 3)
structure FzX (D n d ov ov2:Int) (x y z x2 y2 z2:List Int):Prop where
 X:∀i,FmX (Zk i x y z) (Zk i x2 y2 z2) ov ov2 (Zk i d d n)
 K:∀i,Oz (Zk i d d n)
 N:∀i,i<=4->NgX [D,d,ov,ov2] i
 Q:SmX (cnZ D d ov ov2) (fqZ n d ov ov2 x y z x2 y2 z2)
theorem Ag{fr n:Int}(h:De fr n ov x y z=true)(i:Nat):Ab KA (tzl (Zk i x y z)):=by unfold De Zzw at h;simp only [aO,cK]at h;obtain⟨⟨⟨⟨⟨⟨⟨⟨o,q⟩,r⟩,c⟩,e⟩,f⟩,g⟩,j⟩,-⟩:=h;exact Gc (p:=λl=>Ab KA (tzl l)) ((AxC.of f).ka c e) ((AxC.of g).ka c e) ((AxC.of j).ka c e)
theorem fzX{fr N j r c n:Int}{f g h:List Int}(o:Sgo fr N ov x y z)(e:Sgo j r c f g h)(w:∀i,Ab KA (tzl (Zk i x y z)))(l:∀i,Ab KA (tzl (Zk i f g h)))(F:znB D n d=true):FzX D n d ov c x y z f g h:=by
 obtain⟨Q,P,R,S,V⟩:=Ziz F;have G:=o.o1;have H:=o.o2;have I:=e.o1;have M:=e.o2;have u:∀i,1<=Zk i d d n/\Zk i d d n<=100:=λi=>Gc (p:=λk:Int=>1<=k/\k<=100) ⟨O1,O1⟩ ⟨O1,O1⟩ ⟨O1,O1⟩;have q:∀i,FmX (Zk i x y z) (Zk i f g h) ov c (Zk i d d n):=λi=>fmX (w i) (l i) (o.lc i).2 (e.lc i).2 ⟨G,H⟩ ⟨I,M⟩ (u i);have B:∀i,([D,d,ov,c].getD i 0).natAbs<=4294967296:=λi=>by
  match i with
  | 0=>show D.natAbs<=_;omega
  | 1=>show d.natAbs<=_;omega
  | 2=>show ov.natAbs<=_;omega
  | 3=>show c.natAbs<=_;omega
  | i+4=>show(0:Int).natAbs<=_;decide
 refine⟨q,λi=>?_,λi hi=>ngX B hi,?_⟩
 .obtain⟨s,t⟩:=u i;exact⟨O1,O1⟩
 .obtain⟨s,t,v⟩:=Zke [D,d,ov,c] 4;refine smX (s.mono ?_) t v (λi=>(q i).ab) (λi=>(q i).l);show 1*D.natAbs*D.natAbs*d.natAbs*d.natAbs*ov.natAbs*ov.natAbs*c.natAbs*c.natAbs<=2^190;refine aB (aQ (aQ (aQ (aQ (aQ (aQ (aQ (aQ (aI 1) (show D.natAbs<=4194304 by omega)) (show D.natAbs<=4194304 by omega)) (show d.natAbs<=100 by omega)) (show d.natAbs<=100 by omega)) (show ov.natAbs<=4294967296 by omega)) (show ov.natAbs<=4294967296 by omega)) (show c.natAbs<=4294967296 by omega)) (show c.natAbs<=4294967296 by omega)) O8
theorem Ylc{n c:Int}{e f g:List Int}(h:FzX D n d ov c x y z e f g):Cvd (fmZ D n d ov c x y z e f g):=by unfold fmZ smZ;exact h.Q.d
def tzlm1:(if 25<(tzl [(-1:Int)]).length then []else tzl [-1])=[-1]:=O4
abbrev GpT:=(Int×Int)×(SL×List Int)
abbrev Dt (g:GpT):Value:= .agg #[.int .i64 g.1.1,.int .i64 g.1.2,Qi g.2.1]
abbrev qGp (g:GpT):Pc:=Ym 2 wv (Qi g.2.1) g.2.2
abbrev Gp0:GpT:=((0,0),((none,0,0),[]))
abbrev GpU:=Int×Int×List Int
def unP(g:GpT):GpU:=(g.1.1,g.1.2,g.2.2)
def gpZ(D n d:Int)(g h:Zl8):GpU:=(g.1.1,g.1.2.1,fmZ D n d g.1.2.2 h.1.2.2 g.2.1 g.2.2.1 g.2.2.2 h.2.1 h.2.2.1 h.2.2.2)
def Nz(D n d:Int)(a b:List Zi):List GpU:=List.zipWith (gpZ D n d) (Ow a b a) (Ow a b b)
def Fa(a b:List Zi):Int:=if Fq a b=9 then 0 else Fq a b
def Zvi(h:Fq a b≠0)(ps:List Zi):Ow a b ps=[]:=aE h
theorem Yfn{n:Int}(h:Fq a b≠0):Nz D n d a b=[]:=by unfold Nz;rw [Zvi h];rfl
theorem Zkr{ts:List Int}{a b ps:List Zi}(c:∀k,Pb (ts.getD k 0) (ts.getD (k+1) 0) a=true->Pb (ts.getD k 0) (ts.getD (k+1) 0) b=true->k+1<ts.length->(Zaf (ts.getD k 0) (ts.getD (k+1) 0) ps).length=1):∀n,n+1<=ts.length->Hf ts a b n=true->(Ba ts ps n).length=n
 | 0,_,_=>rfl
 | n+1,g,e=>by have f:Hf ts a b (n+1)=(Hf ts a b n && (Pb (ts.getD n 0) (ts.getD (n+1) 0) a && Pb (ts.getD n 0) (ts.getD (n+1) 0) b)):=rfl;rw [f,aO,aO]at e;show(Ba ts ps n ++ Zaf _ _ ps).length=_;rw [bA,Zkr c n O1 e.1,c n e.2.1 e.2.2 O1]
theorem Yg9{ps:List Zi}{fr c:Int}(hi:∀g∈ps,Gin g)(h:Yt ps=true)(j:spF ps<=fr)(l:fr<c)(n:c<=spL ps)(f:∀g∈ps,¬(fr<g.1.1/\g.1.1<c))(o:Pb fr c ps=true):(Zaf fr c ps).length=1:=by have i:=(Yz h).2.1;unfold Zaf;rw [aH o,aW,Zpw (Zbs hi h).1 (λe=>by rw [e]at i;simp at i) j l n f]
theorem Zvj(a b:List Zi):Fq a b=9\/Fq a b=0\/Fq a b=7:=by
 unfold Fq;split
 .exact .inl rfl
 .split
  .exact .inr (.inl rfl)
  .exact .inr (.inr rfl)
theorem Yhf(h:Fq a b=0):¬Bw a b>=Bv a b/\Ztd a b=true:=by
 unfold Fq at h;by_cases c:Bw a b>=Bv a b
 .rw [aH c]at h;exact absurd h O4
 .rw [aE c]at h;cases hk:Ztd a b with
  | true=>exact⟨c,rfl⟩
  | false=>rw [hk]at h;exact absurd h O4
theorem Zpy(p:∀g∈a,Gin g)(q:∀g∈b,Gin g)(l:Yt a=true)(n:Yt b=true):(Ow a b a).length=(Ow a b b).length/\(Ow a b a).length<=2+a.length+b.length:=by
 by_cases h:Fq a b=0
 .obtain⟨F,r⟩:=Yhf h;have B:=bks (a:=a) (b:=b) O1;have w:=B.two;have e:∀ps,Ow a b ps=Ba (Oc a b) ps ((Oc a b).length-1):=λps=>aH h;have u:=Zkr (ts:=Oc a b) (a:=a) (b:=b) (ps:=a) (λk s t c=>by obtain⟨f,i,j⟩:=B.lt k c;unfold Bw at f;unfold Bv at j;exact Yg9 p l O1 i O1 (λg o=>B.no k c g (.inl o)) s) ((Oc a b).length-1) O1 r
  have v:=Zkr (ts:=Oc a b) (a:=a) (b:=b) (ps:=b) (λk s t c=>by obtain⟨f,i,j⟩:=B.lt k c;unfold Bw at f;unfold Bv at j;exact Yg9 q n O1 i O1 (λg o=>B.no k c g (.inr o)) t) ((Oc a b).length-1) O1 r
  have G:=Zxq a b;rw [e,e,u,v];exact⟨rfl,O1⟩
 .rw [Zvi h,Zvi h];exact⟨rfl,bG _⟩
theorem Zcc{ps zs:List Zi}(hi:∀g∈ps,Gin g)(s:Yt ps=true)(w:zs.map unS=Ow a b ps):∀q∈zs,Gin q/\seB q=true:=by
 have l:∀n,∀u∈Ba (Oc a b) ps n,∃(fr f:Int) (g:Zi),g∈ps/\Ko fr f g=true/\Zh6 fr f g=true/\u=Zh5 fr f g:=λn=>by
  induction n with
  | zero=>intro u j;cases j
  | succ n B=>
   intro u j;rcases cQ.1 (show u∈Ba (Oc a b) ps n ++ _ from j)with h|h
   .exact B u h
   .unfold Zaf at h;split at h
    .rename_i t;obtain⟨g,o,rfl⟩:=eN.1 h;obtain⟨c,i⟩:=fI.1 o;exact⟨_,_,g,c,i,cL.1 t g o,rfl⟩
    .cases h
 intro q v;have e:unS q∈Ow a b ps:=by rw [<-w];exact eN.2 ⟨q,v,rfl⟩
 unfold Ow at e;split at e
 .obtain⟨fr,f,g,c,i,p,r⟩:=l _ _ e;have:=Zpv (hi g c) ((Zbs hi s).2.1 g c) i p r;exact⟨this.1,this.2.1⟩
 .cases e
theorem zip_s{α β γ:Type}{f:α->β->γ} : ∀{l:List α} {m:List β} {k:Nat} {x:α} {y:β},l[k]? = some x->m[k]? = some y->(List.zipWith f l m).take (k+1)=(List.zipWith f l m).take k ++ [f x y]
 | [],_,_,_,_,h,_=>by simp at h
 | _::_,[],_,_,_,_,h=>by simp at h
 | a::l,b::m,0,x,y,h,h2=>by simp at h h2;subst h;subst h2;simp
 | a::l,b::m,k+1,x,y,h,h2=>by have:=zip_s (f:=f) (l:=l) (m:=m) (k:=k) (by simpa using h) (by simpa using h2);simp only [mT,lA,this,iL]
def gpY(q:Zi)(g:SL×List Int):GpT:=((q.1.1,q.1.2.1),g)
theorem Zxu{n:Int}{zs:List GpT}{g:SL×List Int}(l:xs.map unS=Ow a b a)(o:ys.map unS=Ow a b b)(h:zs.map unP=(Nz D n d a b).take k)(e:k<xs.length)(c:k<ys.length)(j:g.2=fmZ D n d (xs.getD k G0).1.2.2 (ys.getD k G0).1.2.2 (xs.getD k G0).2.1.2 (xs.getD k G0).2.2.1.2 (xs.getD k G0).2.2.2.2 (ys.getD k G0).2.1.2 (ys.getD k G0).2.2.1.2 (ys.getD k G0).2.2.2.2) :
  (zs ++ [gpY (xs.getD k G0) g]).map unP=(Nz D n d a b).take (k+1):=by
 have f:(Ow a b a)[k]? = some (unS (xs.getD k G0)):=by rw [<-l,fD,aL e,aF,aL e];rfl
 have i:(Ow a b b)[k]? = some (unS (ys.getD k G0)):=by rw [<-o,fD,aL c,aF,aL c];rfl
 unfold Nz at h ⊢;rw [zip_s f i,eK,h,cP,iT];simp only [gpY,unP,gpZ,unS];rw [j]
theorem Yfl{n:Int}{zs:List GpT}(c:xs.map unS=Ow a b a)(f:(Ow a b a).length=(Ow a b b).length)(h:zs.map unP=(Nz D n d a b).take xs.length):zs.map unP=Nz D n d a b:=by rw [h,bZ];have e:=aK List.length c;rw [aW]at e;unfold Nz;rw [jS];omega
def Yfp(h:Fq a b=9):Fa a b=0:=aH h
def Yfo(h:¬Fq a b=9):Fa a b=Fq a b:=aE h
theorem Zhu{fr c:Int}(h:Sgo fr c ov x y z):Oz ov:=⟨by have:=h.o1;omega,by have:=h.o2;omega⟩
def Zo9(l:List GpU):Option GpU:=l.find? λg=>Fz g.2.2
def Bf(l:List GpU):Int×Int×Bool:=match Zo9 l with
 | some g=>(g.1,g.2.1,true)
 | none=>(0,0,false)
theorem fst_n{l:List GpU}(h:∀i,i<l.length->Fz (l.getD i (0,0,[])).2.2=false):Bf l=(0,0,false):=by
 have:Zo9 l=none:=kA.2 λg c=>by obtain⟨i,hi,rfl⟩:=eT.1 c;have:=h i hi;rw [aF,aL hi]at this;rw [show Fz (l[i]).2.2=false from this];exact dH
 unfold Bf;rw [this]
theorem fst_s:∀{l:List GpU} {k:Nat},k<l.length->(∀i,i<k->Fz (l.getD i (0,0,[])).2.2=false)->Fz (l.getD k (0,0,[])).2.2=true->Zo9 l=some (l.getD k (0,0,[]))
 | [],_,c,_,_=>absurd c (cI _)
 | g::l,0,_,_,h2=>List.find?_cons_of_pos (by exact h2)
 | g::l,k+1,c,h1,h2=>by have e:Zo9 (g::l)=Zo9 l:=List.find?_cons_of_neg (by rw [show Fz g.2.2=false from h1 0 (kK _)];exact dH);rw [e];exact fst_s (l:=l) (k:=k) (by simpa using c) (λi hi=>h1 (i+1) O1) h2
theorem Zev(zs:List GpT)(k:Nat):(zs.map unP).getD k (0,0,[])=unP (zs.getD k Gp0):=by rw [aF,fD,aF];cases zs[k]?<;>rfl
theorem Yg5{n:Int}(j:∀g∈a,Gin g)(l:∀g∈b,Gin g)(c:Yt a=true)(f:Yt b=true)(M:znB D n d=true)(t:xs.map unS=Ow a b a)(u:ys.map unS=Ow a b b):∀g∈Nz D n d a b,Cvd g.2.2:=λg s=>by
 unfold Nz at s;obtain⟨k,G,e⟩:=eT.1 s;rw [nM]at e;subst e;rw [jS]at G;have h:k<(Ow a b a).length:=O1;have i:k<(Ow a b b).length:=O1;have N:(Ow a b a)[k]∈xs.map unS:=by rw [t];exact eY h
 have P:(Ow a b b)[k]∈ys.map unS:=by rw [u];exact eY i
 obtain⟨q,H,B⟩:=eN.1 N;obtain⟨r,I,F⟩:=eN.1 P;obtain⟨v,o⟩:=Zcc j c t q H;obtain⟨w,p⟩:=Zcc l f u r I;rw [<-B,<-F];simp only [gpZ,unS];exact Ylc (fzX (Nx v o) (Nx w p) (Ag o) (Ag p) M)
def mkS(u:Zl8):Zi:=(u.1,((none,0,0),u.2.1),((none,0,0),u.2.2.1),((none,0,0),u.2.2.2))
theorem Zhe(l:List Zl8):(l.map mkS).map unS=l:=by rw [lG];exact List.map_id' _
theorem cvd_at{n:Int}(f:∀g∈a,Gin g)(i:∀g∈b,Gin g)(c:Yt a=true)(e:Yt b=true)(o:znB D n d=true){zs:List GpT}(h:zs.map unP=Nz D n d a b)(j:k<zs.length):Cvd (zs.getD k Gp0).2.2:=by
 have l:unP (zs.getD k Gp0)∈Nz D n d a b:=by rw [<-h];exact eN.2 ⟨_,Ze j,rfl⟩
 exact Yg5 f i c e o (Zhe (Ow a b a)) (Zhe (Ow a b b)) _ l
theorem fst_at{l:List GpU}{zs:List GpT}(h:zs.map unP=l)(c:k<zs.length)(f:∀i,i<k->Fz (zs.getD i Gp0).2.2=false)(e:Fz (zs.getD k Gp0).2.2=true):Bf l=((zs.getD k Gp0).1.1,(zs.getD k Gp0).1.2,true):=by subst h;have:=fst_s (l:=zs.map unP) (k:=k) (by rw [aW];exact c) (λi hi=>by rw [Zev];exact f i hi) (by rw [Zev];exact e);unfold Bf;rw [this,Zev];rfl
theorem Yfs{l:List GpU}{zs:List GpT}(h:zs.map unP=l)(c:∀i,i<zs.length->Fz (zs.getD i Gp0).2.2=false):Bf l=(0,0,false):=by subst h;exact fst_n λi hi=>by rw [Zev];exact c i (by rw [aW]at hi;exact hi)
theorem Yk8{n:Int}(i:∀g∈a,Gin g)(j:∀g∈b,Gin g)(c:Yt a=true)(f:Yt b=true){zs:List GpT}(h:zs.map unP=Nz D n d a b):zs.length<=2+a.length+b.length:=by have l:=Zpy i j c f;have e:=aK List.length h;rw [aW]at e;unfold Nz at e;rw [jS]at e;omega
def Bz(D n d:Int)(a b:List Zi):Bool:=decide (Fa a b=0) && !(Bf (Nz D n d a b)).2.2
theorem ap_t{n:Int}(h:Fa a b=0):Bz D n d a b=!(Bf (Nz D n d a b)).2.2:=by unfold Bz;rw [aM h];rfl
theorem ap_f{n:Int}(h:¬Fa a b=0):Bz D n d a b=false:=by unfold Bz;rw [aJ h];rfl
open Go.Proofs
def pPa:Enc Tryz.prog 38 1 Qi:=Enc.flat Tryz.sizeOf38 Tryz.isAgg38 (λ_=>rfl)
def pGp:Enc Tryz.prog 130 3 Dt:=Enc.agg O4 Tryz.sizeOf130 Tryz.isAgg130 (λx=>⟨[.int .i64 x.1.1,.int .i64 x.1.2,Qi x.2.1],rfl,rfl,O12⟩)
@[reducible,instance] def encPaI:EncT Tryz.prog 38 1 Qi:=⟨pPa⟩
@[reducible,instance] def encGpI:EncT Tryz.prog 130 3 Dt:=⟨pGp⟩
def ti_a3:Tryz.prog.info? 190=some Tryz.t190:=O6
def ti_ax:Tryz.prog.info? 189=some Tryz.t189:=O6
theorem Yh5{c e f g h i j l n:Value} : Tryz.prog.built 190 [(0,.agg #[c,e,f]),(1,.agg #[g,h,i]),(2,.agg #[j,l,n])]=some #[c,e,f,g,h,i,j,l,n]:=by refine Es _ ti_a3 Tryz.underlying190 rfl ti_ax ?_;rw [show Tryz.t189.size=3 from rfl];exact fill33 _ _ _ _ _ _ _ _ _ _ _ _ _ _ _ _ _ _
end Go.Sky

