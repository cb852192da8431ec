/- Rules, arithmetic and contracts: part 7. No conditions but those that each theorem names. -/
import Derived.Test.YtlnoheikolgejaaGreatLa05
set_option linter.all false
namespace Go.Sky
variable{B K Q d:Nat}{z:R2}{p a b xs t u q:List Int}
def qv(z:R2):Rat:=(z.1:Rat)/(z.2:Rat)
theorem Zqu{x y X Y g:Nat}(c:g=Nat.gcd x y)(F:0<y)(G:0<Y)(h:x*Y=X*y):y/g∣Y/\x/g<=X:=by
 have f:0<g:=by rw [c];exact Nat.gcd_pos_of_pos_right _ F
 have D:Nat.Coprime (x/g) (y/g):=by rw [c];exact Nat.coprime_div_gcd_div_gcd (by rw [<-c];exact f)
 have m:x/g*g=x:=nL (by rw [c];exact mA _ _);have i:y/g*g=y:=nL (by rw [c];exact nV _ _);have j:x/g*Y=X*(y/g):=by refine lF f ?_;have s:x/g*Y*g=x/g*g*Y:=O4;have v:X*(y/g)*g=X*(y/g*g):=O4;rw [s,v,m,i,h]
 have o:y/g∣Y:=D.symm.dvd_of_dvd_mul_left (by rw [j];exact Nat.dvd_mul_left _ _);refine⟨o,?_⟩;obtain⟨k,r⟩:=o;have l:0<k:=nM λe=>by rw [e,nS]at r;omega
 have n:0<y/g:=nM λe=>by rw [e,gV]at i;omega
 rw [r]at j;have w:x/g*k=X:=by refine lF n ?_;have:x/g*k*(y/g)=x/g*(y/g*k):=O4;rw [this,j]
 rw [<-w];exact eK _ l
theorem Zmo{x y X Y:Int}(v:0<y)(D:0<Y)(h:x*Y=X*y)(r:bl X.natAbs<=B)(c:bl Y.natAbs<=B)(w:B<=65536) :
  ¬Ld x y/\Ij x y∣Y/\0<Ij x y/\bl (Hi x y).natAbs<=B/\bl (Ij x y).natAbs<=B/\Hi x y*y=x*Ij x y:=by
 have F:Nu x y=(Nat.gcd x.natAbs y.natAbs:Int):=by rw [Yho O];rfl
 have s:x.natAbs*Y.natAbs=X.natAbs*y.natAbs:=by rw [<-cJ,<-cJ,h]
 obtain⟨i,n⟩:=Zqu (g:=Nat.gcd x.natAbs y.natAbs) rfl (by omega:0<y.natAbs) (by omega:0<Y.natAbs) s;have j:(y/Nu x y).natAbs=y.natAbs/Nat.gcd x.natAbs y.natAbs:=by rw [mF (Zit x y),Za6]
 have o:(x/Nu x y).natAbs=x.natAbs/Nat.gcd x.natAbs y.natAbs:=by rw [mF (Zps x y),Za6]
 have l:bl (y/Nu x y).natAbs<=B:=aB (Mj (by rw [j];exact lT O i)) c;have m:bl (x/Nu x y).natAbs<=B:=aB (Mj (by rw [o];exact n)) r;have e:¬Ld x y:=λh=>by unfold Ld at h;omega
 obtain⟨k,f,-⟩:=Zc6 e;refine⟨e,?_,Zr7 e v,by rw [k];exact m,by rw [f];exact l,?_⟩
 .rw [f];refine fS.1 ?_;rw [j];exact i
 .rw [k,f];exact Yb0 x y
structure En (K Q:Nat) (d:Nat) (z:R2):Prop where
 pos:0<z.2
 dv:z.2∣((Q*2^d:Nat):Int)
 lo:-(K:Rat)<=qv z
 hi:qv z<=(K:Rat)
theorem En.up(h:En K Q d z):En K Q (d+1) z:=by
 obtain⟨c,e,f,g⟩:=h;refine⟨c,?_,f,g⟩;have:((Q*2^(d+1):Nat):Int)=((Q*2^d:Nat):Int)*2:=by rw [cC];push_cast;grind
 rw [this];exact gX e (iT _ _)
theorem canc{N p s Y X D:Int}(h:p≠0)(f:N*p=s*D)(g:s*Y=X*p):N*Y=X*D:=by refine Int.eq_of_mul_eq_mul_right h ?_;have c:N*Y*p=(N*p)*Y:=O4;have e:X*D*p=(X*p)*D:=O4;rw [c,e,f,<-g];grind
theorem Ib{z:Int}(h:0<z):(0:Rat)<(z:Rat):=by exact_mod_cast h
def Zbn{n m:Nat}(h:n<2^m):bl n<=m:=(Qg m n).2 h
theorem mid_en{a b:R2}(ha:En K Q d a)(hb:En K Q d b)(hQ:0<Q)(a0:Q*2^(d+1)<2^B)(a1:2*K*(Q*2^d)<2^B)(hB:B<=65536) :
  Zcl a b/\En K Q (d+1) (Qt a b)/\qv (Qt a b)=(qv a+qv b)/2/\bl (Qt a b).1.natAbs<=B/\bl (Qt a b).2.natAbs<=B:=by
 obtain⟨pa,⟨c,W⟩,la,ua⟩:=ha;obtain⟨pb,⟨f,Z⟩,lb,ub⟩:=hb;generalize D:((Q*2^d:Nat):Int)=Y at *;have I:0<Q*2^d:=fU hQ (bQ O3);have i:0<Y:=by rw [<-D];exact_mod_cast I
 have a3:=Ib pa;have a4:=Ib pb;have rY:=Ib i;have v:0<a.2*b.2:=gW pa pb;have g:(a.1*b.2+b.1*a.2)*Y=(a.1*c+b.1*f)*(a.2*b.2):=by have F:(a.1*c+b.1*f)*(a.2*b.2)=a.1*b.2*(a.2*c)+b.1*a.2*(b.2*f):=O4;rw [F,<-W,<-Z];grind
 have R:(a.1:Rat)*c=qv a*Y:=by
  unfold qv;have:(Y:Rat)=(a.2:Rat)*c:=by rw [W];push_cast;rfl
  rw [this];grind
 have S:(b.1:Rat)*f=qv b*Y:=by
  unfold qv;have:(Y:Rat)=(b.2:Rat)*f:=by rw [Z];push_cast;rfl
  rw [this];grind
 have M:((a.1*c+b.1*f:Int):Rat)=(qv a+qv b)*Y:=by push_cast;rw [R,S];grind
 have a2:(a.1*c+b.1*f).natAbs<=2*K*(Q*2^d):=by
  have h:((2*K*(Q*2^d):Nat):Rat)=2*(K:Rat)*(Y:Rat):=by rw [<-D];push_cast;grind
  have t1:=aI (a:=2*(K:Rat)-(qv a+qv b)) (b:=(Y:Rat)) O4 O4;have t2:=aI (a:=2*(K:Rat)+(qv a+qv b)) (b:=(Y:Rat)) O4 O4;have u1:((a.1*c+b.1*f:Int):Rat)<=(((2*K*(Q*2^d):Nat):Int):Rat):=by rw [M];push_cast at h ⊢;grind
  have u2:((-((2*K*(Q*2^d):Nat):Int):Int):Rat)<=((a.1*c+b.1*f:Int):Rat):=by rw [M];push_cast at h ⊢;grind
  have v1:a.1*c+b.1*f<=((2*K*(Q*2^d):Nat):Int):=by exact_mod_cast u1
  have v2:-((2*K*(Q*2^d):Nat):Int)<=a.1*c+b.1*f:=by exact_mod_cast u2
  omega
 have j:Y.natAbs=Q*2^d:=by rw [<-D];rfl
 have H:Q*2^(d+1)=2*(Q*2^d):=by rw [cC];grind
 have N:bl Y.natAbs<=B:=Zbn (by rw [j];omega);have k:bl (a.1*c+b.1*f).natAbs<=B:=Zbn O;obtain⟨f1,f2,f3,f4,f5,f6⟩:=Zmo v i g k N hB;have V:=canc (Int.ne_of_gt v) f6 g;have l:bl (2*Y).natAbs<=B:=Zbn (by rw [cJ,j];show 2*(Q*2^d)<_;omega);have w:Hi (a.1*b.2+b.1*a.2) (a.2*b.2)*1*(2*Y)=(a.1*c+b.1*f)*(Ij (a.1*b.2+b.1*a.2) (a.2*b.2)*2):=by rw [kM];have F:Hi (a.1*b.2+b.1*a.2) (a.2*b.2)*(2*Y)=2*(Hi (a.1*b.2+b.1*a.2) (a.2*b.2)*Y):=O4;rw [F,V];grind
 have s:0<Ij (a.1*b.2+b.1*a.2) (a.2*b.2)*2:=O;obtain⟨g1,g2,G,g4,g5,g6⟩:=Zmo s (by omega:0<2*Y) w k l hB;have x:=canc (Int.ne_of_gt s) g6 w;have o:(Qt a b).1=Hi (Hi (a.1*b.2+b.1*a.2) (a.2*b.2)*1) (Ij (a.1*b.2+b.1*a.2) (a.2*b.2)*2):=rfl;have r:(Qt a b).2=Ij (Hi (a.1*b.2+b.1*a.2) (a.2*b.2)*1) (Ij (a.1*b.2+b.1*a.2) (a.2*b.2)*2):=rfl;rw [<-o,<-r]at x;rw [<-r]at g2 G g5;rw [<-o]at g4;have P:qv (Qt a b)=(qv a+qv b)/2:=by
  have h1:(((Qt a b).1:Int):Rat)*(2*(Y:Rat))=((a.1*c+b.1*f:Int):Rat)*(((Qt a b).2:Int):Rat):=by
   have:(((Qt a b).1*(2*Y):Int):Rat)=(((a.1*c+b.1*f)*(Qt a b).2:Int):Rat):=by rw [x]
   push_cast at this ⊢;grind
  rw [M]at h1;have rd:=Ib G;unfold qv at *;generalize (((Qt a b).1:Int):Rat)=n at *;generalize (((Qt a b).2:Int):Rat)=m at *;generalize (a.1:Rat)/(a.2:Rat)=p at *;generalize (b.1:Rat)/(b.2:Rat)=q at *;generalize (Y:Rat)=y at *;grind
 refine⟨⟨f1,g1⟩,⟨G,?_,by rw [P];grind,by rw [P];grind⟩,P,g4,g5⟩;have e:((Q*2^(d+1):Nat):Int)=2*Y:=by rw [H,<-D];push_cast;rfl
 rw [e];exact g2
def Be(F:Nat)(xs:List Int)(x:Rat):Int:=vat ((chn F xs).map Zb) x
def cvc_v{F:Nat}(h:0<z.2):cvc F xs z=Be F xs (qv z):=Yi0 h
def Sqn(P:R2->R2->Prop)(hi:Rat):Rat->List (R2×R2)->Prop
 | e,[]=>e<=hi
 | e,c::r=>e<=qv c.1/\qv c.1<qv c.2/\P c.1 c.2/\Sqn P hi (qv c.2) r
theorem Sqn.le{P:R2->R2->Prop}{hi:Rat} : ∀{lo:Rat} {l:List (R2×R2)},Sqn P hi lo l->lo<=hi
 | lo,[],h=>h
 | lo,c::r,h=>by have:=Sqn.le h.2.2.2;have:=h.1;have:=h.2.1;grind
theorem Sqn.low{P:R2->R2->Prop}{hi:Rat}{lo e:Rat}(f:e<=lo):∀{l:List (R2×R2)},Sqn P hi lo l->Sqn P hi e l
 | [],h=>by have h:lo<=hi:=h;show e<=hi;grind
 | c::r,h=>⟨by have:=h.1;grind,h.2⟩
def Sqn.app{P:R2->R2->Prop}{e hi:Rat}{i:List (R2×R2)}(f:Sqn P hi e i):∀{lo:Rat} {g:List (R2×R2)},Sqn P e lo g->Sqn P hi lo (g ++ i)
 | lo,[],h=>f.low h
 | lo,c::r,h=>⟨h.1,h.2.1,h.2.2.1,Sqn.app f h.2.2.2⟩
theorem Zl8{a:R2}(k:0<a.2)(h:a.1.natAbs<=K):-(K:Rat)<=qv a/\qv a<=(K:Rat):=by
 obtain⟨i,j⟩:=Yee h;have l:(1:Rat)<=(a.2:Rat):=by exact_mod_cast (show 1<=a.2 by omega)
 have c:(0:Rat)<=(K:Rat):=Iv (bB _);have hi:=fX.2 (show 0<(a.2:Rat) by grind);have e:(a.2:Rat)*(a.2:Rat)⁻¹=1:=O4;unfold qv;rw [iY];have t1:=aI (a:=(a.2:Rat)⁻¹) (b:=(K:Rat)*a.2-a.1) O4 (by have:=aI (a:=(K:Rat)) (b:=(a.2:Rat)-1) c O4;grind);have t2:=aI (a:=(a.2:Rat)⁻¹) (b:=(K:Rat)*a.2+a.1) O4 (by have:=aI (a:=(K:Rat)) (b:=(a.2:Rat)-1) c O4;grind);have f:(a.2:Rat)⁻¹*((K:Rat)*a.2-a.1)=(K:Rat)*(a.2*(a.2:Rat)⁻¹)-a.1*(a.2:Rat)⁻¹:=O4;have g:(a.2:Rat)⁻¹*((K:Rat)*a.2+a.1)=(K:Rat)*(a.2*(a.2:Rat)⁻¹)+a.1*(a.2:Rat)⁻¹:=O4;rw [f,e]at t1;rw [g,e]at t2;constructor<;>grind
theorem Zaq (n:Nat){a:R2}(c:0<a.2)(i:bl a.1.natAbs<=n)(j:bl a.2.natAbs<=n)(l:n<=65536) :
  ¬Ld a.1 a.2/\0<(slow a).2/\bl (slow a).1.natAbs<=n/\bl (slow a).2.natAbs<=n/\qv (slow a)=qv a:=by
 obtain⟨f1,f2,f3,f4,f5,f6⟩:=Zmo (x:=a.1) (y:=a.2) (X:=a.1) (Y:=a.2) c c rfl i j l;refine⟨f1,f3,f4,f5,?_⟩;have r1:=Ib c;have r2:=Ib f3;have k:((Hi a.1 a.2:Int):Rat)*(a.2:Rat)=(a.1:Rat)*((Ij a.1 a.2:Int):Rat):=by exact_mod_cast f6
 show((Hi a.1 a.2:Int):Rat)/((Ij a.1 a.2:Int):Rat)=(a.1:Rat)/(a.2:Rat);generalize ((Hi a.1 a.2:Int):Rat)=N at *;generalize ((Ij a.1 a.2:Int):Rat)=D at *;generalize (a.1:Rat)=x at *;generalize (a.2:Rat)=y at *;have:N/D*(D*y)=x/y*(D*y):=by have e:N/D*(D*y)=N*y:=O4;have f:x/y*(D*y)=x*D:=O4;rw [e,f,k]
 have m:=aY r2 r1;have g:N/D=N/D*(D*y)*(D*y)⁻¹:=O4;have h:x/y=x/y*(D*y)*(D*y)⁻¹:=O4;rw [g,this,<-h]
theorem sep_of  {F A e:Nat} (x:Tr xs) (j:xs≠[]) (n:Ce F xs) (o:0<K) (m:0<A) (y:∀i,(cf (sqf F xs) i).natAbs<=A) (D:∀i,(cf (Ys (sqf F xs)) i).natAbs<=A)
  (hs:2<=(sqf F xs).length->Ztz K A (sqf F xs).length e=true) (u v:Rat) (k:-(K:Rat)<=u) (c:u<=v) (l:v<=(K:Rat)) (w:v-u<=1/((2^e:Nat):Rat)):Be F xs u-Be F xs v<=1:=by
 by_cases f:2<=(sqf F xs).length
 .have h:=Yjc x j n o m rfl f y D (hs f) k c l w;show vat _ u-vat _ v<=1;rw [h];unfold crs;split<;>decide
 .have G:=Of (sqf F xs);have s:Ys (sqf F xs)=[]:=aE O;have r:chn F xs=[sqf F xs]:=by unfold chn;rw [s,Zxc,Dq]
  unfold Be vat;rw [r];have r1:=Zfw (([Zb (sqf F xs)]).map λg=>Gn (g u));have r2:=Zfw (([Zb (sqf F xs)]).map λg=>Gn (g v));simp only [bN,fL,cD,eH]at r1 r2 ⊢;omega
theorem Sqn.mem{P:R2->R2->Prop}{hi:Rat} : ∀{lo:Rat} {l:List (R2×R2)},Sqn P hi lo l->∀c∈l,P c.1 c.2
 | _,[],_,c,e=>by cases e
 | lo,d::r,h,c,e=>by
  rcases bG.1 e with rfl|e
  .exact h.2.2.1
  .exact Sqn.mem h.2.2.2 c e
theorem en_bl(h:En K Q d z)(g:0<Q)(o:Q*2^d<2^B)(s:K*(Q*2^d)<2^B):bl z.1.natAbs<=B/\bl z.2.natAbs<=B:=by
 obtain⟨j,i,v,x⟩:=h;have c:0<Q*2^d:=fU g (bQ O3);have f:z.2.natAbs<=Q*2^d:=by have:=fS.2 i;rw [eC]at this;exact lT c this
 have k:z.1.natAbs<=K*z.2.natAbs:=by
  have r:=Ib j;have e:(z.1:Rat)=qv z*z.2:=by unfold qv;grind
  have t1:=aI (a:=(K:Rat)-qv z) (b:=(z.2:Rat)) O4 O4;have t2:=aI (a:=(K:Rat)+qv z) (b:=(z.2:Rat)) O4 O4;have w:((K*z.2.natAbs:Nat):Int)=(K:Int)*z.2:=by push_cast;rw [kP O]
  have m:((z.1:Int):Rat)<=(((K:Int)*z.2:Int):Rat):=by push_cast;grind
  have n:((-((K:Int)*z.2):Int):Rat)<=((z.1:Int):Rat):=by push_cast;grind
  have y:z.1<=(K:Int)*z.2:=by exact_mod_cast m
  have D:-((K:Int)*z.2)<=z.1:=by exact_mod_cast n
  omega
 have l:K*z.2.natAbs<=K*(Q*2^d):=bD _ f;exact⟨Zbn O,Zbn O⟩
theorem Yda (e:Nat)(w:Nat)(B:Nat){n:Nat}(h:En (2^n) Q (e+w) z)(o:0<Q)(i:Q<2^(2*n))(r:3*n+1+(e+w)<=B):bl z.1.natAbs<=B/\bl z.2.natAbs<=B:=by
 have c:∀m,m<=B->2^m<=2^B:=λm h=>dE O3 h;have g:0<2^(e+w):=bQ O3;have f:Q*2^(e+w)<2^(2*n)*2^(e+w):=eD i g;have k:2^n*(Q*2^(e+w))<2^n*(2^(2*n)*2^(e+w)):=iX f (bQ O3);have j:2^(2*n)*2^(e+w)=2^(2*n+(e+w)):=(bK _ _ _).symm;have l:2^n*(2^(2*n)*2^(e+w))=2^(n+(2*n+(e+w))):=by rw [j,<-bK]
 rw [j]at f;rw [l]at k;exact en_bl h o (cZ f (c _ O)) (cZ k (c _ O))
theorem Ed.const{g:List Int}(h:Ed g a)(o:Tr g)(m:Tr a)(l:a≠[])(w:g.length=a.length):∃k c:Int,k≠0/\c≠0/\∀x:Rat,(k:Rat)*Zb a x=(c:Rat)*Zb g x:=by
 obtain⟨k,s,i,h⟩:=h;obtain⟨v,f,j⟩:=Zsl i o m l h;have e:=aG.2 f
 match hs:tzl s,e,j with
 | [c],_,_=>
  have n:c≠0:=by have:=(Qa s).mem f;rw [hs]at this;exact this
  refine⟨k,c,i,n,λx=>?_⟩;rw [h x,<-Nh s,hs,Qs]
 | c::d::r,_,h9=>simp at h9;omega
theorem Zrw(p:List Int)(c:Int)(x:Rat):Zb (Yf p c) x=(c:Rat)*Zb p x:=by rw [<-Zg];exact Pv x _ _ λi=>by rw [Xx,Xo,dJ]
theorem Ed.dv{g:List Int}(h:Ed g a):Dv g a:=by obtain⟨k,s,e,h⟩:=h;refine⟨k,s,e,λt=>?_⟩;have:=Ox (p:=a.map λc=>k*c) (q:=Qc s g) (λx=>by rw [Zg,Yp];exact h x) t;rw [Xo,Ki]at this;exact this
theorem ed_cop{w s:List Int}{k:Int}(F:k≠0)(m:Tr t)(H:Tr w)(t0:t≠[])(D:∀d,Tr d->Ed d t->Ed d w->d.length<=1)(h:∀x:Rat,(k:Rat)*(Zb u x*Zb w x)=Zb s x*Zb t x):Ed t u:=by
 obtain⟨g,A,B,f,j,n,y⟩:=Zjp w.length t w m H (aK _);have G:=D g f j n;have i:=(j.len f m t0).1
 match hgg:g,G,i with
 | [c],_,_=>
  have e:c≠0:=by have:=f.mem O7;exact this
  refine⟨k*c,Oo ((Qc A u).map λa=>k*a) (Qc B s),bC F e,λx=>?_⟩;rw [Yw,Zg,Yp,Yp];have l:=y x;rw [Qs]at l;have o:=h x;push_cast;rw [show(k:Rat)*c*Zb u x=k*(Zb u x*(c:Rat)) by grind,l];have v:(k:Rat)*(Zb u x*(Zb A x*Zb t x+Zb B x*Zb w x))=k*Zb A x*Zb u x*Zb t x+Zb B x*(k*(Zb u x*Zb w x)):=O4;rw [v,o];grind
 | c::d::r,h9,_=>simp at h9
def Ng(F:Nat)(p:List Int):List Int:=Om F (Xa p) (Ys (Xa p))
def Bu(F:Nat)(p:List Int):Prop:=eok F (gA (Xa p) (Ys (Xa p))) (gB (Xa p) (Ys (Xa p)))
theorem Ps{F:Nat}(i:Tr p)(j:p≠[])(h:Bu F p):Tr (Ng F p)/\Ng F p≠[]/\Xa (Ng F p)=Ng F p/\Xa p=Qc (sqf F p) (Ng F p)/\(sqf F p).length+(Ng F p).length=p.length+1:=by obtain⟨f1,f2,f3,f4,f5,f6⟩:=Pu F i j h;have c:Tr (Xa p):=Ok (Yy i);have f:Tr (Ys (Xa p)):=Ov c;have g:=Zds F c f;have k:=On f2 g f3 f5;rw [<-f4,Qy i]at k;have l:=aG.2 f3;have m:=aG.2 f5;refine⟨g,f5,Zr6 g (Zih c f f5) (Dt (Zqb F (Zhr c f) (Zhq c f)) (λe=>f5 (by unfold Om;rw [e];rfl))),f4,?_⟩;unfold Ng;omega
theorem Ygu{h:List Int}(j:Tr h)(i:h≠[]){k m:Int}(e:∀x:Rat,(k:Rat)*(Zb a x*Zb h x)=(m:Rat)*(Zb b x*Zb h x))(x:Rat):(k:Rat)*Zb a x=(m:Rat)*Zb b x:=by
 have g:=Ga h (f:=Oo (a.map λc=>k*c) (b.map λc=>(-m)*c)) (by rw [Cw j];exact i) (λx=>by rw [Yw,Zg,Zg];have:=e x;push_cast;grind) x
 rw [Yw,Zg,Zg]at g;push_cast at g;grind
theorem Zuh{F:Nat}(V:Tr p)(h0:p≠[])(l:Bu F p)(e:Bu F (Ng F p)):Ed (sqf F (Ng F p)) (sqf F p):=by
 obtain⟨n,a2,f,a4,a5⟩:=Ps V h0 l;obtain⟨G,D,b3,b4,b5⟩:=Ps n a2 e;obtain⟨-,u2,u3,-,-,-⟩:=Pu F V h0 l;obtain⟨-,t2,t3,-,-,-⟩:=Pu F n a2 e;have ht:Tr (Xa p):=Ok (Yy V);have o:Ed (Ng F p) (Ys (Xa p)):=(Zby ht (Ov ht) l).2.ed;have e2:Ed (Ng F (Ng F p)) (Ys (Ng F p)):=by have:=(Zby (F:=F) (p:=Xa (Ng F p)) (q:=Ys (Xa (Ng F p))) (by rw [f];exact n) (Ov (by rw [f];exact n)) e).2.ed;have h9:Ng F (Ng F p)=Om F (Xa (Ng F p)) (Ys (Xa (Ng F p))):=rfl;rw [<-h9,f]at this;exact this
 have P:∀d,Tr d->Ed d (Ng F p)->Ed d (Ys (Ng F p))->Ed d (Ng F (Ng F p)):=λd I i r=>by unfold Ng at *;have:=Zif (F:=F) (d:=d) (p:=Xa (Om F (Xa p) (Ys (Xa p)))) (q:=Ys (Xa (Om F (Xa p) (Ys (Xa p))))) (by rw [f];exact n) (Ov (by rw [f];exact n)) (by rw [f];exact i) (by rw [f];exact r);exact this
 rw [f]at b4;generalize hg:Ng F p=g at *;generalize hh:Ng F g=h at *;generalize hu:sqf F p=u at *;generalize a0:sqf F g=t at *;obtain⟨k,s,hk,R⟩:=o;obtain⟨m,w,hm,S⟩:=e2;have hP:∀x:Rat,Zb (Xa p) x=Zb (lmul u g) x:=λx=>by rw [a4,Yp,Zq]
 have hG:∀x:Rat,Zb g x=Zb (lmul t h) x:=λx=>by
  have:Zb g x=Zb (Qc t h) x:=by rw [<-b4]
  rw [this,Yp,Zq]
 have M:∀x:Rat,Zb (Ys (Xa p)) x=Zb (ld u) x*Zb g x+Zb u x*Zb (ld g) x:=λx=>by rw [Mz,Fu _ _ hP,Er]
 have v:∀x:Rat,(m:Rat)*Zb (ld g) x=Zb w x*Zb h x:=λx=>by rw [<-Mz];exact S x
 have Y:∀x:Rat,(k:Rat)*(Zb (Qc u w) x*Zb h x)=(m:Rat)*(Zb (Qc (Oo s ((ld u).map λc=>(-k)*c)) t) x*Zb h x):=λx=>by rw [Yp,Yp,Yw,Zg];have i:=R x;have r:=M x;have h3:=v x;have h4:=hG x;rw [Zq]at h4;rw [r]at i;have:(k:Rat)*(Zb u x*Zb w x*Zb h x)=Zb u x*k*(Zb w x*Zb h x):=O4;rw [this,<-h3];push_cast;have:Zb u x*(k:Rat)*(m*Zb (ld g) x)=m*(k*(Zb (ld u) x*Zb g x+Zb u x*Zb (ld g) x)-k*Zb (ld u) x*Zb g x):=O4;rw [this,i,h4];grind
 have y:=Ygu G D Y;refine ed_cop (s:=(Qc (Oo s ((ld u).map λc=>(-k)*c)) [m])) hk t2 (w:=tzl w) (Qa w) t3 (λd I i r=>?_) (λx=>?_)
 .have H:Ed d w:=r.congr λx=>Nh w x;have N:Ed (Qc d h) h:=P _ Xy (by
   obtain⟨W,Z,j,o⟩:=i;exact⟨W,Z,j,λx=>by rw [hG x,Zq,Yp];have:=o x;grind⟩) (by
   obtain⟨W,Z,j,o⟩:=H;exact⟨W*m,Z,bC j hm,λx=>by rw [Mz,Yp];have:=o x;have:=v x;push_cast;grind⟩)
  have d0:=(i.len I t2 t3).1;have hl:=On I G d0 D;have:=(N.len Xy G D).2;have l2:=aG.2 D;omega
 .rw [Nh,Yp,Qs];have:=y x;rw [Yp,Yp]at this;rw [this];grind
theorem Zxa(r:Tr u)(v:u≠[])(f:Tr t)(t0:t≠[])(n:Xa t=t)(h:Ed t u):pdv u t/\u=Qc (Kh u t) t/\Tr (Kh u t)/\Kh u t≠[]:=by
 have l:Xb t=1:=by have:=Zbz f t0;rwa [n]at this
 obtain⟨k,s,m,h⟩:=h.dv;obtain⟨q,o⟩:=gauss l _ k s rfl m h;have c:u=Qc (tzl q) t:=r.ext Xy λi=>by rw [Ki,o,Yat]
 obtain⟨g,j⟩:=Zud (Qa q) f t0;rw [<-c]at g j;rw [j];exact⟨g,c,Qa q,λe=>v (by rw [c,e,Fa])⟩
theorem Zmx{F:Nat}(f:Tr p)(k:p≠[])(c:Bu F p)(m:2<=p.length):(Ng F p).length<p.length:=by obtain⟨i,l,-⟩:=Ps f k c;have g:Tr (Xa p):=Ok (Yy f);have j:Ed (Ng F p) (Ys (Xa p)):=(Zby g (Ov g) c).2.ed;have h:=Of (Xa p);have n:=Qy f;have:=(j.len i (Ov g) (λe=>by rw [e]at h;simp at h;omega)).2;omega
theorem nrm1(l:Tr p)(n:Xa p=p)(f:p.length=1):p=[1]:=by
 have g:p≠[]:=λe=>by rw [e]at f;simp at f
 have j:=Zbz l g;have k:0<cf (Xa p) ((Xa p).length-1):=Dt (Yy l) (λe=>g (aE (by rw [<-Zw,e];rfl)));rw [n]at j k
 match p,f with
 | [c],_=>
  have m:0<c:=k;have h:c∣Xb [c]:=Fb λi=>by
   match i with
   | 0=>exact Int.dvd_refl c
   | i+1=>rw [Yl O7];exact jC c
  rw [j]at h;have:=nF O3 h;rw [show c=1 by omega]
def Dp(p q:List Int):Prop:=Tr q/\q≠[]/\Xa q=q/\∃a,Tr a/\Xa p=Qc a q
theorem Dp.start(c:Tr p)(f:p≠[]):Dp p (Xa p):=
 ⟨Ok (Yy c),Zij c f,Zr6 (Ok (Yy c)) (Zbz c f) (Dt (Yy c) (λe=>f (aE (by rw [<-Zw,e];rfl)))),[1],.inr (show cf [1] 0≠0 by decide),by refine(Ok (Yy c)).ext Xy λi=>?_;rw [Ki,Zpg];rfl⟩
theorem Dp.sz{n:Nat}(i:Tr p)(o:p≠[])(hs:Sz n p)(x:p.length<=13)(h:Dp p q):Sz (n+15) q/\q.length<=p.length:=by obtain⟨k,r,w,a,l,e⟩:=h;have s:fcs 0 13<=2^15*2^15:=O6;have f:=Qy i;have c:=Zij i o;have v:Tr (Xa p):=Ok (Yy i);have j:a≠[]:=λm=>c (by rw [e,m,Fa]);refine⟨Aw 13 24 k l (Zrl hs) c v O O3 s (by rw [Bp];exact e),?_⟩;have g:=On l k j r;rw [<-e,f]at g;have:=aG.2 j;omega
theorem Dp.ok{n F:Nat}(e:Tr p)(c:p≠[])(hs:Sz n p)(j:n<=220)(i:p.length<=11)(g:p.length<=F+1)(h:Dp p q):Ce F q/\Bu F q:=by obtain⟨f,k⟩:=h.sz e c hs O;have:=(chG F h.1 h.2.1 f O O O).1;exact⟨this,this.1.2.2.1⟩
theorem Dp.next{F:Nat}(h:Dp p q)(c:Bu F q):Dp p (Ng F q):=by obtain⟨l,m,n,a,r,e⟩:=h;obtain⟨g,j,k,f,o⟩:=Ps l m c;refine⟨g,j,k,Qc a (sqf F q),Xy,?_⟩;rw [n]at f;refine e.trans ((aL (Qc a) f).trans ?_);refine(Xy).ext Xy λi=>Ox (λx=>?_) i;rw [Yp,Yp,Yp,Yp];grind
def Zc1(F:Nat):Nat->List Int->List Int
 | 0,p=>sqf F p
 | f+1,p=>if(sqf F p).length=1 then sqf F p else Qc (Kh (sqf F p) (sqf F (Ng F p))) (Zc1 F f (Ng F (Ng F p)))
def Zpj(F:Nat):Nat->List Int->List Int->List Int
 | 0,c,_=>c
 | f+1,c,q=>if(sqf F q).length=1 then c else if(sqf F (Ng F q)).length=1 then Qc c (Kh (sqf F q) (sqf F (Ng F q)))else Zpj F f (Qc c (Kh (sqf F q) (sqf F (Ng F q)))) (Ng F (Ng F q))
theorem Zgw{F:Nat}(f:Tr q)(e:q≠[])(c:Bu F q)(h:(sqf F q).length=1):sqf F q=[1]/\q.length=1/\(Ng F q).length=1:=by
 obtain⟨f1,f2,f3,f4,f5,f6⟩:=Pu F f e c;obtain⟨j,k,l,m,n⟩:=Ps f e c;have o:=aG.2 e;have i:q.length=1:=by
  rcases bE q.length 2 with g|g
  .omega
  .have:=Zmx f e c g;omega
 exact⟨nrm1 f2 f6 h,i,O⟩
theorem Zme(c:Tr p):Qc p [1]=p:=by refine(Xy).ext c λi=>Ox (λx=>?_) i;rw [Yp,Qs];push_cast;grind
theorem Yay{F:Nat}(g:Tr q)(e:q≠[])(c:Bu F q)(h:q.length=1):∀f,Zc1 F f q=[1]:=λf=>by
 obtain⟨f1,f2,f3,f4,f5,f6⟩:=Pu F g e c;obtain⟨j,i,k,l,m⟩:=Ps g e c;have n:=aG.2 f3;have o:=aG.2 i;have hs:(sqf F q).length=1:=O;have:=(Zgw g e c hs).1;cases f with
 | zero=>exact this
 | succ f=>unfold Zc1;rw [aF hs];exact this
theorem Zt7 (p:List Int){F:Nat}{f:Nat}(g:Tr q)(e:q≠[])(c:Bu F q):Tr (Zc1 F f q):=by
 obtain⟨f1,f2,f3,f4,f5,f6⟩:=Pu F g e c;cases f with
 | zero=>exact f2
 | succ f=>unfold Zc1;split;exact f2;exact Xy
theorem Yg7{F n:Nat}(D:Tr p)(r:p≠[])(hs:Sz n p)(y:n<=220)(v:p.length<=11)(s:p.length<=F+1):∀(f:Nat) (h q:List Int),Tr h->Dp p q->q.length<=f->Zpj F f h q=Qc h (Zc1 F f q):=by
 intro f
 induction f with
 | zero=>intro h q _ e w;have:=aG.2 e.2.1;omega
 | succ f M=>
  intro h q I e w;have g:=(e.ok D r hs y v s).2;have k:=e.next g;have c:=(k.ok D r hs y v s).2;have j:=k.next c;have m:=(j.ok D r hs y v s).2;unfold Zpj Zc1;by_cases l:(sqf F q).length=1
  .rw [aF l,aF l,(Zgw e.1 e.2.1 g l).1,Zme I]
  .rw [aD l,aD l];have N:2<=q.length:=by obtain⟨f1,f2,f3,f4,f5,f6⟩:=Pu F e.1 e.2.1 g;obtain⟨S,G,V,W,Y⟩:=Ps e.1 e.2.1 g;have l1:=aG.2 f3;have l2:=aG.2 G;omega
   have P:=Zmx e.1 e.2.1 g N;obtain⟨-,-,-,-,b5⟩:=Ps k.1 k.2.1 c;obtain⟨-,Z,H,-,-,-⟩:=Pu F k.1 k.2.1 c;have lb:=aG.2 H;by_cases o:(sqf F (Ng F q)).length=1
   .obtain⟨s1,s2,R⟩:=Zgw k.1 k.2.1 c o;rw [aF o,Yay j.1 j.2.1 m R];refine(Xy).ext Xy λi=>Ox (λx=>?_) i;rw [Yp,Yp,Yp,Qs];push_cast;grind
   .rw [aD o,M _ _ Xy j O];refine(Xy).ext Xy λi=>Ox (λx=>?_) i;rw [Yp,Yp,Yp,Yp];grind
def Yak(F:Nat)(p:List Int):List Int:=Kh (Yf (Yi p) 1) (sqf F p)
def rrest(F:Nat)(p:List Int):List Int:=Kh (Yi (Yak F p)) (sqf F (Yak F p))
def rodd(F:Nat):Nat->List Int->List Int
 | 0,p=>sqf F p
 | f+1,p=>if(sqf F p).length=1 then sqf F p else Qc (Kh (sqf F p) (sqf F (Yak F p))) (rodd F f (rrest F p))
theorem Zlx{F:Nat}(h:Xa p=Xa q):sqf F p=sqf F q:=by unfold sqf;rw [h]
def Bo(F:Nat)(q:List Int):List Int:=Kh (sqf F q) (sqf F (Ng F q))
theorem Zay{F:Nat}(f:Tr q)(g:q≠[])(e:Bu F q)(c:Bu F (Ng F q)):pdv (sqf F q) (sqf F (Ng F q))/\sqf F q=Qc (Bo F q) (sqf F (Ng F q))/\Tr (Bo F q)/\Bo F q≠[]:=by obtain⟨f1,f2,f3,f4,f5,f6⟩:=Pu F f g e;obtain⟨h,i,j,k,l⟩:=Ps f g e;obtain⟨-,t2,t3,-,-,t6⟩:=Pu F h i c;exact Zxa f2 f3 t2 t3 t6 (Zuh f g e c)
theorem Zsi{n:Nat}(i:Tr p)(o:p≠[])(hs:Sz n p)(v:p.length<=13)(l:Tr a)(m:Tr b)(e:Xa p=Qc a b):Sz (n+15) b/\b.length<=p.length/\b≠[]:=by have r:fcs 0 13<=2^15*2^15:=O6;have g:=Qy i;have c:=Zij i o;have s:Tr (Xa p):=Ok (Yy i);have j:a≠[]:=λf=>c (by rw [e,f,Fa]);have k:b≠[]:=λf=>c (by rw [e,f,Zc3]);refine⟨Aw 13 24 m l (Zrl hs) c s O O3 r (by rw [Bp];exact e),?_,k⟩;have h:=On l m j k;rw [<-e,g]at h;have:=aG.2 j;omega
def Op(p c q:List Int):Prop:=∃a,Tr a/\Xa p=Qc a (Qc c q)
theorem Op.start(c:Tr p):Op p [1] (Xa p):=⟨[1],.inr (show cf [1] 0≠0 by decide),by refine(Ok (Yy c)).ext Xy λi=>Ox (λx=>?_) i;rw [Yp,Yp,Qs];push_cast;show Zb (Xa p) x=_;grind⟩
theorem Op.next{g:List Int}{F:Nat}(l:Tr q)(m:q≠[])(y:Xa q=q)(f:Bu F q)(c:Bu F (Ng F q))(h:Op p g q):Op p (Qc g (Bo F q)) (Ng F (Ng F q)):=by
 obtain⟨a,H,e⟩:=h;obtain⟨-,D,I,M⟩:=Zay l m f c;obtain⟨n,o,r,j,G⟩:=Ps l m f;obtain⟨-,-,-,k,-⟩:=Ps n o c;rw [y]at j;rw [r]at k;refine⟨Qc a (Qc (sqf F (Ng F q)) (sqf F (Ng F q))),Xy,e.trans ?_⟩;refine(Xy).ext Xy λi=>Ox (λx=>?_) i;have s:Zb q x=Zb (sqf F q) x*Zb (Ng F q) x:=by rw [<-Yp,<-j]
 have v:Zb (sqf F q) x=Zb (Bo F q) x*Zb (sqf F (Ng F q)) x:=by rw [<-Yp,<-D]
 have w:Zb (Ng F q) x=Zb (sqf F (Ng F q)) x*Zb (Ng F (Ng F q)) x:=by rw [<-Yp,<-k]
 simp only [Yp];rw [s,v];rw [w];generalize Zb (sqf F (Ng F q)) x=A;generalize Zb (Ng F (Ng F q)) x=B;grind
theorem Op.sz{c:List Int}{n:Nat}(k:Tr p)(f:p≠[])(hs:Sz n p)(g:p.length<=13)(j:Tr c)(m:Tr q)(h:Op p c q):Sz (n+15) c/\c.length<=p.length/\c≠[]:=by obtain⟨a,l,e⟩:=h;exact Zsi k f hs g (Xy (p:=a) (q:=q)) j (e.trans ((Xy).ext Xy λi=>Ox (λx=>by rw [Yp,Yp,Yp,Yp];grind) i))
theorem Yg0(c:Tr p):Qc [1] p=p:=by rw [Bp];exact Zme c
def Zhm{F:Nat}(g:Tr xs)(e:xs≠[])(f:Ce F xs){s t:Rat}(c:s<=t):Be F xs t<=Be F xs s:=Zjj g e f c
def Sqn.imp{P c:R2->R2->Prop}{hi:Rat}(e:∀x y,P x y->c x y):∀{lo:Rat} {l:List (R2×R2)},Sqn P hi lo l->Sqn c hi lo l
 | _,[],h=>h
 | _,_::_,h=>⟨h.1,h.2.1,e _ _ h.2.2.1,Sqn.imp e h.2.2.2⟩
def oe(f:Nat->Int):Nat->Int
 | 0=>0
 | k+1=>err (oe f k) (f k)
def mon(d n:Nat):List Int:=mono d ((2:Int)^n)
variable {P:Program} {N:Nat} {sc:Nat->Prop} {env:Xz} {H:Hp}
end Go.Sky
namespace Go.Sky
variable{f:Rat->Rat}{xs p o:List Int}{x a b:Rat}
def HD(xs ys:List Int):Prop:=Vp ys/\ys≠[]/\Bi ys/\Ce 13 ys/\chn 13 ys=chn 13 xs
def PH(xs:List Int)(x y:R2):Prop:=(0<x.2/\bl x.1.natAbs<=506/\bl x.2.natAbs<=506)/\(0<y.2/\bl y.1.natAbs<=506/\bl y.2.natAbs<=506)/\cvc 13 xs x-cvc 13 xs y=1
def DR:R2×R2:=((0,0),(0,0))
theorem Ze4(d:Rat){h:Rat}(c:0<h):∃n:Nat,d<=(n:Rat)*h:=by
 have i:0<h⁻¹:=fX.2 c;refine⟨(d*h⁻¹).ceil.toNat,?_⟩;have e:=@oD (d*h⁻¹);have g:(((d*h⁻¹).ceil:Int):Rat)<=(((d*h⁻¹).ceil.toNat:Nat):Rat):=by have:(d*h⁻¹).ceil<=(((d*h⁻¹).ceil.toNat:Nat):Int):=lP _;exact_mod_cast this
 have j:=dH (nW e g) (show 0<=h by grind);have k:d*h⁻¹*h=d:=O4;grind
theorem Znh{u v:Rat}(h:crs f u v<=0)(d:f u≠0):0<f u*f v:=by
 unfold crs at h;by_cases c:f u≠0/\f u*f v<=0
 .rw [aF c]at h;exact absurd h O3
 .have:¬f u*f v<=0:=λe=>c ⟨d,e⟩;grind
theorem Zb6{F:Nat}(l:Tr xs)(i:xs≠[])(j:Ce F xs){s t:Rat}(G:s<=t)(D:Be F xs s<=Be F xs t)(hs:Zb (sqf F xs) s≠0):∀y,s<=y->y<=t->0<Zb (sqf F xs) s*Zb (sqf F xs) y:=by
 obtain⟨h,z,B⟩:=Zji l i j s t;have g:∀u v,s<=u->u<=v->v<=t->v-u<=h->crs (Zb (sqf F xs)) u v<=0:=λu v a b c d=>by have e:=B u v a b c d;have R:vat ((chn F xs).map Zb) u<=vat ((chn F xs).map Zb) s:=Zjj l i j a;have S:vat ((chn F xs).map Zb) t<=vat ((chn F xs).map Zb) v:=Zjj l i j c;have V:vat ((chn F xs).map Zb) s<=vat ((chn F xs).map Zb) t:=D;omega
 generalize Zb (sqf F xs)=f at *;have m:∀n:Nat,∀y,s<=y->y<=t->y-s<=(n:Rat)*h->0<f s*f y:=λn=>by
  induction n with
  | zero=>
   intro y a b c;have:y=s:=by push_cast at c;grind
   subst this;exact Znh (g _ _ a O4 b O4) hs
  | succ n P=>
   intro y a b c;push_cast at c;by_cases H:y-s<=h
   .exact Znh (g s y O4 a b H) hs
   .have r:=P (y-h) O4 O4 O4;have I:f (y-h)≠0:=λe=>by rw [e]at r;grind
    have M:=Znh (g (y-h) y O4 O4 b O4) I;have N:=aY r M;have w:f s*f (y-h)*(f (y-h)*f y)=(f (y-h)*f (y-h))*(f s*f y):=O4;rw [w]at N;have Q:0<f (y-h)*f (y-h):=by
     rcases(show 0<f (y-h)\/f (y-h)<0 by grind)with q|q
     .exact aY q q
     .have:=aY (a:=-f (y-h)) (b:=-f (y-h)) O4 O4;grind
    rcases(show 0<f s*f y\/f s*f y<=0 by grind)with q|q
    .exact q
    .have:=aI (a:=f (y-h)*f (y-h)) (b:=-(f s*f y)) O4 O4;grind
 intro y a b;obtain⟨n,k⟩:∃n:Nat,y-s<=(n:Rat)*h:=by obtain⟨n,k⟩:=Ze4 (y-s) z;exact⟨n,k⟩
 exact m n y a b k
theorem Zeh (p:List Int)(s:Rat)(t:Rat)(B:s<=t)(v:∀u,s<=u->u<=t->0<=Zb (ld p) u):Zb p s<=Zb p t:=by
 rcases(show Zb p s<=Zb p t\/Zb p t<Zb p s by grind)with h|h
 .exact h
 .exfalso;obtain⟨M,V,H⟩:=Zg1 s t p;have y:s<t:=by
   rcases(show s<t\/s=t by grind)with d|d
   .exact d
   .rw [d]at h;grind
  obtain⟨n,z⟩:=Ze4 (M*(t-s)*(t-s)+1) (show 0<Zb p s-Zb p t by grind);have g:(0:Rat)<(n:Rat):=by
   rcases aZ n with d|d
   .subst d;have:=aI (a:=M*(t-s)) (b:=t-s) (aI O4 O4) O4;push_cast at z;grind
   .exact_mod_cast d
  have m:(n:Rat)≠0:=λe=>by rw [e]at g;exact absurd g O3
  have c:(n:Rat)*((t-s)/n)=t-s:=by rw [iY,<-kH,jY (n:Rat),kH,lG _ m,Rat.mul_one]
  have q:∀k:Nat,(k:Rat)<=(n:Rat)->-(M*((t-s)/n)*((t-s)/n))*k<=Zb p (s+k*((t-s)/n))-Zb p s:=λk=>by
   induction k with
   | zero=>intro _;push_cast;rw [show s+0*((t-s)/n)=s by grind];grind
   | succ k D=>
    intro w;push_cast at w ⊢;have Q:=D O4;have l:0<=(t-s)/n:=by rw [iY];exact aI O4 (dA (fX.2 g))
    have i:=c;generalize (t-s)/(n:Rat)=h at *;have F:(0:Rat)<=(k:Rat):=by exact_mod_cast bB k
    have I:=aI (a:=(k:Rat)) (b:=h) F l;have N:=aI (a:=(n:Rat)-(k+1)) (b:=h) O4 l;have j:=(H (s+k*h) (s+(k+1)*h) O4 O4 O4).1;have e:=v (s+k*h) O4 O4;have P:=aI l e;rw [show s+(k+1)*h-(s+k*h)=h by grind]at j;grind
  have r:=q n O4;have i:=c;rw [i,show s+(t-s)=t by grind]at r;have G:-(M*((t-s)/n)*((t-s)/n))*n=-(M*((t-s)/n)*(t-s)):=O4;rw [G]at r;have R:M*((t-s)/n)*(t-s)*n=M*(t-s)*(t-s):=O4;have S:=aI (a:=Zb p t-Zb p s+M*((t-s)/n)*(t-s)) (b:=(n:Rat)) O4 O4;grind
theorem Zd1(p:List Int)(x:Rat):Zb (p.map λa=>-1*a) x=-Zb p x:=by rw [Zg];push_cast;grind
theorem Zlj (p:List Int){s t:Rat}(k:s<t)(e:∀u,s<u->u<=t->0<Zb (ld p) u)(g:0<=Zb (ld p) s):Zb p s<Zb p t:=by
 have i:s<(s+t)/2/\(s+t)/2<t:=by constructor<;>grind
 generalize (s+t)/2=m at *;have r:=Zeh p s m O4 (λu a b=>by
  rcases(show s<u\/u=s by grind)with h|h
  .exact dA (e u h O4)
  .rw [h];exact g)
 obtain⟨M,l,n⟩:=Zg1 m t p;have j:=e m i.1 O4;obtain⟨η,q,w,y⟩:=Kw (show 0<t-m by grind) l (show 0<Zb (ld p) m/2 by grind);have b:=(n m (m+η) O4 O4 O4).1;rw [show m+η-m=η by grind]at b;have v:=Zeh p (m+η) t O4 (λu a b=>dA (e u O4 b));have c:=aI (a:=η) (b:=Zb (ld p) m/2-η*M) O4 O4;have d:=aY q j;grind
def Gm:Nat->List Int->Rat->Int
 | 0,_,_=>0
 | n+1,p,x=>if Zb p x≠0 then Gn (Zb p x)else Gm n (Ys p) x
def Zt3(h:0<x):Gn x=1:=Cg h
def Zko(h:x<0):Gn x=-1:=Ch h
theorem Zov(h:x=0):Gn x=0:=by subst h;rfl
theorem Qq(x:Rat):(0<x/\Gn x=1)\/(x<0/\Gn x=-1)\/(x=0/\Gn x=0):=by
 rcases(show 0<x\/x<0\/x=0 by grind)with h|h|h
 .exact .inl ⟨h,Zt3 h⟩
 .exact .inr (.inl ⟨h,Zko h⟩)
 .exact .inr (.inr ⟨h,Zov h⟩)
theorem Ztd(n:Nat)(p:List Int)(x:Rat)(h:Zb p x≠0)(c:p.length<=n):Gm n p x=Gn (Zb p x):=by
 cases n with
 | zero=>have:p=[]:=aE O;subst this;exact absurd rfl h
 | succ n=>unfold Gm;rw [aF h]
theorem Zk2(p:List Int)(x:Rat)(h:Zb p x≠0):∃δ:Rat,0<δ/\∀y,x<y->y<=x+δ->Gn (Zb p y)=Gn (Zb p x):=by
 obtain⟨L,r,k⟩:=Ep x (x+1) p;have i:0<(if 0<Zb p x then Zb p x else -Zb p x):=by split<;>grind
 obtain⟨δ,j,m,g⟩:=Kw (show(0:Rat)<1 by decide) (show 0<L+1 by grind) (show 0<(if 0<Zb p x then Zb p x else -Zb p x)/2 by grind);refine⟨δ,j,λy n q=>?_⟩;have l:=k x y O4 O4 O4;have b:=aI (a:=L) (b:=δ-(y-x)) O4 O4;have c:L*(y-x)<=δ*(L+1):=O4;rcases Qq (Zb p x)with⟨d,e⟩|⟨d,e⟩|⟨d,e⟩
 .rw [aF d]at g i;rw [e];exact Zt3 O4
 .rw [aD O4]at g i;rw [e];exact Zko O4
 .exact absurd d h
theorem Dy:∀(n:Nat) (p:List Int) (x:Rat),p.length<=n->∃δ:Rat,0<δ/\∀y,x<y->y<=x+δ->Gn (Zb p y)=Gm n p x
 | 0,p,x,q=>⟨1,O3,λy _ _=>by have:p=[]:=aE O;subst this;exact Zov rfl⟩
 | n+1,p,x,q=>by
  by_cases h:Zb p x≠0
  .rw [Ztd (n+1) p x h q];exact Zk2 p x h
  .have F:Zb p x=0:=fO.1 h;have B:=Of p;obtain⟨δ,v,w⟩:=Dy n (Ys p) x O;have z:Gm (n+1) p x=Gm n (Ys p) x:=by unfold Gm;rw [aD h];cases n<;>rfl
   have k:Zb (ld p) x≠0->Gn (Zb (ld p) x)=Gm n (Ys p) x:=λg=>by rw [<-Mz]at g ⊢;exact(Ztd n (Ys p) x g O).symm
   refine⟨δ,v,λy l G=>?_⟩;rw [z];have i:∀u,x<u->u<=y->Gn (Zb (ld p) u)=Gm n (Ys p) x:=λu a b=>by rw [<-Mz];exact w u a O4
   have e:=i y l O4;generalize Gm n (Ys p) x=σ at *;rcases Qq (Zb (ld p) y)with⟨m,j⟩|⟨m,j⟩|⟨m,j⟩
   .rw [j]at e;subst e;refine Zt3 ?_;have:=Zlj p l (λu a b=>by
     rcases Qq (Zb (ld p) u)with⟨d,c⟩|⟨d,c⟩|⟨d,c⟩
     .exact d
     .have:=i u a b;rw [c]at this;exact absurd this O3
     .have:=i u a b;rw [c]at this;exact absurd this O3) (by
     rcases Qq (Zb (ld p) x)with⟨d,c⟩|⟨d,c⟩|⟨d,c⟩
     .exact dA d
     .have:=k O4;rw [c]at this;exact absurd this O3
     .grind)
    grind
   .rw [j]at e;subst e;refine Zko ?_;have r:∀u,Zb (ld (p.map λa=>-1*a)) u=-Zb (ld p) u:=λu=>by rw [Cj];push_cast;grind
    have:=Zlj (p.map λa=>-1*a) l (λu a b=>by
     rw [r];rcases Qq (Zb (ld p) u)with⟨d,c⟩|⟨d,c⟩|⟨d,c⟩
     .have:=i u a b;rw [c]at this;exact absurd this O3
     .grind
     .have:=i u a b;rw [c]at this;exact absurd this O3) (by
     rw [r];rcases Qq (Zb (ld p) x)with⟨d,c⟩|⟨d,c⟩|⟨d,c⟩
     .have:=k O4;rw [c]at this;exact absurd this O3
     .grind
     .grind)
    rw [Zd1,Zd1]at this;grind
   .rw [j]at e;subst e;refine Zov ?_;have s:∀u,x<=u->u<=y->Zb (ld p) u=0:=λu a b=>by
     rcases(show x<u\/u=x by grind)with g|g
     .rcases Qq (Zb (ld p) u)with⟨d,c⟩|⟨d,c⟩|⟨d,c⟩
      .have:=i u g b;rw [c]at this;exact absurd this O3
      .have:=i u g b;rw [c]at this;exact absurd this O3
      .exact d
     .subst g;rcases Qq (Zb (ld p) u)with⟨d,c⟩|⟨d,c⟩|⟨d,c⟩
      .have:=k O4;rw [c]at this;exact absurd this O3
      .have:=k O4;rw [c]at this;exact absurd this O3
      .exact d
    have D:=Zeh p x y O4 (λu a b=>by rw [s u a b];grind);have t:=Zeh (p.map λa=>-1*a) x y O4 (λu a b=>by rw [Cj,s u a b];push_cast;grind);rw [Zd1,Zd1]at t;grind
theorem Ed.mul_l{a b c:List Int}(h:Ed a b):Ed (Qc c a) (Qc c b):=by obtain⟨k,s,d,e⟩:=h;exact⟨k,s,d,λx=>by rw [Yp,Yp];have:=e x;grind⟩
theorem Hg{F n:Nat}(v:Tr p)(m:p≠[])(hs:Sz n p)(u:n<=220)(s:p.length<=11)(r:p.length<=F+1):∀(f:Nat) (q:List Int),Dp p q->q.length<=f->
  (∃B:List Int,∀x:Rat,Zb q x=Zb (Zc1 F f q) x*(Zb B x*Zb B x))/\Ed (Zc1 F f q) (sqf F q):=by
 intro f
 induction f with
 | zero=>intro q d t;have:=aG.2 d.2.1;omega
 | succ f W=>
  intro q d t;have g:=(d.ok v m hs u s r).2;have h:=d.next g;have e:=(h.ok v m hs u s r).2;have i:=h.next e;unfold Zc1;by_cases l:(sqf F q).length=1
  .rw [aF l];obtain⟨s1,s2,s3⟩:=Zgw d.1 d.2.1 g l;refine⟨⟨[1],λx=>?_⟩,Ed.refl _⟩;rw [s1,nrm1 d.1 d.2.2.1 s2,Qs];push_cast;grind
  .rw [aD l];have Y:2<=q.length:=by obtain⟨f1,f2,f3,f4,f5,f6⟩:=Pu F d.1 d.2.1 g;obtain⟨H,w,y,k,I⟩:=Ps d.1 d.2.1 g;have l1:=aG.2 f3;have l2:=aG.2 w;omega
   have Z:=Zmx d.1 d.2.1 g Y;obtain⟨H,w,y,k,I⟩:=Ps d.1 d.2.1 g;obtain⟨b1,b2,b3,z,b5⟩:=Ps h.1 h.2.1 e;obtain⟨-,t2,t3,-,-,-⟩:=Pu F h.1 h.2.1 e;have lb:=aG.2 t3;obtain⟨⟨B,R⟩,V⟩:=W _ i O;obtain⟨-,G,o3,o4⟩:=Zay d.1 d.2.1 g e;have j:=(i.ok v m hs u s r).2;rw [d.2.2.1]at k;rw [y]at z;have M:∀x,Zb q x=Zb (sqf F q) x*Zb (Ng F q) x:=λx=>by rw [<-Yp,<-k]
   have N:∀x,Zb (sqf F q) x=Zb (Bo F q) x*Zb (sqf F (Ng F q)) x:=λx=>by rw [<-Yp,<-G]
   have P:∀x,Zb (Ng F q) x=Zb (sqf F (Ng F q)) x*Zb (Ng F (Ng F q)) x:=λx=>by rw [<-Yp,<-z]
   refine⟨⟨Qc (sqf F (Ng F q)) B,λx=>?_⟩,?_⟩
   .rw [Yp,Yp,M x,N x,P x,R x];show _=Zb (Bo F q) x*_*_;generalize Zb (sqf F (Ng F q)) x=S;generalize Zb B x=C;grind
   .have Q:Ed (Zc1 F f (Ng F (Ng F q))) (sqf F (Ng F q)):=V.trans (Zuh h.1 h.2.1 e j);have D:=Q.mul_l (c:=Bo F q);rw [<-G]at D;exact D
theorem Zpd{F n:Nat}(P:Tr p)(I:p≠[])(hs:Sz n p)(hn:n<=220)(hl:p.length<=11)(hF:p.length<=F+1)(u:Tr o)(R:o≠[])(g:Bu F o)(r:Bu F p)(h:Ed o (sqf F p)):(Ng F o).length=1/\sqf F o=Xa o:=by
 obtain⟨D,S,V,G,a5⟩:=Ps u R g;obtain⟨f1,f2,f3,f4,f5,f6⟩:=Pu F P I r;obtain⟨-,s2,s3,s4,s5,s6⟩:=Pu F u R g;have Q:Tr (Xa o):=Ok (Yy u);have M:=Zby Q (Ov Q) g;have H:Ed (Ng F o) (Xa o):=M.1.ed;have W:Ed (Ng F o) (ld (Xa o)):=(M.2.ed:Ed (Ng F o) (Ys (Xa o))).congr λx=>Mz _ x;have s:Sim (Xa o) o:=(Kc (Yi o)).trans (Qe u);obtain⟨k,w,t,l⟩:Ed (Xa o) (sqf F p):=by
  obtain⟨k,w,t,e⟩:=h;obtain⟨c,d,hc,B,v⟩:=s;have j:∀x:Rat,(c:Rat)*Zb (Xa o) x=(d:Rat)*Zb o x:=λx=>by rw [<-Zg,<-Zg];exact Pv x _ _ λi=>by rw [Xo,Xo];exact v i
  exact⟨d*k,w.map λa=>c*a,bC B t,λx=>by rw [Zg];have a:=e x;have b:=j x;push_cast;grind⟩
 have N:(Ng F o).length<=1:=by
  refine Zdw P I r D (H.trans ⟨k,w,t,l⟩) ?_;have Y:Ed (Ng F o) (lmul w (ld (Xa o))):=by obtain⟨m,z,hm,e⟩:=W;exact⟨m,lmul w z,hm,λx=>by rw [Zq,Zq];have:=e x;grind⟩
  have Z:Ed (Ng F o) (ld (sqf F p)):=Ed.lin H Y (ld w) k t λx=>by have:=Fu ((sqf F p).map λa=>k*a) (lmul w (Xa o)) (λy=>by rw [Zg,Zq];exact l y) x;rw [Cj,Er]at this;rw [Zq,this]
  exact Z.congr λx=>(Mz _ x).symm
 have q:(Ng F o).length=1:=by have:=aG.2 S;omega
 refine⟨q,?_⟩;rw [nrm1 D V q,Zme s2]at G;exact G.symm
theorem Zdx{a b:List Int}(h:Sim a b):∃c d:Int,c≠0/\d≠0/\∀x:Rat,(c:Rat)*Zb a x=(d:Rat)*Zb b x:=by obtain⟨c,d,g,j,e⟩:=h;exact⟨c,d,g,j,λx=>by rw [<-Zg,<-Zg];exact Pv x _ _ λi=>by rw [Xo,Xo];exact e i⟩
theorem Iu(h:x≠0):0<x*x:=by
 rcases(show 0<x\/x<0 by grind)with q|q
 .exact aY q q
 .have:=aY (a:=-x) (b:=-x) O4 O4;grind
theorem Qr{c:Int}(h:c≠0):(c:Rat)≠0:=λe=>h (by exact_mod_cast e)
theorem Zec{e g c d:Rat}(j:c≠0)(k:d≠0)(l:c*e=d*a)(m:c*g=d*b)(h:a*b<0):e*g<0:=by
 have n:(c*c)*(e*g)=(d*d)*(a*b):=O4;have r:=Iu j;have i:=Iu k;rcases(show e*g<0\/0<=e*g by grind)with q|q
 .exact q
 .have s:=aI (a:=c*c) (b:=e*g) O4 q;have t:=aY (a:=d*d) (b:=-(a*b)) i O4;grind
theorem Ya8{e g c d:Rat}(h:e*(c*c)*(g*(d*d))<0):e*g<0:=by
 rcases(show e*g<0\/0<=e*g by grind)with q|q
 .exact q
 .have j:0<=c*d*(c*d):=by
   by_cases i:c*d=0
   .rw [i];grind
   .exact dA (Iu i)
  have k:=aI q j;grind
theorem Zk1{F n:Nat}(i:Tr p)(k:p≠[])(hs:Sz n p)(G:n<=220)(D:p.length<=11)(w:p.length<=F+1)(ho:o=Zc1 F p.length (Xa p))(g:Tr o)(M:o≠[])(u:Ce F o)(Z:a<b)(Y:Gm p.length p a=1)(h2:Zb p b<0):Be F o b<Be F o a:=by
 have m:=Dp.start i k;have h:=(m.ok i k hs G D w).2;have j:Bu F p:=by unfold Bu at h ⊢;rwa [m.2.2.1]at h
 obtain⟨⟨B,t⟩,v⟩:=Hg i k hs G D w p.length (Xa p) m (by rw [Qy i];exact aK _);rw [<-ho]at t v;rw [Zlx m.2.2.1]at v;obtain⟨-,I⟩:=Zpd i k hs G D w g M u.1.2.2.1 j v;obtain⟨δ,d1,V⟩:=Dy p.length p a (aK _);obtain⟨s,R,s2,S⟩:∃s,a<s/\s<=a+δ/\s<b:=by
  rcases(show a+δ<b\/b<=a+δ by grind)with q|q
  .exact⟨a+δ,O4,O4,q⟩
  .exact⟨(a+b)/2,O4,O4,O4⟩
 have H:0<Zb p s:=by
  have:=V s R s2;rw [Y]at this;rcases Qq (Zb p s)with⟨r,l⟩|⟨r,l⟩|⟨r,l⟩
  .exact r
  .rw [l]at this;exact absurd this O3
  .rw [l]at this;exact absurd this O3
 have k1:Zb p s*Zb p b<0:=by have:=aY (a:=Zb p s) (b:=-Zb p b) H O4;grind
 obtain⟨c,d,hc,hd,e⟩:=Zdx ((Kc (Yi p)).trans (Qe i):Sim (Xa p) p);have P:Zb (Xa p) s*Zb (Xa p) b<0:=Zec (Qr hc) (Qr hd) (e s) (e b) k1;rw [t s,t b]at P;have k3:=Ya8 P;obtain⟨c',d',y,z,N⟩:=Zdx ((Kc (Yi o)).trans (Qe g):Sim (Xa o) o);have Q:Zb (Xa o) s*Zb (Xa o) b<0:=Zec (Qr y) (Qr z) (N s) (N b) k3;rw [<-I]at Q;have m1:=Zhm g M u (dA R);rcases jE (Be F o b) (Be F o s)with q|q
 .exact Int.lt_of_lt_of_le q m1
 .exfalso;have hz:Zb (sqf F o) s≠0:=λW=>by rw [W]at Q;grind
  have:=Zb6 g M u (dA S) q hz b (dA S) O4;grind
theorem Ze5:∀(n:Nat) (p:List Int) (x:Rat),Tr p->p≠[]->p.length<=n->Gm n p x≠0
 | 0,p,x,_,i,r=>absurd (aE O) i
 | n+1,p,x,l,i,r=>by
  unfold Gm;by_cases h:Zb p x≠0
  .rw [aF h];rcases Qq (Zb p x)with⟨j,g⟩|⟨j,g⟩|⟨j,g⟩
   .rw [g];decide
   .rw [g];decide
   .exact absurd j h
  .rw [aD h];have m:Zb p x=0:=fO.1 h;have d:=Of p;refine Ze5 n (Ys p) x (Ov l) (λe=>?_) O;rw [e]at d;have s:=aG.2 i;have k:p.length=1:=by simp at d;omega
   match p,k with
   | [c],_=>
    have q:c≠0:=l.mem O7;rw [Qs]at m;exact Qr q m
theorem Zny(n:Nat)(p:List Int)(x:Rat):-1<=Gm n p x/\Gm n p x<=1:=by
 induction n generalizing p with
 | zero=>show -1<=(0:Int)/\(0:Int)<=1;decide
 | succ n c=>unfold Gm;split;exact Yab;exact c _
def Cv(F:Nat)(o:List Int)(a b:Rat):Prop:=0<Be F o a-Be F o b-(if Zb o b=0 then 1 else 0)
theorem Ybb{F n:Nat}(g:Tr p)(i:p≠[])(hs:Sz n p)(w:n<=220)(v:p.length<=11)(u:p.length<=F+1)(y:o=Zc1 F p.length (Xa p))(m:Tr o)(N:o≠[])(H:Ce F o)(k:a<b) :
  (Zb p a<0\/Zb p b<0\/Gm p.length p a<0\/Cv F o a b)↔(Gm p.length p a<0\/Cv F o a b):=by
 constructor
 .rintro(h|h|h|h)
  .left;rw [Ztd p.length p a O4 (aK _),Zko h];decide
  .have r:=Zny p.length p a;have r0:=Ze5 p.length p a g i (aK _);rcases(show Gm p.length p a<0\/Gm p.length p a=1 by omega)with j|j
   .exact .inl j
   .right;have Q:=Zk1 g i hs w v u y m N H k j h;have I:=Dp.start g i;obtain⟨⟨B,t⟩,-⟩:=Hg g i hs w v u p.length (Xa p) I (by rw [Qy g];exact aK _);rw [<-y]at t;obtain⟨c,d,P,M,e⟩:=Zdx ((Kc (Yi p)).trans (Qe g):Sim (Xa p) p);have l:Zb o b≠0:=λz=>by
     have s:(c:Rat)*Zb (Xa p) b=(d:Rat)*Zb p b:=e b;rw [t b,z]at s;have D:=Qr M;have G:(d:Rat)*Zb p b=0:=by rw [<-s];grind
     rcases eV.1 G with q|q
     .exact D q
     .rw [q]at h;grind
    unfold Cv;rw [aD l];omega
  .exact .inl h
  .exact .inr h
 .rintro(h|h)
  .exact .inr (.inr (.inl h))
  .exact .inr (.inr (.inr h))
theorem Zxt(p:List Int)(x:Rat)(h:Zb p x≠0):∃δ:Rat,0<δ/\∀y,x-δ<=y->y<=x->Gn (Zb p y)=Gn (Zb p x):=by
 obtain⟨L,r,k⟩:=Ep (x-1) x p;have i:0<(if 0<Zb p x then Zb p x else -Zb p x):=by split<;>grind
 obtain⟨δ,j,m,g⟩:=Kw (show(0:Rat)<1 by decide) (show 0<L+1 by grind) (show 0<(if 0<Zb p x then Zb p x else -Zb p x)/2 by grind);refine⟨δ,j,λy n q=>?_⟩;have l:=k y x O4 O4 O4;have b:=aI (a:=L) (b:=δ-(x-y)) O4 O4;have c:L*(x-y)<=δ*(L+1):=O4;rcases Qq (Zb p x)with⟨d,e⟩|⟨d,e⟩|⟨d,e⟩
 .rw [aF d]at g i;rw [e];exact Zt3 O4
 .rw [aD O4]at g i;rw [e];exact Zko O4
 .exact absurd d h
theorem rsg_1(h:Gn x=1):0<x:=by
 rcases Qq x with⟨d,c⟩|⟨d,c⟩|⟨d,c⟩
 .exact d
 .rw [c]at h;exact absurd h O3
 .rw [c]at h;exact absurd h O3
theorem Zl1(h:Gn x=-1):x<0:=by
 rcases Qq x with⟨d,c⟩|⟨d,c⟩|⟨d,c⟩
 .rw [c]at h;exact absurd h O3
 .exact d
 .rw [c]at h;exact absurd h O3
def Zyo(p:List Int)(a b:Rat):Prop:=∃x,a<=x/\x<=b/\Zb p x<0
theorem Yc2  {F:Nat} (hx:Tr xs) (h0:xs≠[]) (hC:Ce F xs) {σ:Rat} (Y:σ≠0) (S:a<b)
  (c:∀x,a<=x->x<b->∃δ:Rat,0<δ/\∀y,x<y->y<=x+δ->y<=b->0<σ*Zb (sqf F xs) y) :
  Be F xs a-Be F xs b<=(if Zb (sqf F xs) b=0 then 1 else 0):=by
 obtain⟨h,h1,R⟩:=Zji hx h0 hC a b;have H:∀x,a<=x->x<b->0<=σ*Zb (sqf F xs) x:=λx ha hb=>by
  rcases(show 0<=σ*Zb (sqf F xs) x\/σ*Zb (sqf F xs) x<0 by grind)with q|q
  .exact q
  .exfalso;have g:Zb (sqf F xs) x≠0:=λe=>by rw [e]at q;grind
   obtain⟨δ,d1,D⟩:=c x ha hb;obtain⟨ε,e1,Q⟩:=Zk2 (sqf F xs) x g;obtain⟨y,N,P,y3,y4⟩:∃y,x<y/\y<=x+δ/\y<=x+ε/\y<=b:=by
    rcases(show δ<=ε\/ε<=δ by grind)with w|w
    .rcases(show x+δ<=b\/b<=x+δ by grind)with v|v
     .exact⟨x+δ,O4,O4,O4,v⟩
     .exact⟨b,O4,O4,O4,O4⟩
    .rcases(show x+ε<=b\/b<=x+ε by grind)with v|v
     .exact⟨x+ε,O4,O4,O4,v⟩
     .exact⟨b,O4,O4,O4,O4⟩
   have Z:=D y N P y4;have k:=Q y N y3;rcases Qq (Zb (sqf F xs) x)with⟨i,j⟩|⟨i,j⟩|⟨i,j⟩
   .rw [j]at k;have I:=rsg_1 k;rcases(show σ<0\/0<σ by grind)with s|s
    .have:=aY (a:=-σ) (b:=Zb (sqf F xs) y) O4 I;grind
    .have:=aY s i;grind
   .rw [j]at k;have I:=Zl1 k;rcases(show σ<0\/0<σ by grind)with s|s
    .have:=aY (a:=-σ) (b:=-Zb (sqf F xs) x) O4 O4;grind
    .have:=aY (a:=σ) (b:=-Zb (sqf F xs) y) s O4;grind
   .exact g i
 have V:0<=σ*Zb (sqf F xs) b:=by
  rcases(show 0<=σ*Zb (sqf F xs) b\/σ*Zb (sqf F xs) b<0 by grind)with q|q
  .exact q
  .exfalso;have g:Zb (sqf F xs) b≠0:=λe=>by rw [e]at q;grind
   obtain⟨ε,e1,Q⟩:=Zxt (sqf F xs) b g;obtain⟨y,N,P,y3⟩:∃y,a<=y/\y<b/\b-ε<=y:=by
    rcases(show a<=b-ε\/b-ε<=a by grind)with v|v
    .exact⟨b-ε,v,O4,O4⟩
    .exact⟨a,O4,S,v⟩
   obtain⟨δ,d1,D⟩:=c y N P;obtain⟨z,z1,z2,r⟩:∃z,y<z/\z<=y+δ/\z<=b:=by
    rcases(show y+δ<=b\/b<=y+δ by grind)with v|v
    .exact⟨y+δ,O4,O4,v⟩
    .exact⟨b,P,O4,O4⟩
   have Z:=D z z1 z2 r;have k:=Q z O4 r;rcases Qq (Zb (sqf F xs) b)with⟨i,j⟩|⟨i,j⟩|⟨i,j⟩
   .rw [j]at k;have I:=rsg_1 k;rcases(show σ<0\/0<σ by grind)with s|s
    .have:=aY (a:=-σ) (b:=Zb (sqf F xs) z) O4 I;grind
    .have:=aY s i;grind
   .rw [j]at k;have I:=Zl1 k;rcases(show σ<0\/0<σ by grind)with s|s
    .have:=aY (a:=-σ) (b:=-Zb (sqf F xs) b) O4 O4;grind
    .have:=aY (a:=σ) (b:=-Zb (sqf F xs) z) s O4;grind
   .exact g i
 have d:∀u v,a<=u->u<=v->v<=b->v-u<=h/2->Be F xs u-Be F xs v<=(if v=b/\Zb (sqf F xs) b=0 then 1 else 0):=λu v l M B c4=>by
  have e:=R u v l M B O4;have e':Be F xs u-Be F xs v=crs (Zb (sqf F xs)) u v:=e;rw [e'];unfold crs;by_cases G:Zb (sqf F xs) u≠0/\Zb (sqf F xs) u*Zb (sqf F xs) v<=0
  .rw [aF G];have W:u<b:=by
    rcases(show u<b\/u=b by grind)with q|q
    .exact q
    .exfalso;have:v=u:=O4;subst this;have:=Iu G.1;grind
   have g1:=H u l W;have g2:0<=σ*Zb (sqf F xs) v:=by
    rcases(show v<b\/v=b by grind)with q|q
    .exact H v O4 q
    .rw [q];exact V
   have m:Zb (sqf F xs) v=0:=by
    rcases(show Zb (sqf F xs) v=0\/Zb (sqf F xs) v≠0 by grind)with q|q
    .exact q
    .exfalso;have m1:=aI g1 g2;have m2:=Iu Y;have m3:(σ*σ)*(Zb (sqf F xs) u*Zb (sqf F xs) v)>=0:=O4;rcases(show Zb (sqf F xs) u*Zb (sqf F xs) v<0\/Zb (sqf F xs) u*Zb (sqf F xs) v=0 by grind)with w|w
     .have:=aY m2 (show 0 < -(Zb (sqf F xs) u*Zb (sqf F xs) v) by grind);grind
     .rcases eV.1 w with z|z
      .exact G.1 z
      .exact q z
   rcases(show v<b\/v=b by grind)with q|q
   .exfalso;obtain⟨δ,d1,D⟩:=c v O4 q;obtain⟨z,z1,z2,r,z4⟩:∃z,v<z/\z<=v+δ/\z<=b/\z-v<=h/2:=by
     rcases(show δ<=h/2\/h/2<=δ by grind)with w|w
     .rcases(show v+δ<=b\/b<=v+δ by grind)with t|t
      .exact⟨v+δ,O4,O4,t,O4⟩
      .exact⟨b,q,O4,O4,O4⟩
     .rcases(show v+h/2<=b\/b<=v+h/2 by grind)with t|t
      .exact⟨v+h/2,O4,O4,t,O4⟩
      .exact⟨b,q,O4,O4,O4⟩
    have Z:=D z z1 z2 r;have a1:=R u z l O4 r O4;have a2:=R v z O4 O4 r O4;have r1:crs (Zb (sqf F xs)) u z=0:=by
     unfold crs;rw [aD];rintro⟨w1,w2⟩;have g3:0<σ*Zb (sqf F xs) u:=by
      rcases(show σ*Zb (sqf F xs) u=0\/0<σ*Zb (sqf F xs) u by grind)with t|t
      .rcases eV.1 t with t|t
       .exact absurd t Y
       .exact absurd t w1
      .exact t
     have m1:=aY g3 Z;have m2:=Iu Y;have m3:0<(σ*σ)*(Zb (sqf F xs) u*Zb (sqf F xs) z):=O4;have m4:=aI (a:=σ*σ) (b:=-(Zb (sqf F xs) u*Zb (sqf F xs) z)) O4 O4;grind
    have r2:crs (Zb (sqf F xs)) v z=0:=by unfold crs;rw [aD];rintro⟨w1,w2⟩;exact w1 m
    have r3:crs (Zb (sqf F xs)) u v=1:=by unfold crs;rw [aF G]
    rw [r1]at a1;rw [r2]at a2;rw [r3]at e;omega
   .rw [q]at m;rw [aF ⟨q,m⟩];decide
  .rw [aD G];split<;>decide
 have a0:∀n:Nat,∀u,a<=u->u<=b->b-u<=(n:Rat)*(h/2)->Be F xs u-Be F xs b<=(if Zb (sqf F xs) b=0 then 1 else 0):=λn=>by
  induction n with
  | zero=>
   intro u l M B;have:u=b:=by push_cast at B;grind
   subst this;rw [Int.sub_self];split<;>decide
  | succ n ih=>
   intro u l M B;push_cast at B;by_cases hy:b-u<=h/2
   .have:=d u b l M O4 hy;by_cases g:Zb (sqf F xs) b=0
    .rw [aF ⟨rfl,g⟩]at this;rw [aF g];exact this
    .rw [aD (λe=>g e.2)]at this;rw [aD g];exact this
   .have i1:=ih (u+h/2) O4 O4 O4;have i2:=d u (u+h/2) l O4 O4 O4;rw [aD (λe=>by have:=e.1;grind)]at i2;generalize (if Zb (sqf F xs) b=0 then(1:Int)else 0)=t at *;omega
 obtain⟨n,hn⟩:=Ze4 (b-a) (show 0<h/2 by grind);exact a0 n a O4 O4 hn
structure Odp (F n:Nat) (p o:List Int):Prop where
 tr:Tr p
 ne:p≠[]
 sz:Sz n p
 hn:n<=220
 hl:p.length<=11
 hF:p.length<=F+1
 eq:o=Zc1 F p.length (Xa p)
 otr:Tr o
 one:o≠[]
 ok:Ce F o
theorem Odp.sq{F n:Nat}(h:Odp F n p o):∃(c d:Int) (B:List Int),c≠0/\d≠0/\∀x:Rat,(d:Rat)*Zb p x=(c:Rat)*(Zb o x*(Zb B x*Zb B x)):=by have i:=Dp.start h.tr h.ne;obtain⟨⟨B,g⟩,-⟩:=Hg h.tr h.ne h.sz h.hn h.hl h.hF p.length (Xa p) i (by rw [Qy h.tr];exact aK _);rw [<-h.eq]at g;obtain⟨c,d,j,k,e⟩:=Zdx ((Kc (Yi p)).trans (Qe h.tr):Sim (Xa p) p);exact⟨c,d,B,j,k,λx=>by rw [<-g x];exact(e x).symm⟩
theorem Odp.sqf{F n:Nat}(h:Odp F n p o):Go.Sky.sqf F o=Xa o:=by
 have e:=Dp.start h.tr h.ne;have c:=(e.ok h.tr h.ne h.sz h.hn h.hl h.hF).2;have d:Bu F p:=by unfold Bu at c ⊢;rwa [e.2.2.1]at c
 obtain⟨-,g⟩:=Hg h.tr h.ne h.sz h.hn h.hl h.hF p.length (Xa p) e (by rw [Qy h.tr];exact aK _);rw [<-h.eq]at g;rw [Zlx e.2.2.1]at g;exact(Zpd h.tr h.ne h.sz h.hn h.hl h.hF h.otr h.one h.ok.1.2.2.1 d g).2
theorem Odp.srt{F n:Nat}(h:Odp F n p o):∃c d:Int,c≠0/\d≠0/\∀x:Rat,(c:Rat)*Zb (Go.Sky.sqf F o) x=(d:Rat)*Zb o x:=by rw [h.sqf];exact Zdx ((Kc (Yi o)).trans (Qe h.otr):Sim (Xa o) o)
theorem Odp.zero{F n:Nat}(h:Odp F n p o)(x:Rat):Zb (Go.Sky.sqf F o) x=0↔Zb o x=0:=by
 obtain⟨c,d,i,j,e⟩:=h.srt;have g:=e x;constructor
 .intro z;rw [z]at g;rcases eV.1 (show(d:Rat)*Zb o x=0 by grind)with q|q
  .exact absurd q (Qr j)
  .exact q
 .intro z;rw [z]at g;rcases eV.1 (show(c:Rat)*Zb (Go.Sky.sqf F o) x=0 by grind)with q|q
  .exact absurd q (Qr i)
  .exact q
theorem Odp.nz{F n:Nat}(h:Odp F n p o)(j:Zb p x≠0):Zb o x≠0:=λz=>by
 obtain⟨c,d,B,k,i,e⟩:=h.sq;have g:=e x;rw [z]at g;rcases eV.1 (show(d:Rat)*Zb p x=0 by grind)with q|q
 .exact Qr i q
 .exact j q
theorem Odp.opp{F n:Nat}(h:Odp F n p o){y:Rat}(j:Zb p x*Zb p y<0):Zb o x*Zb o y<0/\Zb (Go.Sky.sqf F o) x*Zb (Go.Sky.sqf F o) y<0:=by obtain⟨c,d,B,m,q,e⟩:=h.sq;have r:(Zb o x*(Zb B x*Zb B x))*(Zb o y*(Zb B y*Zb B y))<0:=Zec (Qr m) (Qr q) (e x).symm (e y).symm j;have l:=Ya8 r;obtain⟨s,t,g,i,k⟩:=h.srt;exact⟨l,Zec (Qr g) (Qr i) (k x) (k y) l⟩
theorem Odp.sem{F n:Nat}(h:Odp F n p o)(i:a<b):(Gm p.length p a<0\/Cv F o a b)↔Zyo p a b:=by
 have j:=Ybb h.tr h.ne h.sz h.hn h.hl h.hF h.eq h.otr h.one h.ok i;constructor
 .rintro(k|k)
  .obtain⟨δ,M,m⟩:=Dy p.length p a (aK _);have r:=Zny p.length p a;have hm:Gm p.length p a=-1:=O;rcases(show a+δ<=b\/b<=a+δ by grind)with q|q
   .exact⟨a+δ,O4,q,Zl1 (by rw [m (a+δ) O4 O4,hm])⟩
   .exact⟨b,O4,O4,Zl1 (by rw [m b i q,hm])⟩
  .rcases Classical.em (Zyo p a b)with q|q
   .exact q
   .exfalso;have S:∀x,a<=x->x<=b->0<=Zb p x:=λx u v=>by
     rcases(show 0<=Zb p x\/Zb p x<0 by grind)with w|w
     .exact w
     .exact absurd ⟨x,u,v,w⟩ q
    have l:∀x,a<=x->x<b->∃δ:Rat,0<δ/\∀y,x<y->y<=x+δ->y<=b->0<Zb p y:=λx u v=>by
     obtain⟨δ,M,m⟩:=Dy p.length p x (aK _);have r:=Zny p.length p x;have r0:=Ze5 p.length p x h.tr h.ne (aK _);refine⟨δ,M,λy G H I=>?_⟩;have s:=m y G H;rcases Qq (Zb p y)with⟨N,P⟩|⟨N,P⟩|⟨N,P⟩
     .exact N
     .have:=S y O4 I;grind
     .rw [P]at s;exact absurd s.symm r0
    obtain⟨δ,M,m⟩:=l a O4 i;obtain⟨z,z1,z2,z3⟩:∃z,a<z/\z<=a+δ/\z<=b:=by
     rcases(show a+δ<=b\/b<=a+δ by grind)with w|w
     .exact⟨a+δ,O4,O4,w⟩
     .exact⟨b,i,w,O4⟩
    have hz:=m z z1 z2 z3;have hσ:Zb (Go.Sky.sqf F o) z≠0:=λe=>h.nz (x:=z) O4 ((h.zero z).1 e);have Z:=Yc2 h.otr h.one h.ok (σ:=Zb (Go.Sky.sqf F o) z) hσ i (λx u v=>by
     obtain⟨ε,e1,e2⟩:=l x u v;refine⟨ε,e1,λy G H I=>?_⟩;have hy:=e2 y G H I;have V:Zb (Go.Sky.sqf F o) y≠0:=λe=>h.nz (x:=y) O4 ((h.zero y).1 e);rcases(show 0<Zb (Go.Sky.sqf F o) z*Zb (Go.Sky.sqf F o) y\/Zb (Go.Sky.sqf F o) z*Zb (Go.Sky.sqf F o) y<0\/Zb (Go.Sky.sqf F o) z*Zb (Go.Sky.sqf F o) y=0 by grind)with w|w|w
     .exact w
     .exfalso;obtain⟨c,d,B,hc,hd,e⟩:=h.sq;obtain⟨c',d',Q,R,Y⟩:=h.srt;have w1:Zb o z*Zb o y<0:=Zec (Qr R) (Qr Q) (Y z).symm (Y y).symm w;have p1:=aY hz hy;have q1:((d:Rat)*(d:Rat))*(Zb p z*Zb p y)=((c:Rat)*(c:Rat))*((Zb o z*Zb o y)*((Zb B z*Zb B y)*(Zb B z*Zb B y))):=by
       have a1:=e z;have a2:=e y;have:((d:Rat)*Zb p z)*((d:Rat)*Zb p y)=((c:Rat)*(Zb o z*(Zb B z*Zb B z)))*((c:Rat)*(Zb o y*(Zb B y*Zb B y))):=by rw [a1,a2]
       grind
      have D:=aY (Iu (Qr hd)) p1;have q3:0<=(Zb B z*Zb B y)*(Zb B z*Zb B y):=by
       by_cases t:Zb B z*Zb B y=0
       .rw [t];grind
       .exact dA (Iu t)
      have q4:=aI (dA (Iu (Qr hc))) (aI (show 0<=-(Zb o z*Zb o y) by grind) q3);grind
     .rcases eV.1 w with t|t
      .exact absurd t hσ
      .exact absurd t V)
    unfold Cv at k;by_cases g:Zb o b=0
    .rw [aF g]at k;rw [aF ((h.zero b).2 g)]at Z;omega
    .rw [aD g]at k;rw [aD (λe=>g ((h.zero b).1 e))]at Z;omega
 .rintro⟨x,x1,x2,W⟩;rcases(show x=a\/x=b\/(a<x/\x<b) by grind)with q|q|⟨q1,D⟩
  .subst q;exact j.1 (.inl W)
  .subst q;exact j.1 (.inr (.inl W))
  .have r:=Zny p.length p a;have r0:=Ze5 p.length p a h.tr h.ne (aK _);rcases(show Gm p.length p a<0\/Gm p.length p a=1 by omega)with k|k
   .exact .inl k
   .right;have hv:=Zk1 h.tr h.ne h.sz h.hn h.hl h.hF h.eq h.otr h.one h.ok q1 k W;have m1:=Zhm h.otr h.one h.ok (dA D);unfold Cv;by_cases g:Zb o b=0
    .rw [aF g];have hx:Zb (Go.Sky.sqf F o) x≠0:=λe=>h.nz (x:=x) O4 ((h.zero x).1 e);rcases jE (Be F o b) (Be F o x)with w|w
     .omega
     .exfalso;have:=Zb6 h.otr h.one h.ok (dA D) w hx b (dA D) O4;rw [(h.zero b).2 g]at this;grind
    .rw [aD g];omega
end Go.Sky

