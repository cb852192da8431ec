/- Rules, arithmetic and contracts: part 7. No conditions but those that each theorem names. -/
import Derived.Test.YtpmihempjefadaaGreatGa05
set_option linter.all false
namespace Go.Sky
variable{B K Q d:Nat}{z:R2}{p a b xs t u q:List Int}{k:Int}
def qv(z:R2):Rat:=(z.1:Rat)/(z.2:Rat)
theorem Zoy{x y X Y g:Nat}(c:g=Nat.gcd x y)(F:0<y)(G:0<Y)(h:x*Y=X*y):y/g∣Y/\x/g<=X:=by
 have f:0<g:=by rw [c];exact Nat.gcd_pos_of_pos_right _ F
 have D:Nat.Coprime (x/g) (y/g):=by rw [c];exact Nat.coprime_div_gcd_div_gcd (by rw [<-c];exact f)
 have m:x/g*g=x:=mO (by rw [c];exact kU _ _);have i:y/g*g=y:=mO (by rw [c];exact mY _ _);have j:x/g*Y=X*(y/g):=by refine kD f ?_;have s:x/g*Y*g=x/g*g*Y:=O4;have v:X*(y/g)*g=X*(y/g*g):=O4;rw [s,v,m,i,h]
 have o:y/g∣Y:=D.symm.dvd_of_dvd_mul_left (by rw [j];exact Nat.dvd_mul_left _ _);refine⟨o,?_⟩;obtain⟨k,r⟩:=o;have l:0<k:=mP λe=>by rw [e,jW]at r;omega
 have n:0<y/g:=mP λe=>by rw [e,gI]at i;omega
 rw [r]at j;have w:x/g*k=X:=by refine kD n ?_;have:x/g*k*(y/g)=x/g*(y/g*k):=O4;rw [this,j]
 rw [<-w];exact dL _ l
theorem Zks{x y X Y:Int}(w:0<y)(F:0<Y)(h:x*Y=X*y)(s:bl X.natAbs<=B)(c:bl Y.natAbs<=B)(D:B<=65536) :
  ¬Md x y/\Kt x y∣Y/\0<Kt x y/\bl (Ie x y).natAbs<=B/\bl (Kt x y).natAbs<=B/\Ie x y*y=x*Kt x y:=by
 have G:Nc x y=(Nat.gcd x.natAbs y.natAbs:Int):=by rw [Yd3 O];rfl
 have v:x.natAbs*Y.natAbs=X.natAbs*y.natAbs:=by rw [<-cC,<-cC,h]
 obtain⟨i,o⟩:=Zoy (g:=Nat.gcd x.natAbs y.natAbs) rfl (by omega:0<y.natAbs) (by omega:0<Y.natAbs) v;have j:(y/Nc x y).natAbs=y.natAbs/Nat.gcd x.natAbs y.natAbs:=by rw [lD (Zg4 x y),Al]
 have r:(x/Nc x y).natAbs=x.natAbs/Nat.gcd x.natAbs y.natAbs:=by rw [lD (Znu x y),Al]
 have m:bl (y/Nc x y).natAbs<=B:=aB (Py (by rw [j];exact kQ O i)) c;have n:bl (x/Nc x y).natAbs<=B:=aB (Py (by rw [r];exact o)) s;have e:¬Md x y:=λh=>by unfold Md at h;omega
 obtain⟨l,f,-⟩:=Cq e;refine⟨e,?_,Zp8 e w,by rw [l];exact n,by rw [f];exact m,?_⟩
 .rw [f];refine eZ.1 ?_;rw [j];exact i
 .rw [l,f];exact Zz0 x y
structure En (K Q:Nat) (d:Nat) (z:R2):Prop where
 pos:0<z.2
 dv:z.2∣((Q*2^d:Nat):Int)
 lo:-(K:Rat)<=qv z
 hi:qv z<=(K:Rat)
theorem En.up(h:En K Q d z):En K Q (d+1) z:=by
 obtain⟨c,e,f,g⟩:=h;refine⟨c,?_,f,g⟩;have:((Q*2^(d+1):Nat):Int)=((Q*2^d:Nat):Int)*2:=by rw [bL];push_cast;grind
 rw [this];exact fX e (gU _ _)
theorem canc{N p s Y X D:Int}(h:p≠0)(f:N*p=s*D)(g:s*Y=X*p):N*Y=X*D:=by refine Int.eq_of_mul_eq_mul_right h ?_;have c:N*Y*p=(N*p)*Y:=O4;have e:X*D*p=(X*p)*D:=O4;rw [c,e,f,<-g];grind
theorem Kb{z:Int}(h:0<z):(0:Rat)<(z:Rat):=by exact_mod_cast h
def Zab{n m:Nat}(h:n<2^m):bl n<=m:=(Xo m n).2 h
theorem mid_en{a b:R2}(ha:En K Q d a)(hb:En K Q d b)(hQ:0<Q)(a0:Q*2^(d+1)<2^B)(a1:2*K*(Q*2^d)<2^B)(hB:B<=65536) :
  Za9 a b/\En K Q (d+1) (Qe a b)/\qv (Qe a b)=(qv a+qv b)/2/\bl (Qe a b).1.natAbs<=B/\bl (Qe a b).2.natAbs<=B:=by
 obtain⟨pa,⟨c,Z⟩,la,ua⟩:=ha;obtain⟨pb,⟨f,db⟩,lb,ub⟩:=hb;generalize F:((Q*2^d:Nat):Int)=Y at *;have M:0<Q*2^d:=fF hQ (bK O3);have i:0<Y:=by rw [<-F];exact_mod_cast M
 have a3:=Kb pa;have a4:=Kb pb;have rY:=Kb i;have w:0<a.2*b.2:=fW pa pb;have g:(a.1*b.2+b.1*a.2)*Y=(a.1*c+b.1*f)*(a.2*b.2):=by have G:(a.1*c+b.1*f)*(a.2*b.2)=a.1*b.2*(a.2*c)+b.1*a.2*(b.2*f):=O4;rw [G,<-Z,<-db];grind
 have S:(a.1:Rat)*c=qv a*Y:=by
  unfold qv;have:(Y:Rat)=(a.2:Rat)*c:=by rw [Z];push_cast;rfl
  rw [this];grind
 have V:(b.1:Rat)*f=qv b*Y:=by
  unfold qv;have:(Y:Rat)=(b.2:Rat)*f:=by rw [db];push_cast;rfl
  rw [this];grind
 have N:((a.1*c+b.1*f:Int):Rat)=(qv a+qv b)*Y:=by push_cast;rw [S,V];grind
 have a2:(a.1*c+b.1*f).natAbs<=2*K*(Q*2^d):=by
  have h:((2*K*(Q*2^d):Nat):Rat)=2*(K:Rat)*(Y:Rat):=by rw [<-F];push_cast;grind
  have t1:=aC (a:=2*(K:Rat)-(qv a+qv b)) (b:=(Y:Rat)) O4 O4;have t2:=aC (a:=2*(K:Rat)+(qv a+qv b)) (b:=(Y:Rat)) O4 O4;have u1:((a.1*c+b.1*f:Int):Rat)<=(((2*K*(Q*2^d):Nat):Int):Rat):=by rw [N];push_cast at h ⊢;grind
  have u2:((-((2*K*(Q*2^d):Nat):Int):Int):Rat)<=((a.1*c+b.1*f:Int):Rat):=by rw [N];push_cast at h ⊢;grind
  have v1:a.1*c+b.1*f<=((2*K*(Q*2^d):Nat):Int):=by exact_mod_cast u1
  have v2:-((2*K*(Q*2^d):Nat):Int)<=a.1*c+b.1*f:=by exact_mod_cast u2
  omega
 have j:Y.natAbs=Q*2^d:=by rw [<-F];rfl
 have I:Q*2^(d+1)=2*(Q*2^d):=by rw [bL];grind
 have P:bl Y.natAbs<=B:=Zab (by rw [j];omega);have l:bl (a.1*c+b.1*f).natAbs<=B:=Zab O;obtain⟨f1,f2,f3,f4,f5,f6⟩:=Zks w i g l P hB;have W:=canc (Int.ne_of_gt w) f6 g;have o:bl (2*Y).natAbs<=B:=Zab (by rw [cC,j];show 2*(Q*2^d)<_;omega);have x:Ie (a.1*b.2+b.1*a.2) (a.2*b.2)*1*(2*Y)=(a.1*c+b.1*f)*(Kt (a.1*b.2+b.1*a.2) (a.2*b.2)*2):=by rw [jN];have G:Ie (a.1*b.2+b.1*a.2) (a.2*b.2)*(2*Y)=2*(Ie (a.1*b.2+b.1*a.2) (a.2*b.2)*Y):=O4;rw [G,W];grind
 have v:0<Kt (a.1*b.2+b.1*a.2) (a.2*b.2)*2:=O;obtain⟨g1,g2,H,g4,g5,g6⟩:=Zks v (by omega:0<2*Y) x l o hB;have D:=canc (Int.ne_of_gt v) g6 x;have r:(Qe a b).1=Ie (Ie (a.1*b.2+b.1*a.2) (a.2*b.2)*1) (Kt (a.1*b.2+b.1*a.2) (a.2*b.2)*2):=rfl;have s:(Qe a b).2=Kt (Ie (a.1*b.2+b.1*a.2) (a.2*b.2)*1) (Kt (a.1*b.2+b.1*a.2) (a.2*b.2)*2):=rfl;rw [<-r,<-s]at D;rw [<-s]at g2 H g5;rw [<-r]at g4;have R:qv (Qe a b)=(qv a+qv b)/2:=by
  have h1:(((Qe a b).1:Int):Rat)*(2*(Y:Rat))=((a.1*c+b.1*f:Int):Rat)*(((Qe a b).2:Int):Rat):=by
   have:(((Qe a b).1*(2*Y):Int):Rat)=(((a.1*c+b.1*f)*(Qe a b).2:Int):Rat):=by rw [D]
   push_cast at this ⊢;grind
  rw [N]at h1;have rd:=Kb H;unfold qv at *;generalize (((Qe a b).1:Int):Rat)=n at *;generalize (((Qe a b).2:Int):Rat)=m at *;generalize (a.1:Rat)/(a.2:Rat)=p at *;generalize (b.1:Rat)/(b.2:Rat)=q at *;generalize (Y:Rat)=y at *;grind
 refine⟨⟨f1,g1⟩,⟨H,?_,by rw [R];grind,by rw [R];grind⟩,R,g4,g5⟩;have e:((Q*2^(d+1):Nat):Int)=2*Y:=by rw [I,<-F];push_cast;rfl
 rw [e];exact g2
def Dd(F:Nat)(xs:List Int)(x:Rat):Int:=Bn ((Bo F xs).map Zb) x
def cvc_v{F:Nat}(h:0<z.2):cvc F xs z=Dd F xs (qv z):=Ye3 h
def Sqn(P:R2->R2->Prop)(hi:Rat):Rat->List (R2×R2)->Prop
 | e,[]=>e<=hi
 | e,c::r=>e<=qv c.1/\qv c.1<qv c.2/\P c.1 c.2/\Sqn P hi (qv c.2) r
theorem Sqn.le{P:R2->R2->Prop}{hi:Rat} : ∀{lo:Rat} {l:List (R2×R2)},Sqn P hi lo l->lo<=hi
 | lo,[],h=>h
 | lo,c::r,h=>by have:=Sqn.le h.2.2.2;have:=h.1;have:=h.2.1;grind
theorem Sqn.low{P:R2->R2->Prop}{hi:Rat}{lo e:Rat}(f:e<=lo):∀{l:List (R2×R2)},Sqn P hi lo l->Sqn P hi e l
 | [],h=>by have h:lo<=hi:=h;show e<=hi;grind
 | c::r,h=>⟨by have:=h.1;grind,h.2⟩
def Sqn.app{P:R2->R2->Prop}{e hi:Rat}{i:List (R2×R2)}(f:Sqn P hi e i):∀{lo:Rat} {g:List (R2×R2)},Sqn P e lo g->Sqn P hi lo (g ++ i)
 | lo,[],h=>f.low h
 | lo,c::r,h=>⟨h.1,h.2.1,h.2.2.1,Sqn.app f h.2.2.2⟩
theorem Zkc{a:R2}(l:0<a.2)(h:a.1.natAbs<=K):-(K:Rat)<=qv a/\qv a<=(K:Rat):=by
 obtain⟨i,j⟩:=Ybm h;have m:(1:Rat)<=(a.2:Rat):=by exact_mod_cast (show 1<=a.2 by omega)
 have c:(0:Rat)<=(K:Rat):=Kn (aZ _);have hi:=fH.2 (show 0<(a.2:Rat) by grind);have e:(a.2:Rat)*(a.2:Rat)⁻¹=1:=O4;unfold qv;rw [iC];have t1:=aC (a:=(a.2:Rat)⁻¹) (b:=(K:Rat)*a.2-a.1) O4 (by have:=aC (a:=(K:Rat)) (b:=(a.2:Rat)-1) c O4;grind);have t2:=aC (a:=(a.2:Rat)⁻¹) (b:=(K:Rat)*a.2+a.1) O4 (by have:=aC (a:=(K:Rat)) (b:=(a.2:Rat)-1) c O4;grind);have f:(a.2:Rat)⁻¹*((K:Rat)*a.2-a.1)=(K:Rat)*(a.2*(a.2:Rat)⁻¹)-a.1*(a.2:Rat)⁻¹:=O4;have g:(a.2:Rat)⁻¹*((K:Rat)*a.2+a.1)=(K:Rat)*(a.2*(a.2:Rat)⁻¹)+a.1*(a.2:Rat)⁻¹:=O4;rw [f,e]at t1;rw [g,e]at t2;constructor<;>grind
theorem Bw (n:Nat){a:R2}(c:0<a.2)(i:bl a.1.natAbs<=n)(j:bl a.2.natAbs<=n)(m:n<=65536) :
  ¬Md a.1 a.2/\0<(slow a).2/\bl (slow a).1.natAbs<=n/\bl (slow a).2.natAbs<=n/\qv (slow a)=qv a:=by
 obtain⟨f1,f2,f3,f4,f5,f6⟩:=Zks (x:=a.1) (y:=a.2) (X:=a.1) (Y:=a.2) c c rfl i j m;refine⟨f1,f3,f4,f5,?_⟩;have r1:=Kb c;have r2:=Kb f3;have l:((Ie a.1 a.2:Int):Rat)*(a.2:Rat)=(a.1:Rat)*((Kt a.1 a.2:Int):Rat):=by exact_mod_cast f6
 show((Ie a.1 a.2:Int):Rat)/((Kt a.1 a.2:Int):Rat)=(a.1:Rat)/(a.2:Rat);generalize ((Ie a.1 a.2:Int):Rat)=N at *;generalize ((Kt a.1 a.2:Int):Rat)=D at *;generalize (a.1:Rat)=x at *;generalize (a.2:Rat)=y at *;have:N/D*(D*y)=x/y*(D*y):=by have e:N/D*(D*y)=N*y:=O4;have f:x/y*(D*y)=x*D:=O4;rw [e,f,l]
 have o:=aV r2 r1;have g:N/D=N/D*(D*y)*(D*y)⁻¹:=O4;have h:x/y=x/y*(D*y)*(D*y)⁻¹:=O4;rw [g,this,<-h]
theorem sep_of  {F A e:Nat} (y:Tr xs) (j:xs≠[]) (o:Eg F xs) (r:0<K) (n:0<A) (D:∀i,(cf (sqf F xs) i).natAbs<=A) (G:∀i,(cf (Zy (sqf F xs)) i).natAbs<=A)
  (hs:2<=(sqf F xs).length->Zr1 K A (sqf F xs).length e=true) (u v:Rat) (l:-(K:Rat)<=u) (c:u<=v) (m:v<=(K:Rat)) (x:v-u<=1/((2^e:Nat):Rat)):Dd F xs u-Dd F xs v<=1:=by
 by_cases f:2<=(sqf F xs).length
 .have h:=Yfd y j o r n rfl f D G (hs f) l c m x;show Bn _ u-Bn _ v<=1;rw [h];unfold crs;split<;>decide
 .have H:=Ph (sqf F xs);have w:Zy (sqf F xs)=[]:=aF O;have s:Bo F xs=[sqf F xs]:=by unfold Bo;rw [w,Zvg,Fo]
  unfold Dd Bn;rw [s];have r1:=Zee (([Zb (sqf F xs)]).map λg=>Ix (g u));have r2:=Zee (([Zb (sqf F xs)]).map λg=>Ix (g v));simp only [cH,iX,dG,jS]at r1 r2 ⊢;omega
theorem Sqn.mem{P:R2->R2->Prop}{hi:Rat} : ∀{lo:Rat} {l:List (R2×R2)},Sqn P hi lo l->∀c∈l,P c.1 c.2
 | _,[],_,c,e=>by cases e
 | lo,d::r,h,c,e=>by
  rcases bO.1 e with rfl|e
  .exact h.2.2.1
  .exact Sqn.mem h.2.2.2 c e
theorem en_bl(h:En K Q d z)(g:0<Q)(s:Q*2^d<2^B)(v:K*(Q*2^d)<2^B):bl z.1.natAbs<=B/\bl z.2.natAbs<=B:=by
 obtain⟨j,i,w,y⟩:=h;have c:0<Q*2^d:=fF g (bK O3);have f:z.2.natAbs<=Q*2^d:=by have:=eZ.2 i;rw [cM]at this;exact kQ c this
 have l:z.1.natAbs<=K*z.2.natAbs:=by
  have r:=Kb j;have e:(z.1:Rat)=qv z*z.2:=by unfold qv;grind
  have t1:=aC (a:=(K:Rat)-qv z) (b:=(z.2:Rat)) O4 O4;have t2:=aC (a:=(K:Rat)+qv z) (b:=(z.2:Rat)) O4 O4;have x:((K*z.2.natAbs:Nat):Int)=(K:Int)*z.2:=by push_cast;rw [jP O]
  have n:((z.1:Int):Rat)<=(((K:Int)*z.2:Int):Rat):=by push_cast;grind
  have o:((-((K:Int)*z.2):Int):Rat)<=((z.1:Int):Rat):=by push_cast;grind
  have D:z.1<=(K:Int)*z.2:=by exact_mod_cast n
  have F:-((K:Int)*z.2)<=z.1:=by exact_mod_cast o
  omega
 have m:K*z.2.natAbs<=K*(Q*2^d):=bZ _ f;exact⟨Zab O,Zab O⟩
theorem Yax (e:Nat)(w:Nat)(B:Nat){n:Nat}(h:En (2^n) Q (e+w) z)(r:0<Q)(i:Q<2^(2*n))(s:3*n+1+(e+w)<=B):bl z.1.natAbs<=B/\bl z.2.natAbs<=B:=by
 have c:∀m,m<=B->2^m<=2^B:=λm h=>cN O3 h;have g:0<2^(e+w):=bK O3;have f:Q*2^(e+w)<2^(2*n)*2^(e+w):=dP i g;have l:2^n*(Q*2^(e+w))<2^n*(2^(2*n)*2^(e+w)):=iB f (bK O3);have j:2^(2*n)*2^(e+w)=2^(2*n+(e+w)):=(bH _ _ _).symm;have o:2^n*(2^(2*n)*2^(e+w))=2^(n+(2*n+(e+w))):=by rw [j,<-bH]
 rw [j]at f;rw [o]at l;exact en_bl h r (cL f (c _ O)) (cL l (c _ O))
theorem Ed.const{g:List Int}(h:Ed g a)(o:Tr g)(m:Tr a)(l:a≠[])(w:g.length=a.length):∃k c:Int,k≠0/\c≠0/\∀x:Rat,(k:Rat)*Zb a x=(c:Rat)*Zb g x:=by
 obtain⟨k,s,i,h⟩:=h;obtain⟨v,f,j⟩:=Zqv i o m l h;have e:=aD.2 f
 match hs:tzl s,e,j with
 | [c],_,_=>
  have n:c≠0:=by have:=(Qd s).mem f;rw [hs]at this;exact this
  refine⟨k,c,i,n,λx=>?_⟩;rw [h x,<-Oj s,hs,Qh]
 | c::d::r,_,h9=>simp at h9;omega
theorem Zp0(p:List Int)(c:Int)(x:Rat):Zb (Yc p c) x=(c:Rat)*Zb p x:=by rw [<-Ze];exact Qq x _ _ λi=>by rw [Xf,Xa,dJ]
theorem Ed.dv{g:List Int}(h:Ed g a):Dv g a:=by obtain⟨k,s,e,h⟩:=h;refine⟨k,s,e,λt=>?_⟩;have:=Nf (p:=a.map λc=>k*c) (q:=Yy s g) (λx=>by rw [Ze,Zx];exact h x) t;rw [Xa,Ld]at this;exact this
theorem ed_cop{w s:List Int}(F:k≠0)(m:Tr t)(H:Tr w)(t0:t≠[])(D:∀d,Tr d->Ed d t->Ed d w->d.length<=1)(h:∀x:Rat,(k:Rat)*(Zb u x*Zb w x)=Zb s x*Zb t x):Ed t u:=by
 obtain⟨g,A,B,f,j,n,y⟩:=Zhw w.length t w m H (aH _);have G:=D g f j n;have i:=(j.len f m t0).1
 match hgg:g,G,i with
 | [c],_,_=>
  have e:c≠0:=by have:=f.mem O7;exact this
  refine⟨k*c,Oq ((Yy A u).map λa=>k*a) (Yy B s),bA F e,λx=>?_⟩;rw [Yh,Ze,Zx,Zx];have l:=y x;rw [Qh]at l;have o:=h x;push_cast;rw [show(k:Rat)*c*Zb u x=k*(Zb u x*(c:Rat)) by grind,l];have v:(k:Rat)*(Zb u x*(Zb A x*Zb t x+Zb B x*Zb w x))=k*Zb A x*Zb u x*Zb t x+Zb B x*(k*(Zb u x*Zb w x)):=O4;rw [v,o];grind
 | c::d::r,h9,_=>simp at h9
def Ot(F:Nat)(p:List Int):List Int:=Od F (Yk p) (Zy (Yk p))
def Dw(F:Nat)(p:List Int):Prop:=eok F (gA (Yk p) (Zy (Yk p))) (gB (Yk p) (Zy (Yk p)))
theorem Pi{F:Nat}(i:Tr p)(j:p≠[])(h:Dw F p):Tr (Ot F p)/\Ot F p≠[]/\Yk (Ot F p)=Ot F p/\Yk p=Yy (sqf F p) (Ot F p)/\(sqf F p).length+(Ot F p).length=p.length+1:=by obtain⟨f1,f2,f3,f4,f5,f6⟩:=Pn F i j h;have c:Tr (Yk p):=Ob (Yi i);have f:Tr (Zy (Yk p)):=Pm c;have g:=Zb9 F c f;have l:=Oe f2 g f3 f5;rw [<-f4,Qj i]at l;have m:=aD.2 f3;have n:=aD.2 f5;refine⟨g,f5,Zp7 g (Zgr c f f5) (Fs (Zog F (Zf2 c f) (Zf1 c f)) (λe=>f5 (by unfold Od;rw [e];rfl))),f4,?_⟩;unfold Ot;omega
theorem Ydc{h:List Int}(j:Tr h)(i:h≠[]){m:Int}(e:∀x:Rat,(k:Rat)*(Zb a x*Zb h x)=(m:Rat)*(Zb b x*Zb h x))(x:Rat):(k:Rat)*Zb a x=(m:Rat)*Zb b x:=by
 have g:=Ii h (f:=Oq (a.map λc=>k*c) (b.map λc=>(-m)*c)) (by rw [Bu j];exact i) (λx=>by rw [Yh,Ze,Ze];have:=e x;push_cast;grind) x
 rw [Yh,Ze,Ze]at g;push_cast at g;grind
theorem Zso{F:Nat}(V:Tr p)(h0:p≠[])(l:Dw F p)(e:Dw F (Ot F p)):Ed (sqf F (Ot F p)) (sqf F p):=by
 obtain⟨n,a2,f,a4,a5⟩:=Pi V h0 l;obtain⟨G,D,b3,b4,b5⟩:=Pi n a2 e;obtain⟨-,u2,u3,-,-,-⟩:=Pn F V h0 l;obtain⟨-,t2,t3,-,-,-⟩:=Pn F n a2 e;have ht:Tr (Yk p):=Ob (Yi V);have o:Ed (Ot F p) (Zy (Yk p)):=(Zak ht (Pm ht) l).2.ed;have e2:Ed (Ot F (Ot F p)) (Zy (Ot F p)):=by have:=(Zak (F:=F) (p:=Yk (Ot F p)) (q:=Zy (Yk (Ot F p))) (by rw [f];exact n) (Pm (by rw [f];exact n)) e).2.ed;have h9:Ot F (Ot F p)=Od F (Yk (Ot F p)) (Zy (Yk (Ot F p))):=rfl;rw [<-h9,f]at this;exact this
 have P:∀d,Tr d->Ed d (Ot F p)->Ed d (Zy (Ot F p))->Ed d (Ot F (Ot F p)):=λd I i r=>by unfold Ot at *;have:=Zgp (F:=F) (d:=d) (p:=Yk (Od F (Yk p) (Zy (Yk p)))) (q:=Zy (Yk (Od F (Yk p) (Zy (Yk p))))) (by rw [f];exact n) (Pm (by rw [f];exact n)) (by rw [f];exact i) (by rw [f];exact r);exact this
 rw [f]at b4;generalize hg:Ot F p=g at *;generalize hh:Ot F g=h at *;generalize hu:sqf F p=u at *;generalize a0:sqf F g=t at *;obtain⟨k,s,hk,R⟩:=o;obtain⟨m,w,hm,S⟩:=e2;have hP:∀x:Rat,Zb (Yk p) x=Zb (lmul u g) x:=λx=>by rw [a4,Zx,Zi]
 have hG:∀x:Rat,Zb g x=Zb (lmul t h) x:=λx=>by
  have:Zb g x=Zb (Yy t h) x:=by rw [<-b4]
  rw [this,Zx,Zi]
 have M:∀x:Rat,Zb (Zy (Yk p)) x=Zb (ld u) x*Zb g x+Zb u x*Zb (ld g) x:=λx=>by rw [Ma,Gg _ _ hP,Gv]
 have v:∀x:Rat,(m:Rat)*Zb (ld g) x=Zb w x*Zb h x:=λx=>by rw [<-Ma];exact S x
 have Y:∀x:Rat,(k:Rat)*(Zb (Yy u w) x*Zb h x)=(m:Rat)*(Zb (Yy (Oq s ((ld u).map λc=>(-k)*c)) t) x*Zb h x):=λx=>by rw [Zx,Zx,Yh,Ze];have i:=R x;have r:=M x;have h3:=v x;have h4:=hG x;rw [Zi]at h4;rw [r]at i;have:(k:Rat)*(Zb u x*Zb w x*Zb h x)=Zb u x*k*(Zb w x*Zb h x):=O4;rw [this,<-h3];push_cast;have:Zb u x*(k:Rat)*(m*Zb (ld g) x)=m*(k*(Zb (ld u) x*Zb g x+Zb u x*Zb (ld g) x)-k*Zb (ld u) x*Zb g x):=O4;rw [this,i,h4];grind
 have y:=Ydc G D Y;refine ed_cop (s:=(Yy (Oq s ((ld u).map λc=>(-k)*c)) [m])) hk t2 (w:=tzl w) (Qd w) t3 (λd I i r=>?_) (λx=>?_)
 .have H:Ed d w:=r.congr λx=>Oj w x;have N:Ed (Yy d h) h:=P _ Xk (by
   obtain⟨W,Z,j,o⟩:=i;exact⟨W,Z,j,λx=>by rw [hG x,Zi,Zx];have:=o x;grind⟩) (by
   obtain⟨W,Z,j,o⟩:=H;exact⟨W*m,Z,bA j hm,λx=>by rw [Ma,Zx];have:=o x;have:=v x;push_cast;grind⟩)
  have d0:=(i.len I t2 t3).1;have hl:=Oe I G d0 D;have:=(N.len Xk G D).2;have l2:=aD.2 D;omega
 .rw [Oj,Zx,Qh];have:=y x;rw [Zx,Zx]at this;rw [this];grind
theorem Zve(r:Tr u)(v:u≠[])(f:Tr t)(t0:t≠[])(n:Yk t=t)(h:Ed t u):pdv u t/\u=Yy (Lc u t) t/\Tr (Lc u t)/\Lc u t≠[]:=by
 have l:Yj t=1:=by have:=Zal f t0;rwa [n]at this
 obtain⟨k,s,m,h⟩:=h.dv;obtain⟨q,o⟩:=gauss l _ k s rfl m h;have c:u=Yy (tzl q) t:=r.ext Xk λi=>by rw [Ld,o,Zyd]
 obtain⟨g,j⟩:=Zsk (Qd q) f t0;rw [<-c]at g j;rw [j];exact⟨g,c,Qd q,λe=>v (by rw [c,e,He])⟩
theorem Zk2{F:Nat}(f:Tr p)(l:p≠[])(c:Dw F p)(n:2<=p.length):(Ot F p).length<p.length:=by obtain⟨i,m,-⟩:=Pi f l c;have g:Tr (Yk p):=Ob (Yi f);have j:Ed (Ot F p) (Zy (Yk p)):=(Zak g (Pm g) c).2.ed;have h:=Ph (Yk p);have o:=Qj f;have:=(j.len i (Pm g) (λe=>by rw [e]at h;simp at h;omega)).2;omega
theorem nrm1(m:Tr p)(o:Yk p=p)(f:p.length=1):p=[1]:=by
 have g:p≠[]:=λe=>by rw [e]at f;simp at f
 have j:=Zal m g;have l:0<cf (Yk p) ((Yk p).length-1):=Fs (Yi m) (λe=>g (aF (by rw [<-Zk,e];rfl)));rw [o]at j l
 match p,f with
 | [c],_=>
  have n:0<c:=l;have h:c∣Yj [c]:=Hh λi=>by
   match i with
   | 0=>exact Int.dvd_refl c
   | i+1=>rw [Zv O7];exact iZ c
  rw [j]at h;have:=mL O3 h;rw [show c=1 by omega]
def Dp(p q:List Int):Prop:=Tr q/\q≠[]/\Yk q=q/\∃a,Tr a/\Yk p=Yy a q
theorem Dp.start(c:Tr p)(f:p≠[]):Dp p (Yk p):=
 ⟨Ob (Yi c),Zgu c f,Zp7 (Ob (Yi c)) (Zal c f) (Fs (Yi c) (λe=>f (aF (by rw [<-Zk,e];rfl)))),[1],.inr (show cf [1] 0≠0 by decide),by refine(Ob (Yi c)).ext Xk λi=>?_;rw [Ld,Znj];rfl⟩
theorem Dp.sz{n:Nat}(i:Tr p)(r:p≠[])(hs:Sz n p)(y:p.length<=13)(h:Dp p q):Sz (n+15) q/\q.length<=p.length:=by obtain⟨l,s,x,a,m,e⟩:=h;have v:fcs 0 13<=2^15*2^15:=O5;have f:=Qj i;have c:=Zgu i r;have w:Tr (Yk p):=Ob (Yi i);have j:a≠[]:=λo=>c (by rw [e,o,He]);refine⟨Cy 13 24 l m (Zpp hs) c w O O3 v (by rw [Ds];exact e),?_⟩;have g:=Oe m l j s;rw [<-e,f]at g;have:=aD.2 j;omega
theorem Dp.ok{n F:Nat}(e:Tr p)(c:p≠[])(hs:Sz n p)(j:n<=220)(i:p.length<=11)(g:p.length<=F+1)(h:Dp p q):Eg F q/\Dw F q:=by obtain⟨f,l⟩:=h.sz e c hs O;have:=(chG F h.1 h.2.1 f O O O).1;exact⟨this,this.1.2.2.1⟩
theorem Dp.next{F:Nat}(h:Dp p q)(c:Dw F q):Dp p (Ot F q):=by obtain⟨m,n,o,a,s,e⟩:=h;obtain⟨g,j,l,f,r⟩:=Pi m n c;refine⟨g,j,l,Yy a (sqf F q),Xk,?_⟩;rw [o]at f;refine e.trans ((aP (Yy a) f).trans ?_);refine(Xk).ext Xk λi=>Nf (λx=>?_) i;rw [Zx,Zx,Zx,Zx];grind
def Zbi(F:Nat):Nat->List Int->List Int
 | 0,p=>sqf F p
 | f+1,p=>if(sqf F p).length=1 then sqf F p else Yy (Lc (sqf F p) (sqf F (Ot F p))) (Zbi F f (Ot F (Ot F p)))
def Znm(F:Nat):Nat->List Int->List Int->List Int
 | 0,c,_=>c
 | f+1,c,q=>if(sqf F q).length=1 then c else if(sqf F (Ot F q)).length=1 then Yy c (Lc (sqf F q) (sqf F (Ot F q)))else Znm F f (Yy c (Lc (sqf F q) (sqf F (Ot F q)))) (Ot F (Ot F q))
theorem Zff{F:Nat}(f:Tr q)(e:q≠[])(c:Dw F q)(h:(sqf F q).length=1):sqf F q=[1]/\q.length=1/\(Ot F q).length=1:=by
 obtain⟨f1,f2,f3,f4,f5,f6⟩:=Pn F f e c;obtain⟨j,l,m,n,o⟩:=Pi f e c;have r:=aD.2 e;have i:q.length=1:=by
  rcases bJ q.length 2 with g|g
  .omega
  .have:=Zk2 f e c g;omega
 exact⟨nrm1 f2 f6 h,i,O⟩
theorem Zkh(c:Tr p):Yy p [1]=p:=by refine(Xk).ext c λi=>Nf (λx=>?_) i;rw [Zx,Qh];push_cast;grind
theorem Zyk{F:Nat}(g:Tr q)(e:q≠[])(c:Dw F q)(h:q.length=1):∀f,Zbi F f q=[1]:=λf=>by
 obtain⟨f1,f2,f3,f4,f5,f6⟩:=Pn F g e c;obtain⟨j,i,l,m,n⟩:=Pi g e c;have o:=aD.2 f3;have r:=aD.2 i;have hs:(sqf F q).length=1:=O;have:=(Zff g e c hs).1;cases f with
 | zero=>exact this
 | succ f=>unfold Zbi;rw [aG hs];exact this
theorem Zsf (p:List Int){F:Nat}{f:Nat}(g:Tr q)(e:q≠[])(c:Dw F q):Tr (Zbi F f q):=by
 obtain⟨f1,f2,f3,f4,f5,f6⟩:=Pn F g e c;cases f with
 | zero=>exact f2
 | succ f=>unfold Zbi;split;exact f2;exact Xk
theorem Yds{F n:Nat}(G:Tr p)(s:p≠[])(hs:Sz n p)(D:n<=220)(w:p.length<=11)(v:p.length<=F+1):∀(f:Nat) (h q:List Int),Tr h->Dp p q->q.length<=f->Znm F f h q=Yy h (Zbi F f q):=by
 intro f
 induction f with
 | zero=>intro h q _ e y;have:=aD.2 e.2.1;omega
 | succ f N=>
  intro h q M e y;have g:=(e.ok G s hs D w v).2;have l:=e.next g;have c:=(l.ok G s hs D w v).2;have j:=l.next c;have o:=(j.ok G s hs D w v).2;unfold Znm Zbi;by_cases m:(sqf F q).length=1
  .rw [aG m,aG m,(Zff e.1 e.2.1 g m).1,Zkh M]
  .rw [aE m,aE m];have P:2<=q.length:=by obtain⟨f1,f2,f3,f4,f5,f6⟩:=Pn F e.1 e.2.1 g;obtain⟨V,H,W,Y,Z⟩:=Pi e.1 e.2.1 g;have l1:=aD.2 f3;have l2:=aD.2 H;omega
   have R:=Zk2 e.1 e.2.1 g P;obtain⟨-,-,-,-,b5⟩:=Pi l.1 l.2.1 c;obtain⟨-,b2,I,-,-,-⟩:=Pn F l.1 l.2.1 c;have lb:=aD.2 I;by_cases r:(sqf F (Ot F q)).length=1
   .obtain⟨s1,s2,S⟩:=Zff l.1 l.2.1 c r;rw [aG r,Zyk j.1 j.2.1 o S];refine(Xk).ext Xk λi=>Nf (λx=>?_) i;rw [Zx,Zx,Zx,Qh];push_cast;grind
   .rw [aE r,N _ _ Xk j O];refine(Xk).ext Xk λi=>Nf (λx=>?_) i;rw [Zx,Zx,Zx,Zx];grind
def Zx2(F:Nat)(p:List Int):List Int:=Lc (Yc (Zs p) 1) (sqf F p)
def rrest(F:Nat)(p:List Int):List Int:=Lc (Zs (Zx2 F p)) (sqf F (Zx2 F p))
def rodd(F:Nat):Nat->List Int->List Int
 | 0,p=>sqf F p
 | f+1,p=>if(sqf F p).length=1 then sqf F p else Yy (Lc (sqf F p) (sqf F (Zx2 F p))) (rodd F f (rrest F p))
theorem Zj2{F:Nat}(h:Yk p=Yk q):sqf F p=sqf F q:=by unfold sqf;rw [h]
def Dr(F:Nat)(q:List Int):List Int:=Lc (sqf F q) (sqf F (Ot F q))
theorem Ad{F:Nat}(f:Tr q)(g:q≠[])(e:Dw F q)(c:Dw F (Ot F q)):pdv (sqf F q) (sqf F (Ot F q))/\sqf F q=Yy (Dr F q) (sqf F (Ot F q))/\Tr (Dr F q)/\Dr F q≠[]:=by obtain⟨f1,f2,f3,f4,f5,f6⟩:=Pn F f g e;obtain⟨h,i,j,l,m⟩:=Pi f g e;obtain⟨-,t2,t3,-,-,t6⟩:=Pn F h i c;exact Zve f2 f3 t2 t3 t6 (Zso f g e c)
theorem Zqo{n:Nat}(i:Tr p)(r:p≠[])(hs:Sz n p)(w:p.length<=13)(m:Tr a)(o:Tr b)(e:Yk p=Yy a b):Sz (n+15) b/\b.length<=p.length/\b≠[]:=by have s:fcs 0 13<=2^15*2^15:=O5;have g:=Qj i;have c:=Zgu i r;have v:Tr (Yk p):=Ob (Yi i);have j:a≠[]:=λf=>c (by rw [e,f,He]);have l:b≠[]:=λf=>c (by rw [e,f,Zbk]);refine⟨Cy 13 24 o m (Zpp hs) c v O O3 s (by rw [Ds];exact e),?_,l⟩;have h:=Oe m o j l;rw [<-e,g]at h;have:=aD.2 j;omega
def Op(p c q:List Int):Prop:=∃a,Tr a/\Yk p=Yy a (Yy c q)
theorem Op.start(c:Tr p):Op p [1] (Yk p):=⟨[1],.inr (show cf [1] 0≠0 by decide),by refine(Ob (Yi c)).ext Xk λi=>Nf (λx=>?_) i;rw [Zx,Zx,Qh];push_cast;show Zb (Yk p) x=_;grind⟩
theorem Op.next{g:List Int}{F:Nat}(m:Tr q)(n:q≠[])(D:Yk q=q)(f:Dw F q)(c:Dw F (Ot F q))(h:Op p g q):Op p (Yy g (Dr F q)) (Ot F (Ot F q)):=by
 obtain⟨a,I,e⟩:=h;obtain⟨-,G,M,N⟩:=Ad m n f c;obtain⟨o,r,s,j,H⟩:=Pi m n f;obtain⟨-,-,-,l,-⟩:=Pi o r c;rw [D]at j;rw [s]at l;refine⟨Yy a (Yy (sqf F (Ot F q)) (sqf F (Ot F q))),Xk,e.trans ?_⟩;refine(Xk).ext Xk λi=>Nf (λx=>?_) i;have v:Zb q x=Zb (sqf F q) x*Zb (Ot F q) x:=by rw [<-Zx,<-j]
 have w:Zb (sqf F q) x=Zb (Dr F q) x*Zb (sqf F (Ot F q)) x:=by rw [<-Zx,<-G]
 have y:Zb (Ot F q) x=Zb (sqf F (Ot F q)) x*Zb (Ot F (Ot F q)) x:=by rw [<-Zx,<-l]
 simp only [Zx];rw [v,w];rw [y];generalize Zb (sqf F (Ot F q)) x=A;generalize Zb (Ot F (Ot F q)) x=B;grind
theorem Op.sz{c:List Int}{n:Nat}(l:Tr p)(f:p≠[])(hs:Sz n p)(g:p.length<=13)(j:Tr c)(o:Tr q)(h:Op p c q):Sz (n+15) c/\c.length<=p.length/\c≠[]:=by obtain⟨a,m,e⟩:=h;exact Zqo l f hs g (Xk (p:=a) (q:=q)) j (e.trans ((Xk).ext Xk λi=>Nf (λx=>by rw [Zx,Zx,Zx,Zx];grind) i))
theorem Ydk(c:Tr p):Yy [1] p=p:=by rw [Ds];exact Zkh c
def Zfy{F:Nat}(g:Tr xs)(e:xs≠[])(f:Eg F xs){s t:Rat}(c:s<=t):Dd F xs t<=Dd F xs s:=Zhu g e f c
def Sqn.imp{P c:R2->R2->Prop}{hi:Rat}(e:∀x y,P x y->c x y):∀{lo:Rat} {l:List (R2×R2)},Sqn P hi lo l->Sqn c hi lo l
 | _,[],h=>h
 | _,_::_,h=>⟨h.1,h.2.1,e _ _ h.2.2.1,Sqn.imp e h.2.2.2⟩
def oe(f:Nat->Int):Nat->Int
 | 0=>0
 | k+1=>err (oe f k) (f k)
def mon(d n:Nat):List Int:=mono d ((2:Int)^n)
variable {P:Program} {N:Nat} {sc:Nat->Prop} {env:Xu} {H:Hp}
end Go.Sky
namespace Go.Sky
variable{f:Rat->Rat}{xs p o:List Int}{x a b:Rat}
def HD(xs ys:List Int):Prop:=Vp ys/\ys≠[]/\Dj ys/\Eg 13 ys/\Bo 13 ys=Bo 13 xs
def PH(xs:List Int)(x y:R2):Prop:=(0<x.2/\bl x.1.natAbs<=506/\bl x.2.natAbs<=506)/\(0<y.2/\bl y.1.natAbs<=506/\bl y.2.natAbs<=506)/\cvc 13 xs x-cvc 13 xs y=1
def DR:R2×R2:=((0,0),(0,0))
theorem Zdl(d:Rat){h:Rat}(c:0<h):∃n:Nat,d<=(n:Rat)*h:=by
 have i:0<h⁻¹:=fH.2 c;refine⟨(d*h⁻¹).ceil.toNat,?_⟩;have e:=@nH (d*h⁻¹);have g:(((d*h⁻¹).ceil:Int):Rat)<=(((d*h⁻¹).ceil.toNat:Nat):Rat):=by have:(d*h⁻¹).ceil<=(((d*h⁻¹).ceil.toNat:Nat):Int):=kN _;exact_mod_cast this
 have j:=cT (mZ e g) (show 0<=h by grind);have k:d*h⁻¹*h=d:=O4;grind
theorem Zln{u v:Rat}(h:crs f u v<=0)(d:f u≠0):0<f u*f v:=by
 unfold crs at h;by_cases c:f u≠0/\f u*f v<=0
 .rw [aG c]at h;exact absurd h O3
 .have:¬f u*f v<=0:=λe=>c ⟨d,e⟩;grind
theorem Zat{F:Nat}(l:Tr xs)(i:xs≠[])(j:Eg F xs){s t:Rat}(G:s<=t)(D:Dd F xs s<=Dd F xs t)(hs:Zb (sqf F xs) s≠0):∀y,s<=y->y<=t->0<Zb (sqf F xs) s*Zb (sqf F xs) y:=by
 obtain⟨h,z,B⟩:=Zht l i j s t;have g:∀u v,s<=u->u<=v->v<=t->v-u<=h->crs (Zb (sqf F xs)) u v<=0:=λu v a b c d=>by have e:=B u v a b c d;have R:Bn ((Bo F xs).map Zb) u<=Bn ((Bo F xs).map Zb) s:=Zhu l i j a;have S:Bn ((Bo F xs).map Zb) t<=Bn ((Bo F xs).map Zb) v:=Zhu l i j c;have V:Bn ((Bo F xs).map Zb) s<=Bn ((Bo F xs).map Zb) t:=D;omega
 generalize Zb (sqf F xs)=f at *;have m:∀n:Nat,∀y,s<=y->y<=t->y-s<=(n:Rat)*h->0<f s*f y:=λn=>by
  induction n with
  | zero=>
   intro y a b c;have:y=s:=by push_cast at c;grind
   subst this;exact Zln (g _ _ a O4 b O4) hs
  | succ n P=>
   intro y a b c;push_cast at c;by_cases H:y-s<=h
   .exact Zln (g s y O4 a b H) hs
   .have r:=P (y-h) O4 O4 O4;have I:f (y-h)≠0:=λe=>by rw [e]at r;grind
    have M:=Zln (g (y-h) y O4 O4 b O4) I;have N:=aV r M;have w:f s*f (y-h)*(f (y-h)*f y)=(f (y-h)*f (y-h))*(f s*f y):=O4;rw [w]at N;have Q:0<f (y-h)*f (y-h):=by
     rcases(show 0<f (y-h)\/f (y-h)<0 by grind)with q|q
     .exact aV q q
     .have:=aV (a:=-f (y-h)) (b:=-f (y-h)) O4 O4;grind
    rcases(show 0<f s*f y\/f s*f y<=0 by grind)with q|q
    .exact q
    .have:=aC (a:=f (y-h)*f (y-h)) (b:=-(f s*f y)) O4 O4;grind
 intro y a b;obtain⟨n,k⟩:∃n:Nat,y-s<=(n:Rat)*h:=by obtain⟨n,k⟩:=Zdl (y-s) z;exact⟨n,k⟩
 exact m n y a b k
theorem Zcy (p:List Int)(s:Rat)(t:Rat)(B:s<=t)(v:∀u,s<=u->u<=t->0<=Zb (ld p) u):Zb p s<=Zb p t:=by
 rcases(show Zb p s<=Zb p t\/Zb p t<Zb p s by grind)with h|h
 .exact h
 .exfalso;obtain⟨M,V,H⟩:=Zfl s t p;have y:s<t:=by
   rcases(show s<t\/s=t by grind)with d|d
   .exact d
   .rw [d]at h;grind
  obtain⟨n,z⟩:=Zdl (M*(t-s)*(t-s)+1) (show 0<Zb p s-Zb p t by grind);have g:(0:Rat)<(n:Rat):=by
   rcases aU n with d|d
   .subst d;have:=aC (a:=M*(t-s)) (b:=t-s) (aC O4 O4) O4;push_cast at z;grind
   .exact_mod_cast d
  have m:(n:Rat)≠0:=λe=>by rw [e]at g;exact absurd g O3
  have c:(n:Rat)*((t-s)/n)=t-s:=by rw [iC,<-jI,lE (n:Rat),jI,kE _ m,Rat.mul_one]
  have q:∀k:Nat,(k:Rat)<=(n:Rat)->-(M*((t-s)/n)*((t-s)/n))*k<=Zb p (s+k*((t-s)/n))-Zb p s:=λk=>by
   induction k with
   | zero=>intro _;push_cast;rw [show s+0*((t-s)/n)=s by grind];grind
   | succ k D=>
    intro w;push_cast at w ⊢;have Q:=D O4;have l:0<=(t-s)/n:=by rw [iC];exact aC O4 (cJ (fH.2 g))
    have i:=c;generalize (t-s)/(n:Rat)=h at *;have F:(0:Rat)<=(k:Rat):=by exact_mod_cast aZ k
    have I:=aC (a:=(k:Rat)) (b:=h) F l;have N:=aC (a:=(n:Rat)-(k+1)) (b:=h) O4 l;have j:=(H (s+k*h) (s+(k+1)*h) O4 O4 O4).1;have e:=v (s+k*h) O4 O4;have P:=aC l e;rw [show s+(k+1)*h-(s+k*h)=h by grind]at j;grind
  have r:=q n O4;have i:=c;rw [i,show s+(t-s)=t by grind]at r;have G:-(M*((t-s)/n)*((t-s)/n))*n=-(M*((t-s)/n)*(t-s)):=O4;rw [G]at r;have R:M*((t-s)/n)*(t-s)*n=M*(t-s)*(t-s):=O4;have S:=aC (a:=Zb p t-Zb p s+M*((t-s)/n)*(t-s)) (b:=(n:Rat)) O4 O4;grind
theorem Zcm(p:List Int)(x:Rat):Zb (p.map λa=>-1*a) x=-Zb p x:=by rw [Ze];push_cast;grind
theorem Zjp (p:List Int){s t:Rat}(k:s<t)(e:∀u,s<u->u<=t->0<Zb (ld p) u)(g:0<=Zb (ld p) s):Zb p s<Zb p t:=by
 have i:s<(s+t)/2/\(s+t)/2<t:=by constructor<;>grind
 generalize (s+t)/2=m at *;have r:=Zcy p s m O4 (λu a b=>by
  rcases(show s<u\/u=s by grind)with h|h
  .exact cJ (e u h O4)
  .rw [h];exact g)
 obtain⟨M,l,n⟩:=Zfl m t p;have j:=e m i.1 O4;obtain⟨η,q,w,y⟩:=Lq (show 0<t-m by grind) l (show 0<Zb (ld p) m/2 by grind);have b:=(n m (m+η) O4 O4 O4).1;rw [show m+η-m=η by grind]at b;have v:=Zcy p (m+η) t O4 (λu a b=>cJ (e u O4 b));have c:=aC (a:=η) (b:=Zb (ld p) m/2-η*M) O4 O4;have d:=aV q j;grind
def Iw:Nat->List Int->Rat->Int
 | 0,_,_=>0
 | n+1,p,x=>if Zb p x≠0 then Ix (Zb p x)else Iw n (Zy p) x
def Zr5(h:0<x):Ix x=1:=Ei h
def Ziy(h:x<0):Ix x=-1:=Ej h
theorem Zm3(h:x=0):Ix x=0:=by subst h;rfl
theorem Qa(x:Rat):(0<x/\Ix x=1)\/(x<0/\Ix x=-1)\/(x=0/\Ix x=0):=by
 rcases(show 0<x\/x<0\/x=0 by grind)with h|h|h
 .exact .inl ⟨h,Zr5 h⟩
 .exact .inr (.inl ⟨h,Ziy h⟩)
 .exact .inr (.inr ⟨h,Zm3 h⟩)
theorem Zra(n:Nat)(p:List Int)(x:Rat)(h:Zb p x≠0)(c:p.length<=n):Iw n p x=Ix (Zb p x):=by
 cases n with
 | zero=>have:p=[]:=aF O;subst this;exact absurd rfl h
 | succ n=>unfold Iw;rw [aG h]
theorem Zja(p:List Int)(x:Rat)(h:Zb p x≠0):∃δ:Rat,0<δ/\∀y,x<y->y<=x+δ->Ix (Zb p y)=Ix (Zb p x):=by
 obtain⟨L,r,k⟩:=Gu x (x+1) p;have i:0<(if 0<Zb p x then Zb p x else -Zb p x):=by split<;>grind
 obtain⟨δ,j,m,g⟩:=Lq (show(0:Rat)<1 by decide) (show 0<L+1 by grind) (show 0<(if 0<Zb p x then Zb p x else -Zb p x)/2 by grind);refine⟨δ,j,λy n q=>?_⟩;have l:=k x y O4 O4 O4;have b:=aC (a:=L) (b:=δ-(y-x)) O4 O4;have c:L*(y-x)<=δ*(L+1):=O4;rcases Qa (Zb p x)with⟨d,e⟩|⟨d,e⟩|⟨d,e⟩
 .rw [aG d]at g i;rw [e];exact Zr5 O4
 .rw [aE O4]at g i;rw [e];exact Ziy O4
 .exact absurd d h
theorem Fx:∀(n:Nat) (p:List Int) (x:Rat),p.length<=n->∃δ:Rat,0<δ/\∀y,x<y->y<=x+δ->Ix (Zb p y)=Iw n p x
 | 0,p,x,q=>⟨1,O3,λy _ _=>by have:p=[]:=aF O;subst this;exact Zm3 rfl⟩
 | n+1,p,x,q=>by
  by_cases h:Zb p x≠0
  .rw [Zra (n+1) p x h q];exact Zja p x h
  .have F:Zb p x=0:=jA.1 h;have B:=Ph p;obtain⟨δ,v,w⟩:=Fx n (Zy p) x O;have z:Iw (n+1) p x=Iw n (Zy p) x:=by unfold Iw;rw [aE h];cases n<;>rfl
   have k:Zb (ld p) x≠0->Ix (Zb (ld p) x)=Iw n (Zy p) x:=λg=>by rw [<-Ma]at g ⊢;exact(Zra n (Zy p) x g O).symm
   refine⟨δ,v,λy l G=>?_⟩;rw [z];have i:∀u,x<u->u<=y->Ix (Zb (ld p) u)=Iw n (Zy p) x:=λu a b=>by rw [<-Ma];exact w u a O4
   have e:=i y l O4;generalize Iw n (Zy p) x=σ at *;rcases Qa (Zb (ld p) y)with⟨m,j⟩|⟨m,j⟩|⟨m,j⟩
   .rw [j]at e;subst e;refine Zr5 ?_;have:=Zjp p l (λu a b=>by
     rcases Qa (Zb (ld p) u)with⟨d,c⟩|⟨d,c⟩|⟨d,c⟩
     .exact d
     .have:=i u a b;rw [c]at this;exact absurd this O3
     .have:=i u a b;rw [c]at this;exact absurd this O3) (by
     rcases Qa (Zb (ld p) x)with⟨d,c⟩|⟨d,c⟩|⟨d,c⟩
     .exact cJ d
     .have:=k O4;rw [c]at this;exact absurd this O3
     .grind)
    grind
   .rw [j]at e;subst e;refine Ziy ?_;have r:∀u,Zb (ld (p.map λa=>-1*a)) u=-Zb (ld p) u:=λu=>by rw [El];push_cast;grind
    have:=Zjp (p.map λa=>-1*a) l (λu a b=>by
     rw [r];rcases Qa (Zb (ld p) u)with⟨d,c⟩|⟨d,c⟩|⟨d,c⟩
     .have:=i u a b;rw [c]at this;exact absurd this O3
     .grind
     .have:=i u a b;rw [c]at this;exact absurd this O3) (by
     rw [r];rcases Qa (Zb (ld p) x)with⟨d,c⟩|⟨d,c⟩|⟨d,c⟩
     .have:=k O4;rw [c]at this;exact absurd this O3
     .grind
     .grind)
    rw [Zcm,Zcm]at this;grind
   .rw [j]at e;subst e;refine Zm3 ?_;have s:∀u,x<=u->u<=y->Zb (ld p) u=0:=λu a b=>by
     rcases(show x<u\/u=x by grind)with g|g
     .rcases Qa (Zb (ld p) u)with⟨d,c⟩|⟨d,c⟩|⟨d,c⟩
      .have:=i u g b;rw [c]at this;exact absurd this O3
      .have:=i u g b;rw [c]at this;exact absurd this O3
      .exact d
     .subst g;rcases Qa (Zb (ld p) u)with⟨d,c⟩|⟨d,c⟩|⟨d,c⟩
      .have:=k O4;rw [c]at this;exact absurd this O3
      .have:=k O4;rw [c]at this;exact absurd this O3
      .exact d
    have D:=Zcy p x y O4 (λu a b=>by rw [s u a b];grind);have t:=Zcy (p.map λa=>-1*a) x y O4 (λu a b=>by rw [El,s u a b];push_cast;grind);rw [Zcm,Zcm]at t;grind
theorem Ed.mul_l{a b c:List Int}(h:Ed a b):Ed (Yy c a) (Yy c b):=by obtain⟨k,s,d,e⟩:=h;exact⟨k,s,d,λx=>by rw [Zx,Zx];have:=e x;grind⟩
theorem Ky{F n:Nat}(v:Tr p)(m:p≠[])(hs:Sz n p)(u:n<=220)(s:p.length<=11)(r:p.length<=F+1):∀(f:Nat) (q:List Int),Dp p q->q.length<=f->
  (∃B:List Int,∀x:Rat,Zb q x=Zb (Zbi F f q) x*(Zb B x*Zb B x))/\Ed (Zbi F f q) (sqf F q):=by
 intro f
 induction f with
 | zero=>intro q d t;have:=aD.2 d.2.1;omega
 | succ f W=>
  intro q d t;have g:=(d.ok v m hs u s r).2;have h:=d.next g;have e:=(h.ok v m hs u s r).2;have i:=h.next e;unfold Zbi;by_cases l:(sqf F q).length=1
  .rw [aG l];obtain⟨s1,s2,s3⟩:=Zff d.1 d.2.1 g l;refine⟨⟨[1],λx=>?_⟩,Ed.refl _⟩;rw [s1,nrm1 d.1 d.2.2.1 s2,Qh];push_cast;grind
  .rw [aE l];have Y:2<=q.length:=by obtain⟨f1,f2,f3,f4,f5,f6⟩:=Pn F d.1 d.2.1 g;obtain⟨H,w,y,k,I⟩:=Pi d.1 d.2.1 g;have l1:=aD.2 f3;have l2:=aD.2 w;omega
   have Z:=Zk2 d.1 d.2.1 g Y;obtain⟨H,w,y,k,I⟩:=Pi d.1 d.2.1 g;obtain⟨b1,b2,b3,z,b5⟩:=Pi h.1 h.2.1 e;obtain⟨-,t2,t3,-,-,-⟩:=Pn F h.1 h.2.1 e;have lb:=aD.2 t3;obtain⟨⟨B,R⟩,V⟩:=W _ i O;obtain⟨-,G,o3,o4⟩:=Ad d.1 d.2.1 g e;have j:=(i.ok v m hs u s r).2;rw [d.2.2.1]at k;rw [y]at z;have M:∀x,Zb q x=Zb (sqf F q) x*Zb (Ot F q) x:=λx=>by rw [<-Zx,<-k]
   have N:∀x,Zb (sqf F q) x=Zb (Dr F q) x*Zb (sqf F (Ot F q)) x:=λx=>by rw [<-Zx,<-G]
   have P:∀x,Zb (Ot F q) x=Zb (sqf F (Ot F q)) x*Zb (Ot F (Ot F q)) x:=λx=>by rw [<-Zx,<-z]
   refine⟨⟨Yy (sqf F (Ot F q)) B,λx=>?_⟩,?_⟩
   .rw [Zx,Zx,M x,N x,P x,R x];show _=Zb (Dr F q) x*_*_;generalize Zb (sqf F (Ot F q)) x=S;generalize Zb B x=C;grind
   .have Q:Ed (Zbi F f (Ot F (Ot F q))) (sqf F (Ot F q)):=V.trans (Zso h.1 h.2.1 e j);have D:=Q.mul_l (c:=Dr F q);rw [<-G]at D;exact D
theorem Znh{F n:Nat}(P:Tr p)(I:p≠[])(hs:Sz n p)(hn:n<=220)(hl:p.length<=11)(hF:p.length<=F+1)(u:Tr o)(R:o≠[])(g:Dw F o)(r:Dw F p)(h:Ed o (sqf F p)):(Ot F o).length=1/\sqf F o=Yk o:=by
 obtain⟨D,S,V,G,a5⟩:=Pi u R g;obtain⟨f1,f2,f3,f4,f5,f6⟩:=Pn F P I r;obtain⟨-,s2,s3,s4,s5,s6⟩:=Pn F u R g;have Q:Tr (Yk o):=Ob (Yi u);have M:=Zak Q (Pm Q) g;have H:Ed (Ot F o) (Yk o):=M.1.ed;have W:Ed (Ot F o) (ld (Yk o)):=(M.2.ed:Ed (Ot F o) (Zy (Yk o))).congr λx=>Ma _ x;have s:Sim (Yk o) o:=(Mx (Zs o)).trans (Xt u);obtain⟨k,w,t,l⟩:Ed (Yk o) (sqf F p):=by
  obtain⟨k,w,t,e⟩:=h;obtain⟨c,d,hc,B,v⟩:=s;have j:∀x:Rat,(c:Rat)*Zb (Yk o) x=(d:Rat)*Zb o x:=λx=>by rw [<-Ze,<-Ze];exact Qq x _ _ λi=>by rw [Xa,Xa];exact v i
  exact⟨d*k,w.map λa=>c*a,bA B t,λx=>by rw [Ze];have a:=e x;have b:=j x;push_cast;grind⟩
 have N:(Ot F o).length<=1:=by
  refine Zce P I r D (H.trans ⟨k,w,t,l⟩) ?_;have Y:Ed (Ot F o) (lmul w (ld (Yk o))):=by obtain⟨m,z,hm,e⟩:=W;exact⟨m,lmul w z,hm,λx=>by rw [Zi,Zi];have:=e x;grind⟩
  have Z:Ed (Ot F o) (ld (sqf F p)):=Ed.lin H Y (ld w) k t λx=>by have:=Gg ((sqf F p).map λa=>k*a) (lmul w (Yk o)) (λy=>by rw [Ze,Zi];exact l y) x;rw [El,Gv]at this;rw [Zi,this]
  exact Z.congr λx=>(Ma _ x).symm
 have q:(Ot F o).length=1:=by have:=aD.2 S;omega
 refine⟨q,?_⟩;rw [nrm1 D V q,Zkh s2]at G;exact G.symm
theorem Zcg{a b:List Int}(h:Sim a b):∃c d:Int,c≠0/\d≠0/\∀x:Rat,(c:Rat)*Zb a x=(d:Rat)*Zb b x:=by obtain⟨c,d,g,j,e⟩:=h;exact⟨c,d,g,j,λx=>by rw [<-Ze,<-Ze];exact Qq x _ _ λi=>by rw [Xa,Xa];exact e i⟩
theorem Kl(h:x≠0):0<x*x:=by
 rcases(show 0<x\/x<0 by grind)with q|q
 .exact aV q q
 .have:=aV (a:=-x) (b:=-x) O4 O4;grind
theorem Qb{c:Int}(h:c≠0):(c:Rat)≠0:=λe=>h (by exact_mod_cast e)
theorem Zct{e g c d:Rat}(j:c≠0)(k:d≠0)(l:c*e=d*a)(m:c*g=d*b)(h:a*b<0):e*g<0:=by
 have n:(c*c)*(e*g)=(d*d)*(a*b):=O4;have r:=Kl j;have i:=Kl k;rcases(show e*g<0\/0<=e*g by grind)with q|q
 .exact q
 .have s:=aC (a:=c*c) (b:=e*g) O4 q;have t:=aV (a:=d*d) (b:=-(a*b)) i O4;grind
theorem Zyu{e o2 c d:Rat}(h:e*(c*c)*(o2*(d*d))<0):e*o2<0:=by
 rcases(show e*o2<0\/0<=e*o2 by grind)with q|q
 .exact q
 .have i:0<=c*d*(c*d):=by
   by_cases g:c*d=0
   .rw [g];grind
   .exact cJ (Kl g)
  have j:=aC q i;grind
theorem Zi9{F n:Nat}(i:Tr p)(k:p≠[])(hs:Sz n p)(G:n<=220)(D:p.length<=11)(w:p.length<=F+1)(ho:o=Zbi F p.length (Yk p))(g:Tr o)(M:o≠[])(u:Eg F o)(Z:a<b)(Y:Iw p.length p a=1)(h2:Zb p b<0):Dd F o b<Dd F o a:=by
 have m:=Dp.start i k;have h:=(m.ok i k hs G D w).2;have j:Dw F p:=by unfold Dw at h ⊢;rwa [m.2.2.1]at h
 obtain⟨⟨B,t⟩,v⟩:=Ky i k hs G D w p.length (Yk p) m (by rw [Qj i];exact aH _);rw [<-ho]at t v;rw [Zj2 m.2.2.1]at v;obtain⟨-,I⟩:=Znh i k hs G D w g M u.1.2.2.1 j v;obtain⟨δ,d1,V⟩:=Fx p.length p a (aH _);obtain⟨s,R,s2,S⟩:∃s,a<s/\s<=a+δ/\s<b:=by
  rcases(show a+δ<b\/b<=a+δ by grind)with q|q
  .exact⟨a+δ,O4,O4,q⟩
  .exact⟨(a+b)/2,O4,O4,O4⟩
 have H:0<Zb p s:=by
  have:=V s R s2;rw [Y]at this;rcases Qa (Zb p s)with⟨r,l⟩|⟨r,l⟩|⟨r,l⟩
  .exact r
  .rw [l]at this;exact absurd this O3
  .rw [l]at this;exact absurd this O3
 have k1:Zb p s*Zb p b<0:=by have:=aV (a:=Zb p s) (b:=-Zb p b) H O4;grind
 obtain⟨c,d,hc,hd,e⟩:=Zcg ((Mx (Zs p)).trans (Xt i):Sim (Yk p) p);have P:Zb (Yk p) s*Zb (Yk p) b<0:=Zct (Qb hc) (Qb hd) (e s) (e b) k1;rw [t s,t b]at P;have k3:=Zyu P;obtain⟨c',d',y,z,N⟩:=Zcg ((Mx (Zs o)).trans (Xt g):Sim (Yk o) o);have Q:Zb (Yk o) s*Zb (Yk o) b<0:=Zct (Qb y) (Qb z) (N s) (N b) k3;rw [<-I]at Q;have m1:=Zfy g M u (cJ R);rcases iH (Dd F o b) (Dd F o s)with q|q
 .exact Int.lt_of_lt_of_le q m1
 .exfalso;have hz:Zb (sqf F o) s≠0:=λW=>by rw [W]at Q;grind
  have:=Zat g M u (cJ S) q hz b (cJ S) O4;grind
theorem Zdm:∀(n:Nat) (p:List Int) (x:Rat),Tr p->p≠[]->p.length<=n->Iw n p x≠0
 | 0,p,x,_,i,r=>absurd (aF O) i
 | n+1,p,x,l,i,r=>by
  unfold Iw;by_cases h:Zb p x≠0
  .rw [aG h];rcases Qa (Zb p x)with⟨j,g⟩|⟨j,g⟩|⟨j,g⟩
   .rw [g];decide
   .rw [g];decide
   .exact absurd j h
  .rw [aE h];have m:Zb p x=0:=jA.1 h;have d:=Ph p;refine Zdm n (Zy p) x (Pm l) (λe=>?_) O;rw [e]at d;have s:=aD.2 i;have k:p.length=1:=by simp at d;omega
   match p,k with
   | [c],_=>
    have q:c≠0:=l.mem O7;rw [Qh]at m;exact Qb q m
theorem Zl8(n:Nat)(p:List Int)(x:Rat):-1<=Iw n p x/\Iw n p x<=1:=by
 induction n generalizing p with
 | zero=>show -1<=(0:Int)/\(0:Int)<=1;decide
 | succ n c=>unfold Iw;split;exact Zxy;exact c _
def Ev(F:Nat)(o:List Int)(a b:Rat):Prop:=0<Dd F o a-Dd F o b-(if Zb o b=0 then 1 else 0)
theorem Zy2{F n:Nat}(g:Tr p)(i:p≠[])(hs:Sz n p)(w:n<=220)(v:p.length<=11)(u:p.length<=F+1)(y:o=Zbi F p.length (Yk p))(m:Tr o)(N:o≠[])(H:Eg F o)(k:a<b) :
  (Zb p a<0\/Zb p b<0\/Iw p.length p a<0\/Ev F o a b)↔(Iw p.length p a<0\/Ev F o a b):=by
 constructor
 .rintro(h|h|h|h)
  .left;rw [Zra p.length p a O4 (aH _),Ziy h];decide
  .have r:=Zl8 p.length p a;have r0:=Zdm p.length p a g i (aH _);rcases(show Iw p.length p a<0\/Iw p.length p a=1 by omega)with j|j
   .exact .inl j
   .right;have Q:=Zi9 g i hs w v u y m N H k j h;have I:=Dp.start g i;obtain⟨⟨B,t⟩,-⟩:=Ky g i hs w v u p.length (Yk p) I (by rw [Qj g];exact aH _);rw [<-y]at t;obtain⟨c,d,P,M,e⟩:=Zcg ((Mx (Zs p)).trans (Xt g):Sim (Yk p) p);have l:Zb o b≠0:=λz=>by
     have s:(c:Rat)*Zb (Yk p) b=(d:Rat)*Zb p b:=e b;rw [t b,z]at s;have D:=Qb M;have G:(d:Rat)*Zb p b=0:=by rw [<-s];grind
     rcases eG.1 G with q|q
     .exact D q
     .rw [q]at h;grind
    unfold Ev;rw [aE l];omega
  .exact .inl h
  .exact .inr h
 .rintro(h|h)
  .exact .inr (.inr (.inl h))
  .exact .inr (.inr (.inr h))
theorem Zv0(p:List Int)(x:Rat)(h:Zb p x≠0):∃δ:Rat,0<δ/\∀y,x-δ<=y->y<=x->Ix (Zb p y)=Ix (Zb p x):=by
 obtain⟨L,r,k⟩:=Gu (x-1) x p;have i:0<(if 0<Zb p x then Zb p x else -Zb p x):=by split<;>grind
 obtain⟨δ,j,m,g⟩:=Lq (show(0:Rat)<1 by decide) (show 0<L+1 by grind) (show 0<(if 0<Zb p x then Zb p x else -Zb p x)/2 by grind);refine⟨δ,j,λy n q=>?_⟩;have l:=k y x O4 O4 O4;have b:=aC (a:=L) (b:=δ-(x-y)) O4 O4;have c:L*(x-y)<=δ*(L+1):=O4;rcases Qa (Zb p x)with⟨d,e⟩|⟨d,e⟩|⟨d,e⟩
 .rw [aG d]at g i;rw [e];exact Zr5 O4
 .rw [aE O4]at g i;rw [e];exact Ziy O4
 .exact absurd d h
theorem rsg_1(h:Ix x=1):0<x:=by
 rcases Qa x with⟨d,c⟩|⟨d,c⟩|⟨d,c⟩
 .exact d
 .rw [c]at h;exact absurd h O3
 .rw [c]at h;exact absurd h O3
theorem Zj8(h:Ix x=-1):x<0:=by
 rcases Qa x with⟨d,c⟩|⟨d,c⟩|⟨d,c⟩
 .rw [c]at h;exact absurd h O3
 .exact d
 .rw [c]at h;exact absurd h O3
def Zpi(p:List Int)(a b:Rat):Prop:=∃x,a<=x/\x<=b/\Zb p x<0
theorem Yat  {F:Nat} (hx:Tr xs) (h0:xs≠[]) (hC:Eg F xs) {σ:Rat} (Y:σ≠0) (S:a<b)
  (c:∀x,a<=x->x<b->∃δ:Rat,0<δ/\∀y,x<y->y<=x+δ->y<=b->0<σ*Zb (sqf F xs) y) :
  Dd F xs a-Dd F xs b<=(if Zb (sqf F xs) b=0 then 1 else 0):=by
 obtain⟨h,h1,R⟩:=Zht hx h0 hC a b;have H:∀x,a<=x->x<b->0<=σ*Zb (sqf F xs) x:=λx ha hb=>by
  rcases(show 0<=σ*Zb (sqf F xs) x\/σ*Zb (sqf F xs) x<0 by grind)with q|q
  .exact q
  .exfalso;have g:Zb (sqf F xs) x≠0:=λe=>by rw [e]at q;grind
   obtain⟨δ,d1,D⟩:=c x ha hb;obtain⟨ε,e1,Q⟩:=Zja (sqf F xs) x g;obtain⟨y,N,P,y3,y4⟩:∃y,x<y/\y<=x+δ/\y<=x+ε/\y<=b:=by
    rcases(show δ<=ε\/ε<=δ by grind)with w|w
    .rcases(show x+δ<=b\/b<=x+δ by grind)with v|v
     .exact⟨x+δ,O4,O4,O4,v⟩
     .exact⟨b,O4,O4,O4,O4⟩
    .rcases(show x+ε<=b\/b<=x+ε by grind)with v|v
     .exact⟨x+ε,O4,O4,O4,v⟩
     .exact⟨b,O4,O4,O4,O4⟩
   have Z:=D y N P y4;have k:=Q y N y3;rcases Qa (Zb (sqf F xs) x)with⟨i,j⟩|⟨i,j⟩|⟨i,j⟩
   .rw [j]at k;have I:=rsg_1 k;rcases(show σ<0\/0<σ by grind)with s|s
    .have:=aV (a:=-σ) (b:=Zb (sqf F xs) y) O4 I;grind
    .have:=aV s i;grind
   .rw [j]at k;have I:=Zj8 k;rcases(show σ<0\/0<σ by grind)with s|s
    .have:=aV (a:=-σ) (b:=-Zb (sqf F xs) x) O4 O4;grind
    .have:=aV (a:=σ) (b:=-Zb (sqf F xs) y) s O4;grind
   .exact g i
 have V:0<=σ*Zb (sqf F xs) b:=by
  rcases(show 0<=σ*Zb (sqf F xs) b\/σ*Zb (sqf F xs) b<0 by grind)with q|q
  .exact q
  .exfalso;have g:Zb (sqf F xs) b≠0:=λe=>by rw [e]at q;grind
   obtain⟨ε,e1,Q⟩:=Zv0 (sqf F xs) b g;obtain⟨y,N,P,y3⟩:∃y,a<=y/\y<b/\b-ε<=y:=by
    rcases(show a<=b-ε\/b-ε<=a by grind)with v|v
    .exact⟨b-ε,v,O4,O4⟩
    .exact⟨a,O4,S,v⟩
   obtain⟨δ,d1,D⟩:=c y N P;obtain⟨z,z1,z2,r⟩:∃z,y<z/\z<=y+δ/\z<=b:=by
    rcases(show y+δ<=b\/b<=y+δ by grind)with v|v
    .exact⟨y+δ,O4,O4,v⟩
    .exact⟨b,P,O4,O4⟩
   have Z:=D z z1 z2 r;have k:=Q z O4 r;rcases Qa (Zb (sqf F xs) b)with⟨i,j⟩|⟨i,j⟩|⟨i,j⟩
   .rw [j]at k;have I:=rsg_1 k;rcases(show σ<0\/0<σ by grind)with s|s
    .have:=aV (a:=-σ) (b:=Zb (sqf F xs) z) O4 I;grind
    .have:=aV s i;grind
   .rw [j]at k;have I:=Zj8 k;rcases(show σ<0\/0<σ by grind)with s|s
    .have:=aV (a:=-σ) (b:=-Zb (sqf F xs) b) O4 O4;grind
    .have:=aV (a:=σ) (b:=-Zb (sqf F xs) z) s O4;grind
   .exact g i
 have d:∀u v,a<=u->u<=v->v<=b->v-u<=h/2->Dd F xs u-Dd F xs v<=(if v=b/\Zb (sqf F xs) b=0 then 1 else 0):=λu v l M B c4=>by
  have e:=R u v l M B O4;have e':Dd F xs u-Dd F xs v=crs (Zb (sqf F xs)) u v:=e;rw [e'];unfold crs;by_cases G:Zb (sqf F xs) u≠0/\Zb (sqf F xs) u*Zb (sqf F xs) v<=0
  .rw [aG G];have W:u<b:=by
    rcases(show u<b\/u=b by grind)with q|q
    .exact q
    .exfalso;have:v=u:=O4;subst this;have:=Kl G.1;grind
   have g1:=H u l W;have g2:0<=σ*Zb (sqf F xs) v:=by
    rcases(show v<b\/v=b by grind)with q|q
    .exact H v O4 q
    .rw [q];exact V
   have m:Zb (sqf F xs) v=0:=by
    rcases(show Zb (sqf F xs) v=0\/Zb (sqf F xs) v≠0 by grind)with q|q
    .exact q
    .exfalso;have m1:=aC g1 g2;have m2:=Kl Y;have m3:(σ*σ)*(Zb (sqf F xs) u*Zb (sqf F xs) v)>=0:=O4;rcases(show Zb (sqf F xs) u*Zb (sqf F xs) v<0\/Zb (sqf F xs) u*Zb (sqf F xs) v=0 by grind)with w|w
     .have:=aV m2 (show 0 < -(Zb (sqf F xs) u*Zb (sqf F xs) v) by grind);grind
     .rcases eG.1 w with z|z
      .exact G.1 z
      .exact q z
   rcases(show v<b\/v=b by grind)with q|q
   .exfalso;obtain⟨δ,d1,D⟩:=c v O4 q;obtain⟨z,z1,z2,r,z4⟩:∃z,v<z/\z<=v+δ/\z<=b/\z-v<=h/2:=by
     rcases(show δ<=h/2\/h/2<=δ by grind)with w|w
     .rcases(show v+δ<=b\/b<=v+δ by grind)with t|t
      .exact⟨v+δ,O4,O4,t,O4⟩
      .exact⟨b,q,O4,O4,O4⟩
     .rcases(show v+h/2<=b\/b<=v+h/2 by grind)with t|t
      .exact⟨v+h/2,O4,O4,t,O4⟩
      .exact⟨b,q,O4,O4,O4⟩
    have Z:=D z z1 z2 r;have a1:=R u z l O4 r O4;have a2:=R v z O4 O4 r O4;have r1:crs (Zb (sqf F xs)) u z=0:=by
     unfold crs;rw [aE];rintro⟨w1,w2⟩;have g3:0<σ*Zb (sqf F xs) u:=by
      rcases(show σ*Zb (sqf F xs) u=0\/0<σ*Zb (sqf F xs) u by grind)with t|t
      .rcases eG.1 t with t|t
       .exact absurd t Y
       .exact absurd t w1
      .exact t
     have m1:=aV g3 Z;have m2:=Kl Y;have m3:0<(σ*σ)*(Zb (sqf F xs) u*Zb (sqf F xs) z):=O4;have m4:=aC (a:=σ*σ) (b:=-(Zb (sqf F xs) u*Zb (sqf F xs) z)) O4 O4;grind
    have r2:crs (Zb (sqf F xs)) v z=0:=by unfold crs;rw [aE];rintro⟨w1,w2⟩;exact w1 m
    have r3:crs (Zb (sqf F xs)) u v=1:=by unfold crs;rw [aG G]
    rw [r1]at a1;rw [r2]at a2;rw [r3]at e;omega
   .rw [q]at m;rw [aG ⟨q,m⟩];decide
  .rw [aE G];split<;>decide
 have a0:∀n:Nat,∀u,a<=u->u<=b->b-u<=(n:Rat)*(h/2)->Dd F xs u-Dd F xs b<=(if Zb (sqf F xs) b=0 then 1 else 0):=λn=>by
  induction n with
  | zero=>
   intro u l M B;have:u=b:=by push_cast at B;grind
   subst this;rw [nC];split<;>decide
  | succ n ih=>
   intro u l M B;push_cast at B;by_cases hy:b-u<=h/2
   .have:=d u b l M O4 hy;by_cases g:Zb (sqf F xs) b=0
    .rw [aG ⟨rfl,g⟩]at this;rw [aG g];exact this
    .rw [aE (λe=>g e.2)]at this;rw [aE g];exact this
   .have i1:=ih (u+h/2) O4 O4 O4;have i2:=d u (u+h/2) l O4 O4 O4;rw [aE (λe=>by have:=e.1;grind)]at i2;generalize (if Zb (sqf F xs) b=0 then(1:Int)else 0)=t at *;omega
 obtain⟨n,hn⟩:=Zdl (b-a) (show 0<h/2 by grind);exact a0 n a O4 O4 hn
structure Odp (F n:Nat) (p o:List Int):Prop where
 tr:Tr p
 ne:p≠[]
 sz:Sz n p
 hn:n<=220
 hl:p.length<=11
 hF:p.length<=F+1
 eq:o=Zbi F p.length (Yk p)
 otr:Tr o
 one:o≠[]
 ok:Eg F o
theorem Odp.sq{F n:Nat}(h:Odp F n p o):∃(c d:Int) (B:List Int),c≠0/\d≠0/\∀x:Rat,(d:Rat)*Zb p x=(c:Rat)*(Zb o x*(Zb B x*Zb B x)):=by have i:=Dp.start h.tr h.ne;obtain⟨⟨B,g⟩,-⟩:=Ky h.tr h.ne h.sz h.hn h.hl h.hF p.length (Yk p) i (by rw [Qj h.tr];exact aH _);rw [<-h.eq]at g;obtain⟨c,d,j,k,e⟩:=Zcg ((Mx (Zs p)).trans (Xt h.tr):Sim (Yk p) p);exact⟨c,d,B,j,k,λx=>by rw [<-g x];exact(e x).symm⟩
theorem Odp.sqf{F n:Nat}(h:Odp F n p o):Go.Sky.sqf F o=Yk o:=by
 have e:=Dp.start h.tr h.ne;have c:=(e.ok h.tr h.ne h.sz h.hn h.hl h.hF).2;have d:Dw F p:=by unfold Dw at c ⊢;rwa [e.2.2.1]at c
 obtain⟨-,g⟩:=Ky h.tr h.ne h.sz h.hn h.hl h.hF p.length (Yk p) e (by rw [Qj h.tr];exact aH _);rw [<-h.eq]at g;rw [Zj2 e.2.2.1]at g;exact(Znh h.tr h.ne h.sz h.hn h.hl h.hF h.otr h.one h.ok.1.2.2.1 d g).2
theorem Odp.srt{F n:Nat}(h:Odp F n p o):∃c d:Int,c≠0/\d≠0/\∀x:Rat,(c:Rat)*Zb (Go.Sky.sqf F o) x=(d:Rat)*Zb o x:=by rw [h.sqf];exact Zcg ((Mx (Zs o)).trans (Xt h.otr):Sim (Yk o) o)
theorem Odp.zero{F n:Nat}(h:Odp F n p o)(x:Rat):Zb (Go.Sky.sqf F o) x=0↔Zb o x=0:=by
 obtain⟨c,d,i,j,e⟩:=h.srt;have g:=e x;constructor
 .intro z;rw [z]at g;rcases eG.1 (show(d:Rat)*Zb o x=0 by grind)with q|q
  .exact absurd q (Qb j)
  .exact q
 .intro z;rw [z]at g;rcases eG.1 (show(c:Rat)*Zb (Go.Sky.sqf F o) x=0 by grind)with q|q
  .exact absurd q (Qb i)
  .exact q
theorem Odp.nz{F n:Nat}(h:Odp F n p o)(j:Zb p x≠0):Zb o x≠0:=λz=>by
 obtain⟨c,d,B,k,i,e⟩:=h.sq;have g:=e x;rw [z]at g;rcases eG.1 (show(d:Rat)*Zb p x=0 by grind)with q|q
 .exact Qb i q
 .exact j q
theorem Odp.opp{F n:Nat}(h:Odp F n p o){y:Rat}(j:Zb p x*Zb p y<0):Zb o x*Zb o y<0/\Zb (Go.Sky.sqf F o) x*Zb (Go.Sky.sqf F o) y<0:=by obtain⟨c,d,B,m,q,e⟩:=h.sq;have r:(Zb o x*(Zb B x*Zb B x))*(Zb o y*(Zb B y*Zb B y))<0:=Zct (Qb m) (Qb q) (e x).symm (e y).symm j;have l:=Zyu r;obtain⟨s,t,g,i,k⟩:=h.srt;exact⟨l,Zct (Qb g) (Qb i) (k x) (k y) l⟩
theorem Odp.sem{F n:Nat}(h:Odp F n p o)(i:a<b):(Iw p.length p a<0\/Ev F o a b)↔Zpi p a b:=by
 have j:=Zy2 h.tr h.ne h.sz h.hn h.hl h.hF h.eq h.otr h.one h.ok i;constructor
 .rintro(k|k)
  .obtain⟨δ,M,m⟩:=Fx p.length p a (aH _);have r:=Zl8 p.length p a;have hm:Iw p.length p a=-1:=O;rcases(show a+δ<=b\/b<=a+δ by grind)with q|q
   .exact⟨a+δ,O4,q,Zj8 (by rw [m (a+δ) O4 O4,hm])⟩
   .exact⟨b,O4,O4,Zj8 (by rw [m b i q,hm])⟩
  .rcases Classical.em (Zpi p a b)with q|q
   .exact q
   .exfalso;have S:∀x,a<=x->x<=b->0<=Zb p x:=λx u v=>by
     rcases(show 0<=Zb p x\/Zb p x<0 by grind)with w|w
     .exact w
     .exact absurd ⟨x,u,v,w⟩ q
    have l:∀x,a<=x->x<b->∃δ:Rat,0<δ/\∀y,x<y->y<=x+δ->y<=b->0<Zb p y:=λx u v=>by
     obtain⟨δ,M,m⟩:=Fx p.length p x (aH _);have r:=Zl8 p.length p x;have r0:=Zdm p.length p x h.tr h.ne (aH _);refine⟨δ,M,λy G H I=>?_⟩;have s:=m y G H;rcases Qa (Zb p y)with⟨N,P⟩|⟨N,P⟩|⟨N,P⟩
     .exact N
     .have:=S y O4 I;grind
     .rw [P]at s;exact absurd s.symm r0
    obtain⟨δ,M,m⟩:=l a O4 i;obtain⟨z,z1,z2,z3⟩:∃z,a<z/\z<=a+δ/\z<=b:=by
     rcases(show a+δ<=b\/b<=a+δ by grind)with w|w
     .exact⟨a+δ,O4,O4,w⟩
     .exact⟨b,i,w,O4⟩
    have hz:=m z z1 z2 z3;have hσ:Zb (Go.Sky.sqf F o) z≠0:=λe=>h.nz (x:=z) O4 ((h.zero z).1 e);have Z:=Yat h.otr h.one h.ok (σ:=Zb (Go.Sky.sqf F o) z) hσ i (λx u v=>by
     obtain⟨ε,e1,e2⟩:=l x u v;refine⟨ε,e1,λy G H I=>?_⟩;have hy:=e2 y G H I;have V:Zb (Go.Sky.sqf F o) y≠0:=λe=>h.nz (x:=y) O4 ((h.zero y).1 e);rcases(show 0<Zb (Go.Sky.sqf F o) z*Zb (Go.Sky.sqf F o) y\/Zb (Go.Sky.sqf F o) z*Zb (Go.Sky.sqf F o) y<0\/Zb (Go.Sky.sqf F o) z*Zb (Go.Sky.sqf F o) y=0 by grind)with w|w|w
     .exact w
     .exfalso;obtain⟨c,d,B,hc,hd,e⟩:=h.sq;obtain⟨c',d',Q,R,Y⟩:=h.srt;have w1:Zb o z*Zb o y<0:=Zct (Qb R) (Qb Q) (Y z).symm (Y y).symm w;have p1:=aV hz hy;have q1:((d:Rat)*(d:Rat))*(Zb p z*Zb p y)=((c:Rat)*(c:Rat))*((Zb o z*Zb o y)*((Zb B z*Zb B y)*(Zb B z*Zb B y))):=by
       have a1:=e z;have a2:=e y;have:((d:Rat)*Zb p z)*((d:Rat)*Zb p y)=((c:Rat)*(Zb o z*(Zb B z*Zb B z)))*((c:Rat)*(Zb o y*(Zb B y*Zb B y))):=by rw [a1,a2]
       grind
      have D:=aV (Kl (Qb hd)) p1;have q3:0<=(Zb B z*Zb B y)*(Zb B z*Zb B y):=by
       by_cases t:Zb B z*Zb B y=0
       .rw [t];grind
       .exact cJ (Kl t)
      have q4:=aC (cJ (Kl (Qb hc))) (aC (show 0<=-(Zb o z*Zb o y) by grind) q3);grind
     .rcases eG.1 w with t|t
      .exact absurd t hσ
      .exact absurd t V)
    unfold Ev at k;by_cases g:Zb o b=0
    .rw [aG g]at k;rw [aG ((h.zero b).2 g)]at Z;omega
    .rw [aE g]at k;rw [aE (λe=>g ((h.zero b).1 e))]at Z;omega
 .rintro⟨x,x1,x2,W⟩;rcases(show x=a\/x=b\/(a<x/\x<b) by grind)with q|q|⟨q1,D⟩
  .subst q;exact j.1 (.inl W)
  .subst q;exact j.1 (.inr (.inl W))
  .have r:=Zl8 p.length p a;have r0:=Zdm p.length p a h.tr h.ne (aH _);rcases(show Iw p.length p a<0\/Iw p.length p a=1 by omega)with k|k
   .exact .inl k
   .right;have hv:=Zi9 h.tr h.ne h.sz h.hn h.hl h.hF h.eq h.otr h.one h.ok q1 k W;have m1:=Zfy h.otr h.one h.ok (cJ D);unfold Ev;by_cases g:Zb o b=0
    .rw [aG g];have hx:Zb (Go.Sky.sqf F o) x≠0:=λe=>h.nz (x:=x) O4 ((h.zero x).1 e);rcases iH (Dd F o b) (Dd F o x)with w|w
     .omega
     .exfalso;have:=Zat h.otr h.one h.ok (cJ D) w hx b (cJ D) O4;rw [(h.zero b).2 g]at this;grind
    .rw [aE g];omega
end Go.Sky

