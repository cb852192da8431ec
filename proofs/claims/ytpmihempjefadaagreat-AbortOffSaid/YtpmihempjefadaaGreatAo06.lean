/- Rules, arithmetic and contracts: part 7. No conditions but those that each theorem names. -/
import Derived.Test.YtpmihempjefadaaGreatAo05
set_option linter.all false
namespace Go.Sky
variable{B K Q d:Nat}{z:R2}{p a b xs t u q:List Int}{k:Int}
def qv(z:R2):Rat:=(z.1:Rat)/(z.2:Rat)
theorem Zt0{x y X Y g:Nat}(c:g=Nat.gcd x y)(F:0<y)(G:0<Y)(h:x*Y=X*y):y/g∣Y/\x/g<=X:=by
 have f:0<g:=by rw [c];exact Nat.gcd_pos_of_pos_right _ F
 have D:Nat.Coprime (x/g) (y/g):=by rw [c];exact Nat.coprime_div_gcd_div_gcd (by rw [<-c];exact f)
 have m:x/g*g=x:=nN (by rw [c];exact mB _ _);have i:y/g*g=y:=nN (by rw [c];exact nZ _ _);have j:x/g*Y=X*(y/g):=by refine lH f ?_;have s:x/g*Y*g=x/g*g*Y:=O4;have v:X*(y/g)*g=X*(y/g*g):=O4;rw [s,v,m,i,h]
 have o:y/g∣Y:=D.symm.dvd_of_dvd_mul_left (by rw [j];exact Nat.dvd_mul_left _ _);refine⟨o,?_⟩;obtain⟨k,r⟩:=o;have l:0<k:=nO λe=>by rw [e,nW]at r;omega
 have n:0<y/g:=nO λe=>by rw [e,iO]at i;omega
 rw [r]at j;have w:x/g*k=X:=by refine lH n ?_;have:x/g*k*(y/g)=x/g*(y/g*k):=O4;rw [this,j]
 rw [<-w];exact eP _ l
theorem Zo8{x y X Y:Int}(w:0<y)(F:0<Y)(h:x*Y=X*y)(s:bl X.natAbs<=B)(c:bl Y.natAbs<=B)(D:B<=65536) :
  ¬La x y/\Iq x y∣Y/\0<Iq x y/\bl (Ho x y).natAbs<=B/\bl (Iq x y).natAbs<=B/\Ho x y*y=x*Iq x y:=by
 have G:Mp x y=(Nat.gcd x.natAbs y.natAbs:Int):=by rw [Ylx O];rfl
 have v:x.natAbs*Y.natAbs=X.natAbs*y.natAbs:=by rw [<-cH,<-cH,h]
 obtain⟨i,o⟩:=Zt0 (g:=Nat.gcd x.natAbs y.natAbs) rfl (by omega:0<y.natAbs) (by omega:0<Y.natAbs) v;have j:(y/Mp x y).natAbs=y.natAbs/Nat.gcd x.natAbs y.natAbs:=by rw [mH (Zky x y),Zco]
 have r:(x/Mp x y).natAbs=x.natAbs/Nat.gcd x.natAbs y.natAbs:=by rw [mH (Zsn x y),Zco]
 have m:bl (y/Mp x y).natAbs<=B:=aB (Ll (by rw [j];exact lY O i)) c;have n:bl (x/Mp x y).natAbs<=B:=aB (Ll (by rw [r];exact o)) s;have e:¬La x y:=λh=>by unfold La at h;omega
 obtain⟨l,f,-⟩:=Zap e;refine⟨e,?_,Zo2 e w,by rw [l];exact n,by rw [f];exact m,?_⟩
 .rw [f];refine fW.1 ?_;rw [j];exact i
 .rw [l,f];exact Yfx x y
structure En (K Q:Nat) (d:Nat) (z:R2):Prop where
 pos:0<z.2
 dv:z.2∣((Q*2^d:Nat):Int)
 lo:-(K:Rat)<=qv z
 hi:qv z<=(K:Rat)
theorem En.up(h:En K Q d z):En K Q (d+1) z:=by
 obtain⟨c,e,f,g⟩:=h;refine⟨c,?_,f,g⟩;have:((Q*2^(d+1):Nat):Int)=((Q*2^d:Nat):Int)*2:=by rw [cJ];push_cast;grind
 rw [this];exact fQ e (iZ _ _)
theorem canc{N p s Y X D:Int}(h:p≠0)(f:N*p=s*D)(g:s*Y=X*p):N*Y=X*D:=by refine lI h ?_;have c:N*Y*p=(N*p)*Y:=O4;have e:X*D*p=(X*p)*D:=O4;rw [c,e,f,<-g];grind
theorem Gh{z:Int}(h:0<z):(0:Rat)<(z:Rat):=by exact_mod_cast h
def Zda{n m:Nat}(h:n<2^m):bl n<=m:=(Qt m n).2 h
theorem mid_en{a b:R2}(ha:En K Q d a)(hb:En K Q d b)(hQ:0<Q)(a0:Q*2^(d+1)<2^B)(a1:2*K*(Q*2^d)<2^B)(hB:B<=65536) :
  Zef a b/\En K Q (d+1) (Pk a b)/\qv (Pk a b)=(qv a+qv b)/2/\bl (Pk a b).1.natAbs<=B/\bl (Pk a b).2.natAbs<=B:=by
 obtain⟨pa,⟨c,Z⟩,la,ua⟩:=ha;obtain⟨pb,⟨f,db⟩,lb,ub⟩:=hb;generalize F:((Q*2^d:Nat):Int)=Y at *;have M:0<Q*2^d:=fZ hQ (bW O3);have i:0<Y:=by rw [<-F];exact_mod_cast M
 have a3:=Gh pa;have a4:=Gh pb;have rY:=Gh i;have w:0<a.2*b.2:=gL pa pb;have g:(a.1*b.2+b.1*a.2)*Y=(a.1*c+b.1*f)*(a.2*b.2):=by have G:(a.1*c+b.1*f)*(a.2*b.2)=a.1*b.2*(a.2*c)+b.1*a.2*(b.2*f):=O4;rw [G,<-Z,<-db];grind
 have S:(a.1:Rat)*c=qv a*Y:=by
  unfold qv;have:(Y:Rat)=(a.2:Rat)*c:=by rw [Z];push_cast;rfl
  rw [this];grind
 have V:(b.1:Rat)*f=qv b*Y:=by
  unfold qv;have:(Y:Rat)=(b.2:Rat)*f:=by rw [db];push_cast;rfl
  rw [this];grind
 have N:((a.1*c+b.1*f:Int):Rat)=(qv a+qv b)*Y:=by push_cast;rw [S,V];grind
 have a2:(a.1*c+b.1*f).natAbs<=2*K*(Q*2^d):=by
  have h:((2*K*(Q*2^d):Nat):Rat)=2*(K:Rat)*(Y:Rat):=by rw [<-F];push_cast;grind
  have t1:=aN (a:=2*(K:Rat)-(qv a+qv b)) (b:=(Y:Rat)) O4 O4;have t2:=aN (a:=2*(K:Rat)+(qv a+qv b)) (b:=(Y:Rat)) O4 O4;have u1:((a.1*c+b.1*f:Int):Rat)<=(((2*K*(Q*2^d):Nat):Int):Rat):=by rw [N];push_cast at h ⊢;grind
  have u2:((-((2*K*(Q*2^d):Nat):Int):Int):Rat)<=((a.1*c+b.1*f:Int):Rat):=by rw [N];push_cast at h ⊢;grind
  have v1:a.1*c+b.1*f<=((2*K*(Q*2^d):Nat):Int):=by exact_mod_cast u1
  have v2:-((2*K*(Q*2^d):Nat):Int)<=a.1*c+b.1*f:=by exact_mod_cast u2
  omega
 have j:Y.natAbs=Q*2^d:=by rw [<-F];rfl
 have I:Q*2^(d+1)=2*(Q*2^d):=by rw [cJ];grind
 have P:bl Y.natAbs<=B:=Zda (by rw [j];omega);have l:bl (a.1*c+b.1*f).natAbs<=B:=Zda O;obtain⟨f1,f2,f3,f4,f5,f6⟩:=Zo8 w i g l P hB;have W:=canc (Int.ne_of_gt w) f6 g;have o:bl (2*Y).natAbs<=B:=Zda (by rw [cH,j];show 2*(Q*2^d)<_;omega);have x:Ho (a.1*b.2+b.1*a.2) (a.2*b.2)*1*(2*Y)=(a.1*c+b.1*f)*(Iq (a.1*b.2+b.1*a.2) (a.2*b.2)*2):=by rw [iD];have G:Ho (a.1*b.2+b.1*a.2) (a.2*b.2)*(2*Y)=2*(Ho (a.1*b.2+b.1*a.2) (a.2*b.2)*Y):=O4;rw [G,W];grind
 have v:0<Iq (a.1*b.2+b.1*a.2) (a.2*b.2)*2:=O;obtain⟨g1,g2,H,g4,g5,g6⟩:=Zo8 v (by omega:0<2*Y) x l o hB;have D:=canc (Int.ne_of_gt v) g6 x;have r:(Pk a b).1=Ho (Ho (a.1*b.2+b.1*a.2) (a.2*b.2)*1) (Iq (a.1*b.2+b.1*a.2) (a.2*b.2)*2):=rfl;have s:(Pk a b).2=Iq (Ho (a.1*b.2+b.1*a.2) (a.2*b.2)*1) (Iq (a.1*b.2+b.1*a.2) (a.2*b.2)*2):=rfl;rw [<-r,<-s]at D;rw [<-s]at g2 H g5;rw [<-r]at g4;have R:qv (Pk a b)=(qv a+qv b)/2:=by
  have h1:(((Pk a b).1:Int):Rat)*(2*(Y:Rat))=((a.1*c+b.1*f:Int):Rat)*(((Pk a b).2:Int):Rat):=by
   have:(((Pk a b).1*(2*Y):Int):Rat)=(((a.1*c+b.1*f)*(Pk a b).2:Int):Rat):=by rw [D]
   push_cast at this ⊢;grind
  rw [N]at h1;have rd:=Gh H;unfold qv at *;generalize (((Pk a b).1:Int):Rat)=n at *;generalize (((Pk a b).2:Int):Rat)=m at *;generalize (a.1:Rat)/(a.2:Rat)=p at *;generalize (b.1:Rat)/(b.2:Rat)=q at *;generalize (Y:Rat)=y at *;grind
 refine⟨⟨f1,g1⟩,⟨H,?_,by rw [R];grind,by rw [R];grind⟩,R,g4,g5⟩;have e:((Q*2^(d+1):Nat):Int)=2*Y:=by rw [I,<-F];push_cast;rfl
 rw [e];exact g2
def vch(F:Nat)(xs:List Int)(x:Rat):Int:=vat ((chn F xs).map Zb) x
def cvc_v{F:Nat}(h:0<z.2):cvc F xs z=vch F xs (qv z):=Yne h
def Sqn(P:R2->R2->Prop)(hi:Rat):Rat->List (R2×R2)->Prop
 | e,[]=>e<=hi
 | e,c::r=>e<=qv c.1/\qv c.1<qv c.2/\P c.1 c.2/\Sqn P hi (qv c.2) r
theorem Sqn.le{P:R2->R2->Prop}{hi:Rat} : ∀{lo:Rat} {l:List (R2×R2)},Sqn P hi lo l->lo<=hi
 | lo,[],h=>h
 | lo,c::r,h=>by have:=Sqn.le h.2.2.2;have:=h.1;have:=h.2.1;grind
theorem Sqn.low{P:R2->R2->Prop}{hi:Rat}{lo e:Rat}(f:e<=lo):∀{l:List (R2×R2)},Sqn P hi lo l->Sqn P hi e l
 | [],h=>by have h:lo<=hi:=h;show e<=hi;grind
 | c::r,h=>⟨by have:=h.1;grind,h.2⟩
def Sqn.app{P:R2->R2->Prop}{e hi:Rat}{i:List (R2×R2)}(f:Sqn P hi e i):∀{lo:Rat} {g:List (R2×R2)},Sqn P e lo g->Sqn P hi lo (g ++ i)
 | lo,[],h=>f.low h
 | lo,c::r,h=>⟨h.1,h.2.1,h.2.2.1,Sqn.app f h.2.2.2⟩
theorem Zon{a:R2}(l:0<a.2)(h:a.1.natAbs<=K):-(K:Rat)<=qv a/\qv a<=(K:Rat):=by
 obtain⟨i,j⟩:=Yii h;have m:(1:Rat)<=(a.2:Rat):=by exact_mod_cast (show 1<=a.2 by omega)
 have c:(0:Rat)<=(K:Rat):=Gy (bI _);have hi:=gD.2 (show 0<(a.2:Rat) by grind);have e:(a.2:Rat)*(a.2:Rat)⁻¹=1:=O4;unfold qv;rw [jF];have t1:=aN (a:=(a.2:Rat)⁻¹) (b:=(K:Rat)*a.2-a.1) O4 (by have:=aN (a:=(K:Rat)) (b:=(a.2:Rat)-1) c O4;grind);have t2:=aN (a:=(a.2:Rat)⁻¹) (b:=(K:Rat)*a.2+a.1) O4 (by have:=aN (a:=(K:Rat)) (b:=(a.2:Rat)-1) c O4;grind);have f:(a.2:Rat)⁻¹*((K:Rat)*a.2-a.1)=(K:Rat)*(a.2*(a.2:Rat)⁻¹)-a.1*(a.2:Rat)⁻¹:=O4;have g:(a.2:Rat)⁻¹*((K:Rat)*a.2+a.1)=(K:Rat)*(a.2*(a.2:Rat)⁻¹)+a.1*(a.2:Rat)⁻¹:=O4;rw [f,e]at t1;rw [g,e]at t2;constructor<;>grind
theorem Zcc (n:Nat){a:R2}(c:0<a.2)(i:bl a.1.natAbs<=n)(j:bl a.2.natAbs<=n)(m:n<=65536) :
  ¬La a.1 a.2/\0<(slow a).2/\bl (slow a).1.natAbs<=n/\bl (slow a).2.natAbs<=n/\qv (slow a)=qv a:=by
 obtain⟨f1,f2,f3,f4,f5,f6⟩:=Zo8 (x:=a.1) (y:=a.2) (X:=a.1) (Y:=a.2) c c rfl i j m;refine⟨f1,f3,f4,f5,?_⟩;have r1:=Gh c;have r2:=Gh f3;have l:((Ho a.1 a.2:Int):Rat)*(a.2:Rat)=(a.1:Rat)*((Iq a.1 a.2:Int):Rat):=by exact_mod_cast f6
 show((Ho a.1 a.2:Int):Rat)/((Iq a.1 a.2:Int):Rat)=(a.1:Rat)/(a.2:Rat);generalize ((Ho a.1 a.2:Int):Rat)=N at *;generalize ((Iq a.1 a.2:Int):Rat)=D at *;generalize (a.1:Rat)=x at *;generalize (a.2:Rat)=y at *;have:N/D*(D*y)=x/y*(D*y):=by have e:N/D*(D*y)=N*y:=O4;have f:x/y*(D*y)=x*D:=O4;rw [e,f,l]
 have o:=bB r2 r1;have g:N/D=N/D*(D*y)*(D*y)⁻¹:=O4;have h:x/y=x/y*(D*y)*(D*y)⁻¹:=O4;rw [g,this,<-h]
theorem sep_of  {F A e:Nat} (y:Tr xs) (j:xs≠[]) (o:Aj F xs) (r:0<K) (n:0<A) (D:∀i,(cf (sqf F xs) i).natAbs<=A) (G:∀i,(cf (Xb (sqf F xs)) i).natAbs<=A)
  (hs:2<=(sqf F xs).length->Zxq K A (sqf F xs).length e=true) (u v:Rat) (l:-(K:Rat)<=u) (c:u<=v) (m:v<=(K:Rat)) (x:v-u<=1/((2^e:Nat):Rat)):vch F xs u-vch F xs v<=1:=by
 by_cases f:2<=(sqf F xs).length
 .have h:=Yno y j o r n rfl f D G (hs f) l c m x;show vat _ u-vat _ v<=1;rw [h];unfold crs;split<;>decide
 .have H:=Nt (sqf F xs);have w:Xb (sqf F xs)=[]:=aG O;have s:chn F xs=[sqf F xs]:=by unfold chn;rw [w,Ya9,Bn]
  unfold vch vat;rw [s];have r1:=Zhm (([Zb (sqf F xs)]).map λg=>Er (g u));have r2:=Zhm (([Zb (sqf F xs)]).map λg=>Er (g v));simp only [cQ,iQ,dM,mN]at r1 r2 ⊢;omega
theorem Sqn.mem{P:R2->R2->Prop}{hi:Rat} : ∀{lo:Rat} {l:List (R2×R2)},Sqn P hi lo l->∀c∈l,P c.1 c.2
 | _,[],_,c,e=>by cases e
 | lo,d::r,h,c,e=>by
  rcases aZ.1 e with rfl|e
  .exact h.2.2.1
  .exact Sqn.mem h.2.2.2 c e
theorem en_bl(h:En K Q d z)(g:0<Q)(s:Q*2^d<2^B)(v:K*(Q*2^d)<2^B):bl z.1.natAbs<=B/\bl z.2.natAbs<=B:=by
 obtain⟨j,i,w,y⟩:=h;have c:0<Q*2^d:=fZ g (bW O3);have f:z.2.natAbs<=Q*2^d:=by have:=fW.2 i;rw [eI]at this;exact lY c this
 have l:z.1.natAbs<=K*z.2.natAbs:=by
  have r:=Gh j;have e:(z.1:Rat)=qv z*z.2:=by unfold qv;grind
  have t1:=aN (a:=(K:Rat)-qv z) (b:=(z.2:Rat)) O4 O4;have t2:=aN (a:=(K:Rat)+qv z) (b:=(z.2:Rat)) O4 O4;have x:((K*z.2.natAbs:Nat):Int)=(K:Int)*z.2:=by push_cast;rw [kP O]
  have n:((z.1:Int):Rat)<=(((K:Int)*z.2:Int):Rat):=by push_cast;grind
  have o:((-((K:Int)*z.2):Int):Rat)<=((z.1:Int):Rat):=by push_cast;grind
  have D:z.1<=(K:Int)*z.2:=by exact_mod_cast n
  have F:-((K:Int)*z.2)<=z.1:=by exact_mod_cast o
  omega
 have m:K*z.2.natAbs<=K*(Q*2^d):=bH _ f;exact⟨Zda O,Zda O⟩
theorem Yhj (e:Nat)(w:Nat)(B:Nat){n:Nat}(h:En (2^n) Q (e+w) z)(r:0<Q)(i:Q<2^(2*n))(s:3*n+1+(e+w)<=B):bl z.1.natAbs<=B/\bl z.2.natAbs<=B:=by
 have c:∀m,m<=B->2^m<=2^B:=λm h=>dK O3 h;have g:0<2^(e+w):=bW O3;have f:Q*2^(e+w)<2^(2*n)*2^(e+w):=eJ i g;have l:2^n*(Q*2^(e+w))<2^n*(2^(2*n)*2^(e+w)):=jE f (bW O3);have j:2^(2*n)*2^(e+w)=2^(2*n+(e+w)):=(bN _ _ _).symm;have o:2^n*(2^(2*n)*2^(e+w))=2^(n+(2*n+(e+w))):=by rw [j,<-bN]
 rw [j]at f;rw [o]at l;exact en_bl h r (cZ f (c _ O)) (cZ l (c _ O))
theorem Ed.const{g:List Int}(h:Ed g a)(o:Tr g)(m:Tr a)(l:a≠[])(w:g.length=a.length):∃k c:Int,k≠0/\c≠0/\∀x:Rat,(k:Rat)*Zb a x=(c:Rat)*Zb g x:=by
 obtain⟨k,s,i,h⟩:=h;obtain⟨v,f,j⟩:=Zv5 i o m l h;have e:=aH.2 f
 match hs:tzl s,e,j with
 | [c],_,_=>
  have n:c≠0:=by have:=(Qq s).mem f;rw [hs]at this;exact this
  refine⟨k,c,i,n,λx=>?_⟩;rw [h x,<-Mt s,hs,Pi]
 | c::d::r,_,h9=>simp at h9;omega
theorem Zu8(p:List Int)(c:Int)(x:Rat):Zb (Yk p c) x=(c:Rat)*Zb p x:=by rw [<-Zg];exact Ng x _ _ λi=>by rw [Qo,Qh,dV]
theorem Ed.dv{g:List Int}(h:Ed g a):Dv g a:=by obtain⟨k,s,e,h⟩:=h;refine⟨k,s,e,λt=>?_⟩;have:=Mi (p:=a.map λc=>k*c) (q:=Qr s g) (λx=>by rw [Zg,Yv];exact h x) t;rw [Qh,He]at this;exact this
theorem ed_cop{w s:List Int}(F:k≠0)(m:Tr t)(H:Tr w)(t0:t≠[])(D:∀d,Tr d->Ed d t->Ed d w->d.length<=1)(h:∀x:Rat,(k:Rat)*(Zb u x*Zb w x)=Zb s x*Zb t x):Ed t u:=by
 obtain⟨g,A,B,f,j,n,y⟩:=Zlz w.length t w m H (aI _);have G:=D g f j n;have i:=(j.len f m t0).1
 match hgg:g,G,i with
 | [c],_,_=>
  have e:c≠0:=by have:=f.mem O8;exact this
  refine⟨k*c,Mb ((Qr A u).map λa=>k*a) (Qr B s),bG F e,λx=>?_⟩;rw [Xd,Zg,Yv,Yv];have l:=y x;rw [Pi]at l;have o:=h x;push_cast;rw [show(k:Rat)*c*Zb u x=k*(Zb u x*(c:Rat)) by grind,l];have v:(k:Rat)*(Zb u x*(Zb A x*Zb t x+Zb B x*Zb w x))=k*Zb A x*Zb u x*Zb t x+Zb B x*(k*(Zb u x*Zb w x)):=O4;rw [v,o];grind
 | c::d::r,h9,_=>simp at h9
def Mr(F:Nat)(p:List Int):List Int:=Nz F (Xj p) (Xb (Xj p))
def Za5(F:Nat)(p:List Int):Prop:=eok F (gA (Xj p) (Xb (Xj p))) (gB (Xj p) (Xb (Xj p)))
theorem Oz{F:Nat}(i:Tr p)(j:p≠[])(h:Za5 F p):Tr (Mr F p)/\Mr F p≠[]/\Xj (Mr F p)=Mr F p/\Xj p=Qr (sqf F p) (Mr F p)/\(sqf F p).length+(Mr F p).length=p.length+1:=by obtain⟨f1,f2,f3,f4,f5,f6⟩:=Nf F i j h;have c:Tr (Xj p):=Nw (Xh i);have f:Tr (Xb (Xj p)):=Mg c;have g:=Zfe F c f;have l:=Ma f2 g f3 f5;rw [<-f4,Pp i]at l;have m:=aH.2 f3;have n:=aH.2 f5;refine⟨g,f5,Zvi g (Zkg c f f5) (Bs (Zta F (Zjp c f) (Zjo c f)) (λe=>f5 (by unfold Nz;rw [e];rfl))),f4,?_⟩;unfold Mr;omega
theorem Yk1{h:List Int}(j:Tr h)(i:h≠[]){m:Int}(e:∀x:Rat,(k:Rat)*(Zb a x*Zb h x)=(m:Rat)*(Zb b x*Zb h x))(x:Rat):(k:Rat)*Zb a x=(m:Rat)*Zb b x:=by
 have g:=Ea h (f:=Mb (a.map λc=>k*c) (b.map λc=>(-m)*c)) (by rw [Zai j];exact i) (λx=>by rw [Xd,Zg,Zg];have:=e x;push_cast;grind) x
 rw [Xd,Zg,Zg]at g;push_cast at g;grind
theorem Zyb{F:Nat}(V:Tr p)(h0:p≠[])(l:Za5 F p)(e:Za5 F (Mr F p)):Ed (sqf F (Mr F p)) (sqf F p):=by
 obtain⟨n,a2,f,a4,a5⟩:=Oz V h0 l;obtain⟨G,D,b3,b4,b5⟩:=Oz n a2 e;obtain⟨-,u2,u3,-,-,-⟩:=Nf F V h0 l;obtain⟨-,t2,t3,-,-,-⟩:=Nf F n a2 e;have ht:Tr (Xj p):=Nw (Xh V);have o:Ed (Mr F p) (Xb (Xj p)):=(Zdl ht (Mg ht) l).2.ed;have e2:Ed (Mr F (Mr F p)) (Xb (Mr F p)):=by have:=(Zdl (F:=F) (p:=Xj (Mr F p)) (q:=Xb (Xj (Mr F p))) (by rw [f];exact n) (Mg (by rw [f];exact n)) e).2.ed;have h9:Mr F (Mr F p)=Nz F (Xj (Mr F p)) (Xb (Xj (Mr F p))):=rfl;rw [<-h9,f]at this;exact this
 have P:∀d,Tr d->Ed d (Mr F p)->Ed d (Xb (Mr F p))->Ed d (Mr F (Mr F p)):=λd I i r=>by unfold Mr at *;have:=Zke (F:=F) (d:=d) (p:=Xj (Nz F (Xj p) (Xb (Xj p)))) (q:=Xb (Xj (Nz F (Xj p) (Xb (Xj p))))) (by rw [f];exact n) (Mg (by rw [f];exact n)) (by rw [f];exact i) (by rw [f];exact r);exact this
 rw [f]at b4;generalize hg:Mr F p=g at *;generalize hh:Mr F g=h at *;generalize hu:sqf F p=u at *;generalize a0:sqf F g=t at *;obtain⟨k,s,hk,R⟩:=o;obtain⟨m,w,hm,S⟩:=e2;have hP:∀x:Rat,Zb (Xj p) x=Zb (lmul u g) x:=λx=>by rw [a4,Yv,Zp]
 have hG:∀x:Rat,Zb g x=Zb (lmul t h) x:=λx=>by
  have:Zb g x=Zb (Qr t h) x:=by rw [<-b4]
  rw [this,Yv,Zp]
 have M:∀x:Rat,Zb (Xb (Xj p)) x=Zb (ld u) x*Zb g x+Zb u x*Zb (ld g) x:=λx=>by rw [Km,Cd _ _ hP,Cu]
 have v:∀x:Rat,(m:Rat)*Zb (ld g) x=Zb w x*Zb h x:=λx=>by rw [<-Km];exact S x
 have Y:∀x:Rat,(k:Rat)*(Zb (Qr u w) x*Zb h x)=(m:Rat)*(Zb (Qr (Mb s ((ld u).map λc=>(-k)*c)) t) x*Zb h x):=λx=>by rw [Yv,Yv,Xd,Zg];have i:=R x;have r:=M x;have h3:=v x;have h4:=hG x;rw [Zp]at h4;rw [r]at i;have:(k:Rat)*(Zb u x*Zb w x*Zb h x)=Zb u x*k*(Zb w x*Zb h x):=O4;rw [this,<-h3];push_cast;have:Zb u x*(k:Rat)*(m*Zb (ld g) x)=m*(k*(Zb (ld u) x*Zb g x+Zb u x*Zb (ld g) x)-k*Zb (ld u) x*Zb g x):=O4;rw [this,i,h4];grind
 have y:=Yk1 G D Y;refine ed_cop (s:=(Qr (Mb s ((ld u).map λc=>(-k)*c)) [m])) hk t2 (w:=tzl w) (Qq w) t3 (λd I i r=>?_) (λx=>?_)
 .have H:Ed d w:=r.congr λx=>Mt w x;have N:Ed (Qr d h) h:=P _ Qp (by
   obtain⟨W,Z,j,o⟩:=i;exact⟨W,Z,j,λx=>by rw [hG x,Zp,Yv];have:=o x;grind⟩) (by
   obtain⟨W,Z,j,o⟩:=H;exact⟨W*m,Z,bG j hm,λx=>by rw [Km,Yv];have:=o x;have:=v x;push_cast;grind⟩)
  have d0:=(i.len I t2 t3).1;have hl:=Ma I G d0 D;have:=(N.len Qp G D).2;have l2:=aH.2 D;omega
 .rw [Mt,Yv,Pi];have:=y x;rw [Yv,Yv]at this;rw [this];grind
theorem Ya7(r:Tr u)(v:u≠[])(f:Tr t)(t0:t≠[])(n:Xj t=t)(h:Ed t u):pdv u t/\u=Qr (Hc u t) t/\Tr (Hc u t)/\Hc u t≠[]:=by
 have l:Xl t=1:=by have:=Zdm f t0;rwa [n]at this
 obtain⟨k,s,m,h⟩:=h.dv;obtain⟨q,o⟩:=gauss l _ k s rfl m h;have c:u=Qr (tzl q) t:=r.ext Qp λi=>by rw [He,o,Yem]
 obtain⟨g,j⟩:=Zx6 (Qq q) f t0;rw [<-c]at g j;rw [j];exact⟨g,c,Qq q,λe=>v (by rw [c,e,Dh])⟩
theorem Zpj{F:Nat}(f:Tr p)(l:p≠[])(c:Za5 F p)(n:2<=p.length):(Mr F p).length<p.length:=by obtain⟨i,m,-⟩:=Oz f l c;have g:Tr (Xj p):=Nw (Xh f);have j:Ed (Mr F p) (Xb (Xj p)):=(Zdl g (Mg g) c).2.ed;have h:=Nt (Xj p);have o:=Pp f;have:=(j.len i (Mg g) (λe=>by rw [e]at h;simp at h;omega)).2;omega
theorem nrm1(m:Tr p)(o:Xj p=p)(f:p.length=1):p=[1]:=by
 have g:p≠[]:=λe=>by rw [e]at f;simp at f
 have j:=Zdm m g;have l:0<cf (Xj p) ((Xj p).length-1):=Bs (Xh m) (λe=>g (aG (by rw [<-Zy,e];rfl)));rw [o]at j l
 match p,f with
 | [c],_=>
  have n:0<c:=l;have h:c∣Xl [c]:=Dj λi=>by
   match i with
   | 0=>exact mI c
   | i+1=>rw [Yo O8];exact jJ c
  rw [j]at h;have:=nI O3 h;rw [show c=1 by omega]
def Dp(p q:List Int):Prop:=Tr q/\q≠[]/\Xj q=q/\∃a,Tr a/\Xj p=Qr a q
theorem Dp.start(c:Tr p)(f:p≠[]):Dp p (Xj p):=
 ⟨Nw (Xh c),Zkn c f,Zvi (Nw (Xh c)) (Zdm c f) (Bs (Xh c) (λe=>f (aG (by rw [<-Zy,e];rfl)))),[1],.inr (show cf [1] 0≠0 by decide),by refine(Nw (Xh c)).ext Qp λi=>?_;rw [He,Zsb];rfl⟩
theorem Dp.sz{n:Nat}(i:Tr p)(r:p≠[])(hs:Sz n p)(y:p.length<=13)(h:Dp p q):Sz (n+15) q/\q.length<=p.length:=by obtain⟨l,s,x,a,m,e⟩:=h;have v:fcs 0 13<=2^15*2^15:=O7;have f:=Pp i;have c:=Zkn i r;have w:Tr (Xj p):=Nw (Xh i);have j:a≠[]:=λo=>c (by rw [e,o,Dh]);refine⟨Zbu 13 24 l m (Zuw hs) c w O O3 v (by rw [Zaz];exact e),?_⟩;have g:=Ma m l j s;rw [<-e,f]at g;have:=aH.2 j;omega
theorem Dp.ok{n F:Nat}(e:Tr p)(c:p≠[])(hs:Sz n p)(j:n<=220)(i:p.length<=11)(g:p.length<=F+1)(h:Dp p q):Aj F q/\Za5 F q:=by obtain⟨f,l⟩:=h.sz e c hs O;have:=(chG F h.1 h.2.1 f O O O).1;exact⟨this,this.1.2.2.1⟩
theorem Dp.next{F:Nat}(h:Dp p q)(c:Za5 F q):Dp p (Mr F q):=by obtain⟨m,n,o,a,s,e⟩:=h;obtain⟨g,j,l,f,r⟩:=Oz m n c;refine⟨g,j,l,Qr a (sqf F q),Qp,?_⟩;rw [o]at f;refine e.trans ((aL (Qr a) f).trans ?_);refine(Qp).ext Qp λi=>Mi (λx=>?_) i;rw [Yv,Yv,Yv,Yv];grind
def Zet(F:Nat):Nat->List Int->List Int
 | 0,p=>sqf F p
 | f+1,p=>if(sqf F p).length=1 then sqf F p else Qr (Hc (sqf F p) (sqf F (Mr F p))) (Zet F f (Mr F (Mr F p)))
def Zse(F:Nat):Nat->List Int->List Int->List Int
 | 0,c,_=>c
 | f+1,c,q=>if(sqf F q).length=1 then c else if(sqf F (Mr F q)).length=1 then Qr c (Hc (sqf F q) (sqf F (Mr F q)))else Zse F f (Qr c (Hc (sqf F q) (sqf F (Mr F q)))) (Mr F (Mr F q))
theorem Zin{F:Nat}(f:Tr q)(e:q≠[])(c:Za5 F q)(h:(sqf F q).length=1):sqf F q=[1]/\q.length=1/\(Mr F q).length=1:=by
 obtain⟨f1,f2,f3,f4,f5,f6⟩:=Nf F f e c;obtain⟨j,l,m,n,o⟩:=Oz f e c;have r:=aH.2 e;have i:q.length=1:=by
  rcases aX q.length 2 with g|g
  .omega
  .have:=Zpj f e c g;omega
 exact⟨nrm1 f2 f6 h,i,O⟩
theorem Zot(c:Tr p):Qr p [1]=p:=by refine(Qp).ext c λi=>Mi (λx=>?_) i;rw [Yv,Pi];push_cast;grind
theorem Yeu{F:Nat}(g:Tr q)(e:q≠[])(c:Za5 F q)(h:q.length=1):∀f,Zet F f q=[1]:=λf=>by
 obtain⟨f1,f2,f3,f4,f5,f6⟩:=Nf F g e c;obtain⟨j,i,l,m,n⟩:=Oz g e c;have o:=aH.2 f3;have r:=aH.2 i;have hs:(sqf F q).length=1:=O;have:=(Zin g e c hs).1;cases f with
 | zero=>exact this
 | succ f=>unfold Zet;rw [aF hs];exact this
theorem Zx0 (p:List Int){F:Nat}{f:Nat}(g:Tr q)(e:q≠[])(c:Za5 F q):Tr (Zet F f q):=by
 obtain⟨f1,f2,f3,f4,f5,f6⟩:=Nf F g e c;cases f with
 | zero=>exact f2
 | succ f=>unfold Zet;split;exact f2;exact Qp
theorem Yll{F n:Nat}(G:Tr p)(s:p≠[])(hs:Sz n p)(D:n<=220)(w:p.length<=11)(v:p.length<=F+1):∀(f:Nat) (h q:List Int),Tr h->Dp p q->q.length<=f->Zse F f h q=Qr h (Zet F f q):=by
 intro f
 induction f with
 | zero=>intro h q _ e y;have:=aH.2 e.2.1;omega
 | succ f N=>
  intro h q M e y;have g:=(e.ok G s hs D w v).2;have l:=e.next g;have c:=(l.ok G s hs D w v).2;have j:=l.next c;have o:=(j.ok G s hs D w v).2;unfold Zse Zet;by_cases m:(sqf F q).length=1
  .rw [aF m,aF m,(Zin e.1 e.2.1 g m).1,Zot M]
  .rw [aD m,aD m];have P:2<=q.length:=by obtain⟨f1,f2,f3,f4,f5,f6⟩:=Nf F e.1 e.2.1 g;obtain⟨V,H,W,Y,Z⟩:=Oz e.1 e.2.1 g;have l1:=aH.2 f3;have l2:=aH.2 H;omega
   have R:=Zpj e.1 e.2.1 g P;obtain⟨-,-,-,-,b5⟩:=Oz l.1 l.2.1 c;obtain⟨-,b2,I,-,-,-⟩:=Nf F l.1 l.2.1 c;have lb:=aH.2 I;by_cases r:(sqf F (Mr F q)).length=1
   .obtain⟨s1,s2,S⟩:=Zin l.1 l.2.1 c r;rw [aF r,Yeu j.1 j.2.1 o S];refine(Qp).ext Qp λi=>Mi (λx=>?_) i;rw [Yv,Yv,Yv,Pi];push_cast;grind
   .rw [aD r,N _ _ Qp j O];refine(Qp).ext Qp λi=>Mi (λx=>?_) i;rw [Yv,Yv,Yv,Yv];grind
def Yef(F:Nat)(p:List Int):List Int:=Hc (Yk (Yi p) 1) (sqf F p)
def rrest(F:Nat)(p:List Int):List Int:=Hc (Yi (Yef F p)) (sqf F (Yef F p))
def rodd(F:Nat):Nat->List Int->List Int
 | 0,p=>sqf F p
 | f+1,p=>if(sqf F p).length=1 then sqf F p else Qr (Hc (sqf F p) (sqf F (Yef F p))) (rodd F f (rrest F p))
theorem Zoa{F:Nat}(h:Xj p=Xj q):sqf F p=sqf F q:=by unfold sqf;rw [h]
def Zay(F:Nat)(q:List Int):List Int:=Hc (sqf F q) (sqf F (Mr F q))
theorem Zci{F:Nat}(f:Tr q)(g:q≠[])(e:Za5 F q)(c:Za5 F (Mr F q)):pdv (sqf F q) (sqf F (Mr F q))/\sqf F q=Qr (Zay F q) (sqf F (Mr F q))/\Tr (Zay F q)/\Zay F q≠[]:=by obtain⟨f1,f2,f3,f4,f5,f6⟩:=Nf F f g e;obtain⟨h,i,j,l,m⟩:=Oz f g e;obtain⟨-,t2,t3,-,-,t6⟩:=Nf F h i c;exact Ya7 f2 f3 t2 t3 t6 (Zyb f g e c)
theorem Zvz{n:Nat}(i:Tr p)(r:p≠[])(hs:Sz n p)(w:p.length<=13)(m:Tr a)(o:Tr b)(e:Xj p=Qr a b):Sz (n+15) b/\b.length<=p.length/\b≠[]:=by have s:fcs 0 13<=2^15*2^15:=O7;have g:=Pp i;have c:=Zkn i r;have v:Tr (Xj p):=Nw (Xh i);have j:a≠[]:=λf=>c (by rw [e,f,Dh]);have l:b≠[]:=λf=>c (by rw [e,f,Zev]);refine⟨Zbu 13 24 o m (Zuw hs) c v O O3 s (by rw [Zaz];exact e),?_,l⟩;have h:=Ma m o j l;rw [<-e,g]at h;have:=aH.2 j;omega
def Op(p c q:List Int):Prop:=∃a,Tr a/\Xj p=Qr a (Qr c q)
theorem Op.start(c:Tr p):Op p [1] (Xj p):=⟨[1],.inr (show cf [1] 0≠0 by decide),by refine(Nw (Xh c)).ext Qp λi=>Mi (λx=>?_) i;rw [Yv,Yv,Pi];push_cast;show Zb (Xj p) x=_;grind⟩
theorem Op.next{g:List Int}{F:Nat}(m:Tr q)(n:q≠[])(D:Xj q=q)(f:Za5 F q)(c:Za5 F (Mr F q))(h:Op p g q):Op p (Qr g (Zay F q)) (Mr F (Mr F q)):=by
 obtain⟨a,I,e⟩:=h;obtain⟨-,G,M,N⟩:=Zci m n f c;obtain⟨o,r,s,j,H⟩:=Oz m n f;obtain⟨-,-,-,l,-⟩:=Oz o r c;rw [D]at j;rw [s]at l;refine⟨Qr a (Qr (sqf F (Mr F q)) (sqf F (Mr F q))),Qp,e.trans ?_⟩;refine(Qp).ext Qp λi=>Mi (λx=>?_) i;have v:Zb q x=Zb (sqf F q) x*Zb (Mr F q) x:=by rw [<-Yv,<-j]
 have w:Zb (sqf F q) x=Zb (Zay F q) x*Zb (sqf F (Mr F q)) x:=by rw [<-Yv,<-G]
 have y:Zb (Mr F q) x=Zb (sqf F (Mr F q)) x*Zb (Mr F (Mr F q)) x:=by rw [<-Yv,<-l]
 simp only [Yv];rw [v,w];rw [y];generalize Zb (sqf F (Mr F q)) x=A;generalize Zb (Mr F (Mr F q)) x=B;grind
theorem Op.sz{c:List Int}{n:Nat}(l:Tr p)(f:p≠[])(hs:Sz n p)(g:p.length<=13)(j:Tr c)(o:Tr q)(h:Op p c q):Sz (n+15) c/\c.length<=p.length/\c≠[]:=by obtain⟨a,m,e⟩:=h;exact Zvz l f hs g (Qp (p:=a) (q:=q)) j (e.trans ((Qp).ext Qp λi=>Mi (λx=>by rw [Yv,Yv,Yv,Yv];grind) i))
theorem Yk8(c:Tr p):Qr [1] p=p:=by rw [Zaz];exact Zot c
def Zjj{F:Nat}(g:Tr xs)(e:xs≠[])(f:Aj F xs){s t:Rat}(c:s<=t):vch F xs t<=vch F xs s:=Zlv g e f c
def Sqn.imp{P c:R2->R2->Prop}{hi:Rat}(e:∀x y,P x y->c x y):∀{lo:Rat} {l:List (R2×R2)},Sqn P hi lo l->Sqn c hi lo l
 | _,[],h=>h
 | _,_::_,h=>⟨h.1,h.2.1,e _ _ h.2.2.1,Sqn.imp e h.2.2.2⟩
def oe(f:Nat->Int):Nat->Int
 | 0=>0
 | k+1=>err (oe f k) (f k)
def mon(d n:Nat):List Int:=mono d ((2:Int)^n)
variable {P:Program} {N:Nat} {sc:Nat->Prop} {env:Qi} {H:Hp}
end Go.Sky
namespace Go.Sky
variable{f:Rat->Rat}{xs p o:List Int}{x a b:Rat}
def HD(xs ys:List Int):Prop:=Vp ys/\ys≠[]/\Zau ys/\Aj 13 ys/\chn 13 ys=chn 13 xs
def PH(xs:List Int)(x y:R2):Prop:=(0<x.2/\bl x.1.natAbs<=506/\bl x.2.natAbs<=506)/\(0<y.2/\bl y.1.natAbs<=506/\bl y.2.natAbs<=506)/\cvc 13 xs x-cvc 13 xs y=1
def DR:R2×R2:=((0,0),(0,0))
theorem Zgq(d:Rat){h:Rat}(c:0<h):∃n:Nat,d<=(n:Rat)*h:=by
 have i:0<h⁻¹:=gD.2 c;refine⟨(d*h⁻¹).ceil.toNat,?_⟩;have e:=@oL (d*h⁻¹);have g:(((d*h⁻¹).ceil:Int):Rat)<=(((d*h⁻¹).ceil.toNat:Nat):Rat):=by have:(d*h⁻¹).ceil<=(((d*h⁻¹).ceil.toNat:Nat):Int):=lW _;exact_mod_cast this
 have j:=dO (oB e g) (show 0<=h by grind);have k:d*h⁻¹*h=d:=O4;grind
theorem Zp7{u v:Rat}(h:crs f u v<=0)(d:f u≠0):0<f u*f v:=by
 unfold crs at h;by_cases c:f u≠0/\f u*f v<=0
 .rw [aF c]at h;exact absurd h O3
 .have:¬f u*f v<=0:=λe=>c ⟨d,e⟩;grind
theorem Zdu{F:Nat}(l:Tr xs)(i:xs≠[])(j:Aj F xs){s t:Rat}(G:s<=t)(D:vch F xs s<=vch F xs t)(hs:Zb (sqf F xs) s≠0):∀y,s<=y->y<=t->0<Zb (sqf F xs) s*Zb (sqf F xs) y:=by
 obtain⟨h,z,B⟩:=Zlu l i j s t;have g:∀u v,s<=u->u<=v->v<=t->v-u<=h->crs (Zb (sqf F xs)) u v<=0:=λu v a b c d=>by have e:=B u v a b c d;have R:vat ((chn F xs).map Zb) u<=vat ((chn F xs).map Zb) s:=Zlv l i j a;have S:vat ((chn F xs).map Zb) t<=vat ((chn F xs).map Zb) v:=Zlv l i j c;have V:vat ((chn F xs).map Zb) s<=vat ((chn F xs).map Zb) t:=D;omega
 generalize Zb (sqf F xs)=f at *;have m:∀n:Nat,∀y,s<=y->y<=t->y-s<=(n:Rat)*h->0<f s*f y:=λn=>by
  induction n with
  | zero=>
   intro y a b c;have:y=s:=by push_cast at c;grind
   subst this;exact Zp7 (g _ _ a O4 b O4) hs
  | succ n P=>
   intro y a b c;push_cast at c;by_cases H:y-s<=h
   .exact Zp7 (g s y O4 a b H) hs
   .have r:=P (y-h) O4 O4 O4;have I:f (y-h)≠0:=λe=>by rw [e]at r;grind
    have M:=Zp7 (g (y-h) y O4 O4 b O4) I;have N:=bB r M;have w:f s*f (y-h)*(f (y-h)*f y)=(f (y-h)*f (y-h))*(f s*f y):=O4;rw [w]at N;have Q:0<f (y-h)*f (y-h):=by
     rcases(show 0<f (y-h)\/f (y-h)<0 by grind)with q|q
     .exact bB q q
     .have:=bB (a:=-f (y-h)) (b:=-f (y-h)) O4 O4;grind
    rcases(show 0<f s*f y\/f s*f y<=0 by grind)with q|q
    .exact q
    .have:=aN (a:=f (y-h)*f (y-h)) (b:=-(f s*f y)) O4 O4;grind
 intro y a b;obtain⟨n,k⟩:∃n:Nat,y-s<=(n:Rat)*h:=by obtain⟨n,k⟩:=Zgq (y-s) z;exact⟨n,k⟩
 exact m n y a b k
theorem Zf0 (p:List Int)(s:Rat)(t:Rat)(B:s<=t)(v:∀u,s<=u->u<=t->0<=Zb (ld p) u):Zb p s<=Zb p t:=by
 rcases(show Zb p s<=Zb p t\/Zb p t<Zb p s by grind)with h|h
 .exact h
 .exfalso;obtain⟨M,V,H⟩:=Zis s t p;have y:s<t:=by
   rcases(show s<t\/s=t by grind)with d|d
   .exact d
   .rw [d]at h;grind
  obtain⟨n,z⟩:=Zgq (M*(t-s)*(t-s)+1) (show 0<Zb p s-Zb p t by grind);have g:(0:Rat)<(n:Rat):=by
   rcases aV n with d|d
   .subst d;have:=aN (a:=M*(t-s)) (b:=t-s) (aN O4 O4) O4;push_cast at z;grind
   .exact_mod_cast d
  have m:(n:Rat)≠0:=λe=>by rw [e]at g;exact absurd g O3
  have c:(n:Rat)*((t-s)/n)=t-s:=by rw [jF,<-kJ,kE (n:Rat),kJ,lJ _ m,Rat.mul_one]
  have q:∀k:Nat,(k:Rat)<=(n:Rat)->-(M*((t-s)/n)*((t-s)/n))*k<=Zb p (s+k*((t-s)/n))-Zb p s:=λk=>by
   induction k with
   | zero=>intro _;push_cast;rw [show s+0*((t-s)/n)=s by grind];grind
   | succ k D=>
    intro w;push_cast at w ⊢;have Q:=D O4;have l:0<=(t-s)/n:=by rw [jF];exact aN O4 (dG (gD.2 g))
    have i:=c;generalize (t-s)/(n:Rat)=h at *;have F:(0:Rat)<=(k:Rat):=by exact_mod_cast bI k
    have I:=aN (a:=(k:Rat)) (b:=h) F l;have N:=aN (a:=(n:Rat)-(k+1)) (b:=h) O4 l;have j:=(H (s+k*h) (s+(k+1)*h) O4 O4 O4).1;have e:=v (s+k*h) O4 O4;have P:=aN l e;rw [show s+(k+1)*h-(s+k*h)=h by grind]at j;grind
  have r:=q n O4;have i:=c;rw [i,show s+(t-s)=t by grind]at r;have G:-(M*((t-s)/n)*((t-s)/n))*n=-(M*((t-s)/n)*(t-s)):=O4;rw [G]at r;have R:M*((t-s)/n)*(t-s)*n=M*(t-s)*(t-s):=O4;have S:=aN (a:=Zb p t-Zb p s+M*((t-s)/n)*(t-s)) (b:=(n:Rat)) O4 O4;grind
theorem Zfl(p:List Int)(x:Rat):Zb (p.map λa=>-1*a) x=-Zb p x:=by rw [Zg];push_cast;grind
theorem Znr (p:List Int){s t:Rat}(k:s<t)(e:∀u,s<u->u<=t->0<Zb (ld p) u)(g:0<=Zb (ld p) s):Zb p s<Zb p t:=by
 have i:s<(s+t)/2/\(s+t)/2<t:=by constructor<;>grind
 generalize (s+t)/2=m at *;have r:=Zf0 p s m O4 (λu a b=>by
  rcases(show s<u\/u=s by grind)with h|h
  .exact dG (e u h O4)
  .rw [h];exact g)
 obtain⟨M,l,n⟩:=Zis m t p;have j:=e m i.1 O4;obtain⟨η,q,w,y⟩:=Gb (show 0<t-m by grind) l (show 0<Zb (ld p) m/2 by grind);have b:=(n m (m+η) O4 O4 O4).1;rw [show m+η-m=η by grind]at b;have v:=Zf0 p (m+η) t O4 (λu a b=>dG (e u O4 b));have c:=aN (a:=η) (b:=Zb (ld p) m/2-η*M) O4 O4;have d:=bB q j;grind
def Ep:Nat->List Int->Rat->Int
 | 0,_,_=>0
 | n+1,p,x=>if Zb p x≠0 then Er (Zb p x)else Ep n (Xb p) x
def Zxv(h:0<x):Er x=1:=An h
def Zmw(h:x<0):Er x=-1:=Ao h
theorem Zru(h:x=0):Er x=0:=by subst h;rfl
theorem Pf(x:Rat):(0<x/\Er x=1)\/(x<0/\Er x=-1)\/(x=0/\Er x=0):=by
 rcases(show 0<x\/x<0\/x=0 by grind)with h|h|h
 .exact .inl ⟨h,Zxv h⟩
 .exact .inr (.inl ⟨h,Zmw h⟩)
 .exact .inr (.inr ⟨h,Zru h⟩)
theorem Zw2(n:Nat)(p:List Int)(x:Rat)(h:Zb p x≠0)(c:p.length<=n):Ep n p x=Er (Zb p x):=by
 cases n with
 | zero=>have:p=[]:=aG O;subst this;exact absurd rfl h
 | succ n=>unfold Ep;rw [aF h]
theorem Zm6(p:List Int)(x:Rat)(h:Zb p x≠0):∃δ:Rat,0<δ/\∀y,x<y->y<=x+δ->Er (Zb p y)=Er (Zb p x):=by
 obtain⟨L,r,k⟩:=Ct x (x+1) p;have i:0<(if 0<Zb p x then Zb p x else -Zb p x):=by split<;>grind
 obtain⟨δ,j,m,g⟩:=Gb (show(0:Rat)<1 by decide) (show 0<L+1 by grind) (show 0<(if 0<Zb p x then Zb p x else -Zb p x)/2 by grind);refine⟨δ,j,λy n q=>?_⟩;have l:=k x y O4 O4 O4;have b:=aN (a:=L) (b:=δ-(y-x)) O4 O4;have c:L*(y-x)<=δ*(L+1):=O4;rcases Pf (Zb p x)with⟨d,e⟩|⟨d,e⟩|⟨d,e⟩
 .rw [aF d]at g i;rw [e];exact Zxv O4
 .rw [aD O4]at g i;rw [e];exact Zmw O4
 .exact absurd d h
theorem Bz:∀(n:Nat) (p:List Int) (x:Rat),p.length<=n->∃δ:Rat,0<δ/\∀y,x<y->y<=x+δ->Er (Zb p y)=Ep n p x
 | 0,p,x,q=>⟨1,O3,λy _ _=>by have:p=[]:=aG O;subst this;exact Zru rfl⟩
 | n+1,p,x,q=>by
  by_cases h:Zb p x≠0
  .rw [Zw2 (n+1) p x h q];exact Zm6 p x h
  .have F:Zb p x=0:=cN.1 h;have B:=Nt p;obtain⟨δ,v,w⟩:=Bz n (Xb p) x O;have z:Ep (n+1) p x=Ep n (Xb p) x:=by unfold Ep;rw [aD h];cases n<;>rfl
   have k:Zb (ld p) x≠0->Er (Zb (ld p) x)=Ep n (Xb p) x:=λg=>by rw [<-Km]at g ⊢;exact(Zw2 n (Xb p) x g O).symm
   refine⟨δ,v,λy l G=>?_⟩;rw [z];have i:∀u,x<u->u<=y->Er (Zb (ld p) u)=Ep n (Xb p) x:=λu a b=>by rw [<-Km];exact w u a O4
   have e:=i y l O4;generalize Ep n (Xb p) x=σ at *;rcases Pf (Zb (ld p) y)with⟨m,j⟩|⟨m,j⟩|⟨m,j⟩
   .rw [j]at e;subst e;refine Zxv ?_;have:=Znr p l (λu a b=>by
     rcases Pf (Zb (ld p) u)with⟨d,c⟩|⟨d,c⟩|⟨d,c⟩
     .exact d
     .have:=i u a b;rw [c]at this;exact absurd this O3
     .have:=i u a b;rw [c]at this;exact absurd this O3) (by
     rcases Pf (Zb (ld p) x)with⟨d,c⟩|⟨d,c⟩|⟨d,c⟩
     .exact dG d
     .have:=k O4;rw [c]at this;exact absurd this O3
     .grind)
    grind
   .rw [j]at e;subst e;refine Zmw ?_;have r:∀u,Zb (ld (p.map λa=>-1*a)) u=-Zb (ld p) u:=λu=>by rw [Aq];push_cast;grind
    have:=Znr (p.map λa=>-1*a) l (λu a b=>by
     rw [r];rcases Pf (Zb (ld p) u)with⟨d,c⟩|⟨d,c⟩|⟨d,c⟩
     .have:=i u a b;rw [c]at this;exact absurd this O3
     .grind
     .have:=i u a b;rw [c]at this;exact absurd this O3) (by
     rw [r];rcases Pf (Zb (ld p) x)with⟨d,c⟩|⟨d,c⟩|⟨d,c⟩
     .have:=k O4;rw [c]at this;exact absurd this O3
     .grind
     .grind)
    rw [Zfl,Zfl]at this;grind
   .rw [j]at e;subst e;refine Zru ?_;have s:∀u,x<=u->u<=y->Zb (ld p) u=0:=λu a b=>by
     rcases(show x<u\/u=x by grind)with g|g
     .rcases Pf (Zb (ld p) u)with⟨d,c⟩|⟨d,c⟩|⟨d,c⟩
      .have:=i u g b;rw [c]at this;exact absurd this O3
      .have:=i u g b;rw [c]at this;exact absurd this O3
      .exact d
     .subst g;rcases Pf (Zb (ld p) u)with⟨d,c⟩|⟨d,c⟩|⟨d,c⟩
      .have:=k O4;rw [c]at this;exact absurd this O3
      .have:=k O4;rw [c]at this;exact absurd this O3
      .exact d
    have D:=Zf0 p x y O4 (λu a b=>by rw [s u a b];grind);have t:=Zf0 (p.map λa=>-1*a) x y O4 (λu a b=>by rw [Aq,s u a b];push_cast;grind);rw [Zfl,Zfl]at t;grind
theorem Ed.mul_l{a b c:List Int}(h:Ed a b):Ed (Qr c a) (Qr c b):=by obtain⟨k,s,d,e⟩:=h;exact⟨k,s,d,λx=>by rw [Yv,Yv];have:=e x;grind⟩
theorem Fj{F n:Nat}(v:Tr p)(m:p≠[])(hs:Sz n p)(u:n<=220)(s:p.length<=11)(r:p.length<=F+1):∀(f:Nat) (q:List Int),Dp p q->q.length<=f->
  (∃B:List Int,∀x:Rat,Zb q x=Zb (Zet F f q) x*(Zb B x*Zb B x))/\Ed (Zet F f q) (sqf F q):=by
 intro f
 induction f with
 | zero=>intro q d t;have:=aH.2 d.2.1;omega
 | succ f W=>
  intro q d t;have g:=(d.ok v m hs u s r).2;have h:=d.next g;have e:=(h.ok v m hs u s r).2;have i:=h.next e;unfold Zet;by_cases l:(sqf F q).length=1
  .rw [aF l];obtain⟨s1,s2,s3⟩:=Zin d.1 d.2.1 g l;refine⟨⟨[1],λx=>?_⟩,Ed.refl _⟩;rw [s1,nrm1 d.1 d.2.2.1 s2,Pi];push_cast;grind
  .rw [aD l];have Y:2<=q.length:=by obtain⟨f1,f2,f3,f4,f5,f6⟩:=Nf F d.1 d.2.1 g;obtain⟨H,w,y,k,I⟩:=Oz d.1 d.2.1 g;have l1:=aH.2 f3;have l2:=aH.2 w;omega
   have Z:=Zpj d.1 d.2.1 g Y;obtain⟨H,w,y,k,I⟩:=Oz d.1 d.2.1 g;obtain⟨b1,b2,b3,z,b5⟩:=Oz h.1 h.2.1 e;obtain⟨-,t2,t3,-,-,-⟩:=Nf F h.1 h.2.1 e;have lb:=aH.2 t3;obtain⟨⟨B,R⟩,V⟩:=W _ i O;obtain⟨-,G,o3,o4⟩:=Zci d.1 d.2.1 g e;have j:=(i.ok v m hs u s r).2;rw [d.2.2.1]at k;rw [y]at z;have M:∀x,Zb q x=Zb (sqf F q) x*Zb (Mr F q) x:=λx=>by rw [<-Yv,<-k]
   have N:∀x,Zb (sqf F q) x=Zb (Zay F q) x*Zb (sqf F (Mr F q)) x:=λx=>by rw [<-Yv,<-G]
   have P:∀x,Zb (Mr F q) x=Zb (sqf F (Mr F q)) x*Zb (Mr F (Mr F q)) x:=λx=>by rw [<-Yv,<-z]
   refine⟨⟨Qr (sqf F (Mr F q)) B,λx=>?_⟩,?_⟩
   .rw [Yv,Yv,M x,N x,P x,R x];show _=Zb (Zay F q) x*_*_;generalize Zb (sqf F (Mr F q)) x=S;generalize Zb B x=C;grind
   .have Q:Ed (Zet F f (Mr F (Mr F q))) (sqf F (Mr F q)):=V.trans (Zyb h.1 h.2.1 e j);have D:=Q.mul_l (c:=Zay F q);rw [<-G]at D;exact D
theorem Zr8{F n:Nat}(P:Tr p)(I:p≠[])(hs:Sz n p)(hn:n<=220)(hl:p.length<=11)(hF:p.length<=F+1)(u:Tr o)(R:o≠[])(g:Za5 F o)(r:Za5 F p)(h:Ed o (sqf F p)):(Mr F o).length=1/\sqf F o=Xj o:=by
 obtain⟨D,S,V,G,a5⟩:=Oz u R g;obtain⟨f1,f2,f3,f4,f5,f6⟩:=Nf F P I r;obtain⟨-,s2,s3,s4,s5,s6⟩:=Nf F u R g;have Q:Tr (Xj o):=Nw (Xh u);have M:=Zdl Q (Mg Q) g;have H:Ed (Mr F o) (Xj o):=M.1.ed;have W:Ed (Mr F o) (ld (Xj o)):=(M.2.ed:Ed (Mr F o) (Xb (Xj o))).congr λx=>Km _ x;have s:Sim (Xj o) o:=(Ix (Yi o)).trans (Qu u);obtain⟨k,w,t,l⟩:Ed (Xj o) (sqf F p):=by
  obtain⟨k,w,t,e⟩:=h;obtain⟨c,d,hc,B,v⟩:=s;have j:∀x:Rat,(c:Rat)*Zb (Xj o) x=(d:Rat)*Zb o x:=λx=>by rw [<-Zg,<-Zg];exact Ng x _ _ λi=>by rw [Qh,Qh];exact v i
  exact⟨d*k,w.map λa=>c*a,bG B t,λx=>by rw [Zg];have a:=e x;have b:=j x;push_cast;grind⟩
 have N:(Mr F o).length<=1:=by
  refine Zff P I r D (H.trans ⟨k,w,t,l⟩) ?_;have Y:Ed (Mr F o) (lmul w (ld (Xj o))):=by obtain⟨m,z,hm,e⟩:=W;exact⟨m,lmul w z,hm,λx=>by rw [Zp,Zp];have:=e x;grind⟩
  have Z:Ed (Mr F o) (ld (sqf F p)):=Ed.lin H Y (ld w) k t λx=>by have:=Cd ((sqf F p).map λa=>k*a) (lmul w (Xj o)) (λy=>by rw [Zg,Zp];exact l y) x;rw [Aq,Cu]at this;rw [Zp,this]
  exact Z.congr λx=>(Km _ x).symm
 have q:(Mr F o).length=1:=by have:=aH.2 S;omega
 refine⟨q,?_⟩;rw [nrm1 D V q,Zot s2]at G;exact G.symm
theorem Zfg{a b:List Int}(h:Sim a b):∃c d:Int,c≠0/\d≠0/\∀x:Rat,(c:Rat)*Zb a x=(d:Rat)*Zb b x:=by obtain⟨c,d,g,j,e⟩:=h;exact⟨c,d,g,j,λx=>by rw [<-Zg,<-Zg];exact Ng x _ _ λi=>by rw [Qh,Qh];exact e i⟩
theorem Gv(h:x≠0):0<x*x:=by
 rcases(show 0<x\/x<0 by grind)with q|q
 .exact bB q q
 .have:=bB (a:=-x) (b:=-x) O4 O4;grind
theorem Pg{c:Int}(h:c≠0):(c:Rat)≠0:=λe=>h (by exact_mod_cast e)
theorem Zfv{a' e c d:Rat}(i:c≠0)(j:d≠0)(k:c*a'=d*a)(l:c*e=d*b)(h:a*b<0):a'*e<0:=by
 have m:(c*c)*(a'*e)=(d*d)*(a*b):=O4;have n:=Gv i;have g:=Gv j;rcases(show a'*e<0\/0<=a'*e by grind)with q|q
 .exact q
 .have r:=aN (a:=c*c) (b:=a'*e) O4 q;have s:=bB (a:=d*d) (b:=-(a*b)) g O4;grind
theorem Ye4{e g c d:Rat}(h:e*(c*c)*(g*(d*d))<0):e*g<0:=by
 rcases(show e*g<0\/0<=e*g by grind)with q|q
 .exact q
 .have j:0<=c*d*(c*d):=by
   by_cases i:c*d=0
   .rw [i];grind
   .exact dG (Gv i)
  have k:=aN q j;grind
theorem Zm5{F n:Nat}(i:Tr p)(k:p≠[])(hs:Sz n p)(G:n<=220)(D:p.length<=11)(w:p.length<=F+1)(ho:o=Zet F p.length (Xj p))(g:Tr o)(M:o≠[])(u:Aj F o)(Z:a<b)(Y:Ep p.length p a=1)(h2:Zb p b<0):vch F o b<vch F o a:=by
 have m:=Dp.start i k;have h:=(m.ok i k hs G D w).2;have j:Za5 F p:=by unfold Za5 at h ⊢;rwa [m.2.2.1]at h
 obtain⟨⟨B,t⟩,v⟩:=Fj i k hs G D w p.length (Xj p) m (by rw [Pp i];exact aI _);rw [<-ho]at t v;rw [Zoa m.2.2.1]at v;obtain⟨-,I⟩:=Zr8 i k hs G D w g M u.1.2.2.1 j v;obtain⟨δ,d1,V⟩:=Bz p.length p a (aI _);obtain⟨s,R,s2,S⟩:∃s,a<s/\s<=a+δ/\s<b:=by
  rcases(show a+δ<b\/b<=a+δ by grind)with q|q
  .exact⟨a+δ,O4,O4,q⟩
  .exact⟨(a+b)/2,O4,O4,O4⟩
 have H:0<Zb p s:=by
  have:=V s R s2;rw [Y]at this;rcases Pf (Zb p s)with⟨r,l⟩|⟨r,l⟩|⟨r,l⟩
  .exact r
  .rw [l]at this;exact absurd this O3
  .rw [l]at this;exact absurd this O3
 have k1:Zb p s*Zb p b<0:=by have:=bB (a:=Zb p s) (b:=-Zb p b) H O4;grind
 obtain⟨c,d,hc,hd,e⟩:=Zfg ((Ix (Yi p)).trans (Qu i):Sim (Xj p) p);have P:Zb (Xj p) s*Zb (Xj p) b<0:=Zfv (Pg hc) (Pg hd) (e s) (e b) k1;rw [t s,t b]at P;have k3:=Ye4 P;obtain⟨c',d',y,z,N⟩:=Zfg ((Ix (Yi o)).trans (Qu g):Sim (Xj o) o);have Q:Zb (Xj o) s*Zb (Xj o) b<0:=Zfv (Pg y) (Pg z) (N s) (N b) k3;rw [<-I]at Q;have m1:=Zjj g M u (dG R);rcases jL (vch F o b) (vch F o s)with q|q
 .exact Int.lt_of_lt_of_le q m1
 .exfalso;have hz:Zb (sqf F o) s≠0:=λW=>by rw [W]at Q;grind
  have:=Zdu g M u (dG S) q hz b (dG S) O4;grind
theorem Zgr:∀(n:Nat) (p:List Int) (x:Rat),Tr p->p≠[]->p.length<=n->Ep n p x≠0
 | 0,p,x,_,i,r=>absurd (aG O) i
 | n+1,p,x,l,i,r=>by
  unfold Ep;by_cases h:Zb p x≠0
  .rw [aF h];rcases Pf (Zb p x)with⟨j,g⟩|⟨j,g⟩|⟨j,g⟩
   .rw [g];decide
   .rw [g];decide
   .exact absurd j h
  .rw [aD h];have m:Zb p x=0:=cN.1 h;have d:=Nt p;refine Zgr n (Xb p) x (Mg l) (λe=>?_) O;rw [e]at d;have s:=aH.2 i;have k:p.length=1:=by simp at d;omega
   match p,k with
   | [c],_=>
    have q:c≠0:=l.mem O8;rw [Pi]at m;exact Pg q m
theorem Zqt(n:Nat)(p:List Int)(x:Rat):-1<=Ep n p x/\Ep n p x<=1:=by
 induction n generalizing p with
 | zero=>show -1<=(0:Int)/\(0:Int)<=1;decide
 | succ n c=>unfold Ep;split;exact Yea;exact c _
def Zaf(F:Nat)(o:List Int)(a b:Rat):Prop:=0<vch F o a-vch F o b-(if Zb o b=0 then 1 else 0)
theorem Yff{F n:Nat}(g:Tr p)(i:p≠[])(hs:Sz n p)(w:n<=220)(v:p.length<=11)(u:p.length<=F+1)(y:o=Zet F p.length (Xj p))(m:Tr o)(N:o≠[])(H:Aj F o)(k:a<b) :
  (Zb p a<0\/Zb p b<0\/Ep p.length p a<0\/Zaf F o a b)↔(Ep p.length p a<0\/Zaf F o a b):=by
 constructor
 .rintro(h|h|h|h)
  .left;rw [Zw2 p.length p a O4 (aI _),Zmw h];decide
  .have r:=Zqt p.length p a;have r0:=Zgr p.length p a g i (aI _);rcases(show Ep p.length p a<0\/Ep p.length p a=1 by omega)with j|j
   .exact .inl j
   .right;have Q:=Zm5 g i hs w v u y m N H k j h;have I:=Dp.start g i;obtain⟨⟨B,t⟩,-⟩:=Fj g i hs w v u p.length (Xj p) I (by rw [Pp g];exact aI _);rw [<-y]at t;obtain⟨c,d,P,M,e⟩:=Zfg ((Ix (Yi p)).trans (Qu g):Sim (Xj p) p);have l:Zb o b≠0:=λz=>by
     have s:(c:Rat)*Zb (Xj p) b=(d:Rat)*Zb p b:=e b;rw [t b,z]at s;have D:=Pg M;have G:(d:Rat)*Zb p b=0:=by rw [<-s];grind
     rcases fB.1 G with q|q
     .exact D q
     .rw [q]at h;grind
    unfold Zaf;rw [aD l];omega
  .exact .inl h
  .exact .inr h
 .rintro(h|h)
  .exact .inr (.inr (.inl h))
  .exact .inr (.inr (.inr h))
theorem Ybp(p:List Int)(x:Rat)(h:Zb p x≠0):∃δ:Rat,0<δ/\∀y,x-δ<=y->y<=x->Er (Zb p y)=Er (Zb p x):=by
 obtain⟨L,r,k⟩:=Ct (x-1) x p;have i:0<(if 0<Zb p x then Zb p x else -Zb p x):=by split<;>grind
 obtain⟨δ,j,m,g⟩:=Gb (show(0:Rat)<1 by decide) (show 0<L+1 by grind) (show 0<(if 0<Zb p x then Zb p x else -Zb p x)/2 by grind);refine⟨δ,j,λy n q=>?_⟩;have l:=k y x O4 O4 O4;have b:=aN (a:=L) (b:=δ-(x-y)) O4 O4;have c:L*(x-y)<=δ*(L+1):=O4;rcases Pf (Zb p x)with⟨d,e⟩|⟨d,e⟩|⟨d,e⟩
 .rw [aF d]at g i;rw [e];exact Zxv O4
 .rw [aD O4]at g i;rw [e];exact Zmw O4
 .exact absurd d h
theorem rsg_1(h:Er x=1):0<x:=by
 rcases Pf x with⟨d,c⟩|⟨d,c⟩|⟨d,c⟩
 .exact d
 .rw [c]at h;exact absurd h O3
 .rw [c]at h;exact absurd h O3
theorem Zog(h:Er x=-1):x<0:=by
 rcases Pf x with⟨d,c⟩|⟨d,c⟩|⟨d,c⟩
 .rw [c]at h;exact absurd h O3
 .exact d
 .rw [c]at h;exact absurd h O3
def Ycl(p:List Int)(a b:Rat):Prop:=∃x,a<=x/\x<=b/\Zb p x<0
theorem Yg9  {F:Nat} (hx:Tr xs) (h0:xs≠[]) (hC:Aj F xs) {σ:Rat} (Y:σ≠0) (S:a<b)
  (c:∀x,a<=x->x<b->∃δ:Rat,0<δ/\∀y,x<y->y<=x+δ->y<=b->0<σ*Zb (sqf F xs) y) :
  vch F xs a-vch F xs b<=(if Zb (sqf F xs) b=0 then 1 else 0):=by
 obtain⟨h,h1,R⟩:=Zlu hx h0 hC a b;have H:∀x,a<=x->x<b->0<=σ*Zb (sqf F xs) x:=λx ha hb=>by
  rcases(show 0<=σ*Zb (sqf F xs) x\/σ*Zb (sqf F xs) x<0 by grind)with q|q
  .exact q
  .exfalso;have g:Zb (sqf F xs) x≠0:=λe=>by rw [e]at q;grind
   obtain⟨δ,d1,D⟩:=c x ha hb;obtain⟨ε,e1,Q⟩:=Zm6 (sqf F xs) x g;obtain⟨y,N,P,y3,y4⟩:∃y,x<y/\y<=x+δ/\y<=x+ε/\y<=b:=by
    rcases(show δ<=ε\/ε<=δ by grind)with w|w
    .rcases(show x+δ<=b\/b<=x+δ by grind)with v|v
     .exact⟨x+δ,O4,O4,O4,v⟩
     .exact⟨b,O4,O4,O4,O4⟩
    .rcases(show x+ε<=b\/b<=x+ε by grind)with v|v
     .exact⟨x+ε,O4,O4,O4,v⟩
     .exact⟨b,O4,O4,O4,O4⟩
   have Z:=D y N P y4;have k:=Q y N y3;rcases Pf (Zb (sqf F xs) x)with⟨i,j⟩|⟨i,j⟩|⟨i,j⟩
   .rw [j]at k;have I:=rsg_1 k;rcases(show σ<0\/0<σ by grind)with s|s
    .have:=bB (a:=-σ) (b:=Zb (sqf F xs) y) O4 I;grind
    .have:=bB s i;grind
   .rw [j]at k;have I:=Zog k;rcases(show σ<0\/0<σ by grind)with s|s
    .have:=bB (a:=-σ) (b:=-Zb (sqf F xs) x) O4 O4;grind
    .have:=bB (a:=σ) (b:=-Zb (sqf F xs) y) s O4;grind
   .exact g i
 have V:0<=σ*Zb (sqf F xs) b:=by
  rcases(show 0<=σ*Zb (sqf F xs) b\/σ*Zb (sqf F xs) b<0 by grind)with q|q
  .exact q
  .exfalso;have g:Zb (sqf F xs) b≠0:=λe=>by rw [e]at q;grind
   obtain⟨ε,e1,Q⟩:=Ybp (sqf F xs) b g;obtain⟨y,N,P,y3⟩:∃y,a<=y/\y<b/\b-ε<=y:=by
    rcases(show a<=b-ε\/b-ε<=a by grind)with v|v
    .exact⟨b-ε,v,O4,O4⟩
    .exact⟨a,O4,S,v⟩
   obtain⟨δ,d1,D⟩:=c y N P;obtain⟨z,z1,z2,r⟩:∃z,y<z/\z<=y+δ/\z<=b:=by
    rcases(show y+δ<=b\/b<=y+δ by grind)with v|v
    .exact⟨y+δ,O4,O4,v⟩
    .exact⟨b,P,O4,O4⟩
   have Z:=D z z1 z2 r;have k:=Q z O4 r;rcases Pf (Zb (sqf F xs) b)with⟨i,j⟩|⟨i,j⟩|⟨i,j⟩
   .rw [j]at k;have I:=rsg_1 k;rcases(show σ<0\/0<σ by grind)with s|s
    .have:=bB (a:=-σ) (b:=Zb (sqf F xs) z) O4 I;grind
    .have:=bB s i;grind
   .rw [j]at k;have I:=Zog k;rcases(show σ<0\/0<σ by grind)with s|s
    .have:=bB (a:=-σ) (b:=-Zb (sqf F xs) b) O4 O4;grind
    .have:=bB (a:=σ) (b:=-Zb (sqf F xs) z) s O4;grind
   .exact g i
 have d:∀u v,a<=u->u<=v->v<=b->v-u<=h/2->vch F xs u-vch F xs v<=(if v=b/\Zb (sqf F xs) b=0 then 1 else 0):=λu v l M B c4=>by
  have e:=R u v l M B O4;have e':vch F xs u-vch F xs v=crs (Zb (sqf F xs)) u v:=e;rw [e'];unfold crs;by_cases G:Zb (sqf F xs) u≠0/\Zb (sqf F xs) u*Zb (sqf F xs) v<=0
  .rw [aF G];have W:u<b:=by
    rcases(show u<b\/u=b by grind)with q|q
    .exact q
    .exfalso;have:v=u:=O4;subst this;have:=Gv G.1;grind
   have g1:=H u l W;have g2:0<=σ*Zb (sqf F xs) v:=by
    rcases(show v<b\/v=b by grind)with q|q
    .exact H v O4 q
    .rw [q];exact V
   have m:Zb (sqf F xs) v=0:=by
    rcases(show Zb (sqf F xs) v=0\/Zb (sqf F xs) v≠0 by grind)with q|q
    .exact q
    .exfalso;have m1:=aN g1 g2;have m2:=Gv Y;have m3:(σ*σ)*(Zb (sqf F xs) u*Zb (sqf F xs) v)>=0:=O4;rcases(show Zb (sqf F xs) u*Zb (sqf F xs) v<0\/Zb (sqf F xs) u*Zb (sqf F xs) v=0 by grind)with w|w
     .have:=bB m2 (show 0 < -(Zb (sqf F xs) u*Zb (sqf F xs) v) by grind);grind
     .rcases fB.1 w with z|z
      .exact G.1 z
      .exact q z
   rcases(show v<b\/v=b by grind)with q|q
   .exfalso;obtain⟨δ,d1,D⟩:=c v O4 q;obtain⟨z,z1,z2,r,z4⟩:∃z,v<z/\z<=v+δ/\z<=b/\z-v<=h/2:=by
     rcases(show δ<=h/2\/h/2<=δ by grind)with w|w
     .rcases(show v+δ<=b\/b<=v+δ by grind)with t|t
      .exact⟨v+δ,O4,O4,t,O4⟩
      .exact⟨b,q,O4,O4,O4⟩
     .rcases(show v+h/2<=b\/b<=v+h/2 by grind)with t|t
      .exact⟨v+h/2,O4,O4,t,O4⟩
      .exact⟨b,q,O4,O4,O4⟩
    have Z:=D z z1 z2 r;have a1:=R u z l O4 r O4;have a2:=R v z O4 O4 r O4;have r1:crs (Zb (sqf F xs)) u z=0:=by
     unfold crs;rw [aD];rintro⟨w1,w2⟩;have g3:0<σ*Zb (sqf F xs) u:=by
      rcases(show σ*Zb (sqf F xs) u=0\/0<σ*Zb (sqf F xs) u by grind)with t|t
      .rcases fB.1 t with t|t
       .exact absurd t Y
       .exact absurd t w1
      .exact t
     have m1:=bB g3 Z;have m2:=Gv Y;have m3:0<(σ*σ)*(Zb (sqf F xs) u*Zb (sqf F xs) z):=O4;have m4:=aN (a:=σ*σ) (b:=-(Zb (sqf F xs) u*Zb (sqf F xs) z)) O4 O4;grind
    have r2:crs (Zb (sqf F xs)) v z=0:=by unfold crs;rw [aD];rintro⟨w1,w2⟩;exact w1 m
    have r3:crs (Zb (sqf F xs)) u v=1:=by unfold crs;rw [aF G]
    rw [r1]at a1;rw [r2]at a2;rw [r3]at e;omega
   .rw [q]at m;rw [aF ⟨q,m⟩];decide
  .rw [aD G];split<;>decide
 have a0:∀n:Nat,∀u,a<=u->u<=b->b-u<=(n:Rat)*(h/2)->vch F xs u-vch F xs b<=(if Zb (sqf F xs) b=0 then 1 else 0):=λn=>by
  induction n with
  | zero=>
   intro u l M B;have:u=b:=by push_cast at B;grind
   subst this;rw [Int.sub_self];split<;>decide
  | succ n ih=>
   intro u l M B;push_cast at B;by_cases hy:b-u<=h/2
   .have:=d u b l M O4 hy;by_cases g:Zb (sqf F xs) b=0
    .rw [aF ⟨rfl,g⟩]at this;rw [aF g];exact this
    .rw [aD (λe=>g e.2)]at this;rw [aD g];exact this
   .have i1:=ih (u+h/2) O4 O4 O4;have i2:=d u (u+h/2) l O4 O4 O4;rw [aD (λe=>by have:=e.1;grind)]at i2;generalize (if Zb (sqf F xs) b=0 then(1:Int)else 0)=t at *;omega
 obtain⟨n,hn⟩:=Zgq (b-a) (show 0<h/2 by grind);exact a0 n a O4 O4 hn
structure Odp (F n:Nat) (p o:List Int):Prop where
 tr:Tr p
 ne:p≠[]
 sz:Sz n p
 hn:n<=220
 hl:p.length<=11
 hF:p.length<=F+1
 eq:o=Zet F p.length (Xj p)
 otr:Tr o
 one:o≠[]
 ok:Aj F o
theorem Odp.sq{F n:Nat}(h:Odp F n p o):∃(c d:Int) (B:List Int),c≠0/\d≠0/\∀x:Rat,(d:Rat)*Zb p x=(c:Rat)*(Zb o x*(Zb B x*Zb B x)):=by have i:=Dp.start h.tr h.ne;obtain⟨⟨B,g⟩,-⟩:=Fj h.tr h.ne h.sz h.hn h.hl h.hF p.length (Xj p) i (by rw [Pp h.tr];exact aI _);rw [<-h.eq]at g;obtain⟨c,d,j,k,e⟩:=Zfg ((Ix (Yi p)).trans (Qu h.tr):Sim (Xj p) p);exact⟨c,d,B,j,k,λx=>by rw [<-g x];exact(e x).symm⟩
theorem Odp.sqf{F n:Nat}(h:Odp F n p o):Go.Sky.sqf F o=Xj o:=by
 have e:=Dp.start h.tr h.ne;have c:=(e.ok h.tr h.ne h.sz h.hn h.hl h.hF).2;have d:Za5 F p:=by unfold Za5 at c ⊢;rwa [e.2.2.1]at c
 obtain⟨-,g⟩:=Fj h.tr h.ne h.sz h.hn h.hl h.hF p.length (Xj p) e (by rw [Pp h.tr];exact aI _);rw [<-h.eq]at g;rw [Zoa e.2.2.1]at g;exact(Zr8 h.tr h.ne h.sz h.hn h.hl h.hF h.otr h.one h.ok.1.2.2.1 d g).2
theorem Odp.srt{F n:Nat}(h:Odp F n p o):∃c d:Int,c≠0/\d≠0/\∀x:Rat,(c:Rat)*Zb (Go.Sky.sqf F o) x=(d:Rat)*Zb o x:=by rw [h.sqf];exact Zfg ((Ix (Yi o)).trans (Qu h.otr):Sim (Xj o) o)
theorem Odp.zero{F n:Nat}(h:Odp F n p o)(x:Rat):Zb (Go.Sky.sqf F o) x=0↔Zb o x=0:=by
 obtain⟨c,d,i,j,e⟩:=h.srt;have g:=e x;constructor
 .intro z;rw [z]at g;rcases fB.1 (show(d:Rat)*Zb o x=0 by grind)with q|q
  .exact absurd q (Pg j)
  .exact q
 .intro z;rw [z]at g;rcases fB.1 (show(c:Rat)*Zb (Go.Sky.sqf F o) x=0 by grind)with q|q
  .exact absurd q (Pg i)
  .exact q
theorem Odp.nz{F n:Nat}(h:Odp F n p o)(j:Zb p x≠0):Zb o x≠0:=λz=>by
 obtain⟨c,d,B,k,i,e⟩:=h.sq;have g:=e x;rw [z]at g;rcases fB.1 (show(d:Rat)*Zb p x=0 by grind)with q|q
 .exact Pg i q
 .exact j q
theorem Odp.opp{F n:Nat}(h:Odp F n p o){y:Rat}(j:Zb p x*Zb p y<0):Zb o x*Zb o y<0/\Zb (Go.Sky.sqf F o) x*Zb (Go.Sky.sqf F o) y<0:=by obtain⟨c,d,B,m,q,e⟩:=h.sq;have r:(Zb o x*(Zb B x*Zb B x))*(Zb o y*(Zb B y*Zb B y))<0:=Zfv (Pg m) (Pg q) (e x).symm (e y).symm j;have l:=Ye4 r;obtain⟨s,t,g,i,k⟩:=h.srt;exact⟨l,Zfv (Pg g) (Pg i) (k x) (k y) l⟩
theorem Odp.sem{F n:Nat}(h:Odp F n p o)(i:a<b):(Ep p.length p a<0\/Zaf F o a b)↔Ycl p a b:=by
 have j:=Yff h.tr h.ne h.sz h.hn h.hl h.hF h.eq h.otr h.one h.ok i;constructor
 .rintro(k|k)
  .obtain⟨δ,M,m⟩:=Bz p.length p a (aI _);have r:=Zqt p.length p a;have hm:Ep p.length p a=-1:=O;rcases(show a+δ<=b\/b<=a+δ by grind)with q|q
   .exact⟨a+δ,O4,q,Zog (by rw [m (a+δ) O4 O4,hm])⟩
   .exact⟨b,O4,O4,Zog (by rw [m b i q,hm])⟩
  .rcases Classical.em (Ycl p a b)with q|q
   .exact q
   .exfalso;have S:∀x,a<=x->x<=b->0<=Zb p x:=λx u v=>by
     rcases(show 0<=Zb p x\/Zb p x<0 by grind)with w|w
     .exact w
     .exact absurd ⟨x,u,v,w⟩ q
    have l:∀x,a<=x->x<b->∃δ:Rat,0<δ/\∀y,x<y->y<=x+δ->y<=b->0<Zb p y:=λx u v=>by
     obtain⟨δ,M,m⟩:=Bz p.length p x (aI _);have r:=Zqt p.length p x;have r0:=Zgr p.length p x h.tr h.ne (aI _);refine⟨δ,M,λy G H I=>?_⟩;have s:=m y G H;rcases Pf (Zb p y)with⟨N,P⟩|⟨N,P⟩|⟨N,P⟩
     .exact N
     .have:=S y O4 I;grind
     .rw [P]at s;exact absurd s.symm r0
    obtain⟨δ,M,m⟩:=l a O4 i;obtain⟨z,z1,z2,z3⟩:∃z,a<z/\z<=a+δ/\z<=b:=by
     rcases(show a+δ<=b\/b<=a+δ by grind)with w|w
     .exact⟨a+δ,O4,O4,w⟩
     .exact⟨b,i,w,O4⟩
    have hz:=m z z1 z2 z3;have hσ:Zb (Go.Sky.sqf F o) z≠0:=λe=>h.nz (x:=z) O4 ((h.zero z).1 e);have Z:=Yg9 h.otr h.one h.ok (σ:=Zb (Go.Sky.sqf F o) z) hσ i (λx u v=>by
     obtain⟨ε,e1,e2⟩:=l x u v;refine⟨ε,e1,λy G H I=>?_⟩;have hy:=e2 y G H I;have V:Zb (Go.Sky.sqf F o) y≠0:=λe=>h.nz (x:=y) O4 ((h.zero y).1 e);rcases(show 0<Zb (Go.Sky.sqf F o) z*Zb (Go.Sky.sqf F o) y\/Zb (Go.Sky.sqf F o) z*Zb (Go.Sky.sqf F o) y<0\/Zb (Go.Sky.sqf F o) z*Zb (Go.Sky.sqf F o) y=0 by grind)with w|w|w
     .exact w
     .exfalso;obtain⟨c,d,B,hc,hd,e⟩:=h.sq;obtain⟨c',d',Q,R,Y⟩:=h.srt;have w1:Zb o z*Zb o y<0:=Zfv (Pg R) (Pg Q) (Y z).symm (Y y).symm w;have p1:=bB hz hy;have q1:((d:Rat)*(d:Rat))*(Zb p z*Zb p y)=((c:Rat)*(c:Rat))*((Zb o z*Zb o y)*((Zb B z*Zb B y)*(Zb B z*Zb B y))):=by
       have a1:=e z;have a2:=e y;have:((d:Rat)*Zb p z)*((d:Rat)*Zb p y)=((c:Rat)*(Zb o z*(Zb B z*Zb B z)))*((c:Rat)*(Zb o y*(Zb B y*Zb B y))):=by rw [a1,a2]
       grind
      have D:=bB (Gv (Pg hd)) p1;have q3:0<=(Zb B z*Zb B y)*(Zb B z*Zb B y):=by
       by_cases t:Zb B z*Zb B y=0
       .rw [t];grind
       .exact dG (Gv t)
      have q4:=aN (dG (Gv (Pg hc))) (aN (show 0<=-(Zb o z*Zb o y) by grind) q3);grind
     .rcases fB.1 w with t|t
      .exact absurd t hσ
      .exact absurd t V)
    unfold Zaf at k;by_cases g:Zb o b=0
    .rw [aF g]at k;rw [aF ((h.zero b).2 g)]at Z;omega
    .rw [aD g]at k;rw [aD (λe=>g ((h.zero b).1 e))]at Z;omega
 .rintro⟨x,x1,x2,W⟩;rcases(show x=a\/x=b\/(a<x/\x<b) by grind)with q|q|⟨q1,D⟩
  .subst q;exact j.1 (.inl W)
  .subst q;exact j.1 (.inr (.inl W))
  .have r:=Zqt p.length p a;have r0:=Zgr p.length p a h.tr h.ne (aI _);rcases(show Ep p.length p a<0\/Ep p.length p a=1 by omega)with k|k
   .exact .inl k
   .right;have hv:=Zm5 h.tr h.ne h.sz h.hn h.hl h.hF h.eq h.otr h.one h.ok q1 k W;have m1:=Zjj h.otr h.one h.ok (dG D);unfold Zaf;by_cases g:Zb o b=0
    .rw [aF g];have hx:Zb (Go.Sky.sqf F o) x≠0:=λe=>h.nz (x:=x) O4 ((h.zero x).1 e);rcases jL (vch F o b) (vch F o x)with w|w
     .omega
     .exfalso;have:=Zdu h.otr h.one h.ok (dG D) w hx b (dG D) O4;rw [(h.zero b).2 g]at this;grind
    .rw [aD g];omega
end Go.Sky

