/- Rules, arithmetic and contracts: part 7. No conditions but those that each theorem names. -/
import Derived.Test.YteikicbnfbgpnaaGreatDe05
set_option linter.all false
namespace Go.Sky
variable{F K:Nat}{xs a p t u b q:List Int}{z:R2}{k:Int}
def Ak(F:Nat)(xs:List Int)(x:Rat):Int:=vat ((chn F xs).map Zb) x
def cvc_v(h:0<z.2):cvc F xs z=Ak F xs (qv z):=Yl0 h
def Sqn(P:R2->R2->Prop)(hi:Rat):Rat->List (R2×R2)->Prop
 | d,[]=>d<=hi
 | d,c::r=>d<=qv c.1/\qv c.1<qv c.2/\P c.1 c.2/\Sqn P hi (qv c.2) r
theorem Sqn.le{P:R2->R2->Prop}{hi:Rat} : ∀{lo:Rat} {l:List (R2×R2)},Sqn P hi lo l->lo<=hi
 | lo,[],h=>h
 | lo,c::r,h=>by have:=Sqn.le h.2.2.2;have:=h.1;have:=h.2.1;grind
theorem Sqn.low{P:R2->R2->Prop}{hi:Rat}{lo d:Rat}(e:d<=lo):∀{l:List (R2×R2)},Sqn P hi lo l->Sqn P hi d l
 | [],h=>by have h:lo<=hi:=h;show d<=hi;grind
 | c::r,h=>⟨by have:=h.1;grind,h.2⟩
def Sqn.app{P:R2->R2->Prop}{d hi:Rat}{g:List (R2×R2)}(e:Sqn P hi d g):∀{lo:Rat} {f:List (R2×R2)},Sqn P d lo f->Sqn P hi lo (f ++ g)
 | lo,[],h=>e.low h
 | lo,c::r,h=>⟨h.1,h.2.1,h.2.2.1,Sqn.app e h.2.2.2⟩
theorem Zod{a:R2}(j:0<a.2)(h:a.1.natAbs<=K):-(K:Rat)<=qv a/\qv a<=(K:Rat):=by
 obtain⟨g,i⟩:=Yho h;have l:(1:Rat)<=(a.2:Rat):=by exact_mod_cast (show 1<=a.2 by omega)
 have c:(0:Rat)<=(K:Rat):=Gh (bG _);have hi:=gG.2 (show 0<(a.2:Rat) by grind);have d:(a.2:Rat)*(a.2:Rat)⁻¹=1:=O5;unfold qv;rw [iI];have t1:=aG (a:=(a.2:Rat)⁻¹) (b:=(K:Rat)*a.2-a.1) O5 (by have:=aG (a:=(K:Rat)) (b:=(a.2:Rat)-1) c O5;grind);have t2:=aG (a:=(a.2:Rat)⁻¹) (b:=(K:Rat)*a.2+a.1) O5 (by have:=aG (a:=(K:Rat)) (b:=(a.2:Rat)-1) c O5;grind);have e:(a.2:Rat)⁻¹*((K:Rat)*a.2-a.1)=(K:Rat)*(a.2*(a.2:Rat)⁻¹)-a.1*(a.2:Rat)⁻¹:=O5;have f:(a.2:Rat)⁻¹*((K:Rat)*a.2+a.1)=(K:Rat)*(a.2*(a.2:Rat)⁻¹)+a.1*(a.2:Rat)⁻¹:=O5;rw [e,d]at t1;rw [f,d]at t2;constructor<;>grind
theorem Zbj{a:R2}{n:Nat}(c:0<a.2)(h:bl a.1.natAbs<=n)(i:bl a.2.natAbs<=n)(l:n<=65536) :
  ¬Kc a.1 a.2/\0<(slow a).2/\bl (slow a).1.natAbs<=n/\bl (slow a).2.natAbs<=n/\qv (slow a)=qv a:=by
 obtain⟨f1,f2,f3,f4,f5,f6⟩:=Zox (x:=a.1) (y:=a.2) (X:=a.1) (Y:=a.2) c c rfl h i l;refine⟨f1,f3,f4,f5,?_⟩;have r1:=Hj c;have r2:=Hj f3;have j:((Eh a.1 a.2:Int):Rat)*(a.2:Rat)=(a.1:Rat)*((Fj a.1 a.2:Int):Rat):=by exact_mod_cast f6
 show((Eh a.1 a.2:Int):Rat)/((Fj a.1 a.2:Int):Rat)=(a.1:Rat)/(a.2:Rat);generalize ((Eh a.1 a.2:Int):Rat)=N at *;generalize ((Fj a.1 a.2:Int):Rat)=D at *;generalize (a.1:Rat)=x at *;generalize (a.2:Rat)=y at *;have:N/D*(D*y)=x/y*(D*y):=by have d:N/D*(D*y)=N*y:=O5;have e:x/y*(D*y)=x*D:=O5;rw [d,e,j]
 have m:=aT r2 r1;have f:N/D=N/D*(D*y)*(D*y)⁻¹:=O5;have g:x/y=x/y*(D*y)*(D*y)⁻¹:=O5;rw [f,this,<-g]
theorem sep_of  {A e:Nat} (x:Tr xs) (f:xs≠[]) (n:Bg F xs) (o:0<K) (m:0<A) (y:∀i,(cf (sqf F xs) i).natAbs<=A) (B:∀i,(cf (Yu (sqf F xs)) i).natAbs<=A)
  (hs:2<=(sqf F xs).length->Zwr K A (sqf F xs).length e=true) (u v:Rat) (j:-(K:Rat)<=u) (c:u<=v) (l:v<=(K:Rat)) (w:v-u<=1/((2^e:Nat):Rat)):Ak F xs u-Ak F xs v<=1:=by
 by_cases d:2<=(sqf F xs).length
 .have h:=Ymc x f n o m rfl d y B (hs d) j c l w;show vat _ u-vat _ v<=1;rw [h];unfold crs;split<;>decide
 .have D:=Nl (sqf F xs);have s:Yu (sqf F xs)=[]:=aD O1;have r:chn F xs=[sqf F xs]:=by unfold chn;rw [s,Yaj,Ct]
  unfold Ak vat;rw [r];have r1:=Zg9 (([Zb (sqf F xs)]).map λg=>Fx (g u));have r2:=Zg9 (([Zb (sqf F xs)]).map λg=>Fx (g v));simp only [cP,iT,dG,kZ]at r1 r2 ⊢;omega
theorem Sqn.mem{P:R2->R2->Prop}{hi:Rat} : ∀{lo:Rat} {l:List (R2×R2)},Sqn P hi lo l->∀c∈l,P c.1 c.2
 | _,[],_,c,e=>by cases e
 | lo,d::r,h,c,e=>by
  rcases bJ.1 e with rfl|e
  .exact h.2.2.1
  .exact Sqn.mem h.2.2.2 c e
theorem en_bl{Q d B:Nat}(h:En K Q d z)(g:0<Q)(s:Q*2^d<2^B)(v:K*(Q*2^d)<2^B):bl z.1.natAbs<=B/\bl z.2.natAbs<=B:=by
 obtain⟨j,i,w,y⟩:=h;have c:0<Q*2^d:=gD g (cD O4);have f:z.2.natAbs<=Q*2^d:=by have:=fV.2 i;rw [dC]at this;exact mC c this
 have l:z.1.natAbs<=K*z.2.natAbs:=by
  have r:=Hj j;have e:(z.1:Rat)=qv z*z.2:=by unfold qv;grind
  have t1:=aG (a:=(K:Rat)-qv z) (b:=(z.2:Rat)) O5 O5;have t2:=aG (a:=(K:Rat)+qv z) (b:=(z.2:Rat)) O5 O5;have x:((K*z.2.natAbs:Nat):Int)=(K:Int)*z.2:=by push_cast;rw [kV O1]
  have n:((z.1:Int):Rat)<=(((K:Int)*z.2:Int):Rat):=by push_cast;grind
  have o:((-((K:Int)*z.2):Int):Rat)<=((z.1:Int):Rat):=by push_cast;grind
  have D:z.1<=(K:Int)*z.2:=by exact_mod_cast n
  have G:-((K:Int)*z.2)<=z.1:=by exact_mod_cast o
  omega
 have m:K*z.2.natAbs<=K*(Q*2^d):=bI _ f;exact⟨Zci O1,Zci O1⟩
theorem Ygf{n e w Q B:Nat}(h:En (2^n) Q (e+w) z)(o:0<Q)(g:Q<2^(2*n))(r:3*n+1+(e+w)<=B):bl z.1.natAbs<=B/\bl z.2.natAbs<=B:=by
 have c:∀m,m<=B->2^m<=2^B:=λm h=>dE O4 h;have f:0<2^(e+w):=cD O4;have d:Q*2^(e+w)<2^(2*n)*2^(e+w):=eD g f;have j:2^n*(Q*2^(e+w))<2^n*(2^(2*n)*2^(e+w)):=gV d (cD O4);have i:2^(2*n)*2^(e+w)=2^(2*n+(e+w)):=(bR _ _ _).symm;have l:2^n*(2^(2*n)*2^(e+w))=2^(n+(2*n+(e+w))):=by rw [i,<-bR]
 rw [i]at d;rw [l]at j;exact en_bl h o (cZ d (c _ O1)) (cZ j (c _ O1))
theorem Ed.const{g:List Int}(h:Ed g a)(o:Tr g)(m:Tr a)(l:a≠[])(w:g.length=a.length):∃k c:Int,k≠0/\c≠0/\∀x:Rat,(k:Rat)*Zb a x=(c:Rat)*Zb g x:=by
 obtain⟨k,s,i,h⟩:=h;obtain⟨v,f,j⟩:=Zu9 i o m l h;have e:=aC.2 f
 match hs:tzl s,e,j with
 | [c],_,_=>
  have n:c≠0:=by have:=(Qh s).mem f;rw [hs]at this;exact this
  refine⟨k,c,i,n,λx=>?_⟩;rw [h x,<-Np s,hs,Qu]
 | c::d::r,_,h9=>simp at h9;omega
theorem Gl(p:List Int)(c:Int)(x:Rat):Zb (Zl p c) x=(c:Rat)*Zb p x:=by rw [<-Zh];exact Oa x _ _ λi=>by rw [Xg,Xs,cY]
theorem Zmx{c:Int}(h:Tr p)(f:p≠[])(g:c≠0):Zl p c≠[]:=λe=>by have d:=Xg p c (p.length-1);rw [e,Za3]at d;exact bH (h.mem f) g d.symm
theorem Ed.dv{g:List Int}(h:Ed g a):Dv g a:=by obtain⟨k,s,d,h⟩:=h;refine⟨k,s,d,λt=>?_⟩;have:=On (p:=a.map λc=>k*c) (q:=Qg s g) (λx=>by rw [Zh,Ya];exact h x) t;rw [Xs,Iq]at this;exact this
theorem ed_cop{w s:List Int}(G:k≠0)(m:Tr t)(I:Tr w)(t0:t≠[])(D:∀d,Tr d->Ed d t->Ed d w->d.length<=1)(h:∀x:Rat,(k:Rat)*(Zb u x*Zb w x)=Zb s x*Zb t x):Ed t u:=by
 obtain⟨g,A,B,f,j,n,y⟩:=Zlo w.length t w m I (aI _);have H:=D g f j n;have i:=(j.len f m t0).1
 match hgg:g,H,i with
 | [c],_,_=>
  have e:c≠0:=by have:=f.mem O7;exact this
  refine⟨k*c,Nr ((Qg A u).map λa=>k*a) (Qg B s),bH G e,λx=>?_⟩;rw [Yx,Zh,Ya,Ya];have l:=y x;rw [Qu]at l;have o:=h x;push_cast;rw [show(k:Rat)*c*Zb u x=k*(Zb u x*(c:Rat)) by grind,l];have v:(k:Rat)*(Zb u x*(Zb A x*Zb t x+Zb B x*Zb w x))=k*Zb A x*Zb u x*Zb t x+Zb B x*(k*(Zb u x*Zb w x)):=O5;rw [v,o];grind
 | c::d::r,h9,_=>simp at h9
def Pi(F:Nat)(p:List Int):List Int:=Ny F (Yw p) (Yu (Yw p))
def Fp(F:Nat)(p:List Int):Prop:=eok F (gA (Yw p) (Yu (Yw p))) (gB (Yw p) (Yu (Yw p)))
theorem Qj(h:Tr p)(i:p≠[])(g:Fp F p):Tr (Pi F p)/\Pi F p≠[]/\Yw (Pi F p)=Pi F p/\Yw p=Qg (sqf F p) (Pi F p)/\(sqf F p).length+(Pi F p).length=p.length+1:=by obtain⟨f1,f2,f3,f4,f5,f6⟩:=Pz (F:=F) h i g;have c:Tr (Yw p):=Ol (Yr h);have d:Tr (Yu (Yw p)):=Md c;have f:=Zez (F:=F) c d;have j:=Oe f2 f f3 f5;rw [<-f4,Qz h]at j;have l:=aC.2 f3;have m:=aC.2 f5;refine⟨f,f5,Zun f (Zka c d f5) (Cy (Zss F (Zja c d) (Zi9 c d)) (λe=>f5 (by unfold Ny;rw [e];rfl))),f4,?_⟩;unfold Pi;omega
theorem Yj1{h:List Int}(i:Tr h)(g:h≠[]){m:Int}(e:∀x:Rat,(k:Rat)*(Zb a x*Zb h x)=(m:Rat)*(Zb b x*Zb h x))(x:Rat):(k:Rat)*Zb a x=(m:Rat)*Zb b x:=by
 have d:=Fl (v:=h) (f:=Nr (a.map λc=>k*c) (b.map λc=>(-m)*c)) (by rw [Ac i];exact g) (λx=>by rw [Yx,Zh,Zh];have:=e x;push_cast;grind) x
 rw [Yx,Zh,Zh]at d;push_cast at d;grind
theorem Zxd(R:Tr p)(h0:p≠[])(l:Fp F p)(e:Fp F (Pi F p)):Ed (sqf F (Pi F p)) (sqf F p):=by
 obtain⟨n,Y,f,a4,a5⟩:=Qj R h0 l;obtain⟨D,B,b3,Z,b5⟩:=Qj n Y e;obtain⟨-,u2,u3,-,-,-⟩:=Pz (F:=F) R h0 l;obtain⟨-,t2,t3,-,-,-⟩:=Pz (F:=F) n Y e;have ht:Tr (Yw p):=Ol (Yr R);have o:Ed (Pi F p) (Yu (Yw p)):=(Zcx ht (Md ht) l).2.ed;have e2:Ed (Pi F (Pi F p)) (Yu (Pi F p)):=by have:=(Zcx (F:=F) (p:=Yw (Pi F p)) (q:=Yu (Yw (Pi F p))) (by rw [f];exact n) (Md (by rw [f];exact n)) e).2.ed;have h9:Pi F (Pi F p)=Ny F (Yw (Pi F p)) (Yu (Yw (Pi F p))):=rfl;rw [<-h9,f]at this;exact this
 have N:∀d,Tr d->Ed d (Pi F p)->Ed d (Yu (Pi F p))->Ed d (Pi F (Pi F p)):=λd H i r=>by unfold Pi at *;have:=Zj8 (F:=F) (d:=d) (p:=Yw (Ny F (Yw p) (Yu (Yw p)))) (q:=Yu (Yw (Ny F (Yw p) (Yu (Yw p))))) (by rw [f];exact n) (Md (by rw [f];exact n)) (by rw [f];exact i) (by rw [f];exact r);exact this
 rw [f]at Z;generalize hg:Pi F p=g at *;generalize hh:Pi F g=h at *;generalize hu:sqf F p=u at *;generalize a0:sqf F g=t at *;obtain⟨k,s,hk,P⟩:=o;obtain⟨m,w,hm,Q⟩:=e2;have hP:∀x:Rat,Zb (Yw p) x=Zb (lmul u g) x:=λx=>by rw [a4,Ya,Zs]
 have hG:∀x:Rat,Zb g x=Zb (lmul t h) x:=λx=>by
  have:Zb g x=Zb (Qg t h) x:=by rw [<-Z]
  rw [this,Ya,Zs]
 have I:∀x:Rat,Zb (Yu (Yw p)) x=Zb (ld u) x*Zb g x+Zb u x*Zb (ld g) x:=λx=>by rw [Ly,Dg hP,Dz]
 have v:∀x:Rat,(m:Rat)*Zb (ld g) x=Zb w x*Zb h x:=λx=>by rw [<-Ly];exact Q x
 have V:∀x:Rat,(k:Rat)*(Zb (Qg u w) x*Zb h x)=(m:Rat)*(Zb (Qg (Nr s ((ld u).map λc=>(-k)*c)) t) x*Zb h x):=λx=>by rw [Ya,Ya,Yx,Zh];have i:=P x;have r:=I x;have h3:=v x;have h4:=hG x;rw [Zs]at h4;rw [r]at i;have:(k:Rat)*(Zb u x*Zb w x*Zb h x)=Zb u x*k*(Zb w x*Zb h x):=O5;rw [this,<-h3];push_cast;have:Zb u x*(k:Rat)*(m*Zb (ld g) x)=m*(k*(Zb (ld u) x*Zb g x+Zb u x*Zb (ld g) x)-k*Zb (ld u) x*Zb g x):=O5;rw [this,i,h4];grind
 have y:=Yj1 D B V;refine ed_cop (s:=(Qg (Nr s ((ld u).map λc=>(-k)*c)) [m])) hk t2 (w:=tzl w) (Qh w) t3 (λd H i r=>?_) (λx=>?_)
 .have G:Ed d w:=r.congr λx=>Np w x;have M:Ed (Qg d h) h:=N _ (Xt _ _) (by
   obtain⟨S,W,j,o⟩:=i;exact⟨S,W,j,λx=>by rw [hG x,Zs,Ya];have:=o x;grind⟩) (by
   obtain⟨S,W,j,o⟩:=G;exact⟨S*m,W,bH j hm,λx=>by rw [Ly,Ya];have:=o x;have:=v x;push_cast;grind⟩)
  have d0:=(i.len H t2 t3).1;have hl:=Oe H D d0 B;have:=(M.len (Xt _ _) D B).2;have l2:=aC.2 B;omega
 .rw [Np,Ya,Qu];have:=y x;rw [Ya,Ya]at this;rw [this];grind
theorem Yag(o:Tr u)(r:u≠[])(d:Tr t)(t0:t≠[])(m:Yw t=t)(h:Ed t u):pdv u t/\u=Qg (Kd u t) t/\Tr (Kd u t)/\Kd u t≠[]:=by
 have j:Ys t=1:=by have:=Ay d t0;rwa [m]at this
 obtain⟨k,s,l,h⟩:=h.dv;obtain⟨q,n⟩:=gauss j _ k s rfl l h;have c:u=Qg (tzl q) t:=o.ext (Xt _ _) λi=>by rw [Iq,n,Ydx]
 obtain⟨f,g⟩:=Zol (Qh q) d t0;rw [<-c]at f g;rw [g];exact⟨f,c,Qh q,λe=>r (by rw [c,e,Gp])⟩
theorem Zkx(d:Tr p)(j:p≠[])(c:Fp F p)(m:2<=p.length):(Pi F p).length<p.length:=by obtain⟨h,l,-⟩:=Qj d j c;have f:Tr (Yw p):=Ol (Yr d);have i:Ed (Pi F p) (Yu (Yw p)):=(Zcx f (Md f) c).2.ed;have g:=Nl (Yw p);have n:=Qz d;have:=(i.len h (Md f) (λe=>by rw [e]at g;simp at g;omega)).2;omega
theorem Ykj(l:Tr p)(n:Yw p=p)(d:p.length=1):p=[1]:=by
 have f:p≠[]:=λe=>by rw [e]at d;simp at d
 have h:=Ay l f;have j:0<cf (Yw p) ((Yw p).length-1):=Cy (Yr l) (λe=>f (aD (by rw [<-Zv,e];rfl)));rw [n]at h j
 match p,d with
 | [c],_=>
  have m:0<c:=j;have g:c∣Ys [c]:=Gy λi=>by
   match i with
   | 0=>exact mP c
   | i+1=>rw [Yk O7];exact jM c
  rw [h]at g;have:=mE O4 g;rw [show c=1 by omega]
def Dp(p q:List Int):Prop:=Tr q/\q≠[]/\Yw q=q/\∃a,Tr a/\Yw p=Qg a q
theorem Dp.start(c:Tr p)(d:p≠[]):Dp p (Yw p):=
 ⟨Ol (Yr c),Zkd c d,Zun (Ol (Yr c)) (Ay c d) (Cy (Yr c) (λe=>d (aD (by rw [<-Zv,e];rfl)))),[1],.inr (show cf [1] 0≠0 by decide),by refine(Ol (Yr c)).ext (Xt _ _) λi=>?_;rw [Iq,Zrz];rfl⟩
theorem Dp.sz{n:Nat}(g:Tr p)(o:p≠[])(hs:Sz n p)(x:p.length<=13)(h:Dp p q):Sz (n+15) q/\q.length<=p.length:=by obtain⟨j,r,w,a,l,e⟩:=h;have s:fcs 0 13<=2^15*2^15:=O8;have d:=Qz g;have c:=Zkd g o;have v:Tr (Yw p):=Ol (Yr g);have i:a≠[]:=λm=>c (by rw [e,m,Gp]);refine⟨Em (L:=13) (R:=24) j l (Zt2 hs) c v O1 O4 s (by rw [Cm];exact e),?_⟩;have f:=Oe l j i r;rw [<-e,d]at f;have:=aC.2 i;omega
theorem Dp.ok{n:Nat}(d:Tr p)(c:p≠[])(hs:Sz n p)(i:n<=220)(g:p.length<=11)(f:p.length<=F+1)(h:Dp p q):Bg F q/\Fp F q:=by obtain⟨e,j⟩:=h.sz d c hs O1;have:=(chG F h.1 h.2.1 e O1 O1 O1).1;exact⟨this,this.1.2.2.1⟩
theorem Dp.next(h:Dp p q)(c:Fp F q):Dp p (Pi F q):=by obtain⟨l,m,n,a,r,e⟩:=h;obtain⟨f,g,j,d,o⟩:=Qj l m c;refine⟨f,g,j,Qg a (sqf F q),Xt _ _,?_⟩;rw [n]at d;refine e.trans ((aK (Qg a) d).trans ?_);refine(Xt _ _).ext (Xt _ _) λi=>On (λx=>?_) i;rw [Ya,Ya,Ya,Ya];grind
def Dq(F:Nat):Nat->List Int->List Int
 | 0,p=>sqf F p
 | f+1,p=>if(sqf F p).length=1 then sqf F p else Qg (Kd (sqf F p) (sqf F (Pi F p))) (Dq F f (Pi F (Pi F p)))
def Zr2(F:Nat):Nat->List Int->List Int->List Int
 | 0,c,_=>c
 | f+1,c,q=>if(sqf F q).length=1 then c else if(sqf F (Pi F q)).length=1 then Qg c (Kd (sqf F q) (sqf F (Pi F q)))else Zr2 F f (Qg c (Kd (sqf F q) (sqf F (Pi F q)))) (Pi F (Pi F q))
theorem Ze1(e:Tr q)(d:q≠[])(c:Fp F q)(h:(sqf F q).length=1):sqf F q=[1]/\q.length=1/\(Pi F q).length=1:=by
 obtain⟨f1,f2,f3,f4,f5,f6⟩:=Pz (F:=F) e d c;obtain⟨i,j,l,m,n⟩:=Qj e d c;have o:=aC.2 d;have g:q.length=1:=by
  rcases bC q.length 2 with f|f
  .omega
  .have:=Zkx e d c f;omega
 exact⟨Ykj f2 f6 h,g,O1⟩
theorem Zoj(c:Tr p):Qg p [1]=p:=by refine(Xt _ _).ext c λi=>On (λx=>?_) i;rw [Ya,Qu];push_cast;grind
theorem Yd4(e:Tr q)(d:q≠[])(c:Fp F q)(h:q.length=1):∀f,Dq F f q=[1]:=λf=>by
 obtain⟨f1,f2,f3,f4,f5,f6⟩:=Pz (F:=F) e d c;obtain⟨i,g,j,l,m⟩:=Qj e d c;have n:=aC.2 f3;have o:=aC.2 g;have hs:(sqf F q).length=1:=O1;have:=(Ze1 e d c hs).1;cases f with
 | zero=>exact this
 | succ f=>unfold Dq;rw [aH hs];exact this
theorem Zoi{p:List Int}{f:Nat}(e:Tr q)(d:q≠[])(c:Fp F q):Tr (Dq F f q):=by
 obtain⟨f1,f2,f3,f4,f5,f6⟩:=Pz (F:=F) e d c;cases f with
 | zero=>exact f2
 | succ f=>unfold Dq;split;exact f2;exact Xt _ _
theorem Yki{n:Nat}(B:Tr p)(r:p≠[])(hs:Sz n p)(y:n<=220)(v:p.length<=11)(s:p.length<=F+1):∀(f:Nat) (g q:List Int),Tr g->Dp p q->q.length<=f->Zr2 F f g q=Qg g (Dq F f q):=by
 intro f
 induction f with
 | zero=>intro g q _ d w;have:=aC.2 d.2.1;omega
 | succ f I=>
  intro g q H d w;have e:=(d.ok B r hs y v s).2;have j:=d.next e;have c:=(j.ok B r hs y v s).2;have h:=j.next c;have m:=(h.ok B r hs y v s).2;unfold Zr2 Dq;by_cases l:(sqf F q).length=1
  .rw [aH l,aH l,(Ze1 d.1 d.2.1 e l).1,Zoj H]
  .rw [aE l,aE l];have M:2<=q.length:=by obtain⟨f1,f2,f3,f4,f5,f6⟩:=Pz (F:=F) d.1 d.2.1 e;obtain⟨Q,D,R,S,V⟩:=Qj d.1 d.2.1 e;have Z:=aC.2 f3;have l2:=aC.2 D;omega
   have N:=Zkx d.1 d.2.1 e M;obtain⟨-,-,-,-,Y⟩:=Qj j.1 j.2.1 c;obtain⟨-,W,G,-,-,-⟩:=Pz (F:=F) j.1 j.2.1 c;have lb:=aC.2 G;by_cases o:(sqf F (Pi F q)).length=1
   .obtain⟨s1,s2,P⟩:=Ze1 j.1 j.2.1 c o;rw [aH o,Yd4 h.1 h.2.1 m P];refine(Xt _ _).ext (Xt _ _) λi=>On (λx=>?_) i;rw [Ya,Ya,Ya,Qu];push_cast;grind
   .rw [aE o,I _ _ (Xt _ _) h O1];refine(Xt _ _).ext (Xt _ _) λi=>On (λx=>?_) i;rw [Ya,Ya,Ya,Ya];grind
theorem Zuj{e:Int}(f:e=1\/e=-1)(h:Ys q=1):Ys (Zl q e)=1:=by
 have c:Ys (Zl q e)∣Ys q:=Gy λi=>by
  have:=Mv (Zl q e) i;rw [Xg]at this;rcases f with rfl|rfl
  .rwa [iF]at this
  .rw [Int.mul_neg_one]at this;exact(lZ.1 this)
 rw [h]at c;have g:=Oq (Zl q e);have j:=mE O4 c;rcases(show Ys (Zl q e)=0\/Ys (Zl q e)=1 by omega)with d|d
 .rw [d]at c;exact absurd (oF.1 c) O4
 .exact d
theorem Yd2(h:Ys q=1):Zu q=q:=by unfold Zu;rw [h];simp
theorem Zra{e:Int}(d:Tr q)(f:q≠[])(g:Yw q=q)(c:Fp F q)(l:e=1\/e=-1) :
  Tr (Zl q e)/\Zl q e≠[]/\Yw (Zl q e)=q/\Zu (Zl q e)=Zl q e/\pdv (Zl q e) (sqf F q)/\Kd (Zl q e) (sqf F q)=Zl (Pi F q) e:=by
 have j:e≠0:=by rcases l with rfl|rfl<;>decide
 obtain⟨f1,f2,f3,f4,f5,f6⟩:=Pz (F:=F) d f c;obtain⟨s,v,w,h,y⟩:=Qj d f c;have o:Ys q=1:=by have:=Ay d f;rwa [g]at this
 rw [g]at h;have r:Zl q e=Qg (Zl (Pi F q) e) (sqf F q):=by
  refine(Xx _ _).ext (Xt _ _) λi=>On (λx=>?_) i;have:Zb q x=Zb (Qg (sqf F q) (Pi F q)) x:=by rw [<-h]
  rw [Gl,Ya,Gl,this,Ya];grind
 obtain⟨m,n⟩:=Zol (Xx (Pi F q) e) f2 f3;rw [<-r]at m n;exact⟨Xx _ _,Zmx d f j,by rw [Zxe (Xx _ _) d (Zd6 q j).symm,g],Yd2 (Zuj l o),m,n⟩
theorem Yd1(c:Tr p)(d:p≠[]):∃e:Int,(e=1\/e=-1)/\Zu p=Zl (Yw p) e:=by
 by_cases h:cf (Zu p) ((Zu p).length-1)<0
 .refine⟨-1,.inr rfl,?_⟩;rw [Zor (λe=>d (aD (by rw [<-Zv,e]))) h];refine(Yr c).ext (Xx _ _) λi=>?_;rw [Xg,Xg];omega
 .refine⟨1,.inl rfl,?_⟩;rw [Zoq h];refine(Yr c).ext (Xx _ _) λi=>?_;rw [Xg];omega
def Mg(F:Nat)(p:List Int):List Int:=Kd (Zl (Zu p) 1) (sqf F p)
def Za7(F:Nat)(p:List Int):List Int:=Kd (Zu (Mg F p)) (sqf F (Mg F p))
def Zuc(F:Nat):Nat->List Int->List Int
 | 0,p=>sqf F p
 | f+1,p=>if(sqf F p).length=1 then sqf F p else Qg (Kd (sqf F p) (sqf F (Mg F p))) (Zuc F f (Za7 F p))
theorem Ev(h:Yw p=Yw q):sqf F p=sqf F q:=by unfold sqf;rw [h]
theorem Zin(h:Yw p=Yw q):Pi F p=Pi F q:=by unfold Pi;rw [h]
theorem Zrw(h:Yw p=Yw q):∀f,Dq F f p=Dq F f q
 | 0=>Ev h
 | f+1=>by unfold Dq;rw [Ev h,Zin h]
theorem Zju(v:Tr p)(r:p≠[])(d:Fp F p)(c:Fp F (Pi F p)) :
  (∃e:Int,(e=1\/e=-1)/\Zl (Zu p) 1=Zl (Yw p) e/\pdv (Zl (Yw p) e) (sqf F p)/\Mg F p=Zl (Pi F p) e/\Zu (Mg F p)=Mg F p/\pdv (Mg F p) (sqf F (Pi F p))/\Za7 F p=Zl (Pi F (Pi F p)) e)/\
  Yw (Mg F p)=Pi F p/\Yw (Za7 F p)=Pi F (Pi F p)/\Tr (Mg F p)/\Mg F p≠[]/\Tr (Za7 F p)/\Za7 F p≠[]:=by
 obtain⟨V,W,j,-⟩:=Dp.start v r;have f:Fp F (Yw p):=by unfold Fp;rw [j];exact d
 have s:Pi F (Yw p)=Pi F p:=Zin j;have h:sqf F (Yw p)=sqf F p:=Ev j;obtain⟨e,l,w⟩:=Yd1 v r;have g:Zl (Zu p) 1=Zl (Yw p) e:=by rw [w];refine(Xx _ _).ext (Xx _ _) λi=>?_;rw [Xg,iF]
 obtain⟨-,-,-,-,G,H⟩:=Zra V W j f l;rw [s,h]at H;rw [h]at G;have S:Mg F p=Zl (Pi F p) e:=by unfold Mg;rw [g,H]
 obtain⟨y,B,D,-,-⟩:=Qj v r d;obtain⟨I,M,n,o,N,P⟩:=Zra y B D c l;rw [<-S]at I M n o N P;have x:sqf F (Mg F p)=sqf F (Pi F p):=Ev (by rw [n,D]);have m:Za7 F p=Zl (Pi F (Pi F p)) e:=by unfold Za7;rw [o,x,P]
 obtain⟨R,Y,Z,-,-⟩:=Qj y B c;have Q:e≠0:=by rcases l with rfl|rfl<;>decide
 refine⟨⟨e,l,g,G,S,o,N,m⟩,n,?_,I,M,?_,?_⟩
 .rw [m,Zxe (Xx _ _) R (Zd6 _ Q).symm,Z]
 .rw [m];exact Xx _ _
 .rw [m];exact Zmx R Y Q
theorem Yjy{n:Nat}(r:Tr p)(j:p≠[])(hs:Sz n p)(o:n<=220)(m:p.length<=11)(l:p.length<=F+1):∀(f:Nat) (q:List Int),Tr q->q≠[]->Dp p (Yw q)->Zuc F f q=Dq F f q:=by
 intro f
 induction f with
 | zero=>intro q _ _ _;rfl
 | succ f w=>
  intro q v x h;have d:=(h.ok r j hs o m l).2;have g:Fp F q:=by unfold Fp at d ⊢;rwa [h.2.2.1]at d
  have i:=h.next d;rw [Zin h.2.2.1]at i;have c:=(i.ok r j hs o m l).2;have e:=i.next c;obtain⟨-,r1,r2,r3,D,y,B⟩:=Zju v x g c;unfold Zuc Dq;have s:=i.2.2.1;rw [Ev (show Yw (Mg F q)=Yw (Pi F q) by rw [r1,s]),w _ y B (by rw [r2];exact e),Zrw (show Yw (Za7 F q)=Yw (Pi F (Pi F q)) by rw [r2,e.2.2.1])]
def Ds(F:Nat)(q:List Int):List Int:=Kd (sqf F q) (sqf F (Pi F q))
theorem Di(e:Tr q)(f:q≠[])(d:Fp F q)(c:Fp F (Pi F q)):pdv (sqf F q) (sqf F (Pi F q))/\sqf F q=Qg (Ds F q) (sqf F (Pi F q))/\Tr (Ds F q)/\Ds F q≠[]:=by obtain⟨f1,f2,f3,f4,f5,f6⟩:=Pz (F:=F) e f d;obtain⟨g,h,i,j,l⟩:=Qj e f d;obtain⟨-,t2,t3,-,-,t6⟩:=Pz (F:=F) g h c;exact Yag f2 f3 t2 t3 t6 (Zxd e f d c)
theorem Zu3{n:Nat}(h:Tr p)(o:p≠[])(hs:Sz n p)(v:p.length<=13)(l:Tr a)(m:Tr b)(e:Yw p=Qg a b):Sz (n+15) b/\b.length<=p.length/\b≠[]:=by have r:fcs 0 13<=2^15*2^15:=O8;have f:=Qz h;have c:=Zkd h o;have s:Tr (Yw p):=Ol (Yr h);have i:a≠[]:=λd=>c (by rw [e,d,Gp]);have j:b≠[]:=λd=>c (by rw [e,d,Zav]);refine⟨Em (L:=13) (R:=24) m l (Zt2 hs) c s O1 O4 r (by rw [Cm];exact e),?_,j⟩;have g:=Oe l m i j;rw [<-e,f]at g;have:=aC.2 i;omega
def Op(p c q:List Int):Prop:=∃a,Tr a/\Yw p=Qg a (Qg c q)
theorem Op.start(c:Tr p):Op p [1] (Yw p):=⟨[1],.inr (show cf [1] 0≠0 by decide),by refine(Ol (Yr c)).ext (Xt _ _) λi=>On (λx=>?_) i;rw [Ya,Ya,Qu];push_cast;show Zb (Yw p) x=_;grind⟩
theorem Op.next{f:List Int}(l:Tr q)(m:q≠[])(y:Yw q=q)(d:Fp F q)(c:Fp F (Pi F q))(h:Op p f q):Op p (Qg f (Ds F q)) (Pi F (Pi F q)):=by
 obtain⟨a,H,e⟩:=h;obtain⟨-,D,I,M⟩:=Di l m d c;obtain⟨n,o,r,g,G⟩:=Qj l m d;obtain⟨-,-,-,j,-⟩:=Qj n o c;rw [y]at g;rw [r]at j;refine⟨Qg a (Qg (sqf F (Pi F q)) (sqf F (Pi F q))),Xt _ _,e.trans ?_⟩;refine(Xt _ _).ext (Xt _ _) λi=>On (λx=>?_) i;have s:Zb q x=Zb (sqf F q) x*Zb (Pi F q) x:=by rw [<-Ya,<-g]
 have v:Zb (sqf F q) x=Zb (Ds F q) x*Zb (sqf F (Pi F q)) x:=by rw [<-Ya,<-D]
 have w:Zb (Pi F q) x=Zb (sqf F (Pi F q)) x*Zb (Pi F (Pi F q)) x:=by rw [<-Ya,<-j]
 simp only [Ya];rw [s,v];rw [w];generalize Zb (sqf F (Pi F q)) x=A;generalize Zb (Pi F (Pi F q)) x=B;grind
theorem Op.sz{c:List Int}{n:Nat}(j:Tr p)(d:p≠[])(hs:Sz n p)(f:p.length<=13)(g:Tr c)(m:Tr q)(h:Op p c q):Sz (n+15) c/\c.length<=p.length/\c≠[]:=by obtain⟨a,l,e⟩:=h;exact Zu3 j d hs f (Xt a q) g (e.trans ((Xt _ _).ext (Xt _ _) λi=>On (λx=>by rw [Ya,Ya,Ya,Ya];grind) i))
theorem Ykb(c:Tr p):Qg [1] p=p:=by rw [Cm];exact Zoj c
def Zi5(f:Tr xs)(d:xs≠[])(e:Bg F xs){s t:Rat}(c:s<=t):Ak F xs t<=Ak F xs s:=Zlh f d e c
def Sqn.imp{P c:R2->R2->Prop}{hi:Rat}(d:∀x y,P x y->c x y):∀{lo:Rat} {l:List (R2×R2)},Sqn P hi lo l->Sqn c hi lo l
 | _,[],h=>h
 | _,_::_,h=>⟨h.1,h.2.1,d _ _ h.2.2.1,Sqn.imp d h.2.2.2⟩
def oe(f:Nat->Int):Nat->Int
 | 0=>0
 | k+1=>err (oe f k) (f k)
def mon(d n:Nat):List Int:=mono d ((2:Int)^n)
variable {P:Program} {N:Nat} {sc:Nat->Prop} {env:Qt} {H:Hp}
end Go.Sky
namespace Go.Sky
variable{f:Rat->Rat}{u v s t x a b:Rat}{xs p o:List Int}{F:Nat}
def HD(xs ys:List Int):Prop:=Vp ys/\ys≠[]/\Ap ys/\Bg 13 ys/\chn 13 ys=chn 13 xs
def PH(xs:List Int)(x y:R2):Prop:=(0<x.2/\bl x.1.natAbs<=506/\bl x.2.natAbs<=506)/\(0<y.2/\bl y.1.natAbs<=506/\bl y.2.natAbs<=506)/\cvc 13 xs x-cvc 13 xs y=1
def DR:R2×R2:=((0,0),(0,0))
theorem Zgc(d:Rat){h:Rat}(c:0<h):∃n:Nat,d<=(n:Rat)*h:=by
 have i:0<h⁻¹:=gG.2 c;refine⟨(d*h⁻¹).ceil.toNat,?_⟩;have e:=@oN (d*h⁻¹);have g:(((d*h⁻¹).ceil:Int):Rat)<=(((d*h⁻¹).ceil.toNat:Nat):Rat):=by have:(d*h⁻¹).ceil<=(((d*h⁻¹).ceil.toNat:Nat):Int):=mA _;exact_mod_cast this
 have j:=dI (mN e g) (show 0<=h by grind);have k:d*h⁻¹*h=d:=O5;grind
theorem Zpx(h:crs f u v<=0)(d:f u≠0):0<f u*f v:=by
 unfold crs at h;by_cases c:f u≠0/\f u*f v<=0
 .rw [aH c]at h;exact absurd h O4
 .have:¬f u*f v<=0:=λe=>c ⟨d,e⟩;grind
theorem Zc6(l:Tr xs)(i:xs≠[])(j:Bg F xs)(G:s<=t)(D:Ak F xs s<=Ak F xs t)(hs:Zb (sqf F xs) s≠0):∀y,s<=y->y<=t->0<Zb (sqf F xs) s*Zb (sqf F xs) y:=by
 obtain⟨h,z,B⟩:=Zlg l i j s t;have g:∀u v,s<=u->u<=v->v<=t->v-u<=h->crs (Zb (sqf F xs)) u v<=0:=λu v a b c d=>by have e:=B u v a b c d;have R:vat ((chn F xs).map Zb) u<=vat ((chn F xs).map Zb) s:=Zlh l i j a;have S:vat ((chn F xs).map Zb) t<=vat ((chn F xs).map Zb) v:=Zlh l i j c;have V:vat ((chn F xs).map Zb) s<=vat ((chn F xs).map Zb) t:=D;omega
 generalize Zb (sqf F xs)=f at *;have m:∀n:Nat,∀y,s<=y->y<=t->y-s<=(n:Rat)*h->0<f s*f y:=λn=>by
  induction n with
  | zero=>
   intro y a b c;have:y=s:=by push_cast at c;grind
   subst this;exact Zpx (g _ _ a O5 b O5) hs
  | succ n P=>
   intro y a b c;push_cast at c;by_cases H:y-s<=h
   .exact Zpx (g s y O5 a b H) hs
   .have r:=P (y-h) O5 O5 O5;have I:f (y-h)≠0:=λe=>by rw [e]at r;grind
    have M:=Zpx (g (y-h) y O5 O5 b O5) I;have N:=aT r M;have w:f s*f (y-h)*(f (y-h)*f y)=(f (y-h)*f (y-h))*(f s*f y):=O5;rw [w]at N;have Q:0<f (y-h)*f (y-h):=by
     rcases(show 0<f (y-h)\/f (y-h)<0 by grind)with q|q
     .exact aT q q
     .have:=aT (a:=-f (y-h)) (b:=-f (y-h)) O5 O5;grind
    rcases(show 0<f s*f y\/f s*f y<=0 by grind)with q|q
    .exact q
    .have:=aG (a:=f (y-h)*f (y-h)) (b:=-(f s*f y)) O5 O5;grind
 intro y a b;obtain⟨n,k⟩:∃n:Nat,y-s<=(n:Rat)*h:=by obtain⟨n,k⟩:=Zgc (y-s) z;exact⟨n,k⟩
 exact m n y a b k
theorem Zfq(D:s<=t)(w:∀u,s<=u->u<=t->0<=Zb (ld p) u):Zb p s<=Zb p t:=by
 rcases(show Zb p s<=Zb p t\/Zb p t<Zb p s by grind)with h|h
 .exact h
 .exfalso;obtain⟨M,Y,N⟩:=Zii s t p;have z:s<t:=by
   rcases(show s<t\/s=t by grind)with d|d
   .exact d
   .rw [d]at h;grind
  obtain⟨n,B⟩:=Zgc (M*(t-s)*(t-s)+1) (show 0<Zb p s-Zb p t by grind);have g:(0:Rat)<(n:Rat):=by
   rcases aU n with d|d
   .subst d;have:=aG (a:=M*(t-s)) (b:=t-s) (aG O5 O5) O5;push_cast at B;grind
   .exact_mod_cast d
  have m:(n:Rat)≠0:=λe=>by rw [e]at g;exact absurd g O4
  have c:(n:Rat)*((t-s)/n)=t-s:=by rw [iI,<-kQ,jN (n:Rat),kQ,jZ _ m,Rat.mul_one]
  have q:∀k:Nat,(k:Rat)<=(n:Rat)->-(M*((t-s)/n)*((t-s)/n))*k<=Zb p (s+k*((t-s)/n))-Zb p s:=λk=>by
   induction k with
   | zero=>intro _;push_cast;rw [show s+0*((t-s)/n)=s by grind];grind
   | succ k G=>
    intro y;push_cast at y ⊢;have S:=G O5;have l:0<=(t-s)/n:=by rw [iI];exact aG O5 (cW (gG.2 g))
    have i:=c;generalize (t-s)/(n:Rat)=h at *;have H:(0:Rat)<=(k:Rat):=by exact_mod_cast bG k
    have P:=aG (a:=(k:Rat)) (b:=h) H l;have Q:=aG (a:=(n:Rat)-(k+1)) (b:=h) O5 l;have j:=(N (s+k*h) (s+(k+1)*h) O5 O5 O5).1;have e:=w (s+k*h) O5 O5;have R:=aG l e;rw [show s+(k+1)*h-(s+k*h)=h by grind]at j;grind
  have r:=q n O5;have i:=c;rw [i,show s+(t-s)=t by grind]at r;have I:-(M*((t-s)/n)*((t-s)/n))*n=-(M*((t-s)/n)*(t-s)):=O5;rw [I]at r;have V:M*((t-s)/n)*(t-s)*n=M*(t-s)*(t-s):=O5;have W:=aG (a:=Zb p t-Zb p s+M*((t-s)/n)*(t-s)) (b:=(n:Rat)) O5 O5;grind
theorem Ze8(p:List Int)(x:Rat):Zb (p.map λa=>-1*a) x=-Zb p x:=by rw [Zh];push_cast;grind
theorem Znj(k:s<t)(e:∀u,s<u->u<=t->0<Zb (ld p) u)(g:0<=Zb (ld p) s):Zb p s<Zb p t:=by
 have i:s<(s+t)/2/\(s+t)/2<t:=by constructor<;>grind
 generalize (s+t)/2=m at *;have r:=Zfq (p:=p) (s:=s) (t:=m) O5 (λu a b=>by
  rcases(show s<u\/u=s by grind)with h|h
  .exact cW (e u h O5)
  .rw [h];exact g)
 obtain⟨M,l,n⟩:=Zii m t p;have j:=e m i.1 O5;obtain⟨η,q,y,z⟩:=He (show 0<t-m by grind) l (show 0<Zb (ld p) m/2 by grind);have b:=(n m (m+η) O5 O5 O5).1;rw [show m+η-m=η by grind]at b;have w:=Zfq (p:=p) (s:=m+η) (t:=t) O5 (λu a b=>cW (e u O5 b));have c:=aG (a:=η) (b:=Zb (ld p) m/2-η*M) O5 O5;have d:=aT q j;grind
def Fw:Nat->List Int->Rat->Int
 | 0,_,_=>0
 | n+1,p,x=>if Zb p x≠0 then Fx (Zb p x)else Fw n (Yu p) x
def Zwv(h:0<x):Fx x=1:=Bh h
def Zmq(h:x<0):Fx x=-1:=Bi h
theorem Zrg(h:x=0):Fx x=0:=by subst h;rfl
theorem Qw(x:Rat):(0<x/\Fx x=1)\/(x<0/\Fx x=-1)\/(x=0/\Fx x=0):=by
 rcases(show 0<x\/x<0\/x=0 by grind)with h|h|h
 .exact .inl ⟨h,Zwv h⟩
 .exact .inr (.inl ⟨h,Zmq h⟩)
 .exact .inr (.inr ⟨h,Zrg h⟩)
theorem Zv2(n:Nat)(p:List Int)(x:Rat)(h:Zb p x≠0)(c:p.length<=n):Fw n p x=Fx (Zb p x):=by
 cases n with
 | zero=>have:p=[]:=aD O1;subst this;exact absurd rfl h
 | succ n=>unfold Fw;rw [aH h]
theorem Zm4(p:List Int)(x:Rat)(h:Zb p x≠0):∃δ:Rat,0<δ/\∀y,x<y->y<=x+δ->Fx (Zb p y)=Fx (Zb p x):=by
 obtain⟨L,r,k⟩:=Dy x (x+1) p;have i:0<(if 0<Zb p x then Zb p x else -Zb p x):=by split<;>grind
 obtain⟨δ,j,m,g⟩:=He (show(0:Rat)<1 by decide) (show 0<L+1 by grind) (show 0<(if 0<Zb p x then Zb p x else -Zb p x)/2 by grind);refine⟨δ,j,λy n q=>?_⟩;have l:=k x y O5 O5 O5;have b:=aG (a:=L) (b:=δ-(y-x)) O5 O5;have c:L*(y-x)<=δ*(L+1):=O5;rcases Qw (Zb p x)with⟨d,e⟩|⟨d,e⟩|⟨d,e⟩
 .rw [aH d]at g i;rw [e];exact Zwv O5
 .rw [aE O5]at g i;rw [e];exact Zmq O5
 .exact absurd d h
theorem Bb:∀(n:Nat) (p:List Int) (x:Rat),p.length<=n->∃δ:Rat,0<δ/\∀y,x<y->y<=x+δ->Fx (Zb p y)=Fw n p x
 | 0,p,x,q=>⟨1,O4,λy _ _=>by have:p=[]:=aD O1;subst this;exact Zrg rfl⟩
 | n+1,p,x,q=>by
  by_cases h:Zb p x≠0
  .rw [Zv2 (n+1) p x h q];exact Zm4 p x h
  .have M:Zb p x=0:=gJ.1 h;have H:=Nl p;obtain⟨δ,B,D⟩:=Bb n (Yu p) x O1;have G:Fw (n+1) p x=Fw n (Yu p) x:=by unfold Fw;rw [aE h];cases n<;>rfl
   have k:Zb (ld p) x≠0->Fx (Zb (ld p) x)=Fw n (Yu p) x:=λg=>by rw [<-Ly]at g ⊢;exact(Zv2 n (Yu p) x g O1).symm
   refine⟨δ,B,λy l N=>?_⟩;rw [G];have i:∀u,x<u->u<=y->Fx (Zb (ld p) u)=Fw n (Yu p) x:=λu a b=>by rw [<-Ly];exact D u a O5
   have e:=i y l O5;generalize Fw n (Yu p) x=σ at *;rcases Qw (Zb (ld p) y)with⟨m,j⟩|⟨m,j⟩|⟨m,j⟩
   .rw [j]at e;subst e;refine Zwv ?_;have:=Znj (p:=p) l (λu a b=>by
     rcases Qw (Zb (ld p) u)with⟨d,c⟩|⟨d,c⟩|⟨d,c⟩
     .exact d
     .have:=i u a b;rw [c]at this;exact absurd this O4
     .have:=i u a b;rw [c]at this;exact absurd this O4) (by
     rcases Qw (Zb (ld p) x)with⟨d,c⟩|⟨d,c⟩|⟨d,c⟩
     .exact cW d
     .have:=k O5;rw [c]at this;exact absurd this O4
     .grind)
    grind
   .rw [j]at e;subst e;refine Zmq ?_;have r:∀u,Zb (ld (p.map λa=>-1*a)) u=-Zb (ld p) u:=λu=>by rw [Bk];push_cast;grind
    have:=Znj (p:=p.map λa=>-1*a) l (λu a b=>by
     rw [r];rcases Qw (Zb (ld p) u)with⟨d,c⟩|⟨d,c⟩|⟨d,c⟩
     .have:=i u a b;rw [c]at this;exact absurd this O4
     .grind
     .have:=i u a b;rw [c]at this;exact absurd this O4) (by
     rw [r];rcases Qw (Zb (ld p) x)with⟨d,c⟩|⟨d,c⟩|⟨d,c⟩
     .have:=k O5;rw [c]at this;exact absurd this O4
     .grind
     .grind)
    rw [Ze8,Ze8]at this;grind
   .rw [j]at e;subst e;refine Zrg ?_;have w:∀u,x<=u->u<=y->Zb (ld p) u=0:=λu a b=>by
     rcases(show x<u\/u=x by grind)with g|g
     .rcases Qw (Zb (ld p) u)with⟨d,c⟩|⟨d,c⟩|⟨d,c⟩
      .have:=i u g b;rw [c]at this;exact absurd this O4
      .have:=i u g b;rw [c]at this;exact absurd this O4
      .exact d
     .subst g;rcases Qw (Zb (ld p) u)with⟨d,c⟩|⟨d,c⟩|⟨d,c⟩
      .have:=k O5;rw [c]at this;exact absurd this O4
      .have:=k O5;rw [c]at this;exact absurd this O4
      .exact d
    have I:=Zfq (p:=p) (s:=x) (t:=y) O5 (λu a b=>by rw [w u a b];grind);have z:=Zfq (p:=p.map λa=>-1*a) (s:=x) (t:=y) O5 (λu a b=>by rw [Bk,w u a b];push_cast;grind);rw [Ze8,Ze8]at z;grind
theorem Ed.mul_l{a b c:List Int}(h:Ed a b):Ed (Qg c a) (Qg c b):=by obtain⟨k,s,d,e⟩:=h;exact⟨k,s,d,λx=>by rw [Ya,Ya];have:=e x;grind⟩
theorem Gw{n:Nat}(D:Tr p)(m:p≠[])(hs:Sz n p)(z:n<=220)(w:p.length<=11)(r:p.length<=F+1):∀(f:Nat) (q:List Int),Dp p q->q.length<=f->
  (∃B:List Int,∀x:Rat,Zb q x=Zb (Dq F f q) x*(Zb B x*Zb B x))/\Ed (Dq F f q) (sqf F q):=by
 intro f
 induction f with
 | zero=>intro q d y;have:=aC.2 d.2.1;omega
 | succ f ih=>
  intro q d y;have g:=(d.ok D m hs z w r).2;have h:=d.next g;have e:=(h.ok D m hs z w r).2;have i:=h.next e;unfold Dq;by_cases l:(sqf F q).length=1
  .rw [aH l];obtain⟨s1,s2,s3⟩:=Ze1 d.1 d.2.1 g l;refine⟨⟨[1],λx=>?_⟩,Ed.refl _⟩;rw [s1,Ykj d.1 d.2.2.1 s2,Qu];push_cast;grind
  .rw [aE l];have lq:2<=q.length:=by obtain⟨f1,f2,f3,f4,f5,f6⟩:=Pz (F:=F) d.1 d.2.1 g;obtain⟨P,G,H,k,Q⟩:=Qj d.1 d.2.1 g;have l1:=aC.2 f3;have l2:=aC.2 G;omega
   have a0:=Zkx d.1 d.2.1 g lq;obtain⟨P,G,H,k,Q⟩:=Qj d.1 d.2.1 g;obtain⟨b1,b2,b3,I,b5⟩:=Qj h.1 h.2.1 e;obtain⟨-,t2,t3,-,-,-⟩:=Pz (F:=F) h.1 h.2.1 e;have lb:=aC.2 t3;obtain⟨⟨B,Z⟩,hE⟩:=ih _ i O1;obtain⟨-,N,o3,o4⟩:=Di d.1 d.2.1 g e;have j:=(i.ok D m hs z w r).2;rw [d.2.2.1]at k;rw [H]at I;have R:∀x,Zb q x=Zb (sqf F q) x*Zb (Pi F q) x:=λx=>by rw [<-Ya,<-k]
   have V:∀x,Zb (sqf F q) x=Zb (Ds F q) x*Zb (sqf F (Pi F q)) x:=λx=>by rw [<-Ya,<-N]
   have W:∀x,Zb (Pi F q) x=Zb (sqf F (Pi F q)) x*Zb (Pi F (Pi F q)) x:=λx=>by rw [<-Ya,<-I]
   refine⟨⟨Qg (sqf F (Pi F q)) B,λx=>?_⟩,?_⟩
   .rw [Ya,Ya,R x,V x,W x,Z x];show _=Zb (Ds F q) x*_*_;generalize Zb (sqf F (Pi F q)) x=S;generalize Zb B x=C;grind
   .have Y:Ed (Dq F f (Pi F (Pi F q))) (sqf F (Pi F q)):=hE.trans (Zxd h.1 h.2.1 e j);have M:=Y.mul_l (c:=Ds F q);rw [<-N]at M;exact M
theorem Zrv{n:Nat}(W:Tr p)(R:p≠[])(hs:Sz n p)(hn:n<=220)(hl:p.length<=11)(hF:p.length<=F+1)(H:Tr o)(Z:o≠[])(g:Fp F o)(B:Fp F p)(h:Ed o (sqf F p)):(Pi F o).length=1/\sqf F o=Yw o:=by
 obtain⟨N,a2,a3,P,a5⟩:=Qj H Z g;obtain⟨f1,f2,f3,f4,f5,f6⟩:=Pz (F:=F) W R B;obtain⟨-,s2,s3,s4,s5,s6⟩:=Pz (F:=F) H Z g;have Y:Tr (Yw o):=Ol (Yr H);have S:=Zcx Y (Md Y) g;have Q:Ed (Pi F o) (Yw o):=S.1.ed;have e2:Ed (Pi F o) (ld (Yw o)):=(S.2.ed:Ed (Pi F o) (Yu (Yw o))).congr λx=>Ly _ x;have D:Sim (Yw o) o:=(Ik (Zu o)).trans (Qf H);obtain⟨k,w,G,l⟩:Ed (Yw o) (sqf F p):=by
  obtain⟨k,w,G,e⟩:=h;obtain⟨c,d,hc,M,I⟩:=D;have j:∀x:Rat,(c:Rat)*Zb (Yw o) x=(d:Rat)*Zb o x:=λx=>by rw [<-Zh,<-Zh];exact Oa x _ _ λi=>by rw [Xs,Xs];exact I i
  exact⟨d*k,w.map λa=>c*a,bH M G,λx=>by rw [Zh];have a:=e x;have b:=j x;push_cast;grind⟩
 have V:(Pi F o).length<=1:=by
  refine Ze2 W R B N (Q.trans ⟨k,w,G,l⟩) ?_;have h1:Ed (Pi F o) (lmul w (ld (Yw o))):=by obtain⟨m,z,hm,e⟩:=e2;exact⟨m,lmul w z,hm,λx=>by rw [Zs,Zs];have:=e x;grind⟩
  have h2:Ed (Pi F o) (ld (sqf F p)):=Ed.lin Q h1 (ld w) k G λx=>by have:=Dg (p:=(sqf F p).map λa=>k*a) (q:=lmul w (Yw o)) (λy=>by rw [Zh,Zs];exact l y) x;rw [Bk,Dz]at this;rw [Zs,this]
  exact h2.congr λx=>(Ly _ x).symm
 have r:(Pi F o).length=1:=by have:=aC.2 a2;omega
 refine⟨r,?_⟩;rw [Ykj N a3 r,Zoj s2]at P;exact P.symm
theorem Ze4{a b:List Int}(h:Sim a b):∃c d:Int,c≠0/\d≠0/\∀x:Rat,(c:Rat)*Zb a x=(d:Rat)*Zb b x:=by obtain⟨c,d,g,j,e⟩:=h;exact⟨c,d,g,j,λx=>by rw [<-Zh,<-Zh];exact Oa x _ _ λi=>by rw [Xs,Xs];exact e i⟩
theorem Gg(h:x≠0):0<x*x:=by
 rcases(show 0<x\/x<0 by grind)with q|q
 .exact aT q q
 .have:=aT (a:=-x) (b:=-x) O5 O5;grind
theorem Pa{c:Int}(h:c≠0):(c:Rat)≠0:=λe=>h (by exact_mod_cast e)
theorem Zfl{e g c d:Rat}(j:c≠0)(k:d≠0)(l:c*e=d*a)(m:c*g=d*b)(h:a*b<0):e*g<0:=by
 have n:(c*c)*(e*g)=(d*d)*(a*b):=O5;have r:=Gg j;have i:=Gg k;rcases(show e*g<0\/0<=e*g by grind)with q|q
 .exact q
 .have w:=aG (a:=c*c) (b:=e*g) O5 q;have y:=aT (a:=d*d) (b:=-(a*b)) i O5;grind
theorem Yeg{e g c d:Rat}(h:e*(c*c)*(g*(d*d))<0):e*g<0:=by
 rcases(show e*g<0\/0<=e*g by grind)with q|q
 .exact q
 .have j:0<=c*d*(c*d):=by
   by_cases i:c*d=0
   .rw [i];grind
   .exact cW (Gg i)
  have k:=aG q j;grind
theorem Zm3{n:Nat}(i:Tr p)(k:p≠[])(hs:Sz n p)(M:n<=220)(I:p.length<=11)(D:p.length<=F+1)(ho:o=Dq F p.length (Yw p))(g:Tr o)(Q:o≠[])(y:Bg F o)(a0:a<b)(h1:Fw p.length p a=1)(h2:Zb p b<0):Ak F o b<Ak F o a:=by
 have m:=Dp.start i k;have h:=(m.ok i k hs M I D).2;have j:Fp F p:=by unfold Fp at h ⊢;rwa [m.2.2.1]at h
 obtain⟨⟨B,w⟩,z⟩:=Gw i k hs M I D p.length (Yw p) m (by rw [Qz i];exact aI _);rw [<-ho]at w z;rw [Ev m.2.2.1]at z;obtain⟨-,P⟩:=Zrv i k hs M I D g Q y.1.2.2.1 j z;obtain⟨δ,d1,Z⟩:=Bb p.length p a (aI _);obtain⟨s,W,s2,Y⟩:∃s,a<s/\s<=a+δ/\s<b:=by
  rcases(show a+δ<b\/b<=a+δ by grind)with q|q
  .exact⟨a+δ,O5,O5,q⟩
  .exact⟨(a+b)/2,O5,O5,O5⟩
 have N:0<Zb p s:=by
  have:=Z s W s2;rw [h1]at this;rcases Qw (Zb p s)with⟨r,l⟩|⟨r,l⟩|⟨r,l⟩
  .exact r
  .rw [l]at this;exact absurd this O4
  .rw [l]at this;exact absurd this O4
 have k1:Zb p s*Zb p b<0:=by have:=aT (a:=Zb p s) (b:=-Zb p b) N O5;grind
 obtain⟨c,d,hc,hd,e⟩:=Ze4 ((Ik (Zu p)).trans (Qf i):Sim (Yw p) p);have S:Zb (Yw p) s*Zb (Yw p) b<0:=Zfl (Pa hc) (Pa hd) (e s) (e b) k1;rw [w s,w b]at S;have k3:=Yeg S;obtain⟨c',d',G,H,R⟩:=Ze4 ((Ik (Zu o)).trans (Qf g):Sim (Yw o) o);have V:Zb (Yw o) s*Zb (Yw o) b<0:=Zfl (Pa G) (Pa H) (R s) (R b) k3;rw [<-P]at V;have m1:=Zi5 g Q y (cW W);rcases fY (Ak F o b) (Ak F o s)with q|q
 .exact Int.lt_of_lt_of_le q m1
 .exfalso;have hz:Zb (sqf F o) s≠0:=λe9=>by rw [e9]at V;grind
  have:=Zc6 g Q y (cW Y) q hz b (cW Y) O5;grind
theorem Zgd:∀(n:Nat) (p:List Int) (x:Rat),Tr p->p≠[]->p.length<=n->Fw n p x≠0
 | 0,p,x,_,i,r=>absurd (aD O1) i
 | n+1,p,x,l,i,r=>by
  unfold Fw;by_cases h:Zb p x≠0
  .rw [aH h];rcases Qw (Zb p x)with⟨j,g⟩|⟨j,g⟩|⟨j,g⟩
   .rw [g];decide
   .rw [g];decide
   .exact absurd j h
  .rw [aE h];have m:Zb p x=0:=gJ.1 h;have d:=Nl p;refine Zgd n (Yu p) x (Md l) (λe=>?_) O1;rw [e]at d;have w:=aC.2 i;have k:p.length=1:=by simp at d;omega
   match p,k with
   | [c],_=>
    have q:c≠0:=l.mem O7;rw [Qu]at m;exact Pa q m
theorem Zqi(n:Nat)(p:List Int)(x:Rat):-1<=Fw n p x/\Fw n p x<=1:=by
 induction n generalizing p with
 | zero=>show -1<=(0:Int)/\(0:Int)<=1;decide
 | succ n c=>unfold Fw;split;exact Ydg _;exact c _
def Bu(F:Nat)(o:List Int)(a b:Rat):Prop:=0<Ak F o a-Ak F o b-(if Zb o b=0 then 1 else 0)
theorem Yem{n:Nat}(g:Tr p)(i:p≠[])(hs:Sz n p)(G:n<=220)(D:p.length<=11)(z:p.length<=F+1)(H:o=Dq F p.length (Yw p))(m:Tr o)(S:o≠[])(P:Bg F o)(k:a<b) :
  (Zb p a<0\/Zb p b<0\/Fw p.length p a<0\/Bu F o a b)↔(Fw p.length p a<0\/Bu F o a b):=by
 constructor
 .rintro(h|h|h|h)
  .left;rw [Zv2 p.length p a O5 (aI _),Zmq h];decide
  .have r:=Zqi p.length p a;have r0:=Zgd p.length p a g i (aI _);rcases(show Fw p.length p a<0\/Fw p.length p a=1 by omega)with j|j
   .exact .inl j
   .right;have W:=Zm3 g i hs G D z H m S P k j h;have Q:=Dp.start g i;obtain⟨⟨B,y⟩,-⟩:=Gw g i hs G D z p.length (Yw p) Q (by rw [Qz g];exact aI _);rw [<-H]at y;obtain⟨c,d,V,R,e⟩:=Ze4 ((Ik (Zu p)).trans (Qf g):Sim (Yw p) p);have l:Zb o b≠0:=λI=>by
     have w:(c:Rat)*Zb (Yw p) b=(d:Rat)*Zb p b:=e b;rw [y b,I]at w;have M:=Pa R;have N:(d:Rat)*Zb p b=0:=by rw [<-w];grind
     rcases dJ.1 N with q|q
     .exact M q
     .rw [q]at h;grind
    unfold Bu;rw [aE l];omega
  .exact .inl h
  .exact .inr h
 .rintro(h|h)
  .exact .inr (.inr (.inl h))
  .exact .inr (.inr (.inr h))
theorem Yax(p:List Int)(x:Rat)(h:Zb p x≠0):∃δ:Rat,0<δ/\∀y,x-δ<=y->y<=x->Fx (Zb p y)=Fx (Zb p x):=by
 obtain⟨L,r,k⟩:=Dy (x-1) x p;have i:0<(if 0<Zb p x then Zb p x else -Zb p x):=by split<;>grind
 obtain⟨δ,j,m,g⟩:=He (show(0:Rat)<1 by decide) (show 0<L+1 by grind) (show 0<(if 0<Zb p x then Zb p x else -Zb p x)/2 by grind);refine⟨δ,j,λy n q=>?_⟩;have l:=k y x O5 O5 O5;have b:=aG (a:=L) (b:=δ-(x-y)) O5 O5;have c:L*(x-y)<=δ*(L+1):=O5;rcases Qw (Zb p x)with⟨d,e⟩|⟨d,e⟩|⟨d,e⟩
 .rw [aH d]at g i;rw [e];exact Zwv O5
 .rw [aE O5]at g i;rw [e];exact Zmq O5
 .exact absurd d h
theorem rsg_1(h:Fx x=1):0<x:=by
 rcases Qw x with⟨d,c⟩|⟨d,c⟩|⟨d,c⟩
 .exact d
 .rw [c]at h;exact absurd h O4
 .rw [c]at h;exact absurd h O4
theorem Zn1(h:Fx x=-1):x<0:=by
 rcases Qw x with⟨d,c⟩|⟨d,c⟩|⟨d,c⟩
 .rw [c]at h;exact absurd h O4
 .exact d
 .rw [c]at h;exact absurd h O4
def Zv4(p:List Int)(a b:Rat):Prop:=∃x,a<=x/\x<=b/\Zb p x<0
theorem Yf3   (hx:Tr xs) (h0:xs≠[]) (hC:Bg F xs) {σ:Rat} (Y:σ≠0) (S:a<b)
  (c:∀x,a<=x->x<b->∃δ:Rat,0<δ/\∀y,x<y->y<=x+δ->y<=b->0<σ*Zb (sqf F xs) y) :
  Ak F xs a-Ak F xs b<=(if Zb (sqf F xs) b=0 then 1 else 0):=by
 obtain⟨h,h1,R⟩:=Zlg hx h0 hC a b;have H:∀x,a<=x->x<b->0<=σ*Zb (sqf F xs) x:=λx ha hb=>by
  rcases(show 0<=σ*Zb (sqf F xs) x\/σ*Zb (sqf F xs) x<0 by grind)with q|q
  .exact q
  .exfalso;have g:Zb (sqf F xs) x≠0:=λe=>by rw [e]at q;grind
   obtain⟨δ,d1,D⟩:=c x ha hb;obtain⟨ε,e1,Q⟩:=Zm4 (sqf F xs) x g;obtain⟨y,N,P,y3,y4⟩:∃y,x<y/\y<=x+δ/\y<=x+ε/\y<=b:=by
    rcases(show δ<=ε\/ε<=δ by grind)with w|w
    .rcases(show x+δ<=b\/b<=x+δ by grind)with v|v
     .exact⟨x+δ,O5,O5,O5,v⟩
     .exact⟨b,O5,O5,O5,O5⟩
    .rcases(show x+ε<=b\/b<=x+ε by grind)with v|v
     .exact⟨x+ε,O5,O5,O5,v⟩
     .exact⟨b,O5,O5,O5,O5⟩
   have Z:=D y N P y4;have k:=Q y N y3;rcases Qw (Zb (sqf F xs) x)with⟨i,j⟩|⟨i,j⟩|⟨i,j⟩
   .rw [j]at k;have I:=rsg_1 k;rcases(show σ<0\/0<σ by grind)with s|s
    .have:=aT (a:=-σ) (b:=Zb (sqf F xs) y) O5 I;grind
    .have:=aT s i;grind
   .rw [j]at k;have I:=Zn1 k;rcases(show σ<0\/0<σ by grind)with s|s
    .have:=aT (a:=-σ) (b:=-Zb (sqf F xs) x) O5 O5;grind
    .have:=aT (a:=σ) (b:=-Zb (sqf F xs) y) s O5;grind
   .exact g i
 have V:0<=σ*Zb (sqf F xs) b:=by
  rcases(show 0<=σ*Zb (sqf F xs) b\/σ*Zb (sqf F xs) b<0 by grind)with q|q
  .exact q
  .exfalso;have g:Zb (sqf F xs) b≠0:=λe=>by rw [e]at q;grind
   obtain⟨ε,e1,Q⟩:=Yax (sqf F xs) b g;obtain⟨y,N,P,y3⟩:∃y,a<=y/\y<b/\b-ε<=y:=by
    rcases(show a<=b-ε\/b-ε<=a by grind)with v|v
    .exact⟨b-ε,v,O5,O5⟩
    .exact⟨a,O5,S,v⟩
   obtain⟨δ,d1,D⟩:=c y N P;obtain⟨z,z1,z2,r⟩:∃z,y<z/\z<=y+δ/\z<=b:=by
    rcases(show y+δ<=b\/b<=y+δ by grind)with v|v
    .exact⟨y+δ,O5,O5,v⟩
    .exact⟨b,P,O5,O5⟩
   have Z:=D z z1 z2 r;have k:=Q z O5 r;rcases Qw (Zb (sqf F xs) b)with⟨i,j⟩|⟨i,j⟩|⟨i,j⟩
   .rw [j]at k;have I:=rsg_1 k;rcases(show σ<0\/0<σ by grind)with s|s
    .have:=aT (a:=-σ) (b:=Zb (sqf F xs) z) O5 I;grind
    .have:=aT s i;grind
   .rw [j]at k;have I:=Zn1 k;rcases(show σ<0\/0<σ by grind)with s|s
    .have:=aT (a:=-σ) (b:=-Zb (sqf F xs) b) O5 O5;grind
    .have:=aT (a:=σ) (b:=-Zb (sqf F xs) z) s O5;grind
   .exact g i
 have d:∀u v,a<=u->u<=v->v<=b->v-u<=h/2->Ak F xs u-Ak F xs v<=(if v=b/\Zb (sqf F xs) b=0 then 1 else 0):=λu v l M B c4=>by
  have e:=R u v l M B O5;have e':Ak F xs u-Ak F xs v=crs (Zb (sqf F xs)) u v:=e;rw [e'];unfold crs;by_cases G:Zb (sqf F xs) u≠0/\Zb (sqf F xs) u*Zb (sqf F xs) v<=0
  .rw [aH G];have W:u<b:=by
    rcases(show u<b\/u=b by grind)with q|q
    .exact q
    .exfalso;have:v=u:=O5;subst this;have:=Gg G.1;grind
   have g1:=H u l W;have g2:0<=σ*Zb (sqf F xs) v:=by
    rcases(show v<b\/v=b by grind)with q|q
    .exact H v O5 q
    .rw [q];exact V
   have m:Zb (sqf F xs) v=0:=by
    rcases(show Zb (sqf F xs) v=0\/Zb (sqf F xs) v≠0 by grind)with q|q
    .exact q
    .exfalso;have m1:=aG g1 g2;have m2:=Gg Y;have m3:(σ*σ)*(Zb (sqf F xs) u*Zb (sqf F xs) v)>=0:=O5;rcases(show Zb (sqf F xs) u*Zb (sqf F xs) v<0\/Zb (sqf F xs) u*Zb (sqf F xs) v=0 by grind)with w|w
     .have:=aT m2 (show 0 < -(Zb (sqf F xs) u*Zb (sqf F xs) v) by grind);grind
     .rcases dJ.1 w with z|z
      .exact G.1 z
      .exact q z
   rcases(show v<b\/v=b by grind)with q|q
   .exfalso;obtain⟨δ,d1,D⟩:=c v O5 q;obtain⟨z,z1,z2,r,z4⟩:∃z,v<z/\z<=v+δ/\z<=b/\z-v<=h/2:=by
     rcases(show δ<=h/2\/h/2<=δ by grind)with w|w
     .rcases(show v+δ<=b\/b<=v+δ by grind)with t|t
      .exact⟨v+δ,O5,O5,t,O5⟩
      .exact⟨b,q,O5,O5,O5⟩
     .rcases(show v+h/2<=b\/b<=v+h/2 by grind)with t|t
      .exact⟨v+h/2,O5,O5,t,O5⟩
      .exact⟨b,q,O5,O5,O5⟩
    have Z:=D z z1 z2 r;have a1:=R u z l O5 r O5;have a2:=R v z O5 O5 r O5;have r1:crs (Zb (sqf F xs)) u z=0:=by
     unfold crs;rw [aE];rintro⟨w1,w2⟩;have g3:0<σ*Zb (sqf F xs) u:=by
      rcases(show σ*Zb (sqf F xs) u=0\/0<σ*Zb (sqf F xs) u by grind)with t|t
      .rcases dJ.1 t with t|t
       .exact absurd t Y
       .exact absurd t w1
      .exact t
     have m1:=aT g3 Z;have m2:=Gg Y;have m3:0<(σ*σ)*(Zb (sqf F xs) u*Zb (sqf F xs) z):=O5;have m4:=aG (a:=σ*σ) (b:=-(Zb (sqf F xs) u*Zb (sqf F xs) z)) O5 O5;grind
    have r2:crs (Zb (sqf F xs)) v z=0:=by unfold crs;rw [aE];rintro⟨w1,w2⟩;exact w1 m
    have r3:crs (Zb (sqf F xs)) u v=1:=by unfold crs;rw [aH G]
    rw [r1]at a1;rw [r2]at a2;rw [r3]at e;omega
   .rw [q]at m;rw [aH ⟨q,m⟩];decide
  .rw [aE G];split<;>decide
 have a0:∀n:Nat,∀u,a<=u->u<=b->b-u<=(n:Rat)*(h/2)->Ak F xs u-Ak F xs b<=(if Zb (sqf F xs) b=0 then 1 else 0):=λn=>by
  induction n with
  | zero=>
   intro u l M B;have:u=b:=by push_cast at B;grind
   subst this;rw [Int.sub_self];split<;>decide
  | succ n ih=>
   intro u l M B;push_cast at B;by_cases hy:b-u<=h/2
   .have:=d u b l M O5 hy;by_cases g:Zb (sqf F xs) b=0
    .rw [aH ⟨rfl,g⟩]at this;rw [aH g];exact this
    .rw [aE (λe=>g e.2)]at this;rw [aE g];exact this
   .have i1:=ih (u+h/2) O5 O5 O5;have i2:=d u (u+h/2) l O5 O5 O5;rw [aE (λe=>by have:=e.1;grind)]at i2;generalize (if Zb (sqf F xs) b=0 then(1:Int)else 0)=t at *;omega
 obtain⟨n,hn⟩:=Zgc (b-a) (show 0<h/2 by grind);exact a0 n a O5 O5 hn
structure Odp (F n:Nat) (p o:List Int):Prop where
 tr:Tr p
 ne:p≠[]
 sz:Sz n p
 hn:n<=220
 hl:p.length<=11
 hF:p.length<=F+1
 eq:o=Dq F p.length (Yw p)
 otr:Tr o
 one:o≠[]
 ok:Bg F o
theorem Odp.sq{n:Nat}(h:Odp F n p o):∃(c d:Int) (B:List Int),c≠0/\d≠0/\∀x:Rat,(d:Rat)*Zb p x=(c:Rat)*(Zb o x*(Zb B x*Zb B x)):=by have i:=Dp.start h.tr h.ne;obtain⟨⟨B,g⟩,-⟩:=Gw h.tr h.ne h.sz h.hn h.hl h.hF p.length (Yw p) i (by rw [Qz h.tr];exact aI _);rw [<-h.eq]at g;obtain⟨c,d,j,k,e⟩:=Ze4 ((Ik (Zu p)).trans (Qf h.tr):Sim (Yw p) p);exact⟨c,d,B,j,k,λx=>by rw [<-g x];exact(e x).symm⟩
theorem Odp.sqf{n:Nat}(h:Odp F n p o):Go.Sky.sqf F o=Yw o:=by
 have e:=Dp.start h.tr h.ne;have c:=(e.ok h.tr h.ne h.sz h.hn h.hl h.hF).2;have d:Fp F p:=by unfold Fp at c ⊢;rwa [e.2.2.1]at c
 obtain⟨-,g⟩:=Gw h.tr h.ne h.sz h.hn h.hl h.hF p.length (Yw p) e (by rw [Qz h.tr];exact aI _);rw [<-h.eq]at g;rw [Ev e.2.2.1]at g;exact(Zrv h.tr h.ne h.sz h.hn h.hl h.hF h.otr h.one h.ok.1.2.2.1 d g).2
theorem Odp.srt{n:Nat}(h:Odp F n p o):∃c d:Int,c≠0/\d≠0/\∀x:Rat,(c:Rat)*Zb (Go.Sky.sqf F o) x=(d:Rat)*Zb o x:=by rw [h.sqf];exact Ze4 ((Ik (Zu o)).trans (Qf h.otr):Sim (Yw o) o)
theorem Odp.zero{n:Nat}(h:Odp F n p o)(x:Rat):Zb (Go.Sky.sqf F o) x=0↔Zb o x=0:=by
 obtain⟨c,d,i,j,e⟩:=h.srt;have g:=e x;constructor
 .intro z;rw [z]at g;rcases dJ.1 (show(d:Rat)*Zb o x=0 by grind)with q|q
  .exact absurd q (Pa j)
  .exact q
 .intro z;rw [z]at g;rcases dJ.1 (show(c:Rat)*Zb (Go.Sky.sqf F o) x=0 by grind)with q|q
  .exact absurd q (Pa i)
  .exact q
theorem Odp.nz{n:Nat}(h:Odp F n p o)(j:Zb p x≠0):Zb o x≠0:=λz=>by
 obtain⟨c,d,B,k,i,e⟩:=h.sq;have g:=e x;rw [z]at g;rcases dJ.1 (show(d:Rat)*Zb p x=0 by grind)with q|q
 .exact Pa i q
 .exact j q
theorem Odp.opp{n:Nat}(h:Odp F n p o){y:Rat}(j:Zb p x*Zb p y<0):Zb o x*Zb o y<0/\Zb (Go.Sky.sqf F o) x*Zb (Go.Sky.sqf F o) y<0:=by obtain⟨c,d,B,m,q,e⟩:=h.sq;have r:(Zb o x*(Zb B x*Zb B x))*(Zb o y*(Zb B y*Zb B y))<0:=Zfl (Pa m) (Pa q) (e x).symm (e y).symm j;have l:=Yeg r;obtain⟨w,z,g,i,k⟩:=h.srt;exact⟨l,Zfl (Pa g) (Pa i) (k x) (k y) l⟩
theorem Odp.sem{n:Nat}(h:Odp F n p o)(i:a<b):(Fw p.length p a<0\/Bu F o a b)↔Zv4 p a b:=by
 have j:=Yem h.tr h.ne h.sz h.hn h.hl h.hF h.eq h.otr h.one h.ok i;constructor
 .rintro(k|k)
  .obtain⟨δ,M,m⟩:=Bb p.length p a (aI _);have r:=Zqi p.length p a;have hm:Fw p.length p a=-1:=O1;rcases(show a+δ<=b\/b<=a+δ by grind)with q|q
   .exact⟨a+δ,O5,q,Zn1 (by rw [m (a+δ) O5 O5,hm])⟩
   .exact⟨b,O5,O5,Zn1 (by rw [m b i q,hm])⟩
  .rcases Classical.em (Zv4 p a b)with q|q
   .exact q
   .exfalso;have S:∀x,a<=x->x<=b->0<=Zb p x:=λx u v=>by
     rcases(show 0<=Zb p x\/Zb p x<0 by grind)with w|w
     .exact w
     .exact absurd ⟨x,u,v,w⟩ q
    have l:∀x,a<=x->x<b->∃δ:Rat,0<δ/\∀y,x<y->y<=x+δ->y<=b->0<Zb p y:=λx u v=>by
     obtain⟨δ,M,m⟩:=Bb p.length p x (aI _);have r:=Zqi p.length p x;have r0:=Zgd p.length p x h.tr h.ne (aI _);refine⟨δ,M,λy G H I=>?_⟩;have s:=m y G H;rcases Qw (Zb p y)with⟨N,P⟩|⟨N,P⟩|⟨N,P⟩
     .exact N
     .have:=S y O5 I;grind
     .rw [P]at s;exact absurd s.symm r0
    obtain⟨δ,M,m⟩:=l a O5 i;obtain⟨z,z1,z2,z3⟩:∃z,a<z/\z<=a+δ/\z<=b:=by
     rcases(show a+δ<=b\/b<=a+δ by grind)with w|w
     .exact⟨a+δ,O5,O5,w⟩
     .exact⟨b,i,w,O5⟩
    have hz:=m z z1 z2 z3;have hσ:Zb (Go.Sky.sqf F o) z≠0:=λe=>h.nz (x:=z) O5 ((h.zero z).1 e);have Z:=Yf3 h.otr h.one h.ok (σ:=Zb (Go.Sky.sqf F o) z) hσ i (λx u v=>by
     obtain⟨ε,e1,e2⟩:=l x u v;refine⟨ε,e1,λy G H I=>?_⟩;have hy:=e2 y G H I;have V:Zb (Go.Sky.sqf F o) y≠0:=λe=>h.nz (x:=y) O5 ((h.zero y).1 e);rcases(show 0<Zb (Go.Sky.sqf F o) z*Zb (Go.Sky.sqf F o) y\/Zb (Go.Sky.sqf F o) z*Zb (Go.Sky.sqf F o) y<0\/Zb (Go.Sky.sqf F o) z*Zb (Go.Sky.sqf F o) y=0 by grind)with w|w|w
     .exact w
     .exfalso;obtain⟨c,d,B,hc,hd,e⟩:=h.sq;obtain⟨c',d',Q,R,Y⟩:=h.srt;have w1:Zb o z*Zb o y<0:=Zfl (Pa R) (Pa Q) (Y z).symm (Y y).symm w;have p1:=aT hz hy;have q1:((d:Rat)*(d:Rat))*(Zb p z*Zb p y)=((c:Rat)*(c:Rat))*((Zb o z*Zb o y)*((Zb B z*Zb B y)*(Zb B z*Zb B y))):=by
       have a1:=e z;have a2:=e y;have:((d:Rat)*Zb p z)*((d:Rat)*Zb p y)=((c:Rat)*(Zb o z*(Zb B z*Zb B z)))*((c:Rat)*(Zb o y*(Zb B y*Zb B y))):=by rw [a1,a2]
       grind
      have D:=aT (Gg (Pa hd)) p1;have q3:0<=(Zb B z*Zb B y)*(Zb B z*Zb B y):=by
       by_cases t:Zb B z*Zb B y=0
       .rw [t];grind
       .exact cW (Gg t)
      have q4:=aG (cW (Gg (Pa hc))) (aG (show 0<=-(Zb o z*Zb o y) by grind) q3);grind
     .rcases dJ.1 w with t|t
      .exact absurd t hσ
      .exact absurd t V)
    unfold Bu at k;by_cases g:Zb o b=0
    .rw [aH g]at k;rw [aH ((h.zero b).2 g)]at Z;omega
    .rw [aE g]at k;rw [aE (λe=>g ((h.zero b).1 e))]at Z;omega
 .rintro⟨x,x1,x2,W⟩;rcases(show x=a\/x=b\/(a<x/\x<b) by grind)with q|q|⟨q1,D⟩
  .subst q;exact j.1 (.inl W)
  .subst q;exact j.1 (.inr (.inl W))
  .have r:=Zqi p.length p a;have r0:=Zgd p.length p a h.tr h.ne (aI _);rcases(show Fw p.length p a<0\/Fw p.length p a=1 by omega)with k|k
   .exact .inl k
   .right;have hv:=Zm3 h.tr h.ne h.sz h.hn h.hl h.hF h.eq h.otr h.one h.ok q1 k W;have m1:=Zi5 h.otr h.one h.ok (cW D);unfold Bu;by_cases g:Zb o b=0
    .rw [aH g];have hx:Zb (Go.Sky.sqf F o) x≠0:=λe=>h.nz (x:=x) O5 ((h.zero x).1 e);rcases fY (Ak F o b) (Ak F o x)with w|w
     .omega
     .exfalso;have:=Zc6 h.otr h.one h.ok (cW D) w hx b (cW D) O5;rw [(h.zero b).2 g]at this;grind
    .rw [aE g];omega
theorem Zsl(g:Rat->Rat){h:Rat}(j:0<h):∀(n:Nat) (u v:Rat),u<v->v-u<=(n:Rat)*h->g u*g v<0->∃x y,u<=x/\x<y/\y<=v/\y-x<=h/\g x≠0/\g x*g y<=0
 | 0,u,v,a,b,_=>by push_cast at b;grind
 | n+1,u,v,a,b,c=>by
  push_cast at b;have d:g u≠0:=λe=>by rw [e]at c;grind
  by_cases i:v-u<=h
  .exact⟨u,v,O5,a,O5,i,d,O5⟩
  .rcases(show g u*g (u+h)<=0\/0<g u*g (u+h) by grind)with q|q
   .exact⟨u,u+h,O5,O5,O5,O5,d,q⟩
   .have k:g (u+h)*g v<0:=by
     have D:=Gg d;rcases(show g (u+h)*g v<0\/0<=g (u+h)*g v by grind)with w|w
     .exact w
     .have H:=aT q (show 0 < -(g u*g v) by grind);have I:=aG (cW D) w;grind
    obtain⟨x,y,G,l,m,r,z,B⟩:=Zsl g j n (u+h) v O5 O5 k;exact⟨x,y,O5,l,m,r,z,B⟩
theorem Zm0{c:Rat}(h:a*b<0)(d:a-b<=c)(e:b-a<=c):-c<=a/\a<=c:=by
 rcases(show 0<a\/a<0\/a=0 by grind)with q|q|q
 .have:b<0:=by
   rcases(show b<0\/0<=b by grind)with w|w
   .exact w
   .have:=aG (cW q) w;grind
  grind
 .have:0<b:=by
   rcases(show 0<b\/b<=0 by grind)with w|w
   .exact w
   .have:=aG (show 0<=-a by grind) (show 0<=-b by grind);grind
  grind
 .rw [q]at h;grind
theorem Zsx(hx:Tr xs)(h0:xs≠[])(hC:Bg F xs)(ho:Tr o)(o0:o≠[])(hE:Ed o (sqf F xs))(r:u<v)(hu:Zb (sqf F xs) u≠0)(h:Zb o u*Zb o v<0):Ak F xs v<Ak F xs u:=by
 rcases fY (Ak F xs v) (Ak F xs u)with q|q
 .exact q
 .exfalso;have hk:=Zc6 hx h0 hC (cW r) q hu;obtain⟨k,w,R,B⟩:=hE;have m:=Pa R;have l:∀d,Tr d->Ed d o->Ed d (tzl w)->d.length<=1:=λd hd e1 M=>by
   obtain⟨g,s1,I,r1⟩:=e1;obtain⟨i,s2,c2,r2⟩:=M;refine Ze2 hx h0 hC.1.2.2.1 hd ⟨k*g,lmul w s1,bH R I,λx=>?_⟩ ⟨k*g*i,Nr ((lmul (ld w) s1).map λa=>i*a) ((lmul s2 (ld o)).map λa=>g*a),bH (bH R I) c2,λx=>?_⟩
   .rw [Zs];have Y:=B x;have j:=r1 x;push_cast;grind
   .rw [Yx,Zh,Zh,Zs,Zs,Ly];have W:=Dg (p:=(sqf F xs).map λa=>k*a) (q:=lmul w o) (λy=>by rw [Zh,Zs];exact B y) x;rw [Bk,Dz]at W;have j:=r1 x;have Z:=r2 x;rw [Np]at Z;push_cast;have b1:(k:Rat)*g*i*Zb (ld (sqf F xs)) x=(g:Rat)*i*(Zb (ld w) x*Zb o x+Zb w x*Zb (ld o) x):=by rw [<-W];grind
    rw [b1];have b2:(g:Rat)*i*(Zb (ld w) x*Zb o x+Zb w x*Zb (ld o) x)=(i:Rat)*(Zb (ld w) x*((g:Rat)*Zb o x))+(g:Rat)*(((i:Rat)*Zb w x)*Zb (ld o) x):=O5;rw [b2,j,Z];grind
  obtain⟨ε,e1,M⟩:=Zyt ho (Qh w) o0 l u v;obtain⟨G,l1,l2⟩:=Dy u v o;obtain⟨H,m1,m2⟩:=Dy u v w;obtain⟨z,d1,-,d3⟩:=He (show(0:Rat)<1 by decide) (show 0<G+H by grind) (show 0<ε/2 by grind);obtain⟨n,hn⟩:=Zgc (v-u) d1;obtain⟨x,y,D,x2,V,x4,x5,x6⟩:=Zsl (Zb o) d1 n u v r hn h;have sx:=hk x D O5;have sy:=hk y O5 V;have ox:=B x;have oy:=B y;have Q:Zb o y≠0:=λe=>by
   rw [e]at oy;rcases dJ.1 (show(k:Rat)*Zb (sqf F xs) y=0 by grind)with t|t
   .exact m t
   .rw [t]at sy;grind
  have N:Zb o x*Zb o y<0:=by
   rcases(show Zb o x*Zb o y<0\/Zb o x*Zb o y=0 by grind)with t|t
   .exact t
   .rcases dJ.1 t with t|t
    .exact absurd t x5
    .exact absurd t Q
  have S:0<Zb (sqf F xs) x*Zb (sqf F xs) y:=by
   have Y:=aT sx sy;have j:=Gg hu;rcases(show 0<Zb (sqf F xs) x*Zb (sqf F xs) y\/Zb (sqf F xs) x*Zb (sqf F xs) y<=0 by grind)with t|t
   .exact t
   .have:=aG (cW j) (show 0<=-(Zb (sqf F xs) x*Zb (sqf F xs) y) by grind);grind
  have P:Zb w x*Zb w y<0:=by
   have Y:(k:Rat)*k*(Zb (sqf F xs) x*Zb (sqf F xs) y)=(Zb w x*Zb w y)*(Zb o x*Zb o y):=by
    have:((k:Rat)*Zb (sqf F xs) x)*((k:Rat)*Zb (sqf F xs) y)=(Zb w x*Zb o x)*(Zb w y*Zb o y):=by rw [ox,oy]
    grind
   have j:=aT (Gg m) S;rcases(show Zb w x*Zb w y<0\/0<=Zb w x*Zb w y by grind)with t|t
   .exact t
   .have:=aG t (show 0<=-(Zb o x*Zb o y) by grind);grind
  have I:=l2 x y D O5 V;have c2:=m2 x y D O5 V;have n1:=aG (a:=G) (b:=z-(y-x)) O5 O5;have n2:=aG (a:=H) (b:=z-(y-x)) O5 O5;have n3:=aG (a:=G) (b:=z) O5 O5;have n4:=aG (a:=H) (b:=z) O5 O5;obtain⟨b1,b2⟩:=Zm0 (c:=ε/2) N O5 O5;obtain⟨b3,b4⟩:=Zm0 (c:=ε/2) P O5 O5;rcases M x D O5 with t|t
  .unfold Big at t;grind
  .unfold Big at t;rw [Np]at t;grind
theorem Zms(i:Tr xs)(d:xs≠[])(e:Bg F xs)(c:u<v)(g:Zb (sqf F xs) u≠0)(h:Zb (sqf F xs) v=0):Ak F xs v<Ak F xs u:=by
 rcases fY (Ak F xs v) (Ak F xs u)with q|q
 .exact q
 .exfalso;have:=Zc6 i d e (cW c) q g v (cW c) O5;rw [h]at this;grind
theorem Odp.ed{n:Nat}(h:Odp F n p o):Ed o (Go.Sky.sqf F p):=by have c:=Dp.start h.tr h.ne;obtain⟨-,d⟩:=Gw h.tr h.ne h.sz h.hn h.hl h.hF p.length (Yw p) c (by rw [Qz h.tr];exact aI _);rw [<-h.eq]at d;rwa [Ev c.2.2.1]at d
theorem Yck(i:Tr xs)(c:xs≠[])(d:Bg F xs)(x:Rat):Zb xs x=0↔Zb (sqf F xs) x=0:=by
 constructor
 .intro h;have j:(x.den:Int)≠0:=by exact_mod_cast x.den_nz
  have e:((x.num:Int):Rat)/((x.den:Int):Rat)=x:=by rw [<-Rat.divInt_eq_div];exact Rat.num_divInt_den x
  have:=Ycm i c d.1.2.2.1 j (r:=x.num) (by rw [e];exact h);rwa [e]at this
 .intro h;obtain⟨g,k⟩:=Yjz i c d.1.2.2.1;rw [k x,h];grind
theorem Ykm {n:Nat}  (h:Odp F n p o) (d:Bg F p) {K:Nat} {e:Nat} (j:∀u v:Rat,-(K:Rat)<=u->u<=v->v<=(K:Rat)->v-u<=1/((2^e:Nat):Rat)->Ak F p u-Ak F p v<=1)
   (h1:-(K:Rat)+1<=s) (H:t<=(K:Rat)) (hs:0<=Zb p s) (ht:0<=Zb p t) (N:Zv4 p s t):1/((2^(e+1):Nat):Rat)<t-s:=by
 obtain⟨x,x1,x2,x3⟩:=N;have l:s<x:=by rcases(show s<x\/s=x by grind)with q|q;exact q;subst q;grind
 have m:x<t:=by rcases(show x<t\/x=t by grind)with q|q;exact q;subst q;grind
 obtain⟨f1,f2,f3,f4,f5,f6⟩:=Pz (F:=F) h.tr h.ne d.1.2.2.1;have i:Zb (Go.Sky.sqf F p) x≠0:=λz=>by have:=(Yck h.tr h.ne d x).2 z;grind
 rcases(show 1/((2^(e+1):Nat):Rat)<t-s\/t-s<=1/((2^(e+1):Nat):Rat) by grind)with q|q
 .exact q
 .exfalso;have P:=two_pow_pos e;have Q:=two_pow_pos (e+1);have D:((2^(e+1):Nat):Rat)=2*((2^e:Nat):Rat):=by rw [bX];push_cast;grind
  have hi:0<((2^e:Nat):Rat)⁻¹:=gG.2 P;have I:1/((2^(e+1):Nat):Rat)=((2^e:Nat):Rat)⁻¹/2:=by rw [D];grind
  have G:1/((2^e:Nat):Rat)=((2^e:Nat):Rat)⁻¹:=O5;have M:((2^e:Nat):Rat)⁻¹<=1:=by
   have Z:(1:Rat)<=((2^e:Nat):Rat):=by have:1<=2^e:=dO e;exact_mod_cast this
   have g2:=aG (a:=((2^e:Nat):Rat)-1) (b:=((2^e:Nat):Rat)⁻¹) O5 O5;have g3:((2^e:Nat):Rat)*((2^e:Nat):Rat)⁻¹=1:=jZ _ O5;grind
  obtain⟨u,u1,u2,u3⟩:∃u,s-((2^e:Nat):Rat)⁻¹/2<=u/\u<=s/\Ak F p x<Ak F p u:=by
   by_cases z:Zb (Go.Sky.sqf F p) s=0
   .obtain⟨δ,Y,B⟩:=Bb (Go.Sky.sqf F p).length (Go.Sky.sqf F p) (s-((2^e:Nat):Rat)⁻¹/2) (aI _);have r:=Zgd (Go.Sky.sqf F p).length (Go.Sky.sqf F p) (s-((2^e:Nat):Rat)⁻¹/2) f2 f3 (aI _);obtain⟨u,S,V,W⟩:∃u,s-((2^e:Nat):Rat)⁻¹/2<u/\u<=s-((2^e:Nat):Rat)⁻¹/2+δ/\u<s:=by
     rcases(show s-((2^e:Nat):Rat)⁻¹/2+δ<s\/s<=s-((2^e:Nat):Rat)⁻¹/2+δ by grind)with w|w
     .exact⟨_,O5,iH,w⟩
     .exact⟨s-((2^e:Nat):Rat)⁻¹/4,O5,O5,O5⟩
    have R:Zb (Go.Sky.sqf F p) u≠0:=λc=>by have:=B u S V;rw [c]at this;exact r this.symm
    have m1:=Zms h.tr h.ne d W R z;have m2:=Zi5 h.tr h.ne d (cW l);exact⟨u,O5,O5,O1⟩
   .have g:0<Zb p s:=by have:Zb p s≠0:=λc=>z ((Yck h.tr h.ne d s).1 c);grind
    have k:=h.opp (x:=s) (y:=x) (by have:=aT g (show 0 < -Zb p x by grind);grind);exact⟨s,O5,O5,Zsx h.tr h.ne d h.otr h.one h.ed l z k.1⟩
  have u4:Ak F p t<Ak F p x:=by
   by_cases z:Zb (Go.Sky.sqf F p) t=0
   .exact Zms h.tr h.ne d m i z
   .have g:0<Zb p t:=by have:Zb p t≠0:=λc=>z ((Yck h.tr h.ne d t).1 c);grind
    have k:=h.opp (x:=x) (y:=t) (by have:=aT g (show 0 < -Zb p x by grind);grind);exact Zsx h.tr h.ne d h.otr h.one h.ed m i k.1
  have:=j u t O5 O5 H O5;omega
end Go.Sky

