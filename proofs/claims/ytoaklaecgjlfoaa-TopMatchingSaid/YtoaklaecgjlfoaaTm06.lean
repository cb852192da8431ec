/- Rules, arithmetic and contracts: part 7. No conditions but those that each theorem names. -/
import Derived.Test.YtoaklaecgjlfoaaTm05
set_option linter.all false
namespace Go.Sky
variable{xs a u p b q:List Int}{z:R2}{K Q:Nat}{k:Int}
def Ly(F:Nat)(xs:List Int)(x:Rat):Int:=Ip ((Gu F xs).map Za) x
def cvc_v{F:Nat}(h:0<z.2):cvc F xs z=Ly F xs (qv z):=Znd h
def Sqn(P:R2->R2->Prop)(hi:Rat):Rat->List (R2×R2)->Prop
 | d,[]=>d<=hi
 | d,c::r=>d<=qv c.1/\qv c.1<qv c.2/\P c.1 c.2/\Sqn P hi (qv c.2) r
theorem Sqn.le{P:R2->R2->Prop}{hi:Rat} : ∀{d:Rat} {l:List (R2×R2)},Sqn P hi d l->d<=hi
 | d,[],h=>h
 | d,c::r,h=>by have:=Sqn.le h.2.2.2;have:=h.1;have:=h.2.1;grind
theorem Sqn.low{P:R2->R2->Prop}{hi:Rat}{e d:Rat}(f:d<=e):∀{l:List (R2×R2)},Sqn P hi e l->Sqn P hi d l
 | [],h=>by have h:e<=hi:=h;show d<=hi;grind
 | c::r,h=>⟨by have:=h.1;grind,h.2⟩
def Sqn.app{P:R2->R2->Prop}{d hi:Rat}{i:List (R2×R2)}(f:Sqn P hi d i):∀{e:Rat} {g:List (R2×R2)},Sqn P d e g->Sqn P hi e (g ++ i)
 | e,[],h=>f.low h
 | e,c::r,h=>⟨h.1,h.2.1,h.2.2.1,Sqn.app f h.2.2.2⟩
theorem Zbj{a:R2}(j:0<a.2)(h:a.1.natAbs<=K):-(K:Rat)<=qv a/\qv a<=(K:Rat):=by
 obtain⟨g,i⟩:=Zki h;have l:(1:Rat)<=(a.2:Rat):=by exact_mod_cast (show 1<=a.2 by omega)
 have c:(0:Rat)<=(K:Rat):=Pt (aW _);have hi:=dW.2 (show 0<(a.2:Rat) by grind);have d:(a.2:Rat)*(a.2:Rat)⁻¹=1:=O2;unfold qv;rw [fO];have t1:=aC (a:=(a.2:Rat)⁻¹) (b:=(K:Rat)*a.2-a.1) O2 (by have:=aC (a:=(K:Rat)) (b:=(a.2:Rat)-1) c O2;grind);have t2:=aC (a:=(a.2:Rat)⁻¹) (b:=(K:Rat)*a.2+a.1) O2 (by have:=aC (a:=(K:Rat)) (b:=(a.2:Rat)-1) c O2;grind);have e:(a.2:Rat)⁻¹*((K:Rat)*a.2-a.1)=(K:Rat)*(a.2*(a.2:Rat)⁻¹)-a.1*(a.2:Rat)⁻¹:=O2;have f:(a.2:Rat)⁻¹*((K:Rat)*a.2+a.1)=(K:Rat)*(a.2*(a.2:Rat)⁻¹)+a.1*(a.2:Rat)⁻¹:=O2;rw [e,d]at t1;rw [f,d]at t2;constructor<;>grind
theorem Ix (n:Nat){a:R2}(c:0<a.2)(h:bl a.1.natAbs<=n)(i:bl a.2.natAbs<=n)(l:n<=65536) :
  ¬Np a.1 a.2/\0<(slow a).2/\bl (slow a).1.natAbs<=n/\bl (slow a).2.natAbs<=n/\qv (slow a)=qv a:=by
 obtain⟨f1,f2,f3,f4,f5,f6⟩:=Zbp (x:=a.1) (y:=a.2) (X:=a.1) (Y:=a.2) c c rfl h i l;refine⟨f1,f3,f4,f5,?_⟩;have r1:=Oi c;have r2:=Oi f3;have j:((Me a.1 a.2:Int):Rat)*(a.2:Rat)=(a.1:Rat)*((Nq a.1 a.2:Int):Rat):=by exact_mod_cast f6
 show((Me a.1 a.2:Int):Rat)/((Nq a.1 a.2:Int):Rat)=(a.1:Rat)/(a.2:Rat);generalize ((Me a.1 a.2:Int):Rat)=N at *;generalize ((Nq a.1 a.2:Int):Rat)=D at *;generalize (a.1:Rat)=x at *;generalize (a.2:Rat)=y at *;have:N/D*(D*y)=x/y*(D*y):=by have d:N/D*(D*y)=N*y:=O2;have e:x/y*(D*y)=x*D:=O2;rw [d,e,j]
 have m:=aN r2 r1;have f:N/D=N/D*(D*y)*(D*y)⁻¹:=O2;have g:x/y=x/y*(D*y)*(D*y)⁻¹:=O2;rw [f,this,<-g]
theorem sep_of  {F A e:Nat} (w:Tr xs) (f:xs≠[]) (n:Km F xs) (o:0<K) (m:0<A) (x:∀i,(cf (sqf F xs) i).natAbs<=A) (y:∀i,(cf (Zv (sqf F xs)) i).natAbs<=A)
  (hs:2<=(sqf F xs).length->Ze8 K A (sqf F xs).length e=true) (u v:Rat) (j:-(K:Rat)<=u) (c:u<=v) (l:v<=(K:Rat)) (t:v-u<=1/((2^e:Nat):Rat)):Ly F xs u-Ly F xs v<=1:=by
 by_cases d:2<=(sqf F xs).length
 .have h:=Znj w f n o m rfl d x y (hs d) j c l t;show Ip _ u-Ip _ v<=1;rw [h];unfold An;split<;>decide
 .have B:=Qx (sqf F xs);have s:Zv (sqf F xs)=[]:=aE O;have r:Gu F xs=[sqf F xs]:=by unfold Gu;rw [s,Zgx,Kt]
  unfold Ly Ip;rw [r];have r1:=Zav (([Za (sqf F xs)]).map λg=>Ot (g u));have r2:=Zav (([Za (sqf F xs)]).map λg=>Ot (g v));simp only [bK,gF,bF,cZ]at r1 r2 ⊢;omega
theorem Sqn.mem{P:R2->R2->Prop}{hi:Rat} : ∀{f:Rat} {l:List (R2×R2)},Sqn P hi f l->∀c∈l,P c.1 c.2
 | _,[],_,c,e=>by cases e
 | f,d::r,h,c,e=>by
  rcases dA.1 e with rfl|e
  .exact h.2.2.1
  .exact Sqn.mem h.2.2.2 c e
theorem en_bl{d B:Nat}(h:En K Q d z)(g:0<Q)(s:Q*2^d<2^B)(t:K*(Q*2^d)<2^B):bl z.1.natAbs<=B/\bl z.2.natAbs<=B:=by
 obtain⟨j,i,v,x⟩:=h;have c:0<Q*2^d:=eI g (cF O3);have f:z.2.natAbs<=Q*2^d:=by have:=dM.2 i;rw [dD]at this;exact iU c this
 have l:z.1.natAbs<=K*z.2.natAbs:=by
  have r:=Oi j;have e:(z.1:Rat)=qv z*z.2:=by unfold qv;grind
  have t1:=aC (a:=(K:Rat)-qv z) (b:=(z.2:Rat)) O2 O2;have t2:=aC (a:=(K:Rat)+qv z) (b:=(z.2:Rat)) O2 O2;have w:((K*z.2.natAbs:Nat):Int)=(K:Int)*z.2:=by push_cast;rw [gW O]
  have n:((z.1:Int):Rat)<=(((K:Int)*z.2:Int):Rat):=by push_cast;grind
  have o:((-((K:Int)*z.2):Int):Rat)<=((z.1:Int):Rat):=by push_cast;grind
  have y:z.1<=(K:Int)*z.2:=by exact_mod_cast n
  have D:-((K:Int)*z.2)<=z.1:=by exact_mod_cast o
  omega
 have m:K*z.2.natAbs<=K*(Q*2^d):=bO _ f;exact⟨Hh O,Hh O⟩
theorem Zjx (e:Nat)(w:Nat)(B:Nat){n:Nat}(h:En (2^n) Q (e+w) z)(o:0<Q)(g:Q<2^(2*n))(r:3*n+1+(e+w)<=B):bl z.1.natAbs<=B/\bl z.2.natAbs<=B:=by
 have c:∀m,m<=B->2^m<=2^B:=λm h=>dX O3 h;have f:0<2^(e+w):=cF O3;have d:Q*2^(e+w)<2^(2*n)*2^(e+w):=fL g f;have j:2^n*(Q*2^(e+w))<2^n*(2^(2*n)*2^(e+w)):=fN d (cF O3);have i:2^(2*n)*2^(e+w)=2^(2*n+(e+w)):=(eO _ _ _).symm;have l:2^n*(2^(2*n)*2^(e+w))=2^(n+(2*n+(e+w))):=by rw [i,<-eO]
 rw [i]at d;rw [l]at j;exact en_bl h o (cW d (c _ O)) (cW j (c _ O))
theorem Ed.const{g:List Int}(h:Ed g a)(o:Tr g)(m:Tr a)(l:a≠[])(v:g.length=a.length):∃k c:Int,k≠0/\c≠0/\∀x:Rat,(k:Rat)*Za a x=(c:Rat)*Za g x:=by
 obtain⟨k,s,i,h⟩:=h;obtain⟨t,f,j⟩:=Zeo i o m l h;have e:=aD.2 f
 match hs:tzl s,e,j with
 | [c],_,_=>
  have n:c≠0:=by have:=(Xd s).mem f;rw [hs]at this;exact this
  refine⟨k,c,i,n,λx=>?_⟩;rw [h x,<-Xn s,hs,Yp]
 | c::d::r,_,h9=>simp at h9;omega
theorem Ed.dv{g:List Int}(h:Ed g a):Dv g a:=by obtain⟨k,s,d,h⟩:=h;refine⟨k,s,d,λt=>?_⟩;have:=Qa (p:=a.map λc=>k*c) (q:=Yj s g) (λx=>by rw [Zb,Zl];exact h x) t;rw [Yb,Pq]at this;exact this
theorem ed_cop{t w s:List Int}(F:k≠0)(m:Tr t)(H:Tr w)(t0:t≠[])(D:∀d,Tr d->Ed d t->Ed d w->d.length<=1)(h:∀x:Rat,(k:Rat)*(Za u x*Za w x)=Za s x*Za t x):Ed t u:=by
 obtain⟨g,A,B,f,j,n,y⟩:=Ai w.length t w m H (aH _);have G:=D g f j n;have i:=(j.len f m t0).1
 match hgg:g,G,i with
 | [c],_,_=>
  have e:c≠0:=by have:=f.mem O6;exact this
  refine⟨k*c,Xp ((Yj A u).map λa=>k*a) (Yj B s),aT F e,λx=>?_⟩;rw [Zt,Zb,Zl,Zl];have l:=y x;rw [Yp]at l;have o:=h x;push_cast;rw [show(k:Rat)*c*Za u x=k*(Za u x*(c:Rat)) by grind,l];have v:(k:Rat)*(Za u x*(Za A x*Za t x+Za B x*Za w x))=k*Za A x*Za u x*Za t x+Za B x*(k*(Za u x*Za w x)):=O2;rw [v,o];grind
 | c::d::r,h9,_=>simp at h9
def Qs(F:Nat)(p:List Int):List Int:=Qg F (Zw p) (Zv (Zw p))
def Ib(F:Nat)(p:List Int):Prop:=eok F (gA (Zw p) (Zv (Zw p))) (gB (Zw p) (Zv (Zw p)))
theorem Xf{F:Nat}(h:Tr p)(i:p≠[])(g:Ib F p):Tr (Qs F p)/\Qs F p≠[]/\Zw (Qs F p)=Qs F p/\Zw p=Yj (sqf F p) (Qs F p)/\(sqf F p).length+(Qs F p).length=p.length+1:=by obtain⟨f1,f2,f3,f4,f5,f6⟩:=Xg F h i g;have c:Tr (Zw p):=Xm (Zs h);have d:Tr (Zv (Zw p)):=Xz c;have f:=Gx F c d;have j:=Qb f2 f f3 f5;rw [<-f4,Yx h]at j;have l:=aD.2 f3;have m:=aD.2 f5;refine⟨f,f5,Zed f (Bi c d f5) (Lb (Zdf F (Ct c d) (Cr c d)) (λe=>f5 (by unfold Qg;rw [e];rfl))),f4,?_⟩;unfold Qs;omega
theorem Zlu{h:List Int}(i:Tr h)(g:h≠[]){m:Int}(e:∀x:Rat,(k:Rat)*(Za a x*Za h x)=(m:Rat)*(Za b x*Za h x))(x:Rat):(k:Rat)*Za a x=(m:Rat)*Za b x:=by
 have d:=Ok h (f:=Xp (a.map λc=>k*c) (b.map λc=>(-m)*c)) (by rw [Ej i];exact g) (λx=>by rw [Zt,Zb,Zb];have:=e x;push_cast;grind) x
 rw [Zt,Zb,Zb]at d;push_cast at d;grind
theorem Zfp{F:Nat}(S:Tr p)(h0:p≠[])(l:Ib F p)(e:Ib F (Qs F p)):Ed (sqf F (Qs F p)) (sqf F p):=by
 obtain⟨n,Z,f,a4,a5⟩:=Xf S h0 l;obtain⟨D,B,b3,b4,b5⟩:=Xf n Z e;obtain⟨-,u2,u3,-,-,-⟩:=Xg F S h0 l;obtain⟨-,t2,t3,-,-,-⟩:=Xg F n Z e;have ht:Tr (Zw p):=Xm (Zs S);have o:Ed (Qs F p) (Zv (Zw p)):=(Hk ht (Xz ht) l).2.ed;have e2:Ed (Qs F (Qs F p)) (Zv (Qs F p)):=by have:=(Hk (F:=F) (p:=Zw (Qs F p)) (q:=Zv (Zw (Qs F p))) (by rw [f];exact n) (Xz (by rw [f];exact n)) e).2.ed;have h9:Qs F (Qs F p)=Qg F (Zw (Qs F p)) (Zv (Zw (Qs F p))):=rfl;rw [<-h9,f]at this;exact this
 have N:∀d,Tr d->Ed d (Qs F p)->Ed d (Zv (Qs F p))->Ed d (Qs F (Qs F p)):=λd H i r=>by unfold Qs at *;have:=Bg (F:=F) (d:=d) (p:=Zw (Qg F (Zw p) (Zv (Zw p)))) (q:=Zv (Zw (Qg F (Zw p) (Zv (Zw p))))) (by rw [f];exact n) (Xz (by rw [f];exact n)) (by rw [f];exact i) (by rw [f];exact r);exact this
 rw [f]at b4;generalize hg:Qs F p=g at *;generalize hh:Qs F g=h at *;generalize hu:sqf F p=u at *;generalize a0:sqf F g=t at *;obtain⟨k,s,hk,P⟩:=o;obtain⟨m,w,hm,R⟩:=e2;have hP:∀x:Rat,Za (Zw p) x=Za (lmul u g) x:=λx=>by rw [a4,Zl,Zd]
 have hG:∀x:Rat,Za g x=Za (lmul t h) x:=λx=>by
  have:Za g x=Za (Yj t h) x:=by rw [<-b4]
  rw [this,Zl,Zd]
 have I:∀x:Rat,Za (Zv (Zw p)) x=Za (ld u) x*Za g x+Za u x*Za (ld g) x:=λx=>by rw [Qh,Nr _ _ hP,Mh]
 have v:∀x:Rat,(m:Rat)*Za (ld g) x=Za w x*Za h x:=λx=>by rw [<-Qh];exact R x
 have W:∀x:Rat,(k:Rat)*(Za (Yj u w) x*Za h x)=(m:Rat)*(Za (Yj (Xp s ((ld u).map λc=>(-k)*c)) t) x*Za h x):=λx=>by rw [Zl,Zl,Zt,Zb];have i:=P x;have r:=I x;have h3:=v x;have h4:=hG x;rw [Zd]at h4;rw [r]at i;have:(k:Rat)*(Za u x*Za w x*Za h x)=Za u x*k*(Za w x*Za h x):=O2;rw [this,<-h3];push_cast;have:Za u x*(k:Rat)*(m*Za (ld g) x)=m*(k*(Za (ld u) x*Za g x+Za u x*Za (ld g) x)-k*Za (ld u) x*Za g x):=O2;rw [this,i,h4];grind
 have y:=Zlu D B W;refine ed_cop (s:=(Yj (Xp s ((ld u).map λc=>(-k)*c)) [m])) hk t2 (w:=tzl w) (Xd w) t3 (λd H i r=>?_) (λx=>?_)
 .have G:Ed d w:=r.congr λx=>Xn w x;have M:Ed (Yj d h) h:=N _ Yo (by
   obtain⟨V,Y,j,o⟩:=i;exact⟨V,Y,j,λx=>by rw [hG x,Zd,Zl];have:=o x;grind⟩) (by
   obtain⟨V,Y,j,o⟩:=G;exact⟨V*m,Y,aT j hm,λx=>by rw [Qh,Zl];have:=o x;have:=v x;push_cast;grind⟩)
  have d0:=(i.len H t2 t3).1;have hl:=Qb H D d0 B;have:=(M.len Yo D B).2;have l2:=aD.2 B;omega
 .rw [Xn,Zl,Yp];have:=y x;rw [Zl,Zl]at this;rw [this];grind
theorem Zgv{t:List Int}(o:Tr u)(r:u≠[])(d:Tr t)(t0:t≠[])(m:Zw t=t)(h:Ed t u):pdv u t/\u=Yj (Ke u t) t/\Tr (Ke u t)/\Ke u t≠[]:=by
 have j:Zx t=1:=by have:=Hl d t0;rwa [m]at this
 obtain⟨k,s,l,h⟩:=h.dv;obtain⟨q,n⟩:=gauss j _ k s rfl l h;have c:u=Yj (tzl q) t:=o.ext Yo λi=>by rw [Pq,n,Zii]
 obtain⟨f,g⟩:=Zfn (Xd q) d t0;rw [<-c]at f g;rw [g];exact⟨f,c,Xd q,λe=>r (by rw [c,e,Mz])⟩
theorem Zel{F:Nat}(d:Tr p)(j:p≠[])(c:Ib F p)(m:2<=p.length):(Qs F p).length<p.length:=by obtain⟨h,l,-⟩:=Xf d j c;have f:Tr (Zw p):=Xm (Zs d);have i:Ed (Qs F p) (Zv (Zw p)):=(Hk f (Xz f) c).2.ed;have g:=Qx (Zw p);have n:=Yx d;have:=(i.len h (Xz f) (λe=>by rw [e]at g;simp at g;omega)).2;omega
theorem nrm1(l:Tr p)(n:Zw p=p)(d:p.length=1):p=[1]:=by
 have f:p≠[]:=λe=>by rw [e]at d;simp at d
 have h:=Hl l f;have j:0<cf (Zw p) ((Zw p).length-1):=Lb (Zs l) (λe=>f (aE (by rw [<-Zi,e];rfl)));rw [n]at h j
 match p,d with
 | [c],_=>
  have m:0<c:=j;have g:c∣Zx [c]:=Nb λi=>by
   match i with
   | 0=>exact Int.dvd_refl c
   | i+1=>rw [Zr O6];exact fQ c
  rw [h]at g;have:=kJ O3 g;rw [show c=1 by omega]
def Dp(p q:List Int):Prop:=Tr q/\q≠[]/\Zw q=q/\∃a,Tr a/\Zw p=Yj a q
theorem Dp.start(c:Tr p)(d:p≠[]):Dp p (Zw p):=
 ⟨Xm (Zs c),Bk c d,Zed (Xm (Zs c)) (Hl c d) (Lb (Zs c) (λe=>d (aE (by rw [<-Zi,e];rfl)))),[1],.inr (show cf [1] 0≠0 by decide),by refine(Xm (Zs c)).ext Yo λi=>?_;rw [Pq,Zc1];rfl⟩
theorem Dp.sz{n:Nat}(g:Tr p)(o:p≠[])(hs:Sz n p)(w:p.length<=13)(h:Dp p q):Sz (n+15) q/\q.length<=p.length:=by obtain⟨j,r,v,a,l,e⟩:=h;have s:fcs 0 13<=2^15*2^15:=O5;have d:=Yx g;have c:=Bk g o;have t:Tr (Zw p):=Xm (Zs g);have i:a≠[]:=λm=>c (by rw [e,m,Mz]);refine⟨Ia 13 24 j l (Zd2 hs) c t O O3 s (by rw [Kg];exact e),?_⟩;have f:=Qb l j i r;rw [<-e,d]at f;have:=aD.2 i;omega
theorem Dp.ok{n F:Nat}(d:Tr p)(c:p≠[])(hs:Sz n p)(i:n<=220)(g:p.length<=11)(f:p.length<=F+1)(h:Dp p q):Km F q/\Ib F q:=by obtain⟨e,j⟩:=h.sz d c hs O;have:=(chG F h.1 h.2.1 e O O O).1;exact⟨this,this.1.2.2.1⟩
theorem Dp.next{F:Nat}(h:Dp p q)(c:Ib F q):Dp p (Qs F q):=by obtain⟨l,m,n,a,r,e⟩:=h;obtain⟨f,g,j,d,o⟩:=Xf l m c;refine⟨f,g,j,Yj a (sqf F q),Yo,?_⟩;rw [n]at d;refine e.trans ((aU (Yj a) d).trans ?_);refine(Yo).ext Yo λi=>Qa (λx=>?_) i;rw [Zl,Zl,Zl,Zl];grind
def Gk(F:Nat):Nat->List Int->List Int
 | 0,p=>sqf F p
 | f+1,p=>if(sqf F p).length=1 then sqf F p else Yj (Ke (sqf F p) (sqf F (Qs F p))) (Gk F f (Qs F (Qs F p)))
def Zit(F:Nat):Nat->List Int->List Int->List Int
 | 0,c,_=>c
 | f+1,c,q=>if(sqf F q).length=1 then c else if(sqf F (Qs F q)).length=1 then Yj c (Ke (sqf F q) (sqf F (Qs F q)))else Zit F f (Yj c (Ke (sqf F q) (sqf F (Qs F q)))) (Qs F (Qs F q))
theorem Cb{F:Nat}(e:Tr q)(d:q≠[])(c:Ib F q)(h:(sqf F q).length=1):sqf F q=[1]/\q.length=1/\(Qs F q).length=1:=by
 obtain⟨f1,f2,f3,f4,f5,f6⟩:=Xg F e d c;obtain⟨i,j,l,m,n⟩:=Xf e d c;have o:=aD.2 d;have g:q.length=1:=by
  rcases bD q.length 2 with f|f
  .omega
  .have:=Zel e d c f;omega
 exact⟨nrm1 f2 f6 h,g,O⟩
theorem Zbk(c:Tr p):Yj p [1]=p:=by refine(Yo).ext c λi=>Qa (λx=>?_) i;rw [Zl,Yp];push_cast;grind
theorem Zik{F:Nat}(e:Tr q)(d:q≠[])(c:Ib F q)(h:q.length=1):∀f,Gk F f q=[1]:=λf=>by
 obtain⟨f1,f2,f3,f4,f5,f6⟩:=Xg F e d c;obtain⟨i,g,j,l,m⟩:=Xf e d c;have n:=aD.2 f3;have o:=aD.2 g;have hs:(sqf F q).length=1:=O;have:=(Cb e d c hs).1;cases f with
 | zero=>exact this
 | succ f=>unfold Gk;rw [aK hs];exact this
theorem Zfj (p:List Int){F:Nat}{f:Nat}(e:Tr q)(d:q≠[])(c:Ib F q):Tr (Gk F f q):=by
 obtain⟨f1,f2,f3,f4,f5,f6⟩:=Xg F e d c;cases f with
 | zero=>exact f2
 | succ f=>unfold Gk;split;exact f2;exact Yo
theorem Zl3{F n:Nat}(y:Tr p)(r:p≠[])(hs:Sz n p)(w:n<=220)(t:p.length<=11)(s:p.length<=F+1):∀(f:Nat) (g q:List Int),Tr g->Dp p q->q.length<=f->Zit F f g q=Yj g (Gk F f q):=by
 intro f
 induction f with
 | zero=>intro g q _ d v;have:=aD.2 d.2.1;omega
 | succ f H=>
  intro g q G d v;have e:=(d.ok y r hs w t s).2;have j:=d.next e;have c:=(j.ok y r hs w t s).2;have h:=j.next c;have m:=(h.ok y r hs w t s).2;unfold Zit Gk;by_cases l:(sqf F q).length=1
  .rw [aK l,aK l,(Cb d.1 d.2.1 e l).1,Zbk G]
  .rw [aG l,aG l];have I:2<=q.length:=by obtain⟨f1,f2,f3,f4,f5,f6⟩:=Xg F d.1 d.2.1 e;obtain⟨P,B,R,S,V⟩:=Xf d.1 d.2.1 e;have Z:=aD.2 f3;have l2:=aD.2 B;omega
   have M:=Zel d.1 d.2.1 e I;obtain⟨-,-,-,-,Y⟩:=Xf j.1 j.2.1 c;obtain⟨-,W,D,-,-,-⟩:=Xg F j.1 j.2.1 c;have lb:=aD.2 D;by_cases o:(sqf F (Qs F q)).length=1
   .obtain⟨s1,s2,N⟩:=Cb j.1 j.2.1 c o;rw [aK o,Zik h.1 h.2.1 m N];refine(Yo).ext Yo λi=>Qa (λx=>?_) i;rw [Zl,Zl,Zl,Yp];push_cast;grind
   .rw [aG o,H _ _ Yo h O];refine(Yo).ext Yo λi=>Qa (λx=>?_) i;rw [Zl,Zl,Zl,Zl];grind
def Zif(F:Nat)(p:List Int):List Int:=Ke (Ya (Zq p) 1) (sqf F p)
def rrest(F:Nat)(p:List Int):List Int:=Ke (Zq (Zif F p)) (sqf F (Zif F p))
def rodd(F:Nat):Nat->List Int->List Int
 | 0,p=>sqf F p
 | f+1,p=>if(sqf F p).length=1 then sqf F p else Yj (Ke (sqf F p) (sqf F (Zif F p))) (rodd F f (rrest F p))
theorem Zba{F:Nat}(h:Zw p=Zw q):sqf F p=sqf F q:=by unfold sqf;rw [h]
def Dh(F:Nat)(q:List Int):List Int:=Ke (sqf F q) (sqf F (Qs F q))
theorem Dg{F:Nat}(e:Tr q)(f:q≠[])(d:Ib F q)(c:Ib F (Qs F q)):pdv (sqf F q) (sqf F (Qs F q))/\sqf F q=Yj (Dh F q) (sqf F (Qs F q))/\Tr (Dh F q)/\Dh F q≠[]:=by obtain⟨f1,f2,f3,f4,f5,f6⟩:=Xg F e f d;obtain⟨g,h,i,j,l⟩:=Xf e f d;obtain⟨-,t2,t3,-,-,t6⟩:=Xg F g h c;exact Zgv f2 f3 t2 t3 t6 (Zfp e f d c)
theorem Zjw{n:Nat}(h:Tr p)(o:p≠[])(hs:Sz n p)(t:p.length<=13)(l:Tr a)(m:Tr b)(e:Zw p=Yj a b):Sz (n+15) b/\b.length<=p.length/\b≠[]:=by have r:fcs 0 13<=2^15*2^15:=O5;have f:=Yx h;have c:=Bk h o;have s:Tr (Zw p):=Xm (Zs h);have i:a≠[]:=λd=>c (by rw [e,d,Mz]);have j:b≠[]:=λd=>c (by rw [e,d,Bf]);refine⟨Ia 13 24 m l (Zd2 hs) c s O O3 r (by rw [Kg];exact e),?_,j⟩;have g:=Qb l m i j;rw [<-e,f]at g;have:=aD.2 i;omega
def Op(p c q:List Int):Prop:=∃a,Tr a/\Zw p=Yj a (Yj c q)
theorem Op.start(c:Tr p):Op p [1] (Zw p):=⟨[1],.inr (show cf [1] 0≠0 by decide),by refine(Xm (Zs c)).ext Yo λi=>Qa (λx=>?_) i;rw [Zl,Zl,Yp];push_cast;show Za (Zw p) x=_;grind⟩
theorem Op.next{f:List Int}{F:Nat}(l:Tr q)(m:q≠[])(w:Zw q=q)(d:Ib F q)(c:Ib F (Qs F q))(h:Op p f q):Op p (Yj f (Dh F q)) (Qs F (Qs F q)):=by
 obtain⟨a,G,e⟩:=h;obtain⟨-,y,H,I⟩:=Dg l m d c;obtain⟨n,o,r,g,D⟩:=Xf l m d;obtain⟨-,-,-,j,-⟩:=Xf n o c;rw [w]at g;rw [r]at j;refine⟨Yj a (Yj (sqf F (Qs F q)) (sqf F (Qs F q))),Yo,e.trans ?_⟩;refine(Yo).ext Yo λi=>Qa (λx=>?_) i;have s:Za q x=Za (sqf F q) x*Za (Qs F q) x:=by rw [<-Zl,<-g]
 have t:Za (sqf F q) x=Za (Dh F q) x*Za (sqf F (Qs F q)) x:=by rw [<-Zl,<-y]
 have v:Za (Qs F q) x=Za (sqf F (Qs F q)) x*Za (Qs F (Qs F q)) x:=by rw [<-Zl,<-j]
 simp only [Zl];rw [s,t];rw [v];generalize Za (sqf F (Qs F q)) x=A;generalize Za (Qs F (Qs F q)) x=B;grind
theorem Op.sz{c:List Int}{n:Nat}(j:Tr p)(d:p≠[])(hs:Sz n p)(f:p.length<=13)(g:Tr c)(m:Tr q)(h:Op p c q):Sz (n+15) c/\c.length<=p.length/\c≠[]:=by obtain⟨a,l,e⟩:=h;exact Zjw j d hs f (Yo (p:=a) (q:=q)) g (e.trans ((Yo).ext Yo λi=>Qa (λx=>by rw [Zl,Zl,Zl,Zl];grind) i))
theorem Zl0(c:Tr p):Yj [1] p=p:=by rw [Kg];exact Zbk c
def Co{F:Nat}(f:Tr xs)(d:xs≠[])(e:Km F xs){s t:Rat}(c:s<=t):Ly F xs t<=Ly F xs s:=Ah f d e c
def Sqn.imp{P c:R2->R2->Prop}{hi:Rat}(d:∀x y,P x y->c x y):∀{e:Rat} {l:List (R2×R2)},Sqn P hi e l->Sqn c hi e l
 | _,[],h=>h
 | _,_::_,h=>⟨h.1,h.2.1,d _ _ h.2.2.1,Sqn.imp d h.2.2.2⟩
def oe(f:Nat->Int):Nat->Int
 | 0=>0
 | k+1=>err (oe f k) (f k)
def mon(d n:Nat):List Int:=mono d ((2:Int)^n)
variable {P:Program} {N:Nat} {sc:Nat->Prop} {env:Yd} {H:Hp}
end Go.Sky
namespace Go.Sky
variable{u v s a b:Rat}{xs p o:List Int}
def HD(xs ys:List Int):Prop:=Vp ys/\ys≠[]/\Zag ys/\Km 13 ys/\Gu 13 ys=Gu 13 xs
def PH(xs:List Int)(x y:R2):Prop:=(0<x.2/\bl x.1.natAbs<=506/\bl x.2.natAbs<=506)/\(0<y.2/\bl y.1.natAbs<=506/\bl y.2.natAbs<=506)/\cvc 13 xs x-cvc 13 xs y=1
def DR:R2×R2:=((0,0),(0,0))
theorem Eg(d:Rat){h:Rat}(c:0<h):∃n:Nat,d<=(n:Rat)*h:=by
 have g:0<h⁻¹:=dW.2 c;refine⟨(d*h⁻¹).ceil.toNat,?_⟩;have e:=@lI (d*h⁻¹);have f:(((d*h⁻¹).ceil:Int):Rat)<=(((d*h⁻¹).ceil.toNat:Nat):Rat):=by have:(d*h⁻¹).ceil<=(((d*h⁻¹).ceil.toNat:Nat):Int):=iM _;exact_mod_cast this
 have i:=bX (kZ e f) (show 0<=h by grind);have j:d*h⁻¹*h=d:=O2;grind
theorem Zb3{f:Rat->Rat}(h:An f u v<=0)(d:f u≠0):0<f u*f v:=by
 unfold An at h;by_cases c:f u≠0/\f u*f v<=0
 .rw [aK c]at h;exact absurd h O3
 .have:¬f u*f v<=0:=λe=>c ⟨d,e⟩;grind
theorem Hr{F:Nat}(l:Tr xs)(i:xs≠[])(j:Km F xs){t:Rat}(D:s<=t)(B:Ly F xs s<=Ly F xs t)(hs:Za (sqf F xs) s≠0):∀y,s<=y->y<=t->0<Za (sqf F xs) s*Za (sqf F xs) y:=by
 obtain⟨h,x,z⟩:=Ag l i j s t;have g:∀u v,s<=u->u<=v->v<=t->v-u<=h->An (Za (sqf F xs)) u v<=0:=λu v a b c d=>by have e:=z u v a b c d;have Q:Ip ((Gu F xs).map Za) u<=Ip ((Gu F xs).map Za) s:=Ah l i j a;have R:Ip ((Gu F xs).map Za) t<=Ip ((Gu F xs).map Za) v:=Ah l i j c;have S:Ip ((Gu F xs).map Za) s<=Ip ((Gu F xs).map Za) t:=B;omega
 generalize Za (sqf F xs)=f at *;have m:∀n:Nat,∀y,s<=y->y<=t->y-s<=(n:Rat)*h->0<f s*f y:=λn=>by
  induction n with
  | zero=>
   intro y a b c;have:y=s:=by push_cast at c;grind
   subst this;exact Zb3 (g _ _ a O2 b O2) hs
  | succ n N=>
   intro y a b c;push_cast at c;by_cases G:y-s<=h
   .exact Zb3 (g s y O2 a b G) hs
   .have r:=N (y-h) O2 O2 O2;have H:f (y-h)≠0:=λe=>by rw [e]at r;grind
    have I:=Zb3 (g (y-h) y O2 O2 b O2) H;have M:=aN r I;have w:f s*f (y-h)*(f (y-h)*f y)=(f (y-h)*f (y-h))*(f s*f y):=O2;rw [w]at M;have P:0<f (y-h)*f (y-h):=by
     rcases(show 0<f (y-h)\/f (y-h)<0 by grind)with q|q
     .exact aN q q
     .have:=aN (a:=-f (y-h)) (b:=-f (y-h)) O2 O2;grind
    rcases(show 0<f s*f y\/f s*f y<=0 by grind)with q|q
    .exact q
    .have:=aC (a:=f (y-h)*f (y-h)) (b:=-(f s*f y)) O2 O2;grind
 intro y a b;obtain⟨n,k⟩:∃n:Nat,y-s<=(n:Rat)*h:=by obtain⟨n,k⟩:=Eg (y-s) x;exact⟨n,k⟩
 exact m n y a b k
theorem Fp (p:List Int)(s:Rat)(t:Rat)(z:s<=t)(r:∀u,s<=u->u<=t->0<=Za (ld p) u):Za p s<=Za p t:=by
 rcases(show Za p s<=Za p t\/Za p t<Za p s by grind)with h|h
 .exact h
 .exfalso;obtain⟨M,S,G⟩:=Cg s t p;have x:s<t:=by
   rcases(show s<t\/s=t by grind)with d|d
   .exact d
   .rw [d]at h;grind
  obtain⟨n,y⟩:=Eg (M*(t-s)*(t-s)+1) (show 0<Za p s-Za p t by grind);have f:(0:Rat)<(n:Rat):=by
   rcases cE n with d|d
   .subst d;have:=aC (a:=M*(t-s)) (b:=t-s) (aC O2 O2) O2;push_cast at y;grind
   .exact_mod_cast d
  have l:(n:Rat)≠0:=λe=>by rw [e]at f;exact absurd f O3
  have c:(n:Rat)*((t-s)/n)=t-s:=by rw [fO,<-gR,jF (n:Rat),gR,iE _ l,Rat.mul_one]
  have m:∀k:Nat,(k:Rat)<=(n:Rat)->-(M*((t-s)/n)*((t-s)/n))*k<=Za p (s+k*((t-s)/n))-Za p s:=λk=>by
   induction k with
   | zero=>intro _;push_cast;rw [show s+0*((t-s)/n)=s by grind];grind
   | succ k B=>
    intro w;push_cast at w ⊢;have P:=B O2;have i:0<=(t-s)/n:=by rw [fO];exact aC O2 (bQ (dW.2 f))
    have g:=c;generalize (t-s)/(n:Rat)=h at *;have D:(0:Rat)<=(k:Rat):=by exact_mod_cast aW k
    have H:=aC (a:=(k:Rat)) (b:=h) D i;have I:=aC (a:=(n:Rat)-(k+1)) (b:=h) O2 i;have j:=(G (s+k*h) (s+(k+1)*h) O2 O2 O2).1;have e:=r (s+k*h) O2 O2;have N:=aC i e;rw [show s+(k+1)*h-(s+k*h)=h by grind]at j;grind
  have q:=m n O2;have g:=c;rw [g,show s+(t-s)=t by grind]at q;have F:-(M*((t-s)/n)*((t-s)/n))*n=-(M*((t-s)/n)*(t-s)):=O2;rw [F]at q;have Q:M*((t-s)/n)*(t-s)*n=M*(t-s)*(t-s):=O2;have R:=aC (a:=Za p t-Za p s+M*((t-s)/n)*(t-s)) (b:=(n:Rat)) O2 O2;grind
theorem Fe(p:List Int)(x:Rat):Za (p.map λa=>-1*a) x=-Za p x:=by rw [Zb];push_cast;grind
theorem Zaz (p:List Int){t:Rat}(j:s<t)(e:∀u,s<u->u<=t->0<Za (ld p) u)(f:0<=Za (ld p) s):Za p s<Za p t:=by
 have g:s<(s+t)/2/\(s+t)/2<t:=by constructor<;>grind
 generalize (s+t)/2=m at *;have q:=Fp p s m O2 (λu a b=>by
  rcases(show s<u\/u=s by grind)with h|h
  .exact bQ (e u h O2)
  .rw [h];exact f)
 obtain⟨M,k,l⟩:=Cg m t p;have i:=e m g.1 O2;obtain⟨η,n,w,x⟩:=Pg (show 0<t-m by grind) k (show 0<Za (ld p) m/2 by grind);have b:=(l m (m+η) O2 O2 O2).1;rw [show m+η-m=η by grind]at b;have r:=Fp p (m+η) t O2 (λu a b=>bQ (e u O2 b));have c:=aC (a:=η) (b:=Za (ld p) m/2-η*M) O2 O2;have d:=aN n i;grind
def Oq:Nat->List Int->Rat->Int
 | 0,_,_=>0
 | n+1,p,x=>if Za p x≠0 then Ot (Za p x)else Oq n (Zv p) x
def Zfb{x:Rat}(h:0<x):Ot x=1:=Lk h
def Zai{x:Rat}(h:x<0):Ot x=-1:=Ll h
theorem Zcp{x:Rat}(h:x=0):Ot x=0:=by subst h;rfl
theorem Yk(x:Rat):(0<x/\Ot x=1)\/(x<0/\Ot x=-1)\/(x=0/\Ot x=0):=by
 rcases(show 0<x\/x<0\/x=0 by grind)with h|h|h
 .exact .inl ⟨h,Zfb h⟩
 .exact .inr (.inl ⟨h,Zai h⟩)
 .exact .inr (.inr ⟨h,Zcp h⟩)
theorem Ze1(n:Nat)(p:List Int)(x:Rat)(h:Za p x≠0)(c:p.length<=n):Oq n p x=Ot (Za p x):=by
 cases n with
 | zero=>have:p=[]:=aE O;subst this;exact absurd rfl h
 | succ n=>unfold Oq;rw [aK h]
theorem Zaq(p:List Int)(x:Rat)(h:Za p x≠0):∃δ:Rat,0<δ/\∀y,x<y->y<=x+δ->Ot (Za p y)=Ot (Za p x):=by
 obtain⟨L,q,j⟩:=Mg x (x+1) p;have g:0<(if 0<Za p x then Za p x else -Za p x):=by split<;>grind
 obtain⟨δ,i,k,f⟩:=Pg (show(0:Rat)<1 by decide) (show 0<L+1 by grind) (show 0<(if 0<Za p x then Za p x else -Za p x)/2 by grind);refine⟨δ,i,λy m n=>?_⟩;have l:=j x y O2 O2 O2;have b:=aC (a:=L) (b:=δ-(y-x)) O2 O2;have c:L*(y-x)<=δ*(L+1):=O2;rcases Yk (Za p x)with⟨d,e⟩|⟨d,e⟩|⟨d,e⟩
 .rw [aK d]at f g;rw [e];exact Zfb O2
 .rw [aG O2]at f g;rw [e];exact Zai O2
 .exact absurd d h
theorem Lf:∀(n:Nat) (p:List Int) (x:Rat),p.length<=n->∃δ:Rat,0<δ/\∀y,x<y->y<=x+δ->Ot (Za p y)=Oq n p x
 | 0,p,x,m=>⟨1,O3,λy _ _=>by have:p=[]:=aE O;subst this;exact Zcp rfl⟩
 | n+1,p,x,m=>by
  by_cases h:Za p x≠0
  .rw [Ze1 (n+1) p x h m];exact Zaq p x h
  .have G:Za p x=0:=eQ.1 h;have D:=Qx p;obtain⟨δ,w,z⟩:=Lf n (Zv p) x O;have B:Oq (n+1) p x=Oq n (Zv p) x:=by unfold Oq;rw [aG h];cases n<;>rfl
   have j:Za (ld p) x≠0->Ot (Za (ld p) x)=Oq n (Zv p) x:=λf=>by rw [<-Qh]at f ⊢;exact(Ze1 n (Zv p) x f O).symm
   refine⟨δ,w,λy k H=>?_⟩;rw [B];have g:∀u,x<u->u<=y->Ot (Za (ld p) u)=Oq n (Zv p) x:=λu a b=>by rw [<-Qh];exact z u a O2
   have e:=g y k O2;generalize Oq n (Zv p) x=σ at *;rcases Yk (Za (ld p) y)with⟨l,i⟩|⟨l,i⟩|⟨l,i⟩
   .rw [i]at e;subst e;refine Zfb ?_;have:=Zaz p k (λu a b=>by
     rcases Yk (Za (ld p) u)with⟨d,c⟩|⟨d,c⟩|⟨d,c⟩
     .exact d
     .have:=g u a b;rw [c]at this;exact absurd this O3
     .have:=g u a b;rw [c]at this;exact absurd this O3) (by
     rcases Yk (Za (ld p) x)with⟨d,c⟩|⟨d,c⟩|⟨d,c⟩
     .exact bQ d
     .have:=j O2;rw [c]at this;exact absurd this O3
     .grind)
    grind
   .rw [i]at e;subst e;refine Zai ?_;have q:∀u,Za (ld (p.map λa=>-1*a)) u=-Za (ld p) u:=λu=>by rw [Ln];push_cast;grind
    have:=Zaz (p.map λa=>-1*a) k (λu a b=>by
     rw [q];rcases Yk (Za (ld p) u)with⟨d,c⟩|⟨d,c⟩|⟨d,c⟩
     .have:=g u a b;rw [c]at this;exact absurd this O3
     .grind
     .have:=g u a b;rw [c]at this;exact absurd this O3) (by
     rw [q];rcases Yk (Za (ld p) x)with⟨d,c⟩|⟨d,c⟩|⟨d,c⟩
     .have:=j O2;rw [c]at this;exact absurd this O3
     .grind
     .grind)
    rw [Fe,Fe]at this;grind
   .rw [i]at e;subst e;refine Zcp ?_;have r:∀u,x<=u->u<=y->Za (ld p) u=0:=λu a b=>by
     rcases(show x<u\/u=x by grind)with f|f
     .rcases Yk (Za (ld p) u)with⟨d,c⟩|⟨d,c⟩|⟨d,c⟩
      .have:=g u f b;rw [c]at this;exact absurd this O3
      .have:=g u f b;rw [c]at this;exact absurd this O3
      .exact d
     .subst f;rcases Yk (Za (ld p) u)with⟨d,c⟩|⟨d,c⟩|⟨d,c⟩
      .have:=j O2;rw [c]at this;exact absurd this O3
      .have:=j O2;rw [c]at this;exact absurd this O3
      .exact d
    have F:=Fp p x y O2 (λu a b=>by rw [r u a b];grind);have t:=Fp (p.map λa=>-1*a) x y O2 (λu a b=>by rw [Ln,r u a b];push_cast;grind);rw [Fe,Fe]at t;grind
theorem Ed.mul_l{a b c:List Int}(h:Ed a b):Ed (Yj c a) (Yj c b):=by obtain⟨k,s,d,e⟩:=h;exact⟨k,s,d,λx=>by rw [Zl,Zl];have:=e x;grind⟩
theorem Of{F n:Nat}(z:Tr p)(m:p≠[])(hs:Sz n p)(y:n<=220)(t:p.length<=11)(r:p.length<=F+1):∀(f:Nat) (q:List Int),Dp p q->q.length<=f->
  (∃B:List Int,∀x:Rat,Za q x=Za (Gk F f q) x*(Za B x*Za B x))/\Ed (Gk F f q) (sqf F q):=by
 intro f
 induction f with
 | zero=>intro q d w;have:=aD.2 d.2.1;omega
 | succ f ih=>
  intro q d w;have g:=(d.ok z m hs y t r).2;have h:=d.next g;have e:=(h.ok z m hs y t r).2;have i:=h.next e;unfold Gk;by_cases l:(sqf F q).length=1
  .rw [aK l];obtain⟨s1,s2,s3⟩:=Cb d.1 d.2.1 g l;refine⟨⟨[1],λx=>?_⟩,Ed.refl _⟩;rw [s1,nrm1 d.1 d.2.2.1 s2,Yp];push_cast;grind
  .rw [aG l];have lq:2<=q.length:=by obtain⟨f1,f2,f3,f4,f5,f6⟩:=Xg F d.1 d.2.1 g;obtain⟨N,D,G,k,P⟩:=Xf d.1 d.2.1 g;have l1:=aD.2 f3;have l2:=aD.2 D;omega
   have a0:=Zel d.1 d.2.1 g lq;obtain⟨N,D,G,k,P⟩:=Xf d.1 d.2.1 g;obtain⟨b1,b2,b3,H,b5⟩:=Xf h.1 h.2.1 e;obtain⟨-,t2,t3,-,-,-⟩:=Xg F h.1 h.2.1 e;have lb:=aD.2 t3;obtain⟨⟨B,Y⟩,Z⟩:=ih _ i O;obtain⟨-,M,o3,o4⟩:=Dg d.1 d.2.1 g e;have j:=(i.ok z m hs y t r).2;rw [d.2.2.1]at k;rw [G]at H;have Q:∀x,Za q x=Za (sqf F q) x*Za (Qs F q) x:=λx=>by rw [<-Zl,<-k]
   have R:∀x,Za (sqf F q) x=Za (Dh F q) x*Za (sqf F (Qs F q)) x:=λx=>by rw [<-Zl,<-M]
   have V:∀x,Za (Qs F q) x=Za (sqf F (Qs F q)) x*Za (Qs F (Qs F q)) x:=λx=>by rw [<-Zl,<-H]
   refine⟨⟨Yj (sqf F (Qs F q)) B,λx=>?_⟩,?_⟩
   .rw [Zl,Zl,Q x,R x,V x,Y x];show _=Za (Dh F q) x*_*_;generalize Za (sqf F (Qs F q)) x=S;generalize Za B x=C;grind
   .have W:Ed (Gk F f (Qs F (Qs F q))) (sqf F (Qs F q)):=Z.trans (Zfp h.1 h.2.1 e j);have I:=W.mul_l (c:=Dh F q);rw [<-M]at I;exact I
theorem Zcy{F n:Nat}(R:Tr p)(N:p≠[])(hs:Sz n p)(hn:n<=220)(hl:p.length<=11)(hF:p.length<=F+1)(B:Tr o)(V:o≠[])(f:Ib F o)(q:Ib F p)(h:Ed o (sqf F p)):(Qs F o).length=1/\sqf F o=Zw o:=by
 obtain⟨H,W,Y,I,a5⟩:=Xf B V f;obtain⟨f1,f2,f3,f4,f5,f6⟩:=Xg F R N q;obtain⟨-,s2,s3,s4,s5,s6⟩:=Xg F B V f;have S:Tr (Zw o):=Xm (Zs B);have P:=Hk S (Xz S) f;have M:Ed (Qs F o) (Zw o):=P.1.ed;have Z:Ed (Qs F o) (ld (Zw o)):=(P.2.ed:Ed (Qs F o) (Zv (Zw o))).congr λx=>Qh _ x;have r:Sim (Zw o) o:=(Qv (Zq o)).trans (Ye B);obtain⟨k,w,t,j⟩:Ed (Zw o) (sqf F p):=by
  obtain⟨k,w,t,e⟩:=h;obtain⟨c,d,hc,G,D⟩:=r;have g:∀x:Rat,(c:Rat)*Za (Zw o) x=(d:Rat)*Za o x:=λx=>by rw [<-Zb,<-Zb];exact Xx x _ _ λi=>by rw [Yb,Yb];exact D i
  exact⟨d*k,w.map λa=>c*a,aT G t,λx=>by rw [Zb];have a:=e x;have b:=g x;push_cast;grind⟩
 have Q:(Qs F o).length<=1:=by
  refine Gz R N q H (M.trans ⟨k,w,t,j⟩) ?_;have h1:Ed (Qs F o) (lmul w (ld (Zw o))):=by obtain⟨m,z,hm,e⟩:=Z;exact⟨m,lmul w z,hm,λx=>by rw [Zd,Zd];have:=e x;grind⟩
  have h2:Ed (Qs F o) (ld (sqf F p)):=Ed.lin M h1 (ld w) k t λx=>by have:=Nr ((sqf F p).map λa=>k*a) (lmul w (Zw o)) (λy=>by rw [Zb,Zd];exact j y) x;rw [Ln,Mh]at this;rw [Zd,this]
  exact h2.congr λx=>(Qh _ x).symm
 have l:(Qs F o).length=1:=by have:=aD.2 W;omega
 refine⟨l,?_⟩;rw [nrm1 H Y l,Zbk s2]at I;exact I.symm
theorem Fa{a b:List Int}(h:Sim a b):∃c d:Int,c≠0/\d≠0/\∀x:Rat,(c:Rat)*Za a x=(d:Rat)*Za b x:=by obtain⟨c,d,f,g,e⟩:=h;exact⟨c,d,f,g,λx=>by rw [<-Zb,<-Zb];exact Xx x _ _ λi=>by rw [Yb,Yb];exact e i⟩
theorem Ps{x:Rat}(h:x≠0):0<x*x:=by
 rcases(show 0<x\/x<0 by grind)with q|q
 .exact aN q q
 .have:=aN (a:=-x) (b:=-x) O2 O2;grind
theorem Yi{c:Int}(h:c≠0):(c:Rat)≠0:=λe=>h (by exact_mod_cast e)
theorem Fm{e f c d:Rat}(i:c≠0)(j:d≠0)(k:c*e=d*a)(l:c*f=d*b)(h:a*b<0):e*f<0:=by
 have m:(c*c)*(e*f)=(d*d)*(a*b):=O2;have n:=Ps i;have g:=Ps j;rcases(show e*f<0\/0<=e*f by grind)with q|q
 .exact q
 .have r:=aC (a:=c*c) (b:=e*f) O2 q;have t:=aN (a:=d*d) (b:=-(a*b)) g O2;grind
theorem Zir{e f c d:Rat}(h:e*(c*c)*(f*(d*d))<0):e*f<0:=by
 rcases(show e*f<0\/0<=e*f by grind)with q|q
 .exact q
 .have i:0<=c*d*(c*d):=by
   by_cases g:c*d=0
   .rw [g];grind
   .exact bQ (Ps g)
  have j:=aC q i;grind
theorem Zap{F n:Nat}(h:Tr p)(j:p≠[])(hs:Sz n p)(G:n<=220)(D:p.length<=11)(x:p.length<=F+1)(ho:o=Gk F p.length (Zw p))(f:Tr o)(M:o≠[])(t:Km F o)(Z:a<b)(Y:Oq p.length p a=1)(h2:Za p b<0):Ly F o b<Ly F o a:=by
 have l:=Dp.start h j;have g:=(l.ok h j hs G D x).2;have i:Ib F p:=by unfold Ib at g ⊢;rwa [l.2.2.1]at g
 obtain⟨⟨B,r⟩,w⟩:=Of h j hs G D x p.length (Zw p) l (by rw [Yx h];exact aH _);rw [<-ho]at r w;rw [Zba l.2.2.1]at w;obtain⟨-,I⟩:=Zcy h j hs G D x f M t.1.2.2.1 i w;obtain⟨δ,d1,V⟩:=Lf p.length p a (aH _);obtain⟨s,R,s2,S⟩:∃s,a<s/\s<=a+δ/\s<b:=by
  rcases(show a+δ<b\/b<=a+δ by grind)with q|q
  .exact⟨a+δ,O2,O2,q⟩
  .exact⟨(a+b)/2,O2,O2,O2⟩
 have H:0<Za p s:=by
  have:=V s R s2;rw [Y]at this;rcases Yk (Za p s)with⟨m,k⟩|⟨m,k⟩|⟨m,k⟩
  .exact m
  .rw [k]at this;exact absurd this O3
  .rw [k]at this;exact absurd this O3
 have k1:Za p s*Za p b<0:=by have:=aN (a:=Za p s) (b:=-Za p b) H O2;grind
 obtain⟨c,d,hc,hd,e⟩:=Fa ((Qv (Zq p)).trans (Ye h):Sim (Zw p) p);have P:Za (Zw p) s*Za (Zw p) b<0:=Fm (Yi hc) (Yi hd) (e s) (e b) k1;rw [r s,r b]at P;have k3:=Zir P;obtain⟨c',d',y,z,N⟩:=Fa ((Qv (Zq o)).trans (Ye f):Sim (Zw o) o);have Q:Za (Zw o) s*Za (Zw o) b<0:=Fm (Yi y) (Yi z) (N s) (N b) k3;rw [<-I]at Q;have m1:=Co f M t (bQ R);rcases fR (Ly F o b) (Ly F o s)with q|q
 .exact Int.lt_of_lt_of_le q m1
 .exfalso;have hz:Za (sqf F o) s≠0:=λW=>by rw [W]at Q;grind
  have:=Hr f M t (bQ S) q hz b (bQ S) O2;grind
theorem Eh:∀(n:Nat) (p:List Int) (x:Rat),Tr p->p≠[]->p.length<=n->Oq n p x≠0
 | 0,p,x,_,g,q=>absurd (aE O) g
 | n+1,p,x,k,g,q=>by
  unfold Oq;by_cases h:Za p x≠0
  .rw [aK h];rcases Yk (Za p x)with⟨i,f⟩|⟨i,f⟩|⟨i,f⟩
   .rw [f];decide
   .rw [f];decide
   .exact absurd i h
  .rw [aG h];have l:Za p x=0:=eQ.1 h;have d:=Qx p;refine Eh n (Zv p) x (Xz k) (λe=>?_) O;rw [e]at d;have r:=aD.2 g;have j:p.length=1:=by simp at d;omega
   match p,j with
   | [c],_=>
    have m:c≠0:=k.mem O6;rw [Yp]at l;exact Yi m l
theorem Zcc(n:Nat)(p:List Int)(x:Rat):-1<=Oq n p x/\Oq n p x<=1:=by
 induction n generalizing p with
 | zero=>show -1<=(0:Int)/\(0:Int)<=1;decide
 | succ n c=>unfold Oq;split;exact Zib;exact c _
def Lt(F:Nat)(o:List Int)(a b:Rat):Prop:=0<Ly F o a-Ly F o b-(if Za o b=0 then 1 else 0)
theorem Ziv{F n:Nat}(f:Tr p)(g:p≠[])(hs:Sz n p)(y:n<=220)(x:p.length<=11)(w:p.length<=F+1)(z:o=Gk F p.length (Zw p))(l:Tr o)(P:o≠[])(I:Km F o)(j:a<b) :
  (Za p a<0\/Za p b<0\/Oq p.length p a<0\/Lt F o a b)↔(Oq p.length p a<0\/Lt F o a b):=by
 constructor
 .rintro(h|h|h|h)
  .left;rw [Ze1 p.length p a O2 (aH _),Zai h];decide
  .have r:=Zcc p.length p a;have r0:=Eh p.length p a f g (aH _);rcases(show Oq p.length p a<0\/Oq p.length p a=1 by omega)with i|i
   .exact .inl i
   .right;have R:=Zap f g hs y x w z l P I j i h;have M:=Dp.start f g;obtain⟨⟨B,t⟩,-⟩:=Of f g hs y x w p.length (Zw p) M (by rw [Yx f];exact aH _);rw [<-z]at t;obtain⟨c,d,Q,N,e⟩:=Fa ((Qv (Zq p)).trans (Ye f):Sim (Zw p) p);have k:Za o b≠0:=λD=>by
     have m:(c:Rat)*Za (Zw p) b=(d:Rat)*Za p b:=e b;rw [t b,D]at m;have G:=Yi N;have H:(d:Rat)*Za p b=0:=by rw [<-m];grind
     rcases dE.1 H with q|q
     .exact G q
     .rw [q]at h;grind
    unfold Lt;rw [aG k];omega
  .exact .inl h
  .exact .inr h
 .rintro(h|h)
  .exact .inr (.inr (.inl h))
  .exact .inr (.inr (.inr h))
theorem Zg9(p:List Int)(x:Rat)(h:Za p x≠0):∃δ:Rat,0<δ/\∀y,x-δ<=y->y<=x->Ot (Za p y)=Ot (Za p x):=by
 obtain⟨L,q,j⟩:=Mg (x-1) x p;have g:0<(if 0<Za p x then Za p x else -Za p x):=by split<;>grind
 obtain⟨δ,i,k,f⟩:=Pg (show(0:Rat)<1 by decide) (show 0<L+1 by grind) (show 0<(if 0<Za p x then Za p x else -Za p x)/2 by grind);refine⟨δ,i,λy m n=>?_⟩;have l:=j y x O2 O2 O2;have b:=aC (a:=L) (b:=δ-(x-y)) O2 O2;have c:L*(x-y)<=δ*(L+1):=O2;rcases Yk (Za p x)with⟨d,e⟩|⟨d,e⟩|⟨d,e⟩
 .rw [aK d]at f g;rw [e];exact Zfb O2
 .rw [aG O2]at f g;rw [e];exact Zai O2
 .exact absurd d h
theorem rsg_1{x:Rat}(h:Ot x=1):0<x:=by
 rcases Yk x with⟨d,c⟩|⟨d,c⟩|⟨d,c⟩
 .exact d
 .rw [c]at h;exact absurd h O3
 .rw [c]at h;exact absurd h O3
theorem Zbe{x:Rat}(h:Ot x=-1):x<0:=by
 rcases Yk x with⟨d,c⟩|⟨d,c⟩|⟨d,c⟩
 .rw [c]at h;exact absurd h O3
 .exact d
 .rw [c]at h;exact absurd h O3
def Zho(p:List Int)(a b:Rat):Prop:=∃x,a<=x/\x<=b/\Za p x<0
theorem Zjv  {F:Nat} (hx:Tr xs) (h0:xs≠[]) (hC:Km F xs) {σ:Rat} (W:σ≠0) (R:a<b)
  (c:∀x,a<=x->x<b->∃δ:Rat,0<δ/\∀y,x<y->y<=x+δ->y<=b->0<σ*Za (sqf F xs) y) :
  Ly F xs a-Ly F xs b<=(if Za (sqf F xs) b=0 then 1 else 0):=by
 obtain⟨h,h1,Q⟩:=Ag hx h0 hC a b;have G:∀x,a<=x->x<b->0<=σ*Za (sqf F xs) x:=λx ha hb=>by
  rcases(show 0<=σ*Za (sqf F xs) x\/σ*Za (sqf F xs) x<0 by grind)with q|q
  .exact q
  .exfalso;have f:Za (sqf F xs) x≠0:=λe=>by rw [e]at q;grind
   obtain⟨δ,d1,B⟩:=c x ha hb;obtain⟨ε,e1,P⟩:=Zaq (sqf F xs) x f;obtain⟨y,M,N,y3,y4⟩:∃y,x<y/\y<=x+δ/\y<=x+ε/\y<=b:=by
    rcases(show δ<=ε\/ε<=δ by grind)with w|w
    .rcases(show x+δ<=b\/b<=x+δ by grind)with v|v
     .exact⟨x+δ,O2,O2,O2,v⟩
     .exact⟨b,O2,O2,O2,O2⟩
    .rcases(show x+ε<=b\/b<=x+ε by grind)with v|v
     .exact⟨x+ε,O2,O2,O2,v⟩
     .exact⟨b,O2,O2,O2,O2⟩
   have Y:=B y M N y4;have j:=P y M y3;rcases Yk (Za (sqf F xs) x)with⟨g,i⟩|⟨g,i⟩|⟨g,i⟩
   .rw [i]at j;have H:=rsg_1 j;rcases(show σ<0\/0<σ by grind)with s|s
    .have:=aN (a:=-σ) (b:=Za (sqf F xs) y) O2 H;grind
    .have:=aN s g;grind
   .rw [i]at j;have H:=Zbe j;rcases(show σ<0\/0<σ by grind)with s|s
    .have:=aN (a:=-σ) (b:=-Za (sqf F xs) x) O2 O2;grind
    .have:=aN (a:=σ) (b:=-Za (sqf F xs) y) s O2;grind
   .exact f g
 have S:0<=σ*Za (sqf F xs) b:=by
  rcases(show 0<=σ*Za (sqf F xs) b\/σ*Za (sqf F xs) b<0 by grind)with q|q
  .exact q
  .exfalso;have f:Za (sqf F xs) b≠0:=λe=>by rw [e]at q;grind
   obtain⟨ε,e1,P⟩:=Zg9 (sqf F xs) b f;obtain⟨y,M,N,y3⟩:∃y,a<=y/\y<b/\b-ε<=y:=by
    rcases(show a<=b-ε\/b-ε<=a by grind)with v|v
    .exact⟨b-ε,v,O2,O2⟩
    .exact⟨a,O2,R,v⟩
   obtain⟨δ,d1,B⟩:=c y M N;obtain⟨z,z1,z2,m⟩:∃z,y<z/\z<=y+δ/\z<=b:=by
    rcases(show y+δ<=b\/b<=y+δ by grind)with v|v
    .exact⟨y+δ,O2,O2,v⟩
    .exact⟨b,N,O2,O2⟩
   have Y:=B z z1 z2 m;have j:=P z O2 m;rcases Yk (Za (sqf F xs) b)with⟨g,i⟩|⟨g,i⟩|⟨g,i⟩
   .rw [i]at j;have H:=rsg_1 j;rcases(show σ<0\/0<σ by grind)with s|s
    .have:=aN (a:=-σ) (b:=Za (sqf F xs) z) O2 H;grind
    .have:=aN s g;grind
   .rw [i]at j;have H:=Zbe j;rcases(show σ<0\/0<σ by grind)with s|s
    .have:=aN (a:=-σ) (b:=-Za (sqf F xs) b) O2 O2;grind
    .have:=aN (a:=σ) (b:=-Za (sqf F xs) z) s O2;grind
   .exact f g
 have d:∀u v,a<=u->u<=v->v<=b->v-u<=h/2->Ly F xs u-Ly F xs v<=(if v=b/\Za (sqf F xs) b=0 then 1 else 0):=λu v k I r c4=>by
  have e:=Q u v k I r O2;have e':Ly F xs u-Ly F xs v=An (Za (sqf F xs)) u v:=e;rw [e'];unfold An;by_cases D:Za (sqf F xs) u≠0/\Za (sqf F xs) u*Za (sqf F xs) v<=0
  .rw [aK D];have V:u<b:=by
    rcases(show u<b\/u=b by grind)with q|q
    .exact q
    .exfalso;have:v=u:=O2;subst this;have:=Ps D.1;grind
   have g1:=G u k V;have g2:0<=σ*Za (sqf F xs) v:=by
    rcases(show v<b\/v=b by grind)with q|q
    .exact G v O2 q
    .rw [q];exact S
   have l:Za (sqf F xs) v=0:=by
    rcases(show Za (sqf F xs) v=0\/Za (sqf F xs) v≠0 by grind)with q|q
    .exact q
    .exfalso;have m1:=aC g1 g2;have m2:=Ps W;have m3:(σ*σ)*(Za (sqf F xs) u*Za (sqf F xs) v)>=0:=O2;rcases(show Za (sqf F xs) u*Za (sqf F xs) v<0\/Za (sqf F xs) u*Za (sqf F xs) v=0 by grind)with w|w
     .have:=aN m2 (show 0 < -(Za (sqf F xs) u*Za (sqf F xs) v) by grind);grind
     .rcases dE.1 w with z|z
      .exact D.1 z
      .exact q z
   rcases(show v<b\/v=b by grind)with q|q
   .exfalso;obtain⟨δ,d1,B⟩:=c v O2 q;obtain⟨z,z1,z2,m,z4⟩:∃z,v<z/\z<=v+δ/\z<=b/\z-v<=h/2:=by
     rcases(show δ<=h/2\/h/2<=δ by grind)with w|w
     .rcases(show v+δ<=b\/b<=v+δ by grind)with t|t
      .exact⟨v+δ,O2,O2,t,O2⟩
      .exact⟨b,q,O2,O2,O2⟩
     .rcases(show v+h/2<=b\/b<=v+h/2 by grind)with t|t
      .exact⟨v+h/2,O2,O2,t,O2⟩
      .exact⟨b,q,O2,O2,O2⟩
    have Y:=B z z1 z2 m;have a1:=Q u z k O2 m O2;have a2:=Q v z O2 O2 m O2;have r1:An (Za (sqf F xs)) u z=0:=by
     unfold An;rw [aG];rintro⟨w1,w2⟩;have g3:0<σ*Za (sqf F xs) u:=by
      rcases(show σ*Za (sqf F xs) u=0\/0<σ*Za (sqf F xs) u by grind)with t|t
      .rcases dE.1 t with t|t
       .exact absurd t W
       .exact absurd t w1
      .exact t
     have m1:=aN g3 Y;have m2:=Ps W;have m3:0<(σ*σ)*(Za (sqf F xs) u*Za (sqf F xs) z):=O2;have m4:=aC (a:=σ*σ) (b:=-(Za (sqf F xs) u*Za (sqf F xs) z)) O2 O2;grind
    have r2:An (Za (sqf F xs)) v z=0:=by unfold An;rw [aG];rintro⟨w1,w2⟩;exact w1 l
    have r3:An (Za (sqf F xs)) u v=1:=by unfold An;rw [aK D]
    rw [r1]at a1;rw [r2]at a2;rw [r3]at e;omega
   .rw [q]at l;rw [aK ⟨q,l⟩];decide
  .rw [aG D];split<;>decide
 have Z:∀n:Nat,∀u,a<=u->u<=b->b-u<=(n:Rat)*(h/2)->Ly F xs u-Ly F xs b<=(if Za (sqf F xs) b=0 then 1 else 0):=λn=>by
  induction n with
  | zero=>
   intro u k I r;have:u=b:=by push_cast at r;grind
   subst this;rw [Int.sub_self];split<;>decide
  | succ n ih=>
   intro u k I r;push_cast at r;by_cases hy:b-u<=h/2
   .have:=d u b k I O2 hy;by_cases f:Za (sqf F xs) b=0
    .rw [aK ⟨rfl,f⟩]at this;rw [aK f];exact this
    .rw [aG (λe=>f e.2)]at this;rw [aG f];exact this
   .have i1:=ih (u+h/2) O2 O2 O2;have i2:=d u (u+h/2) k O2 O2 O2;rw [aG (λe=>by have:=e.1;grind)]at i2;generalize (if Za (sqf F xs) b=0 then(1:Int)else 0)=t at *;omega
 obtain⟨n,hn⟩:=Eg (b-a) (show 0<h/2 by grind);exact Z n a O2 O2 hn
structure Odp (F n:Nat) (p o:List Int):Prop where
 tr:Tr p
 ne:p≠[]
 sz:Sz n p
 hn:n<=220
 hl:p.length<=11
 hF:p.length<=F+1
 eq:o=Gk F p.length (Zw p)
 otr:Tr o
 one:o≠[]
 ok:Km F o
theorem Odp.sq{F n:Nat}(h:Odp F n p o):∃(c d:Int) (B:List Int),c≠0/\d≠0/\∀x:Rat,(d:Rat)*Za p x=(c:Rat)*(Za o x*(Za B x*Za B x)):=by have g:=Dp.start h.tr h.ne;obtain⟨⟨B,f⟩,-⟩:=Of h.tr h.ne h.sz h.hn h.hl h.hF p.length (Zw p) g (by rw [Yx h.tr];exact aH _);rw [<-h.eq]at f;obtain⟨c,d,i,j,e⟩:=Fa ((Qv (Zq p)).trans (Ye h.tr):Sim (Zw p) p);exact⟨c,d,B,i,j,λx=>by rw [<-f x];exact(e x).symm⟩
theorem Odp.sqf{F n:Nat}(h:Odp F n p o):Go.Sky.sqf F o=Zw o:=by
 have e:=Dp.start h.tr h.ne;have c:=(e.ok h.tr h.ne h.sz h.hn h.hl h.hF).2;have d:Ib F p:=by unfold Ib at c ⊢;rwa [e.2.2.1]at c
 obtain⟨-,f⟩:=Of h.tr h.ne h.sz h.hn h.hl h.hF p.length (Zw p) e (by rw [Yx h.tr];exact aH _);rw [<-h.eq]at f;rw [Zba e.2.2.1]at f;exact(Zcy h.tr h.ne h.sz h.hn h.hl h.hF h.otr h.one h.ok.1.2.2.1 d f).2
theorem Odp.srt{F n:Nat}(h:Odp F n p o):∃c d:Int,c≠0/\d≠0/\∀x:Rat,(c:Rat)*Za (Go.Sky.sqf F o) x=(d:Rat)*Za o x:=by rw [h.sqf];exact Fa ((Qv (Zq o)).trans (Ye h.otr):Sim (Zw o) o)
theorem Odp.zero{F n:Nat}(h:Odp F n p o)(x:Rat):Za (Go.Sky.sqf F o) x=0↔Za o x=0:=by
 obtain⟨c,d,g,i,e⟩:=h.srt;have f:=e x;constructor
 .intro z;rw [z]at f;rcases dE.1 (show(d:Rat)*Za o x=0 by grind)with q|q
  .exact absurd q (Yi i)
  .exact q
 .intro z;rw [z]at f;rcases dE.1 (show(c:Rat)*Za (Go.Sky.sqf F o) x=0 by grind)with q|q
  .exact absurd q (Yi g)
  .exact q
theorem Odp.nz{F n:Nat}(h:Odp F n p o){x:Rat}(i:Za p x≠0):Za o x≠0:=λz=>by
 obtain⟨c,d,B,j,g,e⟩:=h.sq;have f:=e x;rw [z]at f;rcases dE.1 (show(d:Rat)*Za p x=0 by grind)with q|q
 .exact Yi g q
 .exact i q
theorem Odp.opp{F n:Nat}(h:Odp F n p o){x y:Rat}(i:Za p x*Za p y<0):Za o x*Za o y<0/\Za (Go.Sky.sqf F o) x*Za (Go.Sky.sqf F o) y<0:=by obtain⟨c,d,B,l,m,e⟩:=h.sq;have q:(Za o x*(Za B x*Za B x))*(Za o y*(Za B y*Za B y))<0:=Fm (Yi l) (Yi m) (e x).symm (e y).symm i;have k:=Zir q;obtain⟨r,t,f,g,j⟩:=h.srt;exact⟨k,Fm (Yi f) (Yi g) (j x) (j y) k⟩
theorem Odp.sem{F n:Nat}(h:Odp F n p o)(g:a<b):(Oq p.length p a<0\/Lt F o a b)↔Zho p a b:=by
 have i:=Ziv h.tr h.ne h.sz h.hn h.hl h.hF h.eq h.otr h.one h.ok g;constructor
 .rintro(j|j)
  .obtain⟨δ,I,l⟩:=Lf p.length p a (aH _);have r:=Zcc p.length p a;have Z:Oq p.length p a=-1:=O;rcases(show a+δ<=b\/b<=a+δ by grind)with q|q
   .exact⟨a+δ,O2,q,Zbe (by rw [l (a+δ) O2 O2,Z])⟩
   .exact⟨b,O2,O2,Zbe (by rw [l b g q,Z])⟩
  .rcases Classical.em (Zho p a b)with q|q
   .exact q
   .exfalso;have R:∀x,a<=x->x<=b->0<=Za p x:=λx u v=>by
     rcases(show 0<=Za p x\/Za p x<0 by grind)with w|w
     .exact w
     .exact absurd ⟨x,u,v,w⟩ q
    have k:∀x,a<=x->x<b->∃δ:Rat,0<δ/\∀y,x<y->y<=x+δ->y<=b->0<Za p y:=λx u v=>by
     obtain⟨δ,I,l⟩:=Lf p.length p x (aH _);have r:=Zcc p.length p x;have r0:=Eh p.length p x h.tr h.ne (aH _);refine⟨δ,I,λy D G H=>?_⟩;have s:=l y D G;rcases Yk (Za p y)with⟨M,N⟩|⟨M,N⟩|⟨M,N⟩
     .exact M
     .have:=R y O2 H;grind
     .rw [N]at s;exact absurd s.symm r0
    obtain⟨δ,I,l⟩:=k a O2 g;obtain⟨z,z1,z2,z3⟩:∃z,a<z/\z<=a+δ/\z<=b:=by
     rcases(show a+δ<=b\/b<=a+δ by grind)with w|w
     .exact⟨a+δ,O2,O2,w⟩
     .exact⟨b,g,w,O2⟩
    have hz:=l z z1 z2 z3;have hσ:Za (Go.Sky.sqf F o) z≠0:=λe=>h.nz (x:=z) O2 ((h.zero z).1 e);have Y:=Zjv h.otr h.one h.ok (σ:=Za (Go.Sky.sqf F o) z) hσ g (λx u v=>by
     obtain⟨ε,e1,e2⟩:=k x u v;refine⟨ε,e1,λy D G H=>?_⟩;have hy:=e2 y D G H;have S:Za (Go.Sky.sqf F o) y≠0:=λe=>h.nz (x:=y) O2 ((h.zero y).1 e);rcases(show 0<Za (Go.Sky.sqf F o) z*Za (Go.Sky.sqf F o) y\/Za (Go.Sky.sqf F o) z*Za (Go.Sky.sqf F o) y<0\/Za (Go.Sky.sqf F o) z*Za (Go.Sky.sqf F o) y=0 by grind)with w|w|w
     .exact w
     .exfalso;obtain⟨c,d,B,hc,hd,e⟩:=h.sq;obtain⟨c',d',P,Q,W⟩:=h.srt;have w1:Za o z*Za o y<0:=Fm (Yi Q) (Yi P) (W z).symm (W y).symm w;have p1:=aN hz hy;have q1:((d:Rat)*(d:Rat))*(Za p z*Za p y)=((c:Rat)*(c:Rat))*((Za o z*Za o y)*((Za B z*Za B y)*(Za B z*Za B y))):=by
       have a1:=e z;have a2:=e y;have:((d:Rat)*Za p z)*((d:Rat)*Za p y)=((c:Rat)*(Za o z*(Za B z*Za B z)))*((c:Rat)*(Za o y*(Za B y*Za B y))):=by rw [a1,a2]
       grind
      have m:=aN (Ps (Yi hd)) p1;have q3:0<=(Za B z*Za B y)*(Za B z*Za B y):=by
       by_cases t:Za B z*Za B y=0
       .rw [t];grind
       .exact bQ (Ps t)
      have q4:=aC (bQ (Ps (Yi hc))) (aC (show 0<=-(Za o z*Za o y) by grind) q3);grind
     .rcases dE.1 w with t|t
      .exact absurd t hσ
      .exact absurd t S)
    unfold Lt at j;by_cases f:Za o b=0
    .rw [aK f]at j;rw [aK ((h.zero b).2 f)]at Y;omega
    .rw [aG f]at j;rw [aG (λe=>f ((h.zero b).1 e))]at Y;omega
 .rintro⟨x,x1,x2,V⟩;rcases(show x=a\/x=b\/(a<x/\x<b) by grind)with q|q|⟨q1,m⟩
  .subst q;exact i.1 (.inl V)
  .subst q;exact i.1 (.inr (.inl V))
  .have r:=Zcc p.length p a;have r0:=Eh p.length p a h.tr h.ne (aH _);rcases(show Oq p.length p a<0\/Oq p.length p a=1 by omega)with j|j
   .exact .inl j
   .right;have hv:=Zap h.tr h.ne h.sz h.hn h.hl h.hF h.eq h.otr h.one h.ok q1 j V;have m1:=Co h.otr h.one h.ok (bQ m);unfold Lt;by_cases f:Za o b=0
    .rw [aK f];have hx:Za (Go.Sky.sqf F o) x≠0:=λe=>h.nz (x:=x) O2 ((h.zero x).1 e);rcases fR (Ly F o b) (Ly F o x)with w|w
     .omega
     .exfalso;have:=Hr h.otr h.one h.ok (bQ m) w hx b (bQ m) O2;rw [(h.zero b).2 f]at this;grind
    .rw [aG f];omega
theorem Zdb(g:Rat->Rat){h:Rat}(i:0<h):∀(n:Nat) (u v:Rat),u<v->v-u<=(n:Rat)*h->g u*g v<0->∃x y,u<=x/\x<y/\y<=v/\y-x<=h/\g x≠0/\g x*g y<=0
 | 0,u,v,a,b,_=>by push_cast at b;grind
 | n+1,u,v,a,b,c=>by
  push_cast at b;have d:g u≠0:=λe=>by rw [e]at c;grind
  by_cases f:v-u<=h
  .exact⟨u,v,O2,a,O2,f,d,O2⟩
  .rcases(show g u*g (u+h)<=0\/0<g u*g (u+h) by grind)with q|q
   .exact⟨u,u+h,O2,O2,O2,O2,d,q⟩
   .have j:g (u+h)*g v<0:=by
     have z:=Ps d;rcases(show g (u+h)*g v<0\/0<=g (u+h)*g v by grind)with w|w
     .exact w
     .have D:=aN q (show 0 < -(g u*g v) by grind);have F:=aC (bQ z) w;grind
    obtain⟨x,y,B,k,l,m,r,t⟩:=Zdb g i n (u+h) v O2 O2 j;exact⟨x,y,O2,k,l,m,r,t⟩
theorem Zam{c:Rat}(h:a*b<0)(d:a-b<=c)(e:b-a<=c):-c<=a/\a<=c:=by
 rcases(show 0<a\/a<0\/a=0 by grind)with q|q|q
 .have:b<0:=by
   rcases(show b<0\/0<=b by grind)with w|w
   .exact w
   .have:=aC (bQ q) w;grind
  grind
 .have:0<b:=by
   rcases(show 0<b\/b<=0 by grind)with w|w
   .exact w
   .have:=aC (show 0<=-a by grind) (show 0<=-b by grind);grind
  grind
 .rw [q]at h;grind
theorem Zdj{F:Nat}(hx:Tr xs)(h0:xs≠[])(hC:Km F xs)(ho:Tr o)(o0:o≠[])(hE:Ed o (sqf F xs))(m:u<v)(hu:Za (sqf F xs) u≠0)(h:Za o u*Za o v<0):Ly F xs v<Ly F xs u:=by
 rcases fR (Ly F xs v) (Ly F xs u)with q|q
 .exact q
 .exfalso;have hk:=Hr hx h0 hC (bQ m) q hu;obtain⟨k,w,P,z⟩:=hE;have l:=Yi P;have j:∀d,Tr d->Ed d o->Ed d (tzl w)->d.length<=1:=λd hd e1 H=>by
   obtain⟨f,s1,G,r1⟩:=e1;obtain⟨g,s2,c2,r2⟩:=H;refine Gz hx h0 hC.1.2.2.1 hd ⟨k*f,lmul w s1,aT P G,λx=>?_⟩ ⟨k*f*g,Xp ((lmul (ld w) s1).map λa=>g*a) ((lmul s2 (ld o)).map λa=>f*a),aT (aT P G) c2,λx=>?_⟩
   .rw [Zd];have V:=z x;have i:=r1 x;push_cast;grind
   .rw [Zt,Zb,Zb,Zd,Zd,Qh];have S:=Nr ((sqf F xs).map λa=>k*a) (lmul w o) (λy=>by rw [Zb,Zd];exact z y) x;rw [Ln,Mh]at S;have i:=r1 x;have W:=r2 x;rw [Xn]at W;push_cast;have Y:(k:Rat)*f*g*Za (ld (sqf F xs)) x=(f:Rat)*g*(Za (ld w) x*Za o x+Za w x*Za (ld o) x):=by rw [<-S];grind
    rw [Y];have Z:(f:Rat)*g*(Za (ld w) x*Za o x+Za w x*Za (ld o) x)=(g:Rat)*(Za (ld w) x*((f:Rat)*Za o x))+(f:Rat)*(((g:Rat)*Za w x)*Za (ld o) x):=O2;rw [Z,i,W];grind
  obtain⟨ε,e1,H⟩:=Zf8 ho (Xd w) o0 j u v;obtain⟨L1,l1,l2⟩:=Mg u v o;obtain⟨D,m1,m2⟩:=Mg u v w;obtain⟨r,d1,-,d3⟩:=Pg (show(0:Rat)<1 by decide) (show 0<L1+D by grind) (show 0<ε/2 by grind);obtain⟨n,hn⟩:=Eg (v-u) d1;obtain⟨x,y,B,x2,R,x4,x5,x6⟩:=Zdb (Za o) d1 n u v m hn h;have sx:=hk x B O2;have sy:=hk y O2 R;have ox:=z x;have oy:=z y;have N:Za o y≠0:=λe=>by
   rw [e]at oy;rcases dE.1 (show(k:Rat)*Za (sqf F xs) y=0 by grind)with t|t
   .exact l t
   .rw [t]at sy;grind
  have I:Za o x*Za o y<0:=by
   rcases(show Za o x*Za o y<0\/Za o x*Za o y=0 by grind)with t|t
   .exact t
   .rcases dE.1 t with t|t
    .exact absurd t x5
    .exact absurd t N
  have Q:0<Za (sqf F xs) x*Za (sqf F xs) y:=by
   have V:=aN sx sy;have i:=Ps hu;rcases(show 0<Za (sqf F xs) x*Za (sqf F xs) y\/Za (sqf F xs) x*Za (sqf F xs) y<=0 by grind)with t|t
   .exact t
   .have:=aC (bQ i) (show 0<=-(Za (sqf F xs) x*Za (sqf F xs) y) by grind);grind
  have M:Za w x*Za w y<0:=by
   have V:(k:Rat)*k*(Za (sqf F xs) x*Za (sqf F xs) y)=(Za w x*Za w y)*(Za o x*Za o y):=by
    have:((k:Rat)*Za (sqf F xs) x)*((k:Rat)*Za (sqf F xs) y)=(Za w x*Za o x)*(Za w y*Za o y):=by rw [ox,oy]
    grind
   have i:=aN (Ps l) Q;rcases(show Za w x*Za w y<0\/0<=Za w x*Za w y by grind)with t|t
   .exact t
   .have:=aC t (show 0<=-(Za o x*Za o y) by grind);grind
  have G:=l2 x y B O2 R;have c2:=m2 x y B O2 R;have n1:=aC (a:=L1) (b:=r-(y-x)) O2 O2;have n2:=aC (a:=D) (b:=r-(y-x)) O2 O2;have n3:=aC (a:=L1) (b:=r) O2 O2;have n4:=aC (a:=D) (b:=r) O2 O2;obtain⟨Y,Z⟩:=Zam (c:=ε/2) I O2 O2;obtain⟨b3,b4⟩:=Zam (c:=ε/2) M O2 O2;rcases H x B O2 with t|t
  .unfold Big at t;grind
  .unfold Big at t;rw [Xn]at t;grind
theorem Zaj{F:Nat}(h:Tr xs)(d:xs≠[])(e:Km F xs)(c:u<v)(f:Za (sqf F xs) u≠0)(g:Za (sqf F xs) v=0):Ly F xs v<Ly F xs u:=by
 rcases fR (Ly F xs v) (Ly F xs u)with q|q
 .exact q
 .exfalso;have:=Hr h d e (bQ c) q f v (bQ c) O2;rw [g]at this;grind
theorem Odp.ed{F n:Nat}(h:Odp F n p o):Ed o (Go.Sky.sqf F p):=by have c:=Dp.start h.tr h.ne;obtain⟨-,d⟩:=Of h.tr h.ne h.sz h.hn h.hl h.hF p.length (Zw p) c (by rw [Yx h.tr];exact aH _);rw [<-h.eq]at d;rwa [Zba c.2.2.1]at d
theorem Zh1{F:Nat}(f:Tr xs)(c:xs≠[])(d:Km F xs)(x:Rat):Za xs x=0↔Za (sqf F xs) x=0:=by
 constructor
 .intro h;have i:(x.den:Int)≠0:=by exact_mod_cast x.den_nz
  have e:((x.num:Int):Rat)/((x.den:Int):Rat)=x:=by rw [<-Rat.divInt_eq_div];exact Rat.num_divInt_den x
  have:=Zh3 f c d.1.2.2.1 i (r:=x.num) (by rw [e];exact h);rwa [e]at this
 .intro h;obtain⟨g,j⟩:=Zlt f c d.1.2.2.1;rw [j x,h];grind
theorem Zl5 {F n:Nat}  (h:Odp F n p o) (d:Km F p) {K:Nat} {e:Nat} (i:∀u v:Rat,-(K:Rat)<=u->u<=v->v<=(K:Rat)->v-u<=1/((2^e:Nat):Rat)->Ly F p u-Ly F p v<=1)
  {t:Rat} (h1:-(K:Rat)+1<=s) (G:t<=(K:Rat)) (hs:0<=Za p s) (ht:0<=Za p t) (M:Zho p s t):1/((2^(e+1):Nat):Rat)<t-s:=by
 obtain⟨x,x1,x2,x3⟩:=M;have j:s<x:=by rcases(show s<x\/s=x by grind)with q|q;exact q;subst q;grind
 have l:x<t:=by rcases(show x<t\/x=t by grind)with q|q;exact q;subst q;grind
 obtain⟨f1,f2,f3,f4,f5,f6⟩:=Xg F h.tr h.ne d.1.2.2.1;have g:Za (Go.Sky.sqf F p) x≠0:=λz=>by have:=(Zh1 h.tr h.ne d x).2 z;grind
 rcases(show 1/((2^(e+1):Nat):Rat)<t-s\/t-s<=1/((2^(e+1):Nat):Rat) by grind)with q|q
 .exact q
 .exfalso;have N:=two_pow_pos e;have P:=two_pow_pos (e+1);have B:((2^(e+1):Nat):Rat)=2*((2^e:Nat):Rat):=by rw [dJ];push_cast;grind
  have hi:0<((2^e:Nat):Rat)⁻¹:=dW.2 N;have H:1/((2^(e+1):Nat):Rat)=((2^e:Nat):Rat)⁻¹/2:=by rw [B];grind
  have D:1/((2^e:Nat):Rat)=((2^e:Nat):Rat)⁻¹:=O2;have I:((2^e:Nat):Rat)⁻¹<=1:=by
   have Y:(1:Rat)<=((2^e:Nat):Rat):=by have:1<=2^e:=Nat.two_pow_pos e;exact_mod_cast this
   have Z:=aC (a:=((2^e:Nat):Rat)-1) (b:=((2^e:Nat):Rat)⁻¹) O2 O2;have g3:((2^e:Nat):Rat)*((2^e:Nat):Rat)⁻¹=1:=iE _ O2;grind
  obtain⟨u,u1,u2,u3⟩:∃u,s-((2^e:Nat):Rat)⁻¹/2<=u/\u<=s/\Ly F p x<Ly F p u:=by
   by_cases z:Za (Go.Sky.sqf F p) s=0
   .obtain⟨δ,W,r⟩:=Lf (Go.Sky.sqf F p).length (Go.Sky.sqf F p) (s-((2^e:Nat):Rat)⁻¹/2) (aH _);have m:=Eh (Go.Sky.sqf F p).length (Go.Sky.sqf F p) (s-((2^e:Nat):Rat)⁻¹/2) f2 f3 (aH _);obtain⟨u,R,S,V⟩:∃u,s-((2^e:Nat):Rat)⁻¹/2<u/\u<=s-((2^e:Nat):Rat)⁻¹/2+δ/\u<s:=by
     rcases(show s-((2^e:Nat):Rat)⁻¹/2+δ<s\/s<=s-((2^e:Nat):Rat)⁻¹/2+δ by grind)with w|w
     .exact⟨_,O2,gC,w⟩
     .exact⟨s-((2^e:Nat):Rat)⁻¹/4,O2,O2,O2⟩
    have Q:Za (Go.Sky.sqf F p) u≠0:=λc=>by have:=r u R S;rw [c]at this;exact m this.symm
    have m1:=Zaj h.tr h.ne d V Q z;have m2:=Co h.tr h.ne d (bQ j);exact⟨u,O2,O2,O⟩
   .have f:0<Za p s:=by have:Za p s≠0:=λc=>z ((Zh1 h.tr h.ne d s).1 c);grind
    have k:=h.opp (x:=s) (y:=x) (by have:=aN f (show 0 < -Za p x by grind);grind);exact⟨s,O2,O2,Zdj h.tr h.ne d h.otr h.one h.ed j z k.1⟩
  have u4:Ly F p t<Ly F p x:=by
   by_cases z:Za (Go.Sky.sqf F p) t=0
   .exact Zaj h.tr h.ne d l g z
   .have f:0<Za p t:=by have:Za p t≠0:=λc=>z ((Zh1 h.tr h.ne d t).1 c);grind
    have k:=h.opp (x:=x) (y:=t) (by have:=aN f (show 0 < -Za p x by grind);grind);exact Zdj h.tr h.ne d h.otr h.one h.ed l g k.1
  have:=i u t O2 O2 G O2;omega
end Go.Sky

