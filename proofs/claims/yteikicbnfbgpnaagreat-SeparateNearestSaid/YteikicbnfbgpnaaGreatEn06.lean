/- Rules, arithmetic and contracts: part 7. No conditions but those that each theorem names. -/
import Derived.Test.YteikicbnfbgpnaaGreatEn05
set_option linter.all false
namespace Go.Sky
variable{F K Q:Nat}{xs a p t u b q:List Int}{z:R2}{k:Int}
def vch(F:Nat)(xs:List Int)(x:Rat):Int:=vat ((chn F xs).map Zf) x
def cvc_v(h:0<z.2):cvc F xs z=vch F xs (qv z):=Yr0 h
def Sqn(P:R2->R2->Prop)(hi:Rat):Rat->List (R2×R2)->Prop
 | d,[]=>d<=hi
 | d,c::r=>d<=qv c.1/\qv c.1<qv c.2/\P c.1 c.2/\Sqn P hi (qv c.2) r
theorem Sqn.le{P:R2->R2->Prop}{hi:Rat} : ∀{lo:Rat} {l:List (R2×R2)},Sqn P hi lo l->lo<=hi
 | lo,[],h=>h
 | lo,c::r,h=>by have:=Sqn.le h.2.2.2;have:=h.1;have:=h.2.1;grind
theorem Sqn.low{P:R2->R2->Prop}{hi:Rat}{lo d:Rat}(e:d<=lo):∀{l:List (R2×R2)},Sqn P hi lo l->Sqn P hi d l
 | [],h=>by have h:lo<=hi:=h;show d<=hi;grind
 | c::r,h=>⟨by have:=h.1;grind,h.2⟩
def Sqn.app{P:R2->R2->Prop}{d hi:Rat}{g:List (R2×R2)}(e:Sqn P hi d g):∀{lo:Rat} {f:List (R2×R2)},Sqn P d lo f->Sqn P hi lo (f ++ g)
 | lo,[],h=>e.low h
 | lo,c::r,h=>⟨h.1,h.2.1,h.2.2.1,Sqn.app e h.2.2.2⟩
theorem Zqz{a:R2}(j:0<a.2)(h:a.1.natAbs<=K):-(K:Rat)<=qv a/\qv a<=(K:Rat):=by
 obtain⟨g,i⟩:=Ym6 h;have l:(1:Rat)<=(a.2:Rat):=by exact_mod_cast (show 1<=a.2 by omega)
 have c:(0:Rat)<=(K:Rat):=Fh (bD _);have hi:=gK.2 (show 0<(a.2:Rat) by grind);have d:(a.2:Rat)*(a.2:Rat)⁻¹=1:=O4;unfold qv;rw [jQ];have t1:=aL (a:=(a.2:Rat)⁻¹) (b:=(K:Rat)*a.2-a.1) O4 (by have:=aL (a:=(K:Rat)) (b:=(a.2:Rat)-1) c O4;grind);have t2:=aL (a:=(a.2:Rat)⁻¹) (b:=(K:Rat)*a.2+a.1) O4 (by have:=aL (a:=(K:Rat)) (b:=(a.2:Rat)-1) c O4;grind);have e:(a.2:Rat)⁻¹*((K:Rat)*a.2-a.1)=(K:Rat)*(a.2*(a.2:Rat)⁻¹)-a.1*(a.2:Rat)⁻¹:=O4;have f:(a.2:Rat)⁻¹*((K:Rat)*a.2+a.1)=(K:Rat)*(a.2*(a.2:Rat)⁻¹)+a.1*(a.2:Rat)⁻¹:=O4;rw [e,d]at t1;rw [f,d]at t2;constructor<;>grind
theorem Zcx (n:Nat){a:R2}(c:0<a.2)(h:bl a.1.natAbs<=n)(i:bl a.2.natAbs<=n)(l:n<=65536) :
  ¬Iq a.1 a.2/\0<(slow a).2/\bl (slow a).1.natAbs<=n/\bl (slow a).2.natAbs<=n/\qv (slow a)=qv a:=by
 obtain⟨f1,f2,f3,f4,f5,f6⟩:=Zrl (x:=a.1) (y:=a.2) (X:=a.1) (Y:=a.2) c c rfl h i l;refine⟨f1,f3,f4,f5,?_⟩;have r1:=Gm c;have r2:=Gm f3;have j:((Es a.1 a.2:Int):Rat)*(a.2:Rat)=(a.1:Rat)*((Fo a.1 a.2:Int):Rat):=by exact_mod_cast f6
 show((Es a.1 a.2:Int):Rat)/((Fo a.1 a.2:Int):Rat)=(a.1:Rat)/(a.2:Rat);generalize ((Es a.1 a.2:Int):Rat)=N at *;generalize ((Fo a.1 a.2:Int):Rat)=D at *;generalize (a.1:Rat)=x at *;generalize (a.2:Rat)=y at *;have:N/D*(D*y)=x/y*(D*y):=by have d:N/D*(D*y)=N*y:=O4;have e:x/y*(D*y)=x*D:=O4;rw [d,e,j]
 have m:=bC r2 r1;have f:N/D=N/D*(D*y)*(D*y)⁻¹:=O4;have g:x/y=x/y*(D*y)*(D*y)⁻¹:=O4;rw [f,this,<-g]
theorem sep_of  {A e:Nat} (x:Tr xs) (f:xs≠[]) (n:Ax F xs) (o:0<K) (m:0<A) (y:∀i,(cf (sqf F xs) i).natAbs<=A) (B:∀i,(cf (Yy (sqf F xs)) i).natAbs<=A)
  (hs:2<=(sqf F xs).length->Yal K A (sqf F xs).length e=true) (u v:Rat) (j:-(K:Rat)<=u) (c:u<=v) (l:v<=(K:Rat)) (w:v-u<=1/((2^e:Nat):Rat)):vch F xs u-vch F xs v<=1:=by
 by_cases d:2<=(sqf F xs).length
 .have h:=Ysb x f n o m rfl d y B (hs d) j c l w;show vat _ u-vat _ v<=1;rw [h];unfold crs;split<;>decide
 .have D:=Oc (sqf F xs);have s:Yy (sqf F xs)=[]:=aC O;have r:chn F xs=[sqf F xs]:=by unfold chn;rw [s,Ye4,Du]
  unfold vch vat;rw [r];have r1:=Zbp (([Zf (sqf F xs)]).map λg=>Ep (g u));have r2:=Zbp (([Zf (sqf F xs)]).map λg=>Ep (g v));simp only [bZ,gD,dV,fC]at r1 r2 ⊢;omega
theorem Sqn.mem{P:R2->R2->Prop}{hi:Rat} : ∀{lo:Rat} {l:List (R2×R2)},Sqn P hi lo l->∀c∈l,P c.1 c.2
 | _,[],_,c,e=>by cases e
 | lo,d::r,h,c,e=>by
  rcases bE.1 e with rfl|e
  .exact h.2.2.1
  .exact Sqn.mem h.2.2.2 c e
theorem en_bl{d B:Nat}(h:En K Q d z)(g:0<Q)(s:Q*2^d<2^B)(v:K*(Q*2^d)<2^B):bl z.1.natAbs<=B/\bl z.2.natAbs<=B:=by
 obtain⟨j,i,w,y⟩:=h;have c:0<Q*2^d:=gI g (cH O3);have f:z.2.natAbs<=Q*2^d:=by have:=fX.2 i;rw [dH]at this;exact mG c this
 have l:z.1.natAbs<=K*z.2.natAbs:=by
  have r:=Gm j;have e:(z.1:Rat)=qv z*z.2:=by unfold qv;grind
  have t1:=aL (a:=(K:Rat)-qv z) (b:=(z.2:Rat)) O4 O4;have t2:=aL (a:=(K:Rat)+qv z) (b:=(z.2:Rat)) O4 O4;have x:((K*z.2.natAbs:Nat):Int)=(K:Int)*z.2:=by push_cast;rw [kW O]
  have n:((z.1:Int):Rat)<=(((K:Int)*z.2:Int):Rat):=by push_cast;grind
  have o:((-((K:Int)*z.2):Int):Rat)<=((z.1:Int):Rat):=by push_cast;grind
  have D:z.1<=(K:Int)*z.2:=by exact_mod_cast n
  have G:-((K:Int)*z.2)<=z.1:=by exact_mod_cast o
  omega
 have m:K*z.2.natAbs<=K*(Q*2^d):=bB _ f;exact⟨Zdt O,Zdt O⟩
theorem Yly (e:Nat)(w:Nat)(B:Nat){n:Nat}(h:En (2^n) Q (e+w) z)(o:0<Q)(g:Q<2^(2*n))(r:3*n+1+(e+w)<=B):bl z.1.natAbs<=B/\bl z.2.natAbs<=B:=by
 have c:∀m,m<=B->2^m<=2^B:=λm h=>dK O3 h;have f:0<2^(e+w):=cH O3;have d:Q*2^(e+w)<2^(2*n)*2^(e+w):=eO g f;have j:2^n*(Q*2^(e+w))<2^n*(2^(2*n)*2^(e+w)):=jP d (cH O3);have i:2^(2*n)*2^(e+w)=2^(2*n+(e+w)):=(bW _ _ _).symm;have l:2^n*(2^(2*n)*2^(e+w))=2^(n+(2*n+(e+w))):=by rw [i,<-bW]
 rw [i]at d;rw [l]at j;exact en_bl h o (dG d (c _ O)) (dG j (c _ O))
theorem Ed.const{g:List Int}(h:Ed g a)(o:Tr g)(m:Tr a)(l:a≠[])(w:g.length=a.length):∃k c:Int,k≠0/\c≠0/\∀x:Rat,(k:Rat)*Zf a x=(c:Rat)*Zf g x:=by
 obtain⟨k,s,i,h⟩:=h;obtain⟨v,f,j⟩:=Zy3 i o m l h;have e:=aF.2 f
 match hs:tzl s,e,j with
 | [c],_,_=>
  have n:c≠0:=by have:=(Qi s).mem f;rw [hs]at this;exact this
  refine⟨k,c,i,n,λx=>?_⟩;rw [h x,<-Ms s,hs,Py]
 | c::d::r,_,h9=>simp at h9;omega
theorem Fn(p:List Int)(c:Int)(x:Rat):Zf (Zq p c) x=(c:Rat)*Zf p x:=by rw [<-Zo];exact Oy x _ _ λi=>by rw [Yl,Qq,cQ]
theorem Zo9{c:Int}(h:Tr p)(f:p≠[])(g:c≠0):Zq p c≠[]:=λe=>by have d:=Yl p c (p.length-1);rw [e,Zcj]at d;exact bJ (h.mem f) g d.symm
theorem Ed.dv{g:List Int}(h:Ed g a):Dv g a:=by obtain⟨k,s,d,h⟩:=h;refine⟨k,s,d,λt=>?_⟩;have:=Nq (p:=a.map λc=>k*c) (q:=Qs s g) (λx=>by rw [Zo,Yp];exact h x) t;rw [Qq,Hs]at this;exact this
theorem ed_cop{w s:List Int}(G:k≠0)(m:Tr t)(I:Tr w)(t0:t≠[])(D:∀d,Tr d->Ed d t->Ed d w->d.length<=1)(h:∀x:Rat,(k:Rat)*(Zf u x*Zf w x)=Zf s x*Zf t x):Ed t u:=by
 obtain⟨g,A,B,f,j,n,y⟩:=Znu w.length t w m I (aI _);have H:=D g f j n;have i:=(j.len f m t0).1
 match hgg:g,H,i with
 | [c],_,_=>
  have e:c≠0:=by have:=f.mem O7;exact this
  refine⟨k*c,Mu ((Qs A u).map λa=>k*a) (Qs B s),bJ G e,λx=>?_⟩;rw [Xp,Zo,Yp,Yp];have l:=y x;rw [Py]at l;have o:=h x;push_cast;rw [show(k:Rat)*c*Zf u x=k*(Zf u x*(c:Rat)) by grind,l];have v:(k:Rat)*(Zf u x*(Zf A x*Zf t x+Zf B x*Zf w x))=k*Zf A x*Zf u x*Zf t x+Zf B x*(k*(Zf u x*Zf w x)):=O4;rw [v,o];grind
 | c::d::r,h9,_=>simp at h9
def Oe(F:Nat)(p:List Int):List Int:=Nc F (Xa p) (Yy (Xa p))
def Dd(F:Nat)(p:List Int):Prop:=eok F (gA (Xa p) (Yy (Xa p))) (gB (Xa p) (Yy (Xa p)))
theorem Pk(h:Tr p)(i:p≠[])(g:Dd F p):Tr (Oe F p)/\Oe F p≠[]/\Xa (Oe F p)=Oe F p/\Xa p=Qs (sqf F p) (Oe F p)/\(sqf F p).length+(Oe F p).length=p.length+1:=by obtain⟨f1,f2,f3,f4,f5,f6⟩:=Ou F h i g;have c:Tr (Xa p):=Na (Yv h);have d:Tr (Yy (Xa p)):=Nm c;have f:=Zd1 F c d;have j:=Ov f2 f f3 f5;rw [<-f4,Pr h]at j;have l:=aF.2 f3;have m:=aF.2 f5;refine⟨f,f5,Zyf f (Zme c d f5) (Au (Zm8 F (Zi5 c d) (Zi4 c d)) (λe=>f5 (by unfold Nc;rw [e];rfl))),f4,?_⟩;unfold Oe;omega
theorem Ypn{h:List Int}(i:Tr h)(g:h≠[]){m:Int}(e:∀x:Rat,(k:Rat)*(Zf a x*Zf h x)=(m:Rat)*(Zf b x*Zf h x))(x:Rat):(k:Rat)*Zf a x=(m:Rat)*Zf b x:=by
 have d:=Ey h (f:=Mu (a.map λc=>k*c) (b.map λc=>(-m)*c)) (by rw [Ah i];exact g) (λx=>by rw [Xp,Zo,Zo];have:=e x;push_cast;grind) x
 rw [Xp,Zo,Zo]at d;push_cast at d;grind
theorem Ybk(S:Tr p)(h0:p≠[])(l:Dd F p)(e:Dd F (Oe F p)):Ed (sqf F (Oe F p)) (sqf F p):=by
 obtain⟨n,Z,f,a4,a5⟩:=Pk S h0 l;obtain⟨D,B,b3,b4,b5⟩:=Pk n Z e;obtain⟨-,u2,u3,-,-,-⟩:=Ou F S h0 l;obtain⟨-,t2,t3,-,-,-⟩:=Ou F n Z e;have ht:Tr (Xa p):=Na (Yv S);have o:Ed (Oe F p) (Yy (Xa p)):=(Zed ht (Nm ht) l).2.ed;have e2:Ed (Oe F (Oe F p)) (Yy (Oe F p)):=by have:=(Zed (F:=F) (p:=Xa (Oe F p)) (q:=Yy (Xa (Oe F p))) (by rw [f];exact n) (Nm (by rw [f];exact n)) e).2.ed;have h9:Oe F (Oe F p)=Nc F (Xa (Oe F p)) (Yy (Xa (Oe F p))):=rfl;rw [<-h9,f]at this;exact this
 have N:∀d,Tr d->Ed d (Oe F p)->Ed d (Yy (Oe F p))->Ed d (Oe F (Oe F p)):=λd H i r=>by unfold Oe at *;have:=Zmc (F:=F) (d:=d) (p:=Xa (Nc F (Xa p) (Yy (Xa p)))) (q:=Yy (Xa (Nc F (Xa p) (Yy (Xa p))))) (by rw [f];exact n) (Nm (by rw [f];exact n)) (by rw [f];exact i) (by rw [f];exact r);exact this
 rw [f]at b4;generalize hg:Oe F p=g at *;generalize hh:Oe F g=h at *;generalize hu:sqf F p=u at *;generalize a0:sqf F g=t at *;obtain⟨k,s,hk,P⟩:=o;obtain⟨m,w,hm,R⟩:=e2;have hP:∀x:Rat,Zf (Xa p) x=Zf (lmul u g) x:=λx=>by rw [a4,Yp,Yc]
 have hG:∀x:Rat,Zf g x=Zf (lmul t h) x:=λx=>by
  have:Zf g x=Zf (Qs t h) x:=by rw [<-b4]
  rw [this,Yp,Yc]
 have I:∀x:Rat,Zf (Yy (Xa p)) x=Zf (ld u) x*Zf g x+Zf u x*Zf (ld g) x:=λx=>by rw [Ij,Ct _ _ hP,Bm]
 have v:∀x:Rat,(m:Rat)*Zf (ld g) x=Zf w x*Zf h x:=λx=>by rw [<-Ij];exact R x
 have W:∀x:Rat,(k:Rat)*(Zf (Qs u w) x*Zf h x)=(m:Rat)*(Zf (Qs (Mu s ((ld u).map λc=>(-k)*c)) t) x*Zf h x):=λx=>by rw [Yp,Yp,Xp,Zo];have i:=P x;have r:=I x;have h3:=v x;have h4:=hG x;rw [Yc]at h4;rw [r]at i;have:(k:Rat)*(Zf u x*Zf w x*Zf h x)=Zf u x*k*(Zf w x*Zf h x):=O4;rw [this,<-h3];push_cast;have:Zf u x*(k:Rat)*(m*Zf (ld g) x)=m*(k*(Zf (ld u) x*Zf g x+Zf u x*Zf (ld g) x)-k*Zf (ld u) x*Zf g x):=O4;rw [this,i,h4];grind
 have y:=Ypn D B W;refine ed_cop (s:=(Qs (Mu s ((ld u).map λc=>(-k)*c)) [m])) hk t2 (w:=tzl w) (Qi w) t3 (λd H i r=>?_) (λx=>?_)
 .have G:Ed d w:=r.congr λx=>Ms w x;have M:Ed (Qs d h) h:=N _ Qm (by
   obtain⟨V,Y,j,o⟩:=i;exact⟨V,Y,j,λx=>by rw [hG x,Yc,Yp];have:=o x;grind⟩) (by
   obtain⟨V,Y,j,o⟩:=G;exact⟨V*m,Y,bJ j hm,λx=>by rw [Ij,Yp];have:=o x;have:=v x;push_cast;grind⟩)
  have d0:=(i.len H t2 t3).1;have hl:=Ov H D d0 B;have:=(M.len Qm D B).2;have l2:=aF.2 B;omega
 .rw [Ms,Yp,Py];have:=y x;rw [Yp,Yp]at this;rw [this];grind
theorem Ye1(o:Tr u)(r:u≠[])(d:Tr t)(t0:t≠[])(m:Xa t=t)(h:Ed t u):pdv u t/\u=Qs (Kc u t) t/\Tr (Kc u t)/\Kc u t≠[]:=by
 have j:Ys t=1:=by have:=Zbf d t0;rwa [m]at this
 obtain⟨k,s,l,h⟩:=h.dv;obtain⟨q,n⟩:=gauss j _ k s rfl l h;have c:u=Qs (tzl q) t:=o.ext Qm λi=>by rw [Hs,n,Zq0]
 obtain⟨f,g⟩:=Zq8 (Qi q) d t0;rw [<-c]at f g;rw [g];exact⟨f,c,Qi q,λe=>r (by rw [c,e,Fr])⟩
theorem Zm0(d:Tr p)(j:p≠[])(c:Dd F p)(m:2<=p.length):(Oe F p).length<p.length:=by obtain⟨h,l,-⟩:=Pk d j c;have f:Tr (Xa p):=Na (Yv d);have i:Ed (Oe F p) (Yy (Xa p)):=(Zed f (Nm f) c).2.ed;have g:=Oc (Xa p);have n:=Pr d;have:=(i.len h (Nm f) (λe=>by rw [e]at g;simp at g;omega)).2;omega
theorem Yqd(l:Tr p)(n:Xa p=p)(d:p.length=1):p=[1]:=by
 have f:p≠[]:=λe=>by rw [e]at d;simp at d
 have h:=Zbf l f;have j:0<cf (Xa p) ((Xa p).length-1):=Au (Yv l) (λe=>f (aC (by rw [<-Zy,e];rfl)));rw [n]at h j
 match p,d with
 | [c],_=>
  have m:0<c:=j;have g:c∣Ys [c]:=Ea λi=>by
   match i with
   | 0=>exact Int.dvd_refl c
   | i+1=>rw [Yf O7];exact jT c
  rw [h]at g;have:=mJ O3 g;rw [show c=1 by omega]
def Dp(p q:List Int):Prop:=Tr q/\q≠[]/\Xa q=q/\∃a,Tr a/\Xa p=Qs a q
theorem Dp.start(c:Tr p)(d:p≠[]):Dp p (Xa p):=
 ⟨Na (Yv c),Zik c d,Zyf (Na (Yv c)) (Zbf c d) (Au (Yv c) (λe=>d (aC (by rw [<-Zy,e];rfl)))),[1],.inr (show cf [1] 0≠0 by decide),by refine(Na (Yv c)).ext Qm λi=>?_;rw [Hs,Zvc];rfl⟩
theorem Dp.sz{n:Nat}(g:Tr p)(o:p≠[])(hs:Sz n p)(x:p.length<=13)(h:Dp p q):Sz (n+15) q/\q.length<=p.length:=by obtain⟨j,r,w,a,l,e⟩:=h;have s:fcs 0 13<=2^15*2^15:=O5;have d:=Pr g;have c:=Zik g o;have v:Tr (Xa p):=Na (Yv g);have i:a≠[]:=λm=>c (by rw [e,m,Fr]);refine⟨Ft 13 24 j l (Zp8 hs) c v O O3 s (by rw [Dz];exact e),?_⟩;have f:=Ov l j i r;rw [<-e,d]at f;have:=aF.2 i;omega
theorem Dp.ok{n:Nat}(d:Tr p)(c:p≠[])(hs:Sz n p)(i:n<=220)(g:p.length<=11)(f:p.length<=F+1)(h:Dp p q):Ax F q/\Dd F q:=by obtain⟨e,j⟩:=h.sz d c hs O;have:=(chG F h.1 h.2.1 e O O O).1;exact⟨this,this.1.2.2.1⟩
theorem Dp.next(h:Dp p q)(c:Dd F q):Dp p (Oe F q):=by obtain⟨l,m,n,a,r,e⟩:=h;obtain⟨f,g,j,d,o⟩:=Pk l m c;refine⟨f,g,j,Qs a (sqf F q),Qm,?_⟩;rw [n]at d;refine e.trans ((aH (Qs a) d).trans ?_);refine(Qm).ext Qm λi=>Nq (λx=>?_) i;rw [Yp,Yp,Yp,Yp];grind
def Bb(F:Nat):Nat->List Int->List Int
 | 0,p=>sqf F p
 | f+1,p=>if(sqf F p).length=1 then sqf F p else Qs (Kc (sqf F p) (sqf F (Oe F p))) (Bb F f (Oe F (Oe F p)))
def Zrd(F:Nat):Nat->List Int->List Int->List Int
 | 0,c,_=>c
 | f+1,c,q=>if(sqf F q).length=1 then c else if(sqf F (Oe F q)).length=1 then Qs c (Kc (sqf F q) (sqf F (Oe F q)))else Zrd F f (Qs c (Kc (sqf F q) (sqf F (Oe F q)))) (Oe F (Oe F q))
theorem Zf7(e:Tr q)(d:q≠[])(c:Dd F q)(h:(sqf F q).length=1):sqf F q=[1]/\q.length=1/\(Oe F q).length=1:=by
 obtain⟨f1,f2,f3,f4,f5,f6⟩:=Ou F e d c;obtain⟨i,j,l,m,n⟩:=Pk e d c;have o:=aF.2 d;have g:q.length=1:=by
  rcases aZ q.length 2 with f|f
  .omega
  .have:=Zm0 e d c f;omega
 exact⟨Yqd f2 f6 h,g,O⟩
theorem Zq6(c:Tr p):Qs p [1]=p:=by refine(Qm).ext c λi=>Nq (λx=>?_) i;rw [Yp,Py];push_cast;grind
theorem Yjm(e:Tr q)(d:q≠[])(c:Dd F q)(h:q.length=1):∀f,Bb F f q=[1]:=λf=>by
 obtain⟨f1,f2,f3,f4,f5,f6⟩:=Ou F e d c;obtain⟨i,g,j,l,m⟩:=Pk e d c;have n:=aF.2 f3;have o:=aF.2 g;have hs:(sqf F q).length=1:=O;have:=(Zf7 e d c hs).1;cases f with
 | zero=>exact this
 | succ f=>unfold Bb;rw [aG hs];exact this
theorem Zkk (p:List Int){f:Nat}(e:Tr q)(d:q≠[])(c:Dd F q):Tr (Bb F f q):=by
 obtain⟨f1,f2,f3,f4,f5,f6⟩:=Ou F e d c;cases f with
 | zero=>exact f2
 | succ f=>unfold Bb;split;exact f2;exact Qm
theorem Ybl{n:Nat}(B:Tr p)(r:p≠[])(hs:Sz n p)(y:n<=220)(v:p.length<=11)(s:p.length<=F+1):∀(f:Nat) (g q:List Int),Tr g->Dp p q->q.length<=f->Zrd F f g q=Qs g (Bb F f q):=by
 intro f
 induction f with
 | zero=>intro g q _ d w;have:=aF.2 d.2.1;omega
 | succ f I=>
  intro g q H d w;have e:=(d.ok B r hs y v s).2;have j:=d.next e;have c:=(j.ok B r hs y v s).2;have h:=j.next c;have m:=(h.ok B r hs y v s).2;unfold Zrd Bb;by_cases l:(sqf F q).length=1
  .rw [aG l,aG l,(Zf7 d.1 d.2.1 e l).1,Zq6 H]
  .rw [aD l,aD l];have M:2<=q.length:=by obtain⟨f1,f2,f3,f4,f5,f6⟩:=Ou F d.1 d.2.1 e;obtain⟨R,D,S,V,W⟩:=Pk d.1 d.2.1 e;have l1:=aF.2 f3;have l2:=aF.2 D;omega
   have N:=Zm0 d.1 d.2.1 e M;obtain⟨-,-,-,-,Z⟩:=Pk j.1 j.2.1 c;obtain⟨-,Y,G,-,-,-⟩:=Ou F j.1 j.2.1 c;have lb:=aF.2 G;by_cases o:(sqf F (Oe F q)).length=1
   .obtain⟨s1,s2,P⟩:=Zf7 j.1 j.2.1 c o;rw [aG o,Yjm h.1 h.2.1 m P];refine(Qm).ext Qm λi=>Nq (λx=>?_) i;rw [Yp,Yp,Yp,Py];push_cast;grind
   .rw [aD o,I _ _ Qm h O];refine(Qm).ext Qm λi=>Nq (λx=>?_) i;rw [Yp,Yp,Yp,Yp];grind
theorem Zyc{e:Int}(f:e=1\/e=-1)(h:Ys q=1):Ys (Zq q e)=1:=by
 have c:Ys (Zq q e)∣Ys q:=Ea λi=>by
  have:=Ly (Zq q e) i;rw [Yl]at this;rcases f with rfl|rfl
  .rwa [fH]at this
  .rw [Int.mul_neg_one]at this;exact(mC.1 this)
 rw [h]at c;have g:=Nr (Zq q e);have j:=mJ O3 c;rcases(show Ys (Zq q e)=0\/Ys (Zq q e)=1 by omega)with d|d
 .rw [d]at c;exact absurd (oG.1 c) O3
 .exact d
theorem Yji(h:Ys q=1):Zw q=q:=by unfold Zw;rw [h];simp
theorem Zub{e:Int}(f:Tr q)(g:q≠[])(h:Xa q=q)(d:Dd F q)(m:e=1\/e=-1) :
  Tr (Zq q e)/\Zq q e≠[]/\Xa (Zq q e)=q/\Zw (Zq q e)=Zq q e/\pdv (Zq q e) (sqf F q)/\Kc (Zq q e) (sqf F q)=Zq (Oe F q) e:=by
 have l:e≠0:=by rcases m with rfl|rfl<;>decide
 obtain⟨f1,f2,f3,f4,f5,f6⟩:=Ou F f g d;obtain⟨v,w,y,j,B⟩:=Pk f g d;have r:Ys q=1:=by have:=Zbf f g;rwa [h]at this
 rw [h]at j;have s:Zq q e=Qs (Zq (Oe F q) e) (sqf F q):=by
  refine(Qk).ext Qm λi=>Nq (λx=>?_) i;have:Zf q x=Zf (Qs (sqf F q) (Oe F q)) x:=by rw [<-j]
  rw [Fn,Yp,Fn,this,Yp];grind
 obtain⟨n,o⟩:=Zq8 (Qk (p:=Oe F q) (c:=e)) f2 f3;rw [<-s]at n o;exact⟨Qk,Zo9 f g l,by rw [Zrf Qk f (Zfe q l).symm,h],Yji (Zyc m r),n,o⟩
theorem Yjh(c:Tr p)(d:p≠[]):∃e:Int,(e=1\/e=-1)/\Zw p=Zq (Xa p) e:=by
 by_cases h:cf (Zw p) ((Zw p).length-1)<0
 .refine⟨-1,.inr rfl,?_⟩;rw [Zkn (λe=>d (aC (by rw [<-Zy,e]))) h];refine(Yv c).ext Qk λi=>?_;rw [Yl,Yl];omega
 .refine⟨1,.inl rfl,?_⟩;rw [Zkm h];refine(Yv c).ext Qk λi=>?_;rw [Yl];omega
def Nb(F:Nat)(p:List Int):List Int:=Kc (Zq (Zw p) 1) (sqf F p)
def Al(F:Nat)(p:List Int):List Int:=Kc (Zw (Nb F p)) (sqf F (Nb F p))
def Zc4(F:Nat):Nat->List Int->List Int
 | 0,p=>sqf F p
 | f+1,p=>if(sqf F p).length=1 then sqf F p else Qs (Kc (sqf F p) (sqf F (Nb F p))) (Zc4 F f (Al F p))
theorem Cg(h:Xa p=Xa q):sqf F p=sqf F q:=by unfold sqf;rw [h]
theorem Zkr(h:Xa p=Xa q):Oe F p=Oe F q:=by unfold Oe;rw [h]
theorem Zmb(h:Xa p=Xa q):∀f,Bb F f p=Bb F f q
 | 0=>Cg h
 | f+1=>by unfold Bb;rw [Cg h,Zkr h]
theorem Zlx(v:Tr p)(r:p≠[])(d:Dd F p)(c:Dd F (Oe F p)) :
  (∃e:Int,(e=1\/e=-1)/\Zq (Zw p) 1=Zq (Xa p) e/\pdv (Zq (Xa p) e) (sqf F p)/\Nb F p=Zq (Oe F p) e/\Zw (Nb F p)=Nb F p/\pdv (Nb F p) (sqf F (Oe F p))/\Al F p=Zq (Oe F (Oe F p)) e)/\
  Xa (Nb F p)=Oe F p/\Xa (Al F p)=Oe F (Oe F p)/\Tr (Nb F p)/\Nb F p≠[]/\Tr (Al F p)/\Al F p≠[]:=by
 obtain⟨W,Y,j,-⟩:=Dp.start v r;have f:Dd F (Xa p):=by unfold Dd;rw [j];exact d
 have s:Oe F (Xa p)=Oe F p:=Zkr j;have h:sqf F (Xa p)=sqf F p:=Cg j;obtain⟨e,l,w⟩:=Yjh v r;have g:Zq (Zw p) 1=Zq (Xa p) e:=by rw [w];refine(Qk).ext Qk λi=>?_;rw [Yl,fH]
 obtain⟨-,-,-,-,G,H⟩:=Zub W Y j f l;rw [s,h]at H;rw [h]at G;have V:Nb F p=Zq (Oe F p) e:=by unfold Nb;rw [g,H]
 obtain⟨y,B,D,-,-⟩:=Pk v r d;obtain⟨I,M,n,o,N,P⟩:=Zub y B D c l;rw [<-V]at I M n o N P;have x:sqf F (Nb F p)=sqf F (Oe F p):=Cg (by rw [n,D]);have m:Al F p=Zq (Oe F (Oe F p)) e:=by unfold Al;rw [o,x,P]
 obtain⟨S,Z,g3,-,-⟩:=Pk y B c;have R:e≠0:=by rcases l with rfl|rfl<;>decide
 refine⟨⟨e,l,g,G,V,o,N,m⟩,n,?_,I,M,?_,?_⟩
 .rw [m,Zrf Qk S (Zfe _ R).symm,g3]
 .rw [m];exact Qk
 .rw [m];exact Zo9 S Z R
theorem Yaw{n:Nat}(r:Tr p)(j:p≠[])(hs:Sz n p)(o:n<=220)(m:p.length<=11)(l:p.length<=F+1):∀(f:Nat) (q:List Int),Tr q->q≠[]->Dp p (Xa q)->Zc4 F f q=Bb F f q:=by
 intro f
 induction f with
 | zero=>intro q _ _ _;rfl
 | succ f w=>
  intro q v x h;have d:=(h.ok r j hs o m l).2;have g:Dd F q:=by unfold Dd at d ⊢;rwa [h.2.2.1]at d
  have i:=h.next d;rw [Zkr h.2.2.1]at i;have c:=(i.ok r j hs o m l).2;have e:=i.next c;obtain⟨-,r1,r2,r3,D,y,B⟩:=Zlx v x g c;unfold Zc4 Bb;have s:=i.2.2.1;rw [Cg (show Xa (Nb F q)=Xa (Oe F q) by rw [r1,s]),w _ y B (by rw [r2];exact e),Zmb (show Xa (Al F q)=Xa (Oe F (Oe F q)) by rw [r2,e.2.2.1])]
def Be(F:Nat)(q:List Int):List Int:=Kc (sqf F q) (sqf F (Oe F q))
theorem Cv(e:Tr q)(f:q≠[])(d:Dd F q)(c:Dd F (Oe F q)):pdv (sqf F q) (sqf F (Oe F q))/\sqf F q=Qs (Be F q) (sqf F (Oe F q))/\Tr (Be F q)/\Be F q≠[]:=by obtain⟨f1,f2,f3,f4,f5,f6⟩:=Ou F e f d;obtain⟨g,h,i,j,l⟩:=Pk e f d;obtain⟨-,t2,t3,-,-,t6⟩:=Ou F g h c;exact Ye1 f2 f3 t2 t3 t6 (Ybk e f d c)
theorem Zyw{n:Nat}(h:Tr p)(o:p≠[])(hs:Sz n p)(v:p.length<=13)(l:Tr a)(m:Tr b)(e:Xa p=Qs a b):Sz (n+15) b/\b.length<=p.length/\b≠[]:=by have r:fcs 0 13<=2^15*2^15:=O5;have f:=Pr h;have c:=Zik h o;have s:Tr (Xa p):=Na (Yv h);have i:a≠[]:=λd=>c (by rw [e,d,Fr]);have j:b≠[]:=λd=>c (by rw [e,d,Zca]);refine⟨Ft 13 24 m l (Zp8 hs) c s O O3 r (by rw [Dz];exact e),?_,j⟩;have g:=Ov l m i j;rw [<-e,f]at g;have:=aF.2 i;omega
def Op(p c q:List Int):Prop:=∃a,Tr a/\Xa p=Qs a (Qs c q)
theorem Op.start(c:Tr p):Op p [1] (Xa p):=⟨[1],.inr (show cf [1] 0≠0 by decide),by refine(Na (Yv c)).ext Qm λi=>Nq (λx=>?_) i;rw [Yp,Yp,Py];push_cast;show Zf (Xa p) x=_;grind⟩
theorem Op.next{f:List Int}(l:Tr q)(m:q≠[])(y:Xa q=q)(d:Dd F q)(c:Dd F (Oe F q))(h:Op p f q):Op p (Qs f (Be F q)) (Oe F (Oe F q)):=by
 obtain⟨a,H,e⟩:=h;obtain⟨-,D,I,M⟩:=Cv l m d c;obtain⟨n,o,r,g,G⟩:=Pk l m d;obtain⟨-,-,-,j,-⟩:=Pk n o c;rw [y]at g;rw [r]at j;refine⟨Qs a (Qs (sqf F (Oe F q)) (sqf F (Oe F q))),Qm,e.trans ?_⟩;refine(Qm).ext Qm λi=>Nq (λx=>?_) i;have s:Zf q x=Zf (sqf F q) x*Zf (Oe F q) x:=by rw [<-Yp,<-g]
 have v:Zf (sqf F q) x=Zf (Be F q) x*Zf (sqf F (Oe F q)) x:=by rw [<-Yp,<-D]
 have w:Zf (Oe F q) x=Zf (sqf F (Oe F q)) x*Zf (Oe F (Oe F q)) x:=by rw [<-Yp,<-j]
 simp only [Yp];rw [s,v];rw [w];generalize Zf (sqf F (Oe F q)) x=A;generalize Zf (Oe F (Oe F q)) x=B;grind
theorem Op.sz{c:List Int}{n:Nat}(j:Tr p)(d:p≠[])(hs:Sz n p)(f:p.length<=13)(g:Tr c)(m:Tr q)(h:Op p c q):Sz (n+15) c/\c.length<=p.length/\c≠[]:=by obtain⟨a,l,e⟩:=h;exact Zyw j d hs f (Qm (p:=a) (q:=q)) g (e.trans ((Qm).ext Qm λi=>Nq (λx=>by rw [Yp,Yp,Yp,Yp];grind) i))
theorem Ybd(c:Tr p):Qs [1] p=p:=by rw [Dz];exact Zq6 c
theorem Yj3{n:Nat}(d:Tr p)(e:p≠[])(hs:Sz n p)(h:n<=220)(g:p.length<=11)(f:p.length<=F+1):Zrd F p.length [1] (Xa p)=Zc4 F p.length p:=by have c:=Dp.start d e;have i:=(c.ok d e hs h g f).2;rw [Ybl d e hs h g f p.length [1] (Xa p) (.inr (show cf [1] 0≠0 by decide)) c (by rw [Pr d];exact aI _),Ybd (Zkk p c.1 c.2.1 i),Yaw d e hs h g f p.length p d e c];exact Zmb c.2.2.1 _
def Zlc(f:Tr xs)(d:xs≠[])(e:Ax F xs){s t:Rat}(c:s<=t):vch F xs t<=vch F xs s:=Znl f d e c
def Sqn.imp{P c:R2->R2->Prop}{hi:Rat}(d:∀x y,P x y->c x y):∀{lo:Rat} {l:List (R2×R2)},Sqn P hi lo l->Sqn c hi lo l
 | _,[],h=>h
 | _,_::_,h=>⟨h.1,h.2.1,d _ _ h.2.2.1,Sqn.imp d h.2.2.2⟩
def oe(f:Nat->Int):Nat->Int
 | 0=>0
 | k+1=>err (oe f k) (f k)
def mon(d n:Nat):List Int:=mono d ((2:Int)^n)
variable {P:Program} {N:Nat} {sc:Nat->Prop} {env:Pw} {H:Hp}
end Go.Sky
namespace Go.Sky
variable{f:Rat->Rat}{u v s t x a b:Rat}{xs p o:List Int}{F:Nat}
def HD(xs ys:List Int):Prop:=Vp ys/\ys≠[]/\Za9 ys/\Ax 13 ys/\chn 13 ys=chn 13 xs
def PH(xs:List Int)(x y:R2):Prop:=(0<x.2/\bl x.1.natAbs<=506/\bl x.2.natAbs<=506)/\(0<y.2/\bl y.1.natAbs<=506/\bl y.2.natAbs<=506)/\cvc 13 xs x-cvc 13 xs y=1
def DR:R2×R2:=((0,0),(0,0))
theorem Zhs(d:Rat){h:Rat}(c:0<h):∃n:Nat,d<=(n:Rat)*h:=by
 have i:0<h⁻¹:=gK.2 c;refine⟨(d*h⁻¹).ceil.toNat,?_⟩;have e:=@oO (d*h⁻¹);have g:(((d*h⁻¹).ceil:Int):Rat)<=(((d*h⁻¹).ceil.toNat:Nat):Rat):=by have:(d*h⁻¹).ceil<=(((d*h⁻¹).ceil.toNat:Nat):Int):=mD _;exact_mod_cast this
 have j:=dP (mQ e g) (show 0<=h by grind);have k:d*h⁻¹*h=d:=O4;grind
theorem Zsn(h:crs f u v<=0)(d:f u≠0):0<f u*f v:=by
 unfold crs at h;by_cases c:f u≠0/\f u*f v<=0
 .rw [aG c]at h;exact absurd h O3
 .have:¬f u*f v<=0:=λe=>c ⟨d,e⟩;grind
theorem Zel(l:Tr xs)(i:xs≠[])(j:Ax F xs)(G:s<=t)(D:vch F xs s<=vch F xs t)(hs:Zf (sqf F xs) s≠0):∀y,s<=y->y<=t->0<Zf (sqf F xs) s*Zf (sqf F xs) y:=by
 obtain⟨h,z,B⟩:=Znk l i j s t;have g:∀u v,s<=u->u<=v->v<=t->v-u<=h->crs (Zf (sqf F xs)) u v<=0:=λu v a b c d=>by have e:=B u v a b c d;have R:vat ((chn F xs).map Zf) u<=vat ((chn F xs).map Zf) s:=Znl l i j a;have S:vat ((chn F xs).map Zf) t<=vat ((chn F xs).map Zf) v:=Znl l i j c;have V:vat ((chn F xs).map Zf) s<=vat ((chn F xs).map Zf) t:=D;omega
 generalize Zf (sqf F xs)=f at *;have m:∀n:Nat,∀y,s<=y->y<=t->y-s<=(n:Rat)*h->0<f s*f y:=λn=>by
  induction n with
  | zero=>
   intro y a b c;have:y=s:=by push_cast at c;grind
   subst this;exact Zsn (g _ _ a O4 b O4) hs
  | succ n P=>
   intro y a b c;push_cast at c;by_cases H:y-s<=h
   .exact Zsn (g s y O4 a b H) hs
   .have r:=P (y-h) O4 O4 O4;have I:f (y-h)≠0:=λe=>by rw [e]at r;grind
    have M:=Zsn (g (y-h) y O4 O4 b O4) I;have N:=bC r M;have w:f s*f (y-h)*(f (y-h)*f y)=(f (y-h)*f (y-h))*(f s*f y):=O4;rw [w]at N;have Q:0<f (y-h)*f (y-h):=by
     rcases(show 0<f (y-h)\/f (y-h)<0 by grind)with q|q
     .exact bC q q
     .have:=bC (a:=-f (y-h)) (b:=-f (y-h)) O4 O4;grind
    rcases(show 0<f s*f y\/f s*f y<=0 by grind)with q|q
    .exact q
    .have:=aL (a:=f (y-h)*f (y-h)) (b:=-(f s*f y)) O4 O4;grind
 intro y a b;obtain⟨n,k⟩:∃n:Nat,y-s<=(n:Rat)*h:=by obtain⟨n,k⟩:=Zhs (y-s) z;exact⟨n,k⟩
 exact m n y a b k
theorem Zgy (p:List Int)(s:Rat)(t:Rat)(D:s<=t)(w:∀u,s<=u->u<=t->0<=Zf (ld p) u):Zf p s<=Zf p t:=by
 rcases(show Zf p s<=Zf p t\/Zf p t<Zf p s by grind)with h|h
 .exact h
 .exfalso;obtain⟨M,Y,N⟩:=Zkf s t p;have z:s<t:=by
   rcases(show s<t\/s=t by grind)with d|d
   .exact d
   .rw [d]at h;grind
  obtain⟨n,B⟩:=Zhs (M*(t-s)*(t-s)+1) (show 0<Zf p s-Zf p t by grind);have g:(0:Rat)<(n:Rat):=by
   rcases aW n with d|d
   .subst d;have:=aL (a:=M*(t-s)) (b:=t-s) (aL O4 O4) O4;push_cast at B;grind
   .exact_mod_cast d
  have m:(n:Rat)≠0:=λe=>by rw [e]at g;exact absurd g O3
  have c:(n:Rat)*((t-s)/n)=t-s:=by rw [jQ,<-kR,kL (n:Rat),kR,lO _ m,Rat.mul_one]
  have q:∀k:Nat,(k:Rat)<=(n:Rat)->-(M*((t-s)/n)*((t-s)/n))*k<=Zf p (s+k*((t-s)/n))-Zf p s:=λk=>by
   induction k with
   | zero=>intro _;push_cast;rw [show s+0*((t-s)/n)=s by grind];grind
   | succ k G=>
    intro y;push_cast at y ⊢;have S:=G O4;have l:0<=(t-s)/n:=by rw [jQ];exact aL O4 (dE (gK.2 g))
    have i:=c;generalize (t-s)/(n:Rat)=h at *;have H:(0:Rat)<=(k:Rat):=by exact_mod_cast bD k
    have P:=aL (a:=(k:Rat)) (b:=h) H l;have Q:=aL (a:=(n:Rat)-(k+1)) (b:=h) O4 l;have j:=(N (s+k*h) (s+(k+1)*h) O4 O4 O4).1;have e:=w (s+k*h) O4 O4;have R:=aL l e;rw [show s+(k+1)*h-(s+k*h)=h by grind]at j;grind
  have r:=q n O4;have i:=c;rw [i,show s+(t-s)=t by grind]at r;have I:-(M*((t-s)/n)*((t-s)/n))*n=-(M*((t-s)/n)*(t-s)):=O4;rw [I]at r;have V:M*((t-s)/n)*(t-s)*n=M*(t-s)*(t-s):=O4;have W:=aL (a:=Zf p t-Zf p s+M*((t-s)/n)*(t-s)) (b:=(n:Rat)) O4 O4;grind
theorem Zgh(p:List Int)(x:Rat):Zf (p.map λa=>-1*a) x=-Zf p x:=by rw [Zo];push_cast;grind
theorem Zp0 (p:List Int)(k:s<t)(e:∀u,s<u->u<=t->0<Zf (ld p) u)(g:0<=Zf (ld p) s):Zf p s<Zf p t:=by
 have i:s<(s+t)/2/\(s+t)/2<t:=by constructor<;>grind
 generalize (s+t)/2=m at *;have r:=Zgy p s m O4 (λu a b=>by
  rcases(show s<u\/u=s by grind)with h|h
  .exact dE (e u h O4)
  .rw [h];exact g)
 obtain⟨M,l,n⟩:=Zkf m t p;have j:=e m i.1 O4;obtain⟨η,q,y,z⟩:=Gh (show 0<t-m by grind) l (show 0<Zf (ld p) m/2 by grind);have b:=(n m (m+η) O4 O4 O4).1;rw [show m+η-m=η by grind]at b;have w:=Zgy p (m+η) t O4 (λu a b=>dE (e u O4 b));have c:=aL (a:=η) (b:=Zf (ld p) m/2-η*M) O4 O4;have d:=bC q j;grind
def Dl:Nat->List Int->Rat->Int
 | 0,_,_=>0
 | n+1,p,x=>if Zf p x≠0 then Ep (Zf p x)else Dl n (Yy p) x
def Yat(h:0<x):Ep x=1:=Zae h
def Zo0(h:x<0):Ep x=-1:=Zaf h
theorem Zum(h:x=0):Ep x=0:=by subst h;rfl
theorem Pj(x:Rat):(0<x/\Ep x=1)\/(x<0/\Ep x=-1)\/(x=0/\Ep x=0):=by
 rcases(show 0<x\/x<0\/x=0 by grind)with h|h|h
 .exact .inl ⟨h,Yat h⟩
 .exact .inr (.inl ⟨h,Zo0 h⟩)
 .exact .inr (.inr ⟨h,Zum h⟩)
theorem Zzt(n:Nat)(p:List Int)(x:Rat)(h:Zf p x≠0)(c:p.length<=n):Dl n p x=Ep (Zf p x):=by
 cases n with
 | zero=>have:p=[]:=aC O;subst this;exact absurd rfl h
 | succ n=>unfold Dl;rw [aG h]
theorem Zpf(p:List Int)(x:Rat)(h:Zf p x≠0):∃δ:Rat,0<δ/\∀y,x<y->y<=x+δ->Ep (Zf p y)=Ep (Zf p x):=by
 obtain⟨L,r,k⟩:=Bl x (x+1) p;have i:0<(if 0<Zf p x then Zf p x else -Zf p x):=by split<;>grind
 obtain⟨δ,j,m,g⟩:=Gh (show(0:Rat)<1 by decide) (show 0<L+1 by grind) (show 0<(if 0<Zf p x then Zf p x else -Zf p x)/2 by grind);refine⟨δ,j,λy n q=>?_⟩;have l:=k x y O4 O4 O4;have b:=aL (a:=L) (b:=δ-(y-x)) O4 O4;have c:L*(y-x)<=δ*(L+1):=O4;rcases Pj (Zf p x)with⟨d,e⟩|⟨d,e⟩|⟨d,e⟩
 .rw [aG d]at g i;rw [e];exact Yat O4
 .rw [aD O4]at g i;rw [e];exact Zo0 O4
 .exact absurd d h
theorem Ay:∀(n:Nat) (p:List Int) (x:Rat),p.length<=n->∃δ:Rat,0<δ/\∀y,x<y->y<=x+δ->Ep (Zf p y)=Dl n p x
 | 0,p,x,q=>⟨1,O3,λy _ _=>by have:p=[]:=aC O;subst this;exact Zum rfl⟩
 | n+1,p,x,q=>by
  by_cases h:Zf p x≠0
  .rw [Zzt (n+1) p x h q];exact Zpf p x h
  .have M:Zf p x=0:=fI.1 h;have H:=Oc p;obtain⟨δ,B,D⟩:=Ay n (Yy p) x O;have G:Dl (n+1) p x=Dl n (Yy p) x:=by unfold Dl;rw [aD h];cases n<;>rfl
   have k:Zf (ld p) x≠0->Ep (Zf (ld p) x)=Dl n (Yy p) x:=λg=>by rw [<-Ij]at g ⊢;exact(Zzt n (Yy p) x g O).symm
   refine⟨δ,B,λy l N=>?_⟩;rw [G];have i:∀u,x<u->u<=y->Ep (Zf (ld p) u)=Dl n (Yy p) x:=λu a b=>by rw [<-Ij];exact D u a O4
   have e:=i y l O4;generalize Dl n (Yy p) x=σ at *;rcases Pj (Zf (ld p) y)with⟨m,j⟩|⟨m,j⟩|⟨m,j⟩
   .rw [j]at e;subst e;refine Yat ?_;have:=Zp0 p l (λu a b=>by
     rcases Pj (Zf (ld p) u)with⟨d,c⟩|⟨d,c⟩|⟨d,c⟩
     .exact d
     .have:=i u a b;rw [c]at this;exact absurd this O3
     .have:=i u a b;rw [c]at this;exact absurd this O3) (by
     rcases Pj (Zf (ld p) x)with⟨d,c⟩|⟨d,c⟩|⟨d,c⟩
     .exact dE d
     .have:=k O4;rw [c]at this;exact absurd this O3
     .grind)
    grind
   .rw [j]at e;subst e;refine Zo0 ?_;have r:∀u,Zf (ld (p.map λa=>-1*a)) u=-Zf (ld p) u:=λu=>by rw [Zah];push_cast;grind
    have:=Zp0 (p.map λa=>-1*a) l (λu a b=>by
     rw [r];rcases Pj (Zf (ld p) u)with⟨d,c⟩|⟨d,c⟩|⟨d,c⟩
     .have:=i u a b;rw [c]at this;exact absurd this O3
     .grind
     .have:=i u a b;rw [c]at this;exact absurd this O3) (by
     rw [r];rcases Pj (Zf (ld p) x)with⟨d,c⟩|⟨d,c⟩|⟨d,c⟩
     .have:=k O4;rw [c]at this;exact absurd this O3
     .grind
     .grind)
    rw [Zgh,Zgh]at this;grind
   .rw [j]at e;subst e;refine Zum ?_;have w:∀u,x<=u->u<=y->Zf (ld p) u=0:=λu a b=>by
     rcases(show x<u\/u=x by grind)with g|g
     .rcases Pj (Zf (ld p) u)with⟨d,c⟩|⟨d,c⟩|⟨d,c⟩
      .have:=i u g b;rw [c]at this;exact absurd this O3
      .have:=i u g b;rw [c]at this;exact absurd this O3
      .exact d
     .subst g;rcases Pj (Zf (ld p) u)with⟨d,c⟩|⟨d,c⟩|⟨d,c⟩
      .have:=k O4;rw [c]at this;exact absurd this O3
      .have:=k O4;rw [c]at this;exact absurd this O3
      .exact d
    have I:=Zgy p x y O4 (λu a b=>by rw [w u a b];grind);have z:=Zgy (p.map λa=>-1*a) x y O4 (λu a b=>by rw [Zah,w u a b];push_cast;grind);rw [Zgh,Zgh]at z;grind
theorem Ed.mul_l{a b c:List Int}(h:Ed a b):Ed (Qs c a) (Qs c b):=by obtain⟨k,s,d,e⟩:=h;exact⟨k,s,d,λx=>by rw [Yp,Yp];have:=e x;grind⟩
theorem Fy{n:Nat}(D:Tr p)(m:p≠[])(hs:Sz n p)(z:n<=220)(w:p.length<=11)(r:p.length<=F+1):∀(f:Nat) (q:List Int),Dp p q->q.length<=f->
  (∃B:List Int,∀x:Rat,Zf q x=Zf (Bb F f q) x*(Zf B x*Zf B x))/\Ed (Bb F f q) (sqf F q):=by
 intro f
 induction f with
 | zero=>intro q d y;have:=aF.2 d.2.1;omega
 | succ f ih=>
  intro q d y;have g:=(d.ok D m hs z w r).2;have h:=d.next g;have e:=(h.ok D m hs z w r).2;have i:=h.next e;unfold Bb;by_cases l:(sqf F q).length=1
  .rw [aG l];obtain⟨s1,s2,s3⟩:=Zf7 d.1 d.2.1 g l;refine⟨⟨[1],λx=>?_⟩,Ed.refl _⟩;rw [s1,Yqd d.1 d.2.2.1 s2,Py];push_cast;grind
  .rw [aD l];have lq:2<=q.length:=by obtain⟨f1,f2,f3,f4,f5,f6⟩:=Ou F d.1 d.2.1 g;obtain⟨P,G,H,k,Q⟩:=Pk d.1 d.2.1 g;have l1:=aF.2 f3;have l2:=aF.2 G;omega
   have a0:=Zm0 d.1 d.2.1 g lq;obtain⟨P,G,H,k,Q⟩:=Pk d.1 d.2.1 g;obtain⟨b1,b2,b3,I,b5⟩:=Pk h.1 h.2.1 e;obtain⟨-,t2,t3,-,-,-⟩:=Ou F h.1 h.2.1 e;have lb:=aF.2 t3;obtain⟨⟨B,Z⟩,hE⟩:=ih _ i O;obtain⟨-,N,o3,o4⟩:=Cv d.1 d.2.1 g e;have j:=(i.ok D m hs z w r).2;rw [d.2.2.1]at k;rw [H]at I;have R:∀x,Zf q x=Zf (sqf F q) x*Zf (Oe F q) x:=λx=>by rw [<-Yp,<-k]
   have V:∀x,Zf (sqf F q) x=Zf (Be F q) x*Zf (sqf F (Oe F q)) x:=λx=>by rw [<-Yp,<-N]
   have W:∀x,Zf (Oe F q) x=Zf (sqf F (Oe F q)) x*Zf (Oe F (Oe F q)) x:=λx=>by rw [<-Yp,<-I]
   refine⟨⟨Qs (sqf F (Oe F q)) B,λx=>?_⟩,?_⟩
   .rw [Yp,Yp,R x,V x,W x,Z x];show _=Zf (Be F q) x*_*_;generalize Zf (sqf F (Oe F q)) x=S;generalize Zf B x=C;grind
   .have Y:Ed (Bb F f (Oe F (Oe F q))) (sqf F (Oe F q)):=hE.trans (Ybk h.1 h.2.1 e j);have M:=Y.mul_l (c:=Be F q);rw [<-N]at M;exact M
theorem Zu9{n:Nat}(V:Tr p)(Q:p≠[])(hs:Sz n p)(hn:n<=220)(hl:p.length<=11)(hF:p.length<=F+1)(G:Tr o)(Y:o≠[])(g:Dd F o)(r:Dd F p)(h:Ed o (sqf F p)):(Oe F o).length=1/\sqf F o=Xa o:=by
 obtain⟨M,Z,a3,N,a5⟩:=Pk G Y g;obtain⟨f1,f2,f3,f4,f5,f6⟩:=Ou F V Q r;obtain⟨-,s2,s3,s4,s5,s6⟩:=Ou F G Y g;have W:Tr (Xa o):=Na (Yv G);have R:=Zed W (Nm W) g;have P:Ed (Oe F o) (Xa o):=R.1.ed;have e2:Ed (Oe F o) (ld (Xa o)):=(R.2.ed:Ed (Oe F o) (Yy (Xa o))).congr λx=>Ij _ x;have B:Sim (Xa o) o:=(Hm (Zw o)).trans (Ql G);obtain⟨k,w,D,l⟩:Ed (Xa o) (sqf F p):=by
  obtain⟨k,w,D,e⟩:=h;obtain⟨c,d,hc,I,H⟩:=B;have j:∀x:Rat,(c:Rat)*Zf (Xa o) x=(d:Rat)*Zf o x:=λx=>by rw [<-Zo,<-Zo];exact Oy x _ _ λi=>by rw [Qq,Qq];exact H i
  exact⟨d*k,w.map λa=>c*a,bJ I D,λx=>by rw [Zo];have a:=e x;have b:=j x;push_cast;grind⟩
 have S:(Oe F o).length<=1:=by
  refine Zf8 V Q r M (P.trans ⟨k,w,D,l⟩) ?_;have h1:Ed (Oe F o) (lmul w (ld (Xa o))):=by obtain⟨m,z,hm,e⟩:=e2;exact⟨m,lmul w z,hm,λx=>by rw [Yc,Yc];have:=e x;grind⟩
  have h2:Ed (Oe F o) (ld (sqf F p)):=Ed.lin P h1 (ld w) k D λx=>by have:=Ct ((sqf F p).map λa=>k*a) (lmul w (Xa o)) (λy=>by rw [Zo,Yc];exact l y) x;rw [Zah,Bm]at this;rw [Yc,this]
  exact h2.congr λx=>(Ij _ x).symm
 have q:(Oe F o).length=1:=by have:=aF.2 Z;omega
 refine⟨q,?_⟩;rw [Yqd M a3 q,Zq6 s2]at N;exact N.symm
theorem Zf9{a b:List Int}(h:Sim a b):∃c d:Int,c≠0/\d≠0/\∀x:Rat,(c:Rat)*Zf a x=(d:Rat)*Zf b x:=by obtain⟨c,d,g,j,e⟩:=h;exact⟨c,d,g,j,λx=>by rw [<-Zo,<-Zo];exact Oy x _ _ λi=>by rw [Qq,Qq];exact e i⟩
theorem Ff(h:x≠0):0<x*x:=by
 rcases(show 0<x\/x<0 by grind)with q|q
 .exact bC q q
 .have:=bC (a:=-x) (b:=-x) O4 O4;grind
theorem Pz{c:Int}(h:c≠0):(c:Rat)≠0:=λe=>h (by exact_mod_cast e)
theorem Zgr{e g c d:Rat}(j:c≠0)(k:d≠0)(l:c*e=d*a)(m:c*g=d*b)(h:a*b<0):e*g<0:=by
 have n:(c*c)*(e*g)=(d*d)*(a*b):=O4;have r:=Ff j;have i:=Ff k;rcases(show e*g<0\/0<=e*g by grind)with q|q
 .exact q
 .have w:=aL (a:=c*c) (b:=e*g) O4 q;have y:=bC (a:=d*d) (b:=-(a*b)) i O4;grind
theorem Yjy{e g c d:Rat}(h:e*(c*c)*(g*(d*d))<0):e*g<0:=by
 rcases(show e*g<0\/0<=e*g by grind)with q|q
 .exact q
 .have j:0<=c*d*(c*d):=by
   by_cases i:c*d=0
   .rw [i];grind
   .exact dE (Ff i)
  have k:=aL q j;grind
theorem Zpe{n:Nat}(i:Tr p)(k:p≠[])(hs:Sz n p)(M:n<=220)(I:p.length<=11)(D:p.length<=F+1)(ho:o=Bb F p.length (Xa p))(g:Tr o)(Q:o≠[])(y:Ax F o)(a0:a<b)(h1:Dl p.length p a=1)(h2:Zf p b<0):vch F o b<vch F o a:=by
 have m:=Dp.start i k;have h:=(m.ok i k hs M I D).2;have j:Dd F p:=by unfold Dd at h ⊢;rwa [m.2.2.1]at h
 obtain⟨⟨B,w⟩,z⟩:=Fy i k hs M I D p.length (Xa p) m (by rw [Pr i];exact aI _);rw [<-ho]at w z;rw [Cg m.2.2.1]at z;obtain⟨-,P⟩:=Zu9 i k hs M I D g Q y.1.2.2.1 j z;obtain⟨δ,d1,Z⟩:=Ay p.length p a (aI _);obtain⟨s,W,s2,Y⟩:∃s,a<s/\s<=a+δ/\s<b:=by
  rcases(show a+δ<b\/b<=a+δ by grind)with q|q
  .exact⟨a+δ,O4,O4,q⟩
  .exact⟨(a+b)/2,O4,O4,O4⟩
 have N:0<Zf p s:=by
  have:=Z s W s2;rw [h1]at this;rcases Pj (Zf p s)with⟨r,l⟩|⟨r,l⟩|⟨r,l⟩
  .exact r
  .rw [l]at this;exact absurd this O3
  .rw [l]at this;exact absurd this O3
 have k1:Zf p s*Zf p b<0:=by have:=bC (a:=Zf p s) (b:=-Zf p b) N O4;grind
 obtain⟨c,d,hc,hd,e⟩:=Zf9 ((Hm (Zw p)).trans (Ql i):Sim (Xa p) p);have S:Zf (Xa p) s*Zf (Xa p) b<0:=Zgr (Pz hc) (Pz hd) (e s) (e b) k1;rw [w s,w b]at S;have k3:=Yjy S;obtain⟨c',d',G,H,R⟩:=Zf9 ((Hm (Zw o)).trans (Ql g):Sim (Xa o) o);have V:Zf (Xa o) s*Zf (Xa o) b<0:=Zgr (Pz G) (Pz H) (R s) (R b) k3;rw [<-P]at V;have m1:=Zlc g Q y (dE W);rcases iH (vch F o b) (vch F o s)with q|q
 .exact Int.lt_of_lt_of_le q m1
 .exfalso;have hz:Zf (sqf F o) s≠0:=λe9=>by rw [e9]at V;grind
  have:=Zel g Q y (dE Y) q hz b (dE Y) O4;grind
theorem Zht:∀(n:Nat) (p:List Int) (x:Rat),Tr p->p≠[]->p.length<=n->Dl n p x≠0
 | 0,p,x,_,i,r=>absurd (aC O) i
 | n+1,p,x,l,i,r=>by
  unfold Dl;by_cases h:Zf p x≠0
  .rw [aG h];rcases Pj (Zf p x)with⟨j,g⟩|⟨j,g⟩|⟨j,g⟩
   .rw [g];decide
   .rw [g];decide
   .exact absurd j h
  .rw [aD h];have m:Zf p x=0:=fI.1 h;have d:=Oc p;refine Zht n (Yy p) x (Nm l) (λe=>?_) O;rw [e]at d;have w:=aF.2 i;have k:p.length=1:=by simp at d;omega
   match p,k with
   | [c],_=>
    have q:c≠0:=l.mem O7;rw [Py]at m;exact Pz q m
theorem Zth(n:Nat)(p:List Int)(x:Rat):-1<=Dl n p x/\Dl n p x<=1:=by
 induction n generalizing p with
 | zero=>show -1<=(0:Int)/\(0:Int)<=1;decide
 | succ n c=>unfold Dl;split;exact Yic;exact c _
def Zas(F:Nat)(o:List Int)(a b:Rat):Prop:=0<vch F o a-vch F o b-(if Zf o b=0 then 1 else 0)
theorem Yka{n:Nat}(g:Tr p)(i:p≠[])(hs:Sz n p)(G:n<=220)(D:p.length<=11)(z:p.length<=F+1)(H:o=Bb F p.length (Xa p))(m:Tr o)(S:o≠[])(P:Ax F o)(k:a<b) :
  (Zf p a<0\/Zf p b<0\/Dl p.length p a<0\/Zas F o a b)↔(Dl p.length p a<0\/Zas F o a b):=by
 constructor
 .rintro(h|h|h|h)
  .left;rw [Zzt p.length p a O4 (aI _),Zo0 h];decide
  .have r:=Zth p.length p a;have r0:=Zht p.length p a g i (aI _);rcases(show Dl p.length p a<0\/Dl p.length p a=1 by omega)with j|j
   .exact .inl j
   .right;have W:=Zpe g i hs G D z H m S P k j h;have Q:=Dp.start g i;obtain⟨⟨B,y⟩,-⟩:=Fy g i hs G D z p.length (Xa p) Q (by rw [Pr g];exact aI _);rw [<-H]at y;obtain⟨c,d,V,R,e⟩:=Zf9 ((Hm (Zw p)).trans (Ql g):Sim (Xa p) p);have l:Zf o b≠0:=λI=>by
     have w:(c:Rat)*Zf (Xa p) b=(d:Rat)*Zf p b:=e b;rw [y b,I]at w;have M:=Pz R;have N:(d:Rat)*Zf p b=0:=by rw [<-w];grind
     rcases fD.1 N with q|q
     .exact M q
     .rw [q]at h;grind
    unfold Zas;rw [aD l];omega
  .exact .inl h
  .exact .inr h
 .rintro(h|h)
  .exact .inr (.inr (.inl h))
  .exact .inr (.inr (.inr h))
theorem Yfk(p:List Int)(x:Rat)(h:Zf p x≠0):∃δ:Rat,0<δ/\∀y,x-δ<=y->y<=x->Ep (Zf p y)=Ep (Zf p x):=by
 obtain⟨L,r,k⟩:=Bl (x-1) x p;have i:0<(if 0<Zf p x then Zf p x else -Zf p x):=by split<;>grind
 obtain⟨δ,j,m,g⟩:=Gh (show(0:Rat)<1 by decide) (show 0<L+1 by grind) (show 0<(if 0<Zf p x then Zf p x else -Zf p x)/2 by grind);refine⟨δ,j,λy n q=>?_⟩;have l:=k y x O4 O4 O4;have b:=aL (a:=L) (b:=δ-(x-y)) O4 O4;have c:L*(x-y)<=δ*(L+1):=O4;rcases Pj (Zf p x)with⟨d,e⟩|⟨d,e⟩|⟨d,e⟩
 .rw [aG d]at g i;rw [e];exact Yat O4
 .rw [aD O4]at g i;rw [e];exact Zo0 O4
 .exact absurd d h
theorem rsg_1(h:Ep x=1):0<x:=by
 rcases Pj x with⟨d,c⟩|⟨d,c⟩|⟨d,c⟩
 .exact d
 .rw [c]at h;exact absurd h O3
 .rw [c]at h;exact absurd h O3
theorem Zqh(h:Ep x=-1):x<0:=by
 rcases Pj x with⟨d,c⟩|⟨d,c⟩|⟨d,c⟩
 .rw [c]at h;exact absurd h O3
 .exact d
 .rw [c]at h;exact absurd h O3
def Zzw(p:List Int)(a b:Rat):Prop:=∃x,a<=x/\x<=b/\Zf p x<0
theorem Ylq   (hx:Tr xs) (h0:xs≠[]) (hC:Ax F xs) {σ:Rat} (Y:σ≠0) (S:a<b)
  (c:∀x,a<=x->x<b->∃δ:Rat,0<δ/\∀y,x<y->y<=x+δ->y<=b->0<σ*Zf (sqf F xs) y) :
  vch F xs a-vch F xs b<=(if Zf (sqf F xs) b=0 then 1 else 0):=by
 obtain⟨h,h1,R⟩:=Znk hx h0 hC a b;have H:∀x,a<=x->x<b->0<=σ*Zf (sqf F xs) x:=λx ha hb=>by
  rcases(show 0<=σ*Zf (sqf F xs) x\/σ*Zf (sqf F xs) x<0 by grind)with q|q
  .exact q
  .exfalso;have g:Zf (sqf F xs) x≠0:=λe=>by rw [e]at q;grind
   obtain⟨δ,d1,D⟩:=c x ha hb;obtain⟨ε,e1,Q⟩:=Zpf (sqf F xs) x g;obtain⟨y,N,P,y3,y4⟩:∃y,x<y/\y<=x+δ/\y<=x+ε/\y<=b:=by
    rcases(show δ<=ε\/ε<=δ by grind)with w|w
    .rcases(show x+δ<=b\/b<=x+δ by grind)with v|v
     .exact⟨x+δ,O4,O4,O4,v⟩
     .exact⟨b,O4,O4,O4,O4⟩
    .rcases(show x+ε<=b\/b<=x+ε by grind)with v|v
     .exact⟨x+ε,O4,O4,O4,v⟩
     .exact⟨b,O4,O4,O4,O4⟩
   have Z:=D y N P y4;have k:=Q y N y3;rcases Pj (Zf (sqf F xs) x)with⟨i,j⟩|⟨i,j⟩|⟨i,j⟩
   .rw [j]at k;have I:=rsg_1 k;rcases(show σ<0\/0<σ by grind)with s|s
    .have:=bC (a:=-σ) (b:=Zf (sqf F xs) y) O4 I;grind
    .have:=bC s i;grind
   .rw [j]at k;have I:=Zqh k;rcases(show σ<0\/0<σ by grind)with s|s
    .have:=bC (a:=-σ) (b:=-Zf (sqf F xs) x) O4 O4;grind
    .have:=bC (a:=σ) (b:=-Zf (sqf F xs) y) s O4;grind
   .exact g i
 have V:0<=σ*Zf (sqf F xs) b:=by
  rcases(show 0<=σ*Zf (sqf F xs) b\/σ*Zf (sqf F xs) b<0 by grind)with q|q
  .exact q
  .exfalso;have g:Zf (sqf F xs) b≠0:=λe=>by rw [e]at q;grind
   obtain⟨ε,e1,Q⟩:=Yfk (sqf F xs) b g;obtain⟨y,N,P,y3⟩:∃y,a<=y/\y<b/\b-ε<=y:=by
    rcases(show a<=b-ε\/b-ε<=a by grind)with v|v
    .exact⟨b-ε,v,O4,O4⟩
    .exact⟨a,O4,S,v⟩
   obtain⟨δ,d1,D⟩:=c y N P;obtain⟨z,z1,z2,r⟩:∃z,y<z/\z<=y+δ/\z<=b:=by
    rcases(show y+δ<=b\/b<=y+δ by grind)with v|v
    .exact⟨y+δ,O4,O4,v⟩
    .exact⟨b,P,O4,O4⟩
   have Z:=D z z1 z2 r;have k:=Q z O4 r;rcases Pj (Zf (sqf F xs) b)with⟨i,j⟩|⟨i,j⟩|⟨i,j⟩
   .rw [j]at k;have I:=rsg_1 k;rcases(show σ<0\/0<σ by grind)with s|s
    .have:=bC (a:=-σ) (b:=Zf (sqf F xs) z) O4 I;grind
    .have:=bC s i;grind
   .rw [j]at k;have I:=Zqh k;rcases(show σ<0\/0<σ by grind)with s|s
    .have:=bC (a:=-σ) (b:=-Zf (sqf F xs) b) O4 O4;grind
    .have:=bC (a:=σ) (b:=-Zf (sqf F xs) z) s O4;grind
   .exact g i
 have d:∀u v,a<=u->u<=v->v<=b->v-u<=h/2->vch F xs u-vch F xs v<=(if v=b/\Zf (sqf F xs) b=0 then 1 else 0):=λu v l M B c4=>by
  have e:=R u v l M B O4;have e':vch F xs u-vch F xs v=crs (Zf (sqf F xs)) u v:=e;rw [e'];unfold crs;by_cases G:Zf (sqf F xs) u≠0/\Zf (sqf F xs) u*Zf (sqf F xs) v<=0
  .rw [aG G];have W:u<b:=by
    rcases(show u<b\/u=b by grind)with q|q
    .exact q
    .exfalso;have:v=u:=O4;subst this;have:=Ff G.1;grind
   have g1:=H u l W;have g2:0<=σ*Zf (sqf F xs) v:=by
    rcases(show v<b\/v=b by grind)with q|q
    .exact H v O4 q
    .rw [q];exact V
   have m:Zf (sqf F xs) v=0:=by
    rcases(show Zf (sqf F xs) v=0\/Zf (sqf F xs) v≠0 by grind)with q|q
    .exact q
    .exfalso;have m1:=aL g1 g2;have m2:=Ff Y;have m3:(σ*σ)*(Zf (sqf F xs) u*Zf (sqf F xs) v)>=0:=O4;rcases(show Zf (sqf F xs) u*Zf (sqf F xs) v<0\/Zf (sqf F xs) u*Zf (sqf F xs) v=0 by grind)with w|w
     .have:=bC m2 (show 0 < -(Zf (sqf F xs) u*Zf (sqf F xs) v) by grind);grind
     .rcases fD.1 w with z|z
      .exact G.1 z
      .exact q z
   rcases(show v<b\/v=b by grind)with q|q
   .exfalso;obtain⟨δ,d1,D⟩:=c v O4 q;obtain⟨z,z1,z2,r,z4⟩:∃z,v<z/\z<=v+δ/\z<=b/\z-v<=h/2:=by
     rcases(show δ<=h/2\/h/2<=δ by grind)with w|w
     .rcases(show v+δ<=b\/b<=v+δ by grind)with t|t
      .exact⟨v+δ,O4,O4,t,O4⟩
      .exact⟨b,q,O4,O4,O4⟩
     .rcases(show v+h/2<=b\/b<=v+h/2 by grind)with t|t
      .exact⟨v+h/2,O4,O4,t,O4⟩
      .exact⟨b,q,O4,O4,O4⟩
    have Z:=D z z1 z2 r;have a1:=R u z l O4 r O4;have a2:=R v z O4 O4 r O4;have r1:crs (Zf (sqf F xs)) u z=0:=by
     unfold crs;rw [aD];rintro⟨w1,w2⟩;have g3:0<σ*Zf (sqf F xs) u:=by
      rcases(show σ*Zf (sqf F xs) u=0\/0<σ*Zf (sqf F xs) u by grind)with t|t
      .rcases fD.1 t with t|t
       .exact absurd t Y
       .exact absurd t w1
      .exact t
     have m1:=bC g3 Z;have m2:=Ff Y;have m3:0<(σ*σ)*(Zf (sqf F xs) u*Zf (sqf F xs) z):=O4;have m4:=aL (a:=σ*σ) (b:=-(Zf (sqf F xs) u*Zf (sqf F xs) z)) O4 O4;grind
    have r2:crs (Zf (sqf F xs)) v z=0:=by unfold crs;rw [aD];rintro⟨w1,w2⟩;exact w1 m
    have r3:crs (Zf (sqf F xs)) u v=1:=by unfold crs;rw [aG G]
    rw [r1]at a1;rw [r2]at a2;rw [r3]at e;omega
   .rw [q]at m;rw [aG ⟨q,m⟩];decide
  .rw [aD G];split<;>decide
 have a0:∀n:Nat,∀u,a<=u->u<=b->b-u<=(n:Rat)*(h/2)->vch F xs u-vch F xs b<=(if Zf (sqf F xs) b=0 then 1 else 0):=λn=>by
  induction n with
  | zero=>
   intro u l M B;have:u=b:=by push_cast at B;grind
   subst this;rw [Int.sub_self];split<;>decide
  | succ n ih=>
   intro u l M B;push_cast at B;by_cases hy:b-u<=h/2
   .have:=d u b l M O4 hy;by_cases g:Zf (sqf F xs) b=0
    .rw [aG ⟨rfl,g⟩]at this;rw [aG g];exact this
    .rw [aD (λe=>g e.2)]at this;rw [aD g];exact this
   .have i1:=ih (u+h/2) O4 O4 O4;have i2:=d u (u+h/2) l O4 O4 O4;rw [aD (λe=>by have:=e.1;grind)]at i2;generalize (if Zf (sqf F xs) b=0 then(1:Int)else 0)=t at *;omega
 obtain⟨n,hn⟩:=Zhs (b-a) (show 0<h/2 by grind);exact a0 n a O4 O4 hn
structure Odp (F n:Nat) (p o:List Int):Prop where
 tr:Tr p
 ne:p≠[]
 sz:Sz n p
 hn:n<=220
 hl:p.length<=11
 hF:p.length<=F+1
 eq:o=Bb F p.length (Xa p)
 otr:Tr o
 one:o≠[]
 ok:Ax F o
theorem Odp.sq{n:Nat}(h:Odp F n p o):∃(c d:Int) (B:List Int),c≠0/\d≠0/\∀x:Rat,(d:Rat)*Zf p x=(c:Rat)*(Zf o x*(Zf B x*Zf B x)):=by have i:=Dp.start h.tr h.ne;obtain⟨⟨B,g⟩,-⟩:=Fy h.tr h.ne h.sz h.hn h.hl h.hF p.length (Xa p) i (by rw [Pr h.tr];exact aI _);rw [<-h.eq]at g;obtain⟨c,d,j,k,e⟩:=Zf9 ((Hm (Zw p)).trans (Ql h.tr):Sim (Xa p) p);exact⟨c,d,B,j,k,λx=>by rw [<-g x];exact(e x).symm⟩
theorem Odp.sqf{n:Nat}(h:Odp F n p o):Go.Sky.sqf F o=Xa o:=by
 have e:=Dp.start h.tr h.ne;have c:=(e.ok h.tr h.ne h.sz h.hn h.hl h.hF).2;have d:Dd F p:=by unfold Dd at c ⊢;rwa [e.2.2.1]at c
 obtain⟨-,g⟩:=Fy h.tr h.ne h.sz h.hn h.hl h.hF p.length (Xa p) e (by rw [Pr h.tr];exact aI _);rw [<-h.eq]at g;rw [Cg e.2.2.1]at g;exact(Zu9 h.tr h.ne h.sz h.hn h.hl h.hF h.otr h.one h.ok.1.2.2.1 d g).2
theorem Odp.srt{n:Nat}(h:Odp F n p o):∃c d:Int,c≠0/\d≠0/\∀x:Rat,(c:Rat)*Zf (Go.Sky.sqf F o) x=(d:Rat)*Zf o x:=by rw [h.sqf];exact Zf9 ((Hm (Zw o)).trans (Ql h.otr):Sim (Xa o) o)
theorem Odp.zero{n:Nat}(h:Odp F n p o)(x:Rat):Zf (Go.Sky.sqf F o) x=0↔Zf o x=0:=by
 obtain⟨c,d,i,j,e⟩:=h.srt;have g:=e x;constructor
 .intro z;rw [z]at g;rcases fD.1 (show(d:Rat)*Zf o x=0 by grind)with q|q
  .exact absurd q (Pz j)
  .exact q
 .intro z;rw [z]at g;rcases fD.1 (show(c:Rat)*Zf (Go.Sky.sqf F o) x=0 by grind)with q|q
  .exact absurd q (Pz i)
  .exact q
theorem Odp.nz{n:Nat}(h:Odp F n p o)(j:Zf p x≠0):Zf o x≠0:=λz=>by
 obtain⟨c,d,B,k,i,e⟩:=h.sq;have g:=e x;rw [z]at g;rcases fD.1 (show(d:Rat)*Zf p x=0 by grind)with q|q
 .exact Pz i q
 .exact j q
theorem Odp.opp{n:Nat}(h:Odp F n p o){y:Rat}(j:Zf p x*Zf p y<0):Zf o x*Zf o y<0/\Zf (Go.Sky.sqf F o) x*Zf (Go.Sky.sqf F o) y<0:=by obtain⟨c,d,B,m,q,e⟩:=h.sq;have r:(Zf o x*(Zf B x*Zf B x))*(Zf o y*(Zf B y*Zf B y))<0:=Zgr (Pz m) (Pz q) (e x).symm (e y).symm j;have l:=Yjy r;obtain⟨w,z,g,i,k⟩:=h.srt;exact⟨l,Zgr (Pz g) (Pz i) (k x) (k y) l⟩
theorem Odp.sem{n:Nat}(h:Odp F n p o)(i:a<b):(Dl p.length p a<0\/Zas F o a b)↔Zzw p a b:=by
 have j:=Yka h.tr h.ne h.sz h.hn h.hl h.hF h.eq h.otr h.one h.ok i;constructor
 .rintro(k|k)
  .obtain⟨δ,M,m⟩:=Ay p.length p a (aI _);have r:=Zth p.length p a;have hm:Dl p.length p a=-1:=O;rcases(show a+δ<=b\/b<=a+δ by grind)with q|q
   .exact⟨a+δ,O4,q,Zqh (by rw [m (a+δ) O4 O4,hm])⟩
   .exact⟨b,O4,O4,Zqh (by rw [m b i q,hm])⟩
  .rcases Classical.em (Zzw p a b)with q|q
   .exact q
   .exfalso;have S:∀x,a<=x->x<=b->0<=Zf p x:=λx u v=>by
     rcases(show 0<=Zf p x\/Zf p x<0 by grind)with w|w
     .exact w
     .exact absurd ⟨x,u,v,w⟩ q
    have l:∀x,a<=x->x<b->∃δ:Rat,0<δ/\∀y,x<y->y<=x+δ->y<=b->0<Zf p y:=λx u v=>by
     obtain⟨δ,M,m⟩:=Ay p.length p x (aI _);have r:=Zth p.length p x;have r0:=Zht p.length p x h.tr h.ne (aI _);refine⟨δ,M,λy G H I=>?_⟩;have s:=m y G H;rcases Pj (Zf p y)with⟨N,P⟩|⟨N,P⟩|⟨N,P⟩
     .exact N
     .have:=S y O4 I;grind
     .rw [P]at s;exact absurd s.symm r0
    obtain⟨δ,M,m⟩:=l a O4 i;obtain⟨z,z1,z2,z3⟩:∃z,a<z/\z<=a+δ/\z<=b:=by
     rcases(show a+δ<=b\/b<=a+δ by grind)with w|w
     .exact⟨a+δ,O4,O4,w⟩
     .exact⟨b,i,w,O4⟩
    have hz:=m z z1 z2 z3;have hσ:Zf (Go.Sky.sqf F o) z≠0:=λe=>h.nz (x:=z) O4 ((h.zero z).1 e);have Z:=Ylq h.otr h.one h.ok (σ:=Zf (Go.Sky.sqf F o) z) hσ i (λx u v=>by
     obtain⟨ε,e1,e2⟩:=l x u v;refine⟨ε,e1,λy G H I=>?_⟩;have hy:=e2 y G H I;have V:Zf (Go.Sky.sqf F o) y≠0:=λe=>h.nz (x:=y) O4 ((h.zero y).1 e);rcases(show 0<Zf (Go.Sky.sqf F o) z*Zf (Go.Sky.sqf F o) y\/Zf (Go.Sky.sqf F o) z*Zf (Go.Sky.sqf F o) y<0\/Zf (Go.Sky.sqf F o) z*Zf (Go.Sky.sqf F o) y=0 by grind)with w|w|w
     .exact w
     .exfalso;obtain⟨c,d,B,hc,hd,e⟩:=h.sq;obtain⟨c',d',Q,R,Y⟩:=h.srt;have w1:Zf o z*Zf o y<0:=Zgr (Pz R) (Pz Q) (Y z).symm (Y y).symm w;have p1:=bC hz hy;have q1:((d:Rat)*(d:Rat))*(Zf p z*Zf p y)=((c:Rat)*(c:Rat))*((Zf o z*Zf o y)*((Zf B z*Zf B y)*(Zf B z*Zf B y))):=by
       have a1:=e z;have a2:=e y;have:((d:Rat)*Zf p z)*((d:Rat)*Zf p y)=((c:Rat)*(Zf o z*(Zf B z*Zf B z)))*((c:Rat)*(Zf o y*(Zf B y*Zf B y))):=by rw [a1,a2]
       grind
      have D:=bC (Ff (Pz hd)) p1;have q3:0<=(Zf B z*Zf B y)*(Zf B z*Zf B y):=by
       by_cases t:Zf B z*Zf B y=0
       .rw [t];grind
       .exact dE (Ff t)
      have q4:=aL (dE (Ff (Pz hc))) (aL (show 0<=-(Zf o z*Zf o y) by grind) q3);grind
     .rcases fD.1 w with t|t
      .exact absurd t hσ
      .exact absurd t V)
    unfold Zas at k;by_cases g:Zf o b=0
    .rw [aG g]at k;rw [aG ((h.zero b).2 g)]at Z;omega
    .rw [aD g]at k;rw [aD (λe=>g ((h.zero b).1 e))]at Z;omega
 .rintro⟨x,x1,x2,W⟩;rcases(show x=a\/x=b\/(a<x/\x<b) by grind)with q|q|⟨q1,D⟩
  .subst q;exact j.1 (.inl W)
  .subst q;exact j.1 (.inr (.inl W))
  .have r:=Zth p.length p a;have r0:=Zht p.length p a h.tr h.ne (aI _);rcases(show Dl p.length p a<0\/Dl p.length p a=1 by omega)with k|k
   .exact .inl k
   .right;have hv:=Zpe h.tr h.ne h.sz h.hn h.hl h.hF h.eq h.otr h.one h.ok q1 k W;have m1:=Zlc h.otr h.one h.ok (dE D);unfold Zas;by_cases g:Zf o b=0
    .rw [aG g];have hx:Zf (Go.Sky.sqf F o) x≠0:=λe=>h.nz (x:=x) O4 ((h.zero x).1 e);rcases iH (vch F o b) (vch F o x)with w|w
     .omega
     .exfalso;have:=Zel h.otr h.one h.ok (dE D) w hx b (dE D) O4;rw [(h.zero b).2 g]at this;grind
    .rw [aD g];omega
theorem Zv1(g:Rat->Rat){h:Rat}(j:0<h):∀(n:Nat) (u v:Rat),u<v->v-u<=(n:Rat)*h->g u*g v<0->∃x y,u<=x/\x<y/\y<=v/\y-x<=h/\g x≠0/\g x*g y<=0
 | 0,u,v,a,b,_=>by push_cast at b;grind
 | n+1,u,v,a,b,c=>by
  push_cast at b;have d:g u≠0:=λe=>by rw [e]at c;grind
  by_cases i:v-u<=h
  .exact⟨u,v,O4,a,O4,i,d,O4⟩
  .rcases(show g u*g (u+h)<=0\/0<g u*g (u+h) by grind)with q|q
   .exact⟨u,u+h,O4,O4,O4,O4,d,q⟩
   .have k:g (u+h)*g v<0:=by
     have D:=Ff d;rcases(show g (u+h)*g v<0\/0<=g (u+h)*g v by grind)with w|w
     .exact w
     .have H:=bC q (show 0 < -(g u*g v) by grind);have I:=aL (dE D) w;grind
    obtain⟨x,y,G,l,m,r,z,B⟩:=Zv1 g j n (u+h) v O4 O4 k;exact⟨x,y,O4,l,m,r,z,B⟩
theorem Zpc{c:Rat}(h:a*b<0)(d:a-b<=c)(e:b-a<=c):-c<=a/\a<=c:=by
 rcases(show 0<a\/a<0\/a=0 by grind)with q|q|q
 .have:b<0:=by
   rcases(show b<0\/0<=b by grind)with w|w
   .exact w
   .have:=aL (dE q) w;grind
  grind
 .have:0<b:=by
   rcases(show 0<b\/b<=0 by grind)with w|w
   .exact w
   .have:=aL (show 0<=-a by grind) (show 0<=-b by grind);grind
  grind
 .rw [q]at h;grind
theorem Zwh(hx:Tr xs)(h0:xs≠[])(hC:Ax F xs)(ho:Tr o)(o0:o≠[])(hE:Ed o (sqf F xs))(r:u<v)(hu:Zf (sqf F xs) u≠0)(h:Zf o u*Zf o v<0):vch F xs v<vch F xs u:=by
 rcases iH (vch F xs v) (vch F xs u)with q|q
 .exact q
 .exfalso;have hk:=Zel hx h0 hC (dE r) q hu;obtain⟨k,w,R,B⟩:=hE;have m:=Pz R;have l:∀d,Tr d->Ed d o->Ed d (tzl w)->d.length<=1:=λd hd e1 M=>by
   obtain⟨g,s1,I,r1⟩:=e1;obtain⟨i,s2,c2,r2⟩:=M;refine Zf8 hx h0 hC.1.2.2.1 hd ⟨k*g,lmul w s1,bJ R I,λx=>?_⟩ ⟨k*g*i,Mu ((lmul (ld w) s1).map λa=>i*a) ((lmul s2 (ld o)).map λa=>g*a),bJ (bJ R I) c2,λx=>?_⟩
   .rw [Yc];have Y:=B x;have j:=r1 x;push_cast;grind
   .rw [Xp,Zo,Zo,Yc,Yc,Ij];have W:=Ct ((sqf F xs).map λa=>k*a) (lmul w o) (λy=>by rw [Zo,Yc];exact B y) x;rw [Zah,Bm]at W;have j:=r1 x;have Z:=r2 x;rw [Ms]at Z;push_cast;have b1:(k:Rat)*g*i*Zf (ld (sqf F xs)) x=(g:Rat)*i*(Zf (ld w) x*Zf o x+Zf w x*Zf (ld o) x):=by rw [<-W];grind
    rw [b1];have b2:(g:Rat)*i*(Zf (ld w) x*Zf o x+Zf w x*Zf (ld o) x)=(i:Rat)*(Zf (ld w) x*((g:Rat)*Zf o x))+(g:Rat)*(((i:Rat)*Zf w x)*Zf (ld o) x):=O4;rw [b2,j,Z];grind
  obtain⟨ε,e1,M⟩:=Yc4 ho (Qi w) o0 l u v;obtain⟨G,l1,l2⟩:=Bl u v o;obtain⟨H,m1,m2⟩:=Bl u v w;obtain⟨z,d1,-,d3⟩:=Gh (show(0:Rat)<1 by decide) (show 0<G+H by grind) (show 0<ε/2 by grind);obtain⟨n,hn⟩:=Zhs (v-u) d1;obtain⟨x,y,D,x2,V,x4,x5,x6⟩:=Zv1 (Zf o) d1 n u v r hn h;have sx:=hk x D O4;have sy:=hk y O4 V;have ox:=B x;have oy:=B y;have Q:Zf o y≠0:=λe=>by
   rw [e]at oy;rcases fD.1 (show(k:Rat)*Zf (sqf F xs) y=0 by grind)with t|t
   .exact m t
   .rw [t]at sy;grind
  have N:Zf o x*Zf o y<0:=by
   rcases(show Zf o x*Zf o y<0\/Zf o x*Zf o y=0 by grind)with t|t
   .exact t
   .rcases fD.1 t with t|t
    .exact absurd t x5
    .exact absurd t Q
  have S:0<Zf (sqf F xs) x*Zf (sqf F xs) y:=by
   have Y:=bC sx sy;have j:=Ff hu;rcases(show 0<Zf (sqf F xs) x*Zf (sqf F xs) y\/Zf (sqf F xs) x*Zf (sqf F xs) y<=0 by grind)with t|t
   .exact t
   .have:=aL (dE j) (show 0<=-(Zf (sqf F xs) x*Zf (sqf F xs) y) by grind);grind
  have P:Zf w x*Zf w y<0:=by
   have Y:(k:Rat)*k*(Zf (sqf F xs) x*Zf (sqf F xs) y)=(Zf w x*Zf w y)*(Zf o x*Zf o y):=by
    have:((k:Rat)*Zf (sqf F xs) x)*((k:Rat)*Zf (sqf F xs) y)=(Zf w x*Zf o x)*(Zf w y*Zf o y):=by rw [ox,oy]
    grind
   have j:=bC (Ff m) S;rcases(show Zf w x*Zf w y<0\/0<=Zf w x*Zf w y by grind)with t|t
   .exact t
   .have:=aL t (show 0<=-(Zf o x*Zf o y) by grind);grind
  have I:=l2 x y D O4 V;have c2:=m2 x y D O4 V;have n1:=aL (a:=G) (b:=z-(y-x)) O4 O4;have n2:=aL (a:=H) (b:=z-(y-x)) O4 O4;have n3:=aL (a:=G) (b:=z) O4 O4;have n4:=aL (a:=H) (b:=z) O4 O4;obtain⟨b1,b2⟩:=Zpc (c:=ε/2) N O4 O4;obtain⟨b3,b4⟩:=Zpc (c:=ε/2) P O4 O4;rcases M x D O4 with t|t
  .unfold Big at t;grind
  .unfold Big at t;rw [Ms]at t;grind
theorem Zo3(i:Tr xs)(d:xs≠[])(e:Ax F xs)(c:u<v)(g:Zf (sqf F xs) u≠0)(h:Zf (sqf F xs) v=0):vch F xs v<vch F xs u:=by
 rcases iH (vch F xs v) (vch F xs u)with q|q
 .exact q
 .exfalso;have:=Zel i d e (dE c) q g v (dE c) O4;rw [h]at this;grind
theorem Odp.ed{n:Nat}(h:Odp F n p o):Ed o (Go.Sky.sqf F p):=by have c:=Dp.start h.tr h.ne;obtain⟨-,d⟩:=Fy h.tr h.ne h.sz h.hn h.hl h.hF p.length (Xa p) c (by rw [Pr h.tr];exact aI _);rw [<-h.eq]at d;rwa [Cg c.2.2.1]at d
theorem Yhg(i:Tr xs)(c:xs≠[])(d:Ax F xs)(x:Rat):Zf xs x=0↔Zf (sqf F xs) x=0:=by
 constructor
 .intro h;have j:(x.den:Int)≠0:=by exact_mod_cast x.den_nz
  have e:((x.num:Int):Rat)/((x.den:Int):Rat)=x:=by rw [<-Rat.divInt_eq_div];exact Rat.num_divInt_den x
  have:=Yhi i c d.1.2.2.1 j (r:=x.num) (by rw [e];exact h);rwa [e]at this
 .intro h;obtain⟨g,k⟩:=Ypl i c d.1.2.2.1;rw [k x,h];grind
theorem Yqj {n:Nat}  (h:Odp F n p o) (d:Ax F p) {K:Nat} {e:Nat} (j:∀u v:Rat,-(K:Rat)<=u->u<=v->v<=(K:Rat)->v-u<=1/((2^e:Nat):Rat)->vch F p u-vch F p v<=1)
   (h1:-(K:Rat)+1<=s) (H:t<=(K:Rat)) (hs:0<=Zf p s) (ht:0<=Zf p t) (N:Zzw p s t):1/((2^(e+1):Nat):Rat)<t-s:=by
 obtain⟨x,x1,x2,x3⟩:=N;have l:s<x:=by rcases(show s<x\/s=x by grind)with q|q;exact q;subst q;grind
 have m:x<t:=by rcases(show x<t\/x=t by grind)with q|q;exact q;subst q;grind
 obtain⟨f1,f2,f3,f4,f5,f6⟩:=Ou F h.tr h.ne d.1.2.2.1;have i:Zf (Go.Sky.sqf F p) x≠0:=λz=>by have:=(Yhg h.tr h.ne d x).2 z;grind
 rcases(show 1/((2^(e+1):Nat):Rat)<t-s\/t-s<=1/((2^(e+1):Nat):Rat) by grind)with q|q
 .exact q
 .exfalso;have P:=two_pow_pos e;have Q:=two_pow_pos (e+1);have D:((2^(e+1):Nat):Rat)=2*((2^e:Nat):Rat):=by rw [bX];push_cast;grind
  have hi:0<((2^e:Nat):Rat)⁻¹:=gK.2 P;have I:1/((2^(e+1):Nat):Rat)=((2^e:Nat):Rat)⁻¹/2:=by rw [D];grind
  have G:1/((2^e:Nat):Rat)=((2^e:Nat):Rat)⁻¹:=O4;have M:((2^e:Nat):Rat)⁻¹<=1:=by
   have Z:(1:Rat)<=((2^e:Nat):Rat):=by have:1<=2^e:=dQ e;exact_mod_cast this
   have g2:=aL (a:=((2^e:Nat):Rat)-1) (b:=((2^e:Nat):Rat)⁻¹) O4 O4;have g3:((2^e:Nat):Rat)*((2^e:Nat):Rat)⁻¹=1:=lO _ O4;grind
  obtain⟨u,u1,u2,u3⟩:∃u,s-((2^e:Nat):Rat)⁻¹/2<=u/\u<=s/\vch F p x<vch F p u:=by
   by_cases z:Zf (Go.Sky.sqf F p) s=0
   .obtain⟨δ,Y,B⟩:=Ay (Go.Sky.sqf F p).length (Go.Sky.sqf F p) (s-((2^e:Nat):Rat)⁻¹/2) (aI _);have r:=Zht (Go.Sky.sqf F p).length (Go.Sky.sqf F p) (s-((2^e:Nat):Rat)⁻¹/2) f2 f3 (aI _);obtain⟨u,S,V,W⟩:∃u,s-((2^e:Nat):Rat)⁻¹/2<u/\u<=s-((2^e:Nat):Rat)⁻¹/2+δ/\u<s:=by
     rcases(show s-((2^e:Nat):Rat)⁻¹/2+δ<s\/s<=s-((2^e:Nat):Rat)⁻¹/2+δ by grind)with w|w
     .exact⟨_,O4,gQ,w⟩
     .exact⟨s-((2^e:Nat):Rat)⁻¹/4,O4,O4,O4⟩
    have R:Zf (Go.Sky.sqf F p) u≠0:=λc=>by have:=B u S V;rw [c]at this;exact r this.symm
    have m1:=Zo3 h.tr h.ne d W R z;have m2:=Zlc h.tr h.ne d (dE l);exact⟨u,O4,O4,O⟩
   .have g:0<Zf p s:=by have:Zf p s≠0:=λc=>z ((Yhg h.tr h.ne d s).1 c);grind
    have k:=h.opp (x:=s) (y:=x) (by have:=bC g (show 0 < -Zf p x by grind);grind);exact⟨s,O4,O4,Zwh h.tr h.ne d h.otr h.one h.ed l z k.1⟩
  have u4:vch F p t<vch F p x:=by
   by_cases z:Zf (Go.Sky.sqf F p) t=0
   .exact Zo3 h.tr h.ne d m i z
   .have g:0<Zf p t:=by have:Zf p t≠0:=λc=>z ((Yhg h.tr h.ne d t).1 c);grind
    have k:=h.opp (x:=x) (y:=t) (by have:=bC g (show 0 < -Zf p x by grind);grind);exact Zwh h.tr h.ne d h.otr h.one h.ed m i k.1
  have:=j u t O4 O4 H O4;omega
end Go.Sky

