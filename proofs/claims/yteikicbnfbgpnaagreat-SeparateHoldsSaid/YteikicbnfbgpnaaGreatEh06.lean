/- Rules, arithmetic and contracts: part 7. No conditions but those that each theorem names. -/
import Derived.Test.YteikicbnfbgpnaaGreatEh05
set_option linter.all false
namespace Go.Sky
variable{xs a p t u b q:List Int}{z:R2}{K Q:Nat}{k:Int}
def vch(F:Nat)(xs:List Int)(x:Rat):Int:=vat ((chn F xs).map Zb) x
def cvc_v{F:Nat}(h:0<z.2):cvc F xs z=vch F xs (qv z):=Ypd h
def Sqn(P:R2->R2->Prop)(hi:Rat):Rat->List (R2×R2)->Prop
 | d,[]=>d<=hi
 | d,c::r=>d<=qv c.1/\qv c.1<qv c.2/\P c.1 c.2/\Sqn P hi (qv c.2) r
theorem Sqn.le{P:R2->R2->Prop}{hi:Rat} : ∀{lo:Rat} {l:List (R2×R2)},Sqn P hi lo l->lo<=hi
 | lo,[],h=>h
 | lo,c::r,h=>by have:=Sqn.le h.2.2.2;have:=h.1;have:=h.2.1;grind
theorem Sqn.low{P:R2->R2->Prop}{hi:Rat}{lo d:Rat}(e:d<=lo):∀{l:List (R2×R2)},Sqn P hi lo l->Sqn P hi d l
 | [],h=>by have h:lo<=hi:=h;show d<=hi;grind
 | c::r,h=>⟨by have:=h.1;grind,h.2⟩
def Sqn.app{P:R2->R2->Prop}{d hi:Rat}{g:List (R2×R2)}(e:Sqn P hi d g):∀{lo:Rat} {f:List (R2×R2)},Sqn P d lo f->Sqn P hi lo (f ++ g)
 | lo,[],h=>e.low h
 | lo,c::r,h=>⟨h.1,h.2.1,h.2.2.1,Sqn.app e h.2.2.2⟩
theorem Zpd{a:R2}(j:0<a.2)(h:a.1.natAbs<=K):-(K:Rat)<=qv a/\qv a<=(K:Rat):=by
 obtain⟨g,i⟩:=Ykr h;have l:(1:Rat)<=(a.2:Rat):=by exact_mod_cast (show 1<=a.2 by omega)
 have c:(0:Rat)<=(K:Rat):=Gn (bJ _);have hi:=gX.2 (show 0<(a.2:Rat) by grind);have d:(a.2:Rat)*(a.2:Rat)⁻¹=1:=O5;unfold qv;rw [gF];have t1:=aM (a:=(a.2:Rat)⁻¹) (b:=(K:Rat)*a.2-a.1) O5 (by have:=aM (a:=(K:Rat)) (b:=(a.2:Rat)-1) c O5;grind);have t2:=aM (a:=(a.2:Rat)⁻¹) (b:=(K:Rat)*a.2+a.1) O5 (by have:=aM (a:=(K:Rat)) (b:=(a.2:Rat)-1) c O5;grind);have e:(a.2:Rat)⁻¹*((K:Rat)*a.2-a.1)=(K:Rat)*(a.2*(a.2:Rat)⁻¹)-a.1*(a.2:Rat)⁻¹:=O5;have f:(a.2:Rat)⁻¹*((K:Rat)*a.2+a.1)=(K:Rat)*(a.2*(a.2:Rat)⁻¹)+a.1*(a.2:Rat)⁻¹:=O5;rw [e,d]at t1;rw [f,d]at t2;constructor<;>grind
theorem Zb5 (n:Nat){a:R2}(c:0<a.2)(h:bl a.1.natAbs<=n)(i:bl a.2.natAbs<=n)(l:n<=65536) :
  ¬Kq a.1 a.2/\0<(slow a).2/\bl (slow a).1.natAbs<=n/\bl (slow a).2.natAbs<=n/\qv (slow a)=qv a:=by
 obtain⟨f1,f2,f3,f4,f5,f6⟩:=Zpz (x:=a.1) (y:=a.2) (X:=a.1) (Y:=a.2) c c rfl h i l;refine⟨f1,f3,f4,f5,?_⟩;have r1:=Hu c;have r2:=Hu f3;have j:((Fq a.1 a.2:Int):Rat)*(a.2:Rat)=(a.1:Rat)*((Gv a.1 a.2:Int):Rat):=by exact_mod_cast f6
 show((Fq a.1 a.2:Int):Rat)/((Gv a.1 a.2:Int):Rat)=(a.1:Rat)/(a.2:Rat);generalize ((Fq a.1 a.2:Int):Rat)=N at *;generalize ((Gv a.1 a.2:Int):Rat)=D at *;generalize (a.1:Rat)=x at *;generalize (a.2:Rat)=y at *;have:N/D*(D*y)=x/y*(D*y):=by have d:N/D*(D*y)=N*y:=O5;have e:x/y*(D*y)=x*D:=O5;rw [d,e,j]
 have m:=aV r2 r1;have f:N/D=N/D*(D*y)*(D*y)⁻¹:=O5;have g:x/y=x/y*(D*y)*(D*y)⁻¹:=O5;rw [f,this,<-g]
theorem sep_of  {F A e:Nat} (x:Tr xs) (f:xs≠[]) (n:Bv F xs) (o:0<K) (m:0<A) (y:∀i,(cf (sqf F xs) i).natAbs<=A) (B:∀i,(cf (Xa (sqf F xs)) i).natAbs<=A)
  (hs:2<=(sqf F xs).length->Zyz K A (sqf F xs).length e=true) (u v:Rat) (j:-(K:Rat)<=u) (c:u<=v) (l:v<=(K:Rat)) (w:v-u<=1/((2^e:Nat):Rat)):vch F xs u-vch F xs v<=1:=by
 by_cases d:2<=(sqf F xs).length
 .have h:=Ypp x f n o m rfl d y B (hs d) j c l w;show vat _ u-vat _ v<=1;rw [h];unfold crs;split<;>decide
 .have D:=Np (sqf F xs);have s:Xa (sqf F xs)=[]:=aF O1;have r:chn F xs=[sqf F xs]:=by unfold chn;rw [s,Yc2,Bf]
  unfold vch vat;rw [r];have r1:=Zhu (([Zb (sqf F xs)]).map λg=>Ei (g u));have r2:=Zhu (([Zb (sqf F xs)]).map λg=>Ei (g v));simp only [bT,jM,eA,lK]at r1 r2 ⊢;omega
theorem Sqn.mem{P:R2->R2->Prop}{hi:Rat} : ∀{lo:Rat} {l:List (R2×R2)},Sqn P hi lo l->∀c∈l,P c.1 c.2
 | _,[],_,c,e=>by cases e
 | lo,d::r,h,c,e=>by
  rcases bB.1 e with rfl|e
  .exact h.2.2.1
  .exact Sqn.mem h.2.2.2 c e
theorem en_bl{d B:Nat}(h:En K Q d z)(g:0<Q)(s:Q*2^d<2^B)(v:K*(Q*2^d)<2^B):bl z.1.natAbs<=B/\bl z.2.natAbs<=B:=by
 obtain⟨j,i,w,y⟩:=h;have c:0<Q*2^d:=gV g (cH O3);have f:z.2.natAbs<=Q*2^d:=by have:=gP.2 i;rw [dK]at this;exact mQ c this
 have l:z.1.natAbs<=K*z.2.natAbs:=by
  have r:=Hu j;have e:(z.1:Rat)=qv z*z.2:=by unfold qv;grind
  have t1:=aM (a:=(K:Rat)-qv z) (b:=(z.2:Rat)) O5 O5;have t2:=aM (a:=(K:Rat)+qv z) (b:=(z.2:Rat)) O5 O5;have x:((K*z.2.natAbs:Nat):Int)=(K:Int)*z.2:=by push_cast;rw [lH O1]
  have n:((z.1:Int):Rat)<=(((K:Int)*z.2:Int):Rat):=by push_cast;grind
  have o:((-((K:Int)*z.2):Int):Rat)<=((z.1:Int):Rat):=by push_cast;grind
  have D:z.1<=(K:Int)*z.2:=by exact_mod_cast n
  have F:-((K:Int)*z.2)<=z.1:=by exact_mod_cast o
  omega
 have m:K*z.2.natAbs<=K*(Q*2^d):=bL _ f;exact⟨Zcw O1,Zcw O1⟩
theorem Yjl (e:Nat)(w:Nat)(B:Nat){n:Nat}(h:En (2^n) Q (e+w) z)(o:0<Q)(g:Q<2^(2*n))(r:3*n+1+(e+w)<=B):bl z.1.natAbs<=B/\bl z.2.natAbs<=B:=by
 have c:∀m,m<=B->2^m<=2^B:=λm h=>dO O3 h;have f:0<2^(e+w):=cH O3;have d:Q*2^(e+w)<2^(2*n)*2^(e+w):=eW g f;have j:2^n*(Q*2^(e+w))<2^n*(2^(2*n)*2^(e+w)):=kC d (cH O3);have i:2^(2*n)*2^(e+w)=2^(2*n+(e+w)):=(bX _ _ _).symm;have l:2^n*(2^(2*n)*2^(e+w))=2^(n+(2*n+(e+w))):=by rw [i,<-bX]
 rw [i]at d;rw [l]at j;exact en_bl h o (dI d (c _ O1)) (dI j (c _ O1))
theorem Ed.const{g:List Int}(h:Ed g a)(o:Tr g)(m:Tr a)(l:a≠[])(w:g.length=a.length):∃k c:Int,k≠0/\c≠0/\∀x:Rat,(k:Rat)*Zb a x=(c:Rat)*Zb g x:=by
 obtain⟨k,s,i,h⟩:=h;obtain⟨v,f,j⟩:=Zxd i o m l h;have e:=aG.2 f
 match hs:tzl s,e,j with
 | [c],_,_=>
  have n:c≠0:=by have:=(Qo s).mem f;rw [hs]at this;exact this
  refine⟨k,c,i,n,λx=>?_⟩;rw [h x,<-Ng s,hs,Pb]
 | c::d::r,_,h9=>simp at h9;omega
theorem Gu(p:List Int)(c:Int)(x:Rat):Zb (Zm p c) x=(c:Rat)*Zb p x:=by rw [<-Zi];exact Oh x _ _ λi=>by rw [Xk,Xz,dB]
theorem Zns{c:Int}(h:Tr p)(f:p≠[])(g:c≠0):Zm p c≠[]:=λe=>by have d:=Xk p c (p.length-1);rw [e,Zbo]at d;exact bE (h.mem f) g d.symm
theorem Ed.dv{g:List Int}(h:Ed g a):Dv g a:=by obtain⟨k,s,d,h⟩:=h;refine⟨k,s,d,λt=>?_⟩;have:=Om (p:=a.map λc=>k*c) (q:=Qn s g) (λx=>by rw [Zi,Yf];exact h x) t;rw [Xz,Iz]at this;exact this
theorem ed_cop{w s:List Int}(F:k≠0)(m:Tr t)(H:Tr w)(t0:t≠[])(D:∀d,Tr d->Ed d t->Ed d w->d.length<=1)(h:∀x:Rat,(k:Rat)*(Zb u x*Zb w x)=Zb s x*Zb t x):Ed t u:=by
 obtain⟨g,A,B,f,j,n,y⟩:=Zme w.length t w m H (aI _);have G:=D g f j n;have i:=(j.len f m t0).1
 match hgg:g,G,i with
 | [c],_,_=>
  have e:c≠0:=by have:=f.mem O8;exact this
  refine⟨k*c,Nx ((Qn A u).map λa=>k*a) (Qn B s),bE F e,λx=>?_⟩;rw [Xc,Zi,Yf,Yf];have l:=y x;rw [Pb]at l;have o:=h x;push_cast;rw [show(k:Rat)*c*Zb u x=k*(Zb u x*(c:Rat)) by grind,l];have v:(k:Rat)*(Zb u x*(Zb A x*Zb t x+Zb B x*Zb w x))=k*Zb A x*Zb u x*Zb t x+Zb B x*(k*(Zb u x*Zb w x)):=O5;rw [v,o];grind
 | c::d::r,h9,_=>simp at h9
def Pq(F:Nat)(p:List Int):List Int:=Mg F (Xb p) (Xa (Xb p))
def Ea(F:Nat)(p:List Int):Prop:=eok F (gA (Xb p) (Xa (Xb p))) (gB (Xb p) (Xa (Xb p)))
theorem Qr{F:Nat}(h:Tr p)(i:p≠[])(g:Ea F p):Tr (Pq F p)/\Pq F p≠[]/\Xb (Pq F p)=Pq F p/\Xb p=Qn (sqf F p) (Pq F p)/\(sqf F p).length+(Pq F p).length=p.length+1:=by obtain⟨f1,f2,f3,f4,f5,f6⟩:=Og F h i g;have c:Tr (Xb p):=Ov (Yy h);have d:Tr (Xa (Xb p)):=Mm c;have f:=Ze9 F c d;have j:=Oj f2 f f3 f5;rw [<-f4,Pj h]at j;have l:=aG.2 f3;have m:=aG.2 f5;refine⟨f,f5,Zwn f (Zk0 c d f5) (Bk (Zue F (Zj5 c d) (Zj4 c d)) (λe=>f5 (by unfold Mg;rw [e];rfl))),f4,?_⟩;unfold Pq;omega
theorem Ym4{h:List Int}(i:Tr h)(g:h≠[]){m:Int}(e:∀x:Rat,(k:Rat)*(Zb a x*Zb h x)=(m:Rat)*(Zb b x*Zb h x))(x:Rat):(k:Rat)*Zb a x=(m:Rat)*Zb b x:=by
 have d:=Fu h (f:=Nx (a.map λc=>k*c) (b.map λc=>(-m)*c)) (by rw [Ap i];exact g) (λx=>by rw [Xc,Zi,Zi];have:=e x;push_cast;grind) x
 rw [Xc,Zi,Zi]at d;push_cast at d;grind
theorem Zzs{F:Nat}(S:Tr p)(h0:p≠[])(l:Ea F p)(e:Ea F (Pq F p)):Ed (sqf F (Pq F p)) (sqf F p):=by
 obtain⟨n,Z,f,a4,a5⟩:=Qr S h0 l;obtain⟨D,B,b3,b4,b5⟩:=Qr n Z e;obtain⟨-,u2,u3,-,-,-⟩:=Og F S h0 l;obtain⟨-,t2,t3,-,-,-⟩:=Og F n Z e;have ht:Tr (Xb p):=Ov (Yy S);have o:Ed (Pq F p) (Xa (Xb p)):=(Zda ht (Mm ht) l).2.ed;have e2:Ed (Pq F (Pq F p)) (Xa (Pq F p)):=by have:=(Zda (F:=F) (p:=Xb (Pq F p)) (q:=Xa (Xb (Pq F p))) (by rw [f];exact n) (Mm (by rw [f];exact n)) e).2.ed;have h9:Pq F (Pq F p)=Mg F (Xb (Pq F p)) (Xa (Xb (Pq F p))):=rfl;rw [<-h9,f]at this;exact this
 have N:∀d,Tr d->Ed d (Pq F p)->Ed d (Xa (Pq F p))->Ed d (Pq F (Pq F p)):=λd H i r=>by unfold Pq at *;have:=Zky (F:=F) (d:=d) (p:=Xb (Mg F (Xb p) (Xa (Xb p)))) (q:=Xa (Xb (Mg F (Xb p) (Xa (Xb p))))) (by rw [f];exact n) (Mm (by rw [f];exact n)) (by rw [f];exact i) (by rw [f];exact r);exact this
 rw [f]at b4;generalize hg:Pq F p=g at *;generalize hh:Pq F g=h at *;generalize hu:sqf F p=u at *;generalize a0:sqf F g=t at *;obtain⟨k,s,hk,P⟩:=o;obtain⟨m,w,hm,R⟩:=e2;have hP:∀x:Rat,Zb (Xb p) x=Zb (lmul u g) x:=λx=>by rw [a4,Yf,Zu]
 have hG:∀x:Rat,Zb g x=Zb (lmul t h) x:=λx=>by
  have:Zb g x=Zb (Qn t h) x:=by rw [<-b4]
  rw [this,Yf,Zu]
 have I:∀x:Rat,Zb (Xa (Xb p)) x=Zb (ld u) x*Zb g x+Zb u x*Zb (ld g) x:=λx=>by rw [Ki,Dr _ _ hP,Cj]
 have v:∀x:Rat,(m:Rat)*Zb (ld g) x=Zb w x*Zb h x:=λx=>by rw [<-Ki];exact R x
 have W:∀x:Rat,(k:Rat)*(Zb (Qn u w) x*Zb h x)=(m:Rat)*(Zb (Qn (Nx s ((ld u).map λc=>(-k)*c)) t) x*Zb h x):=λx=>by rw [Yf,Yf,Xc,Zi];have i:=P x;have r:=I x;have h3:=v x;have h4:=hG x;rw [Zu]at h4;rw [r]at i;have:(k:Rat)*(Zb u x*Zb w x*Zb h x)=Zb u x*k*(Zb w x*Zb h x):=O5;rw [this,<-h3];push_cast;have:Zb u x*(k:Rat)*(m*Zb (ld g) x)=m*(k*(Zb (ld u) x*Zb g x+Zb u x*Zb (ld g) x)-k*Zb (ld u) x*Zb g x):=O5;rw [this,i,h4];grind
 have y:=Ym4 D B W;refine ed_cop (s:=(Qn (Nx s ((ld u).map λc=>(-k)*c)) [m])) hk t2 (w:=tzl w) (Qo w) t3 (λd H i r=>?_) (λx=>?_)
 .have G:Ed d w:=r.congr λx=>Ng w x;have M:Ed (Qn d h) h:=N _ Qb (by
   obtain⟨V,Y,j,o⟩:=i;exact⟨V,Y,j,λx=>by rw [hG x,Zu,Yf];have:=o x;grind⟩) (by
   obtain⟨V,Y,j,o⟩:=G;exact⟨V*m,Y,bE j hm,λx=>by rw [Ki,Yf];have:=o x;have:=v x;push_cast;grind⟩)
  have d0:=(i.len H t2 t3).1;have hl:=Oj H D d0 B;have:=(M.len Qb D B).2;have l2:=aG.2 B;omega
 .rw [Ng,Yf,Pb];have:=y x;rw [Yf,Yf]at this;rw [this];grind
theorem Yc0(o:Tr u)(r:u≠[])(d:Tr t)(t0:t≠[])(m:Xb t=t)(h:Ed t u):pdv u t/\u=Qn (Ks u t) t/\Tr (Ks u t)/\Ks u t≠[]:=by
 have j:Yz t=1:=by have:=Zal d t0;rwa [m]at this
 obtain⟨k,s,l,h⟩:=h.dv;obtain⟨q,n⟩:=gauss j _ k s rfl l h;have c:u=Qn (tzl q) t:=o.ext Qb λi=>by rw [Iz,n,Ygz]
 obtain⟨f,g⟩:=Zpm (Qo q) d t0;rw [<-c]at f g;rw [g];exact⟨f,c,Qo q,λe=>r (by rw [c,e,Gy])⟩
theorem Zll{F:Nat}(d:Tr p)(j:p≠[])(c:Ea F p)(m:2<=p.length):(Pq F p).length<p.length:=by obtain⟨h,l,-⟩:=Qr d j c;have f:Tr (Xb p):=Ov (Yy d);have i:Ed (Pq F p) (Xa (Xb p)):=(Zda f (Mm f) c).2.ed;have g:=Np (Xb p);have n:=Pj d;have:=(i.len h (Mm f) (λe=>by rw [e]at g;simp at g;omega)).2;omega
theorem Yno(l:Tr p)(n:Xb p=p)(d:p.length=1):p=[1]:=by
 have f:p≠[]:=λe=>by rw [e]at d;simp at d
 have h:=Zal l f;have j:0<cf (Xb p) ((Xb p).length-1):=Bk (Yy l) (λe=>f (aF (by rw [<-Zz,e];rfl)));rw [n]at h j
 match p,d with
 | [c],_=>
  have m:0<c:=j;have g:c∣Yz [c]:=Fg λi=>by
   match i with
   | 0=>exact kV c
   | i+1=>rw [Yr O8];exact iU c
  rw [h]at g;have:=mT O3 g;rw [show c=1 by omega]
def Dp(p q:List Int):Prop:=Tr q/\q≠[]/\Xb q=q/\∃a,Tr a/\Xb p=Qn a q
theorem Dp.start(c:Tr p)(d:p≠[]):Dp p (Xb p):=
 ⟨Ov (Yy c),Zk3 c d,Zwn (Ov (Yy c)) (Zal c d) (Bk (Yy c) (λe=>d (aF (by rw [<-Zz,e];rfl)))),[1],.inr (show cf [1] 0≠0 by decide),by refine(Ov (Yy c)).ext Qb λi=>?_;rw [Iz,Zth];rfl⟩
theorem Dp.sz{n:Nat}(g:Tr p)(o:p≠[])(hs:Sz n p)(x:p.length<=13)(h:Dp p q):Sz (n+15) q/\q.length<=p.length:=by obtain⟨j,r,w,a,l,e⟩:=h;have s:fcs 0 13<=2^15*2^15:=O6;have d:=Pj g;have c:=Zk3 g o;have v:Tr (Xb p):=Ov (Yy g);have i:a≠[]:=λm=>c (by rw [e,m,Gy]);refine⟨Ew 13 24 j l (Zvv hs) c v O1 O3 s (by rw [Cv];exact e),?_⟩;have f:=Oj l j i r;rw [<-e,d]at f;have:=aG.2 i;omega
theorem Dp.ok{n F:Nat}(d:Tr p)(c:p≠[])(hs:Sz n p)(i:n<=220)(g:p.length<=11)(f:p.length<=F+1)(h:Dp p q):Bv F q/\Ea F q:=by obtain⟨e,j⟩:=h.sz d c hs O1;have:=(chG F h.1 h.2.1 e O1 O1 O1).1;exact⟨this,this.1.2.2.1⟩
theorem Dp.next{F:Nat}(h:Dp p q)(c:Ea F q):Dp p (Pq F q):=by obtain⟨l,m,n,a,r,e⟩:=h;obtain⟨f,g,j,d,o⟩:=Qr l m c;refine⟨f,g,j,Qn a (sqf F q),Qb,?_⟩;rw [n]at d;refine e.trans ((aL (Qn a) d).trans ?_);refine(Qb).ext Qb λi=>Om (λx=>?_) i;rw [Yf,Yf,Yf,Yf];grind
def Dz(F:Nat):Nat->List Int->List Int
 | 0,p=>sqf F p
 | f+1,p=>if(sqf F p).length=1 then sqf F p else Qn (Ks (sqf F p) (sqf F (Pq F p))) (Dz F f (Pq F (Pq F p)))
def Ztk(F:Nat):Nat->List Int->List Int->List Int
 | 0,c,_=>c
 | f+1,c,q=>if(sqf F q).length=1 then c else if(sqf F (Pq F q)).length=1 then Qn c (Ks (sqf F q) (sqf F (Pq F q)))else Ztk F f (Qn c (Ks (sqf F q) (sqf F (Pq F q)))) (Pq F (Pq F q))
theorem Zfc{F:Nat}(e:Tr q)(d:q≠[])(c:Ea F q)(h:(sqf F q).length=1):sqf F q=[1]/\q.length=1/\(Pq F q).length=1:=by
 obtain⟨f1,f2,f3,f4,f5,f6⟩:=Og F e d c;obtain⟨i,j,l,m,n⟩:=Qr e d c;have o:=aG.2 d;have g:q.length=1:=by
  rcases bC q.length 2 with f|f
  .omega
  .have:=Zll e d c f;omega
 exact⟨Yno f2 f6 h,g,O1⟩
theorem Zpj(c:Tr p):Qn p [1]=p:=by refine(Qb).ext c λi=>Om (λx=>?_) i;rw [Yf,Pb];push_cast;grind
theorem Yha{F:Nat}(e:Tr q)(d:q≠[])(c:Ea F q)(h:q.length=1):∀f,Dz F f q=[1]:=λf=>by
 obtain⟨f1,f2,f3,f4,f5,f6⟩:=Og F e d c;obtain⟨i,g,j,l,m⟩:=Qr e d c;have n:=aG.2 f3;have o:=aG.2 g;have hs:(sqf F q).length=1:=O1;have:=(Zfc e d c hs).1;cases f with
 | zero=>exact this
 | succ f=>unfold Dz;rw [aK hs];exact this
theorem Zpi (p:List Int){F:Nat}{f:Nat}(e:Tr q)(d:q≠[])(c:Ea F q):Tr (Dz F f q):=by
 obtain⟨f1,f2,f3,f4,f5,f6⟩:=Og F e d c;cases f with
 | zero=>exact f2
 | succ f=>unfold Dz;split;exact f2;exact Qb
theorem Ynn{F n:Nat}(B:Tr p)(r:p≠[])(hs:Sz n p)(y:n<=220)(v:p.length<=11)(s:p.length<=F+1):∀(f:Nat) (g q:List Int),Tr g->Dp p q->q.length<=f->Ztk F f g q=Qn g (Dz F f q):=by
 intro f
 induction f with
 | zero=>intro g q _ d w;have:=aG.2 d.2.1;omega
 | succ f I=>
  intro g q H d w;have e:=(d.ok B r hs y v s).2;have j:=d.next e;have c:=(j.ok B r hs y v s).2;have h:=j.next c;have m:=(h.ok B r hs y v s).2;unfold Ztk Dz;by_cases l:(sqf F q).length=1
  .rw [aK l,aK l,(Zfc d.1 d.2.1 e l).1,Zpj H]
  .rw [aH l,aH l];have M:2<=q.length:=by obtain⟨f1,f2,f3,f4,f5,f6⟩:=Og F d.1 d.2.1 e;obtain⟨R,D,S,V,W⟩:=Qr d.1 d.2.1 e;have l1:=aG.2 f3;have l2:=aG.2 D;omega
   have N:=Zll d.1 d.2.1 e M;obtain⟨-,-,-,-,Z⟩:=Qr j.1 j.2.1 c;obtain⟨-,Y,G,-,-,-⟩:=Og F j.1 j.2.1 c;have lb:=aG.2 G;by_cases o:(sqf F (Pq F q)).length=1
   .obtain⟨s1,s2,P⟩:=Zfc j.1 j.2.1 c o;rw [aK o,Yha h.1 h.2.1 m P];refine(Qb).ext Qb λi=>Om (λx=>?_) i;rw [Yf,Yf,Yf,Pb];push_cast;grind
   .rw [aH o,I _ _ Qb h O1];refine(Qb).ext Qb λi=>Om (λx=>?_) i;rw [Yf,Yf,Yf,Yf];grind
theorem Zwi{e:Int}(f:e=1\/e=-1)(h:Yz q=1):Yz (Zm q e)=1:=by
 have c:Yz (Zm q e)∣Yz q:=Fg λi=>by
  have:=Lg (Zm q e) i;rw [Xk]at this;rcases f with rfl|rfl
  .rwa [gD]at this
  .rw [Int.mul_neg_one]at this;exact(mM.1 this)
 rw [h]at c;have g:=Ox (Zm q e);have j:=mT O3 c;rcases(show Yz (Zm q e)=0\/Yz (Zm q e)=1 by omega)with d|d
 .rw [d]at c;exact absurd (oZ.1 c) O3
 .exact d
theorem Yg6(h:Yz q=1):Zx q=q:=by unfold Zx;rw [h];simp
theorem Zsp{F:Nat}{e:Int}(f:Tr q)(g:q≠[])(h:Xb q=q)(d:Ea F q)(m:e=1\/e=-1) :
  Tr (Zm q e)/\Zm q e≠[]/\Xb (Zm q e)=q/\Zx (Zm q e)=Zm q e/\pdv (Zm q e) (sqf F q)/\Ks (Zm q e) (sqf F q)=Zm (Pq F q) e:=by
 have l:e≠0:=by rcases m with rfl|rfl<;>decide
 obtain⟨f1,f2,f3,f4,f5,f6⟩:=Og F f g d;obtain⟨v,w,y,j,B⟩:=Qr f g d;have r:Yz q=1:=by have:=Zal f g;rwa [h]at this
 rw [h]at j;have s:Zm q e=Qn (Zm (Pq F q) e) (sqf F q):=by
  refine(Qf).ext Qb λi=>Om (λx=>?_) i;have:Zb q x=Zb (Qn (sqf F q) (Pq F q)) x:=by rw [<-j]
  rw [Gu,Yf,Gu,this,Yf];grind
 obtain⟨n,o⟩:=Zpm (Qf (p:=Pq F q) (c:=e)) f2 f3;rw [<-s]at n o;exact⟨Qf,Zns f g l,by rw [Zzt Qf f (Zed q l).symm,h],Yg6 (Zwi m r),n,o⟩
theorem Yg5(c:Tr p)(d:p≠[]):∃e:Int,(e=1\/e=-1)/\Zx p=Zm (Xb p) e:=by
 by_cases h:cf (Zx p) ((Zx p).length-1)<0
 .refine⟨-1,.inr rfl,?_⟩;rw [Zpt (λe=>d (aF (by rw [<-Zz,e]))) h];refine(Yy c).ext Qf λi=>?_;rw [Xk,Xk];omega
 .refine⟨1,.inl rfl,?_⟩;rw [Zps h];refine(Yy c).ext Qf λi=>?_;rw [Xk];omega
def Mo(F:Nat)(p:List Int):List Int:=Ks (Zm (Zx p) 1) (sqf F p)
def Zbt(F:Nat)(p:List Int):List Int:=Ks (Zx (Mo F p)) (sqf F (Mo F p))
def Zv8(F:Nat):Nat->List Int->List Int
 | 0,p=>sqf F p
 | f+1,p=>if(sqf F p).length=1 then sqf F p else Qn (Ks (sqf F p) (sqf F (Mo F p))) (Zv8 F f (Zbt F p))
theorem Dd{F:Nat}(h:Xb p=Xb q):sqf F p=sqf F q:=by unfold sqf;rw [h]
theorem Zjg{F:Nat}(h:Xb p=Xb q):Pq F p=Pq F q:=by unfold Pq;rw [h]
theorem Ztd{F:Nat}(h:Xb p=Xb q):∀f,Dz F f p=Dz F f q
 | 0=>Dd h
 | f+1=>by unfold Dz;rw [Dd h,Zjg h]
theorem Zkp{F:Nat}(v:Tr p)(r:p≠[])(d:Ea F p)(c:Ea F (Pq F p)) :
  (∃e:Int,(e=1\/e=-1)/\Zm (Zx p) 1=Zm (Xb p) e/\pdv (Zm (Xb p) e) (sqf F p)/\Mo F p=Zm (Pq F p) e/\Zx (Mo F p)=Mo F p/\pdv (Mo F p) (sqf F (Pq F p))/\Zbt F p=Zm (Pq F (Pq F p)) e)/\
  Xb (Mo F p)=Pq F p/\Xb (Zbt F p)=Pq F (Pq F p)/\Tr (Mo F p)/\Mo F p≠[]/\Tr (Zbt F p)/\Zbt F p≠[]:=by
 obtain⟨W,Y,j,-⟩:=Dp.start v r;have f:Ea F (Xb p):=by unfold Ea;rw [j];exact d
 have s:Pq F (Xb p)=Pq F p:=Zjg j;have h:sqf F (Xb p)=sqf F p:=Dd j;obtain⟨e,l,w⟩:=Yg5 v r;have g:Zm (Zx p) 1=Zm (Xb p) e:=by rw [w];refine(Qf).ext Qf λi=>?_;rw [Xk,gD]
 obtain⟨-,-,-,-,G,H⟩:=Zsp W Y j f l;rw [s,h]at H;rw [h]at G;have V:Mo F p=Zm (Pq F p) e:=by unfold Mo;rw [g,H]
 obtain⟨y,B,D,-,-⟩:=Qr v r d;obtain⟨I,M,n,o,N,P⟩:=Zsp y B D c l;rw [<-V]at I M n o N P;have x:sqf F (Mo F p)=sqf F (Pq F p):=Dd (by rw [n,D]);have m:Zbt F p=Zm (Pq F (Pq F p)) e:=by unfold Zbt;rw [o,x,P]
 obtain⟨S,Z,g3,-,-⟩:=Qr y B c;have R:e≠0:=by rcases l with rfl|rfl<;>decide
 refine⟨⟨e,l,g,G,V,o,N,m⟩,n,?_,I,M,?_,?_⟩
 .rw [m,Zzt Qf S (Zed _ R).symm,g3]
 .rw [m];exact Qf
 .rw [m];exact Zns S Z R
theorem Ym1{F n:Nat}(r:Tr p)(j:p≠[])(hs:Sz n p)(o:n<=220)(m:p.length<=11)(l:p.length<=F+1):∀(f:Nat) (q:List Int),Tr q->q≠[]->Dp p (Xb q)->Zv8 F f q=Dz F f q:=by
 intro f
 induction f with
 | zero=>intro q _ _ _;rfl
 | succ f w=>
  intro q v x h;have d:=(h.ok r j hs o m l).2;have g:Ea F q:=by unfold Ea at d ⊢;rwa [h.2.2.1]at d
  have i:=h.next d;rw [Zjg h.2.2.1]at i;have c:=(i.ok r j hs o m l).2;have e:=i.next c;obtain⟨-,r1,r2,r3,D,y,B⟩:=Zkp v x g c;unfold Zv8 Dz;have s:=i.2.2.1;rw [Dd (show Xb (Mo F q)=Xb (Pq F q) by rw [r1,s]),w _ y B (by rw [r2];exact e),Ztd (show Xb (Zbt F q)=Xb (Pq F (Pq F q)) by rw [r2,e.2.2.1])]
def Cc(F:Nat)(q:List Int):List Int:=Ks (sqf F q) (sqf F (Pq F q))
theorem Ds{F:Nat}(e:Tr q)(f:q≠[])(d:Ea F q)(c:Ea F (Pq F q)):pdv (sqf F q) (sqf F (Pq F q))/\sqf F q=Qn (Cc F q) (sqf F (Pq F q))/\Tr (Cc F q)/\Cc F q≠[]:=by obtain⟨f1,f2,f3,f4,f5,f6⟩:=Og F e f d;obtain⟨g,h,i,j,l⟩:=Qr e f d;obtain⟨-,t2,t3,-,-,t6⟩:=Og F g h c;exact Yc0 f2 f3 t2 t3 t6 (Zzs e f d c)
theorem Zw5{n:Nat}(h:Tr p)(o:p≠[])(hs:Sz n p)(v:p.length<=13)(l:Tr a)(m:Tr b)(e:Xb p=Qn a b):Sz (n+15) b/\b.length<=p.length/\b≠[]:=by have r:fcs 0 13<=2^15*2^15:=O6;have f:=Pj h;have c:=Zk3 h o;have s:Tr (Xb p):=Ov (Yy h);have i:a≠[]:=λd=>c (by rw [e,d,Gy]);have j:b≠[]:=λd=>c (by rw [e,d,Zbb]);refine⟨Ew 13 24 m l (Zvv hs) c s O1 O3 r (by rw [Cv];exact e),?_,j⟩;have g:=Oj l m i j;rw [<-e,f]at g;have:=aG.2 i;omega
def Op(p c q:List Int):Prop:=∃a,Tr a/\Xb p=Qn a (Qn c q)
theorem Op.start(c:Tr p):Op p [1] (Xb p):=⟨[1],.inr (show cf [1] 0≠0 by decide),by refine(Ov (Yy c)).ext Qb λi=>Om (λx=>?_) i;rw [Yf,Yf,Pb];push_cast;show Zb (Xb p) x=_;grind⟩
theorem Op.next{f:List Int}{F:Nat}(l:Tr q)(m:q≠[])(y:Xb q=q)(d:Ea F q)(c:Ea F (Pq F q))(h:Op p f q):Op p (Qn f (Cc F q)) (Pq F (Pq F q)):=by
 obtain⟨a,H,e⟩:=h;obtain⟨-,D,I,M⟩:=Ds l m d c;obtain⟨n,o,r,g,G⟩:=Qr l m d;obtain⟨-,-,-,j,-⟩:=Qr n o c;rw [y]at g;rw [r]at j;refine⟨Qn a (Qn (sqf F (Pq F q)) (sqf F (Pq F q))),Qb,e.trans ?_⟩;refine(Qb).ext Qb λi=>Om (λx=>?_) i;have s:Zb q x=Zb (sqf F q) x*Zb (Pq F q) x:=by rw [<-Yf,<-g]
 have v:Zb (sqf F q) x=Zb (Cc F q) x*Zb (sqf F (Pq F q)) x:=by rw [<-Yf,<-D]
 have w:Zb (Pq F q) x=Zb (sqf F (Pq F q)) x*Zb (Pq F (Pq F q)) x:=by rw [<-Yf,<-j]
 simp only [Yf];rw [s,v];rw [w];generalize Zb (sqf F (Pq F q)) x=A;generalize Zb (Pq F (Pq F q)) x=B;grind
theorem Op.sz{c:List Int}{n:Nat}(j:Tr p)(d:p≠[])(hs:Sz n p)(f:p.length<=13)(g:Tr c)(m:Tr q)(h:Op p c q):Sz (n+15) c/\c.length<=p.length/\c≠[]:=by obtain⟨a,l,e⟩:=h;exact Zw5 j d hs f (Qb (p:=a) (q:=q)) g (e.trans ((Qb).ext Qb λi=>Om (λx=>by rw [Yf,Yf,Yf,Yf];grind) i))
theorem Yng(c:Tr p):Qn [1] p=p:=by rw [Cv];exact Zpj c
def Zj0{F:Nat}(f:Tr xs)(d:xs≠[])(e:Bv F xs){s t:Rat}(c:s<=t):vch F xs t<=vch F xs s:=Zl7 f d e c
def Sqn.imp{P c:R2->R2->Prop}{hi:Rat}(d:∀x y,P x y->c x y):∀{lo:Rat} {l:List (R2×R2)},Sqn P hi lo l->Sqn c hi lo l
 | _,[],h=>h
 | _,_::_,h=>⟨h.1,h.2.1,d _ _ h.2.2.1,Sqn.imp d h.2.2.2⟩
def oe(f:Nat->Int):Nat->Int
 | 0=>0
 | k+1=>err (oe f k) (f k)
def mon(d n:Nat):List Int:=mono d ((2:Int)^n)
variable {P:Program} {N:Nat} {sc:Nat->Prop} {env:Qy} {H:Hp}
end Go.Sky
namespace Go.Sky
variable{f:Rat->Rat}{u v s t x a b:Rat}{xs p o:List Int}
def HD(xs ys:List Int):Prop:=Vp ys/\ys≠[]/\Zaf ys/\Bv 13 ys/\chn 13 ys=chn 13 xs
def PH(xs:List Int)(x y:R2):Prop:=(0<x.2/\bl x.1.natAbs<=506/\bl x.2.natAbs<=506)/\(0<y.2/\bl y.1.natAbs<=506/\bl y.2.natAbs<=506)/\cvc 13 xs x-cvc 13 xs y=1
def DR:R2×R2:=((0,0),(0,0))
theorem Zgr(d:Rat){h:Rat}(c:0<h):∃n:Nat,d<=(n:Rat)*h:=by
 have i:0<h⁻¹:=gX.2 c;refine⟨(d*h⁻¹).ceil.toNat,?_⟩;have e:=@pT (d*h⁻¹);have g:(((d*h⁻¹).ceil:Int):Rat)<=(((d*h⁻¹).ceil.toNat:Nat):Rat):=by have:(d*h⁻¹).ceil<=(((d*h⁻¹).ceil.toNat:Nat):Int):=mN _;exact_mod_cast this
 have j:=dX (fH e g) (show 0<=h by grind);have k:d*h⁻¹*h=d:=O5;grind
theorem Zq5(h:crs f u v<=0)(d:f u≠0):0<f u*f v:=by
 unfold crs at h;by_cases c:f u≠0/\f u*f v<=0
 .rw [aK c]at h;exact absurd h O3
 .have:¬f u*f v<=0:=λe=>c ⟨d,e⟩;grind
theorem Zdk{F:Nat}(l:Tr xs)(i:xs≠[])(j:Bv F xs)(G:s<=t)(D:vch F xs s<=vch F xs t)(hs:Zb (sqf F xs) s≠0):∀y,s<=y->y<=t->0<Zb (sqf F xs) s*Zb (sqf F xs) y:=by
 obtain⟨h,z,B⟩:=Zl6 l i j s t;have g:∀u v,s<=u->u<=v->v<=t->v-u<=h->crs (Zb (sqf F xs)) u v<=0:=λu v a b c d=>by have e:=B u v a b c d;have R:vat ((chn F xs).map Zb) u<=vat ((chn F xs).map Zb) s:=Zl7 l i j a;have S:vat ((chn F xs).map Zb) t<=vat ((chn F xs).map Zb) v:=Zl7 l i j c;have V:vat ((chn F xs).map Zb) s<=vat ((chn F xs).map Zb) t:=D;omega
 generalize Zb (sqf F xs)=f at *;have m:∀n:Nat,∀y,s<=y->y<=t->y-s<=(n:Rat)*h->0<f s*f y:=λn=>by
  induction n with
  | zero=>
   intro y a b c;have:y=s:=by push_cast at c;grind
   subst this;exact Zq5 (g _ _ a O5 b O5) hs
  | succ n P=>
   intro y a b c;push_cast at c;by_cases H:y-s<=h
   .exact Zq5 (g s y O5 a b H) hs
   .have r:=P (y-h) O5 O5 O5;have I:f (y-h)≠0:=λe=>by rw [e]at r;grind
    have M:=Zq5 (g (y-h) y O5 O5 b O5) I;have N:=aV r M;have w:f s*f (y-h)*(f (y-h)*f y)=(f (y-h)*f (y-h))*(f s*f y):=O5;rw [w]at N;have Q:0<f (y-h)*f (y-h):=by
     rcases(show 0<f (y-h)\/f (y-h)<0 by grind)with q|q
     .exact aV q q
     .have:=aV (a:=-f (y-h)) (b:=-f (y-h)) O5 O5;grind
    rcases(show 0<f s*f y\/f s*f y<=0 by grind)with q|q
    .exact q
    .have:=aM (a:=f (y-h)*f (y-h)) (b:=-(f s*f y)) O5 O5;grind
 intro y a b;obtain⟨n,k⟩:∃n:Nat,y-s<=(n:Rat)*h:=by obtain⟨n,k⟩:=Zgr (y-s) z;exact⟨n,k⟩
 exact m n y a b k
theorem Zf6 (p:List Int)(s:Rat)(t:Rat)(D:s<=t)(w:∀u,s<=u->u<=t->0<=Zb (ld p) u):Zb p s<=Zb p t:=by
 rcases(show Zb p s<=Zb p t\/Zb p t<Zb p s by grind)with h|h
 .exact h
 .exfalso;obtain⟨M,W,I⟩:=Zja s t p;have z:s<t:=by
   rcases(show s<t\/s=t by grind)with d|d
   .exact d
   .rw [d]at h;grind
  obtain⟨n,B⟩:=Zgr (M*(t-s)*(t-s)+1) (show 0<Zb p s-Zb p t by grind);have g:(0:Rat)<(n:Rat):=by
   rcases aS n with d|d
   .subst d;have:=aM (a:=M*(t-s)) (b:=t-s) (aM O5 O5) O5;push_cast at B;grind
   .exact_mod_cast d
  have m:(n:Rat)≠0:=λe=>by rw [e]at g;exact absurd g O3
  have c:(n:Rat)*((t-s)/n)=t-s:=by rw [gF,<-lD,kW (n:Rat),lD,kN _ m,Rat.mul_one]
  have q:∀k:Nat,(k:Rat)<=(n:Rat)->-(M*((t-s)/n)*((t-s)/n))*k<=Zb p (s+k*((t-s)/n))-Zb p s:=λk=>by
   induction k with
   | zero=>intro _;push_cast;rw [show s+0*((t-s)/n)=s by grind];grind
   | succ k F=>
    intro y;push_cast at y ⊢;have R:=F O5;have l:0<=(t-s)/n:=by rw [gF];exact aM O5 (dC (gX.2 g))
    have i:=c;generalize (t-s)/(n:Rat)=h at *;have G:(0:Rat)<=(k:Rat):=by exact_mod_cast bJ k
    have N:=aM (a:=(k:Rat)) (b:=h) G l;have P:=aM (a:=(n:Rat)-(k+1)) (b:=h) O5 l;have j:=(I (s+k*h) (s+(k+1)*h) O5 O5 O5).1;have e:=w (s+k*h) O5 O5;have Q:=aM l e;rw [show s+(k+1)*h-(s+k*h)=h by grind]at j;grind
  have r:=q n O5;have i:=c;rw [i,show s+(t-s)=t by grind]at r;have H:-(M*((t-s)/n)*((t-s)/n))*n=-(M*((t-s)/n)*(t-s)):=O5;rw [H]at r;have S:M*((t-s)/n)*(t-s)*n=M*(t-s)*(t-s):=O5;have V:=aM (a:=Zb p t-Zb p s+M*((t-s)/n)*(t-s)) (b:=(n:Rat)) O5 O5;grind
theorem Zfj(p:List Int)(x:Rat):Zb (p.map λa=>-1*a) x=-Zb p x:=by rw [Zi];push_cast;grind
theorem Zoi (p:List Int)(k:s<t)(e:∀u,s<u->u<=t->0<Zb (ld p) u)(g:0<=Zb (ld p) s):Zb p s<Zb p t:=by
 have i:s<(s+t)/2/\(s+t)/2<t:=by constructor<;>grind
 generalize (s+t)/2=m at *;have r:=Zf6 p s m O5 (λu a b=>by
  rcases(show s<u\/u=s by grind)with h|h
  .exact dC (e u h O5)
  .rw [h];exact g)
 obtain⟨M,l,n⟩:=Zja m t p;have j:=e m i.1 O5;obtain⟨η,q,y,z⟩:=Hl (show 0<t-m by grind) l (show 0<Zb (ld p) m/2 by grind);have b:=(n m (m+η) O5 O5 O5).1;rw [show m+η-m=η by grind]at b;have w:=Zf6 p (m+η) t O5 (λu a b=>dC (e u O5 b));have c:=aM (a:=η) (b:=Zb (ld p) m/2-η*M) O5 O5;have d:=aV q j;grind
def Eh:Nat->List Int->Rat->Int
 | 0,_,_=>0
 | n+1,p,x=>if Zb p x≠0 then Ei (Zb p x)else Eh n (Xa p) x
def Zy8(h:0<x):Ei x=1:=Aa h
def Zni(h:x<0):Ei x=-1:=Ac h
theorem Zsx(h:x=0):Ei x=0:=by subst h;rfl
theorem Pi(x:Rat):(0<x/\Ei x=1)\/(x<0/\Ei x=-1)\/(x=0/\Ei x=0):=by
 rcases(show 0<x\/x<0\/x=0 by grind)with h|h|h
 .exact .inl ⟨h,Zy8 h⟩
 .exact .inr (.inl ⟨h,Zni h⟩)
 .exact .inr (.inr ⟨h,Zsx h⟩)
theorem Zx4(n:Nat)(p:List Int)(x:Rat)(h:Zb p x≠0)(c:p.length<=n):Eh n p x=Ei (Zb p x):=by
 cases n with
 | zero=>have:p=[]:=aF O1;subst this;exact absurd rfl h
 | succ n=>unfold Eh;rw [aK h]
theorem Zny(p:List Int)(x:Rat)(h:Zb p x≠0):∃δ:Rat,0<δ/\∀y,x<y->y<=x+δ->Ei (Zb p y)=Ei (Zb p x):=by
 obtain⟨L,r,k⟩:=Ci x (x+1) p;have i:0<(if 0<Zb p x then Zb p x else -Zb p x):=by split<;>grind
 obtain⟨δ,j,m,g⟩:=Hl (show(0:Rat)<1 by decide) (show 0<L+1 by grind) (show 0<(if 0<Zb p x then Zb p x else -Zb p x)/2 by grind);refine⟨δ,j,λy n q=>?_⟩;have l:=k x y O5 O5 O5;have b:=aM (a:=L) (b:=δ-(y-x)) O5 O5;have c:L*(y-x)<=δ*(L+1):=O5;rcases Pi (Zb p x)with⟨d,e⟩|⟨d,e⟩|⟨d,e⟩
 .rw [aK d]at g i;rw [e];exact Zy8 O5
 .rw [aH O5]at g i;rw [e];exact Zni O5
 .exact absurd d h
theorem Bp:∀(n:Nat) (p:List Int) (x:Rat),p.length<=n->∃δ:Rat,0<δ/\∀y,x<y->y<=x+δ->Ei (Zb p y)=Eh n p x
 | 0,p,x,q=>⟨1,O3,λy _ _=>by have:p=[]:=aF O1;subst this;exact Zsx rfl⟩
 | n+1,p,x,q=>by
  by_cases h:Zb p x≠0
  .rw [Zx4 (n+1) p x h q];exact Zny p x h
  .have I:Zb p x=0:=fT.1 h;have G:=Np p;obtain⟨δ,B,D⟩:=Bp n (Xa p) x O1;have F:Eh (n+1) p x=Eh n (Xa p) x:=by unfold Eh;rw [aH h];cases n<;>rfl
   have k:Zb (ld p) x≠0->Ei (Zb (ld p) x)=Eh n (Xa p) x:=λg=>by rw [<-Ki]at g ⊢;exact(Zx4 n (Xa p) x g O1).symm
   refine⟨δ,B,λy l M=>?_⟩;rw [F];have i:∀u,x<u->u<=y->Ei (Zb (ld p) u)=Eh n (Xa p) x:=λu a b=>by rw [<-Ki];exact D u a O5
   have e:=i y l O5;generalize Eh n (Xa p) x=σ at *;rcases Pi (Zb (ld p) y)with⟨m,j⟩|⟨m,j⟩|⟨m,j⟩
   .rw [j]at e;subst e;refine Zy8 ?_;have:=Zoi p l (λu a b=>by
     rcases Pi (Zb (ld p) u)with⟨d,c⟩|⟨d,c⟩|⟨d,c⟩
     .exact d
     .have:=i u a b;rw [c]at this;exact absurd this O3
     .have:=i u a b;rw [c]at this;exact absurd this O3) (by
     rcases Pi (Zb (ld p) x)with⟨d,c⟩|⟨d,c⟩|⟨d,c⟩
     .exact dC d
     .have:=k O5;rw [c]at this;exact absurd this O3
     .grind)
    grind
   .rw [j]at e;subst e;refine Zni ?_;have r:∀u,Zb (ld (p.map λa=>-1*a)) u=-Zb (ld p) u:=λu=>by rw [Ae];push_cast;grind
    have:=Zoi (p.map λa=>-1*a) l (λu a b=>by
     rw [r];rcases Pi (Zb (ld p) u)with⟨d,c⟩|⟨d,c⟩|⟨d,c⟩
     .have:=i u a b;rw [c]at this;exact absurd this O3
     .grind
     .have:=i u a b;rw [c]at this;exact absurd this O3) (by
     rw [r];rcases Pi (Zb (ld p) x)with⟨d,c⟩|⟨d,c⟩|⟨d,c⟩
     .have:=k O5;rw [c]at this;exact absurd this O3
     .grind
     .grind)
    rw [Zfj,Zfj]at this;grind
   .rw [j]at e;subst e;refine Zsx ?_;have w:∀u,x<=u->u<=y->Zb (ld p) u=0:=λu a b=>by
     rcases(show x<u\/u=x by grind)with g|g
     .rcases Pi (Zb (ld p) u)with⟨d,c⟩|⟨d,c⟩|⟨d,c⟩
      .have:=i u g b;rw [c]at this;exact absurd this O3
      .have:=i u g b;rw [c]at this;exact absurd this O3
      .exact d
     .subst g;rcases Pi (Zb (ld p) u)with⟨d,c⟩|⟨d,c⟩|⟨d,c⟩
      .have:=k O5;rw [c]at this;exact absurd this O3
      .have:=k O5;rw [c]at this;exact absurd this O3
      .exact d
    have H:=Zf6 p x y O5 (λu a b=>by rw [w u a b];grind);have z:=Zf6 (p.map λa=>-1*a) x y O5 (λu a b=>by rw [Ae,w u a b];push_cast;grind);rw [Zfj,Zfj]at z;grind
theorem Ed.mul_l{a b c:List Int}(h:Ed a b):Ed (Qn c a) (Qn c b):=by obtain⟨k,s,d,e⟩:=h;exact⟨k,s,d,λx=>by rw [Yf,Yf];have:=e x;grind⟩
theorem Ff{F n:Nat}(D:Tr p)(m:p≠[])(hs:Sz n p)(z:n<=220)(w:p.length<=11)(r:p.length<=F+1):∀(f:Nat) (q:List Int),Dp p q->q.length<=f->
  (∃B:List Int,∀x:Rat,Zb q x=Zb (Dz F f q) x*(Zb B x*Zb B x))/\Ed (Dz F f q) (sqf F q):=by
 intro f
 induction f with
 | zero=>intro q d y;have:=aG.2 d.2.1;omega
 | succ f ih=>
  intro q d y;have g:=(d.ok D m hs z w r).2;have h:=d.next g;have e:=(h.ok D m hs z w r).2;have i:=h.next e;unfold Dz;by_cases l:(sqf F q).length=1
  .rw [aK l];obtain⟨s1,s2,s3⟩:=Zfc d.1 d.2.1 g l;refine⟨⟨[1],λx=>?_⟩,Ed.refl _⟩;rw [s1,Yno d.1 d.2.2.1 s2,Pb];push_cast;grind
  .rw [aH l];have lq:2<=q.length:=by obtain⟨f1,f2,f3,f4,f5,f6⟩:=Og F d.1 d.2.1 g;obtain⟨P,G,H,k,Q⟩:=Qr d.1 d.2.1 g;have l1:=aG.2 f3;have l2:=aG.2 G;omega
   have a0:=Zll d.1 d.2.1 g lq;obtain⟨P,G,H,k,Q⟩:=Qr d.1 d.2.1 g;obtain⟨b1,b2,b3,I,b5⟩:=Qr h.1 h.2.1 e;obtain⟨-,t2,t3,-,-,-⟩:=Og F h.1 h.2.1 e;have lb:=aG.2 t3;obtain⟨⟨B,Z⟩,hE⟩:=ih _ i O1;obtain⟨-,N,o3,o4⟩:=Ds d.1 d.2.1 g e;have j:=(i.ok D m hs z w r).2;rw [d.2.2.1]at k;rw [H]at I;have R:∀x,Zb q x=Zb (sqf F q) x*Zb (Pq F q) x:=λx=>by rw [<-Yf,<-k]
   have V:∀x,Zb (sqf F q) x=Zb (Cc F q) x*Zb (sqf F (Pq F q)) x:=λx=>by rw [<-Yf,<-N]
   have W:∀x,Zb (Pq F q) x=Zb (sqf F (Pq F q)) x*Zb (Pq F (Pq F q)) x:=λx=>by rw [<-Yf,<-I]
   refine⟨⟨Qn (sqf F (Pq F q)) B,λx=>?_⟩,?_⟩
   .rw [Yf,Yf,R x,V x,W x,Z x];show _=Zb (Cc F q) x*_*_;generalize Zb (sqf F (Pq F q)) x=S;generalize Zb B x=C;grind
   .have Y:Ed (Dz F f (Pq F (Pq F q))) (sqf F (Pq F q)):=hE.trans (Zzs h.1 h.2.1 e j);have M:=Y.mul_l (c:=Cc F q);rw [<-N]at M;exact M
theorem Ztc{F n:Nat}(V:Tr p)(Q:p≠[])(hs:Sz n p)(hn:n<=220)(hl:p.length<=11)(hF:p.length<=F+1)(G:Tr o)(Y:o≠[])(g:Ea F o)(r:Ea F p)(h:Ed o (sqf F p)):(Pq F o).length=1/\sqf F o=Xb o:=by
 obtain⟨M,Z,a3,N,a5⟩:=Qr G Y g;obtain⟨f1,f2,f3,f4,f5,f6⟩:=Og F V Q r;obtain⟨-,s2,s3,s4,s5,s6⟩:=Og F G Y g;have W:Tr (Xb o):=Ov (Yy G);have R:=Zda W (Mm W) g;have P:Ed (Pq F o) (Xb o):=R.1.ed;have e2:Ed (Pq F o) (ld (Xb o)):=(R.2.ed:Ed (Pq F o) (Xa (Xb o))).congr λx=>Ki _ x;have B:Sim (Xb o) o:=(Iv (Zx o)).trans (Qm G);obtain⟨k,w,D,l⟩:Ed (Xb o) (sqf F p):=by
  obtain⟨k,w,D,e⟩:=h;obtain⟨c,d,hc,I,H⟩:=B;have j:∀x:Rat,(c:Rat)*Zb (Xb o) x=(d:Rat)*Zb o x:=λx=>by rw [<-Zi,<-Zi];exact Oh x _ _ λi=>by rw [Xz,Xz];exact H i
  exact⟨d*k,w.map λa=>c*a,bE I D,λx=>by rw [Zi];have a:=e x;have b:=j x;push_cast;grind⟩
 have S:(Pq F o).length<=1:=by
  refine Zfd V Q r M (P.trans ⟨k,w,D,l⟩) ?_;have h1:Ed (Pq F o) (lmul w (ld (Xb o))):=by obtain⟨m,z,hm,e⟩:=e2;exact⟨m,lmul w z,hm,λx=>by rw [Zu,Zu];have:=e x;grind⟩
  have h2:Ed (Pq F o) (ld (sqf F p)):=Ed.lin P h1 (ld w) k D λx=>by have:=Dr ((sqf F p).map λa=>k*a) (lmul w (Xb o)) (λy=>by rw [Zi,Zu];exact l y) x;rw [Ae,Cj]at this;rw [Zu,this]
  exact h2.congr λx=>(Ki _ x).symm
 have q:(Pq F o).length=1:=by have:=aG.2 Z;omega
 refine⟨q,?_⟩;rw [Yno M a3 q,Zpj s2]at N;exact N.symm
theorem Zfe{a b:List Int}(h:Sim a b):∃c d:Int,c≠0/\d≠0/\∀x:Rat,(c:Rat)*Zb a x=(d:Rat)*Zb b x:=by obtain⟨c,d,g,j,e⟩:=h;exact⟨c,d,g,j,λx=>by rw [<-Zi,<-Zi];exact Oh x _ _ λi=>by rw [Xz,Xz];exact e i⟩
theorem Gl(h:x≠0):0<x*x:=by
 rcases(show 0<x\/x<0 by grind)with q|q
 .exact aV q q
 .have:=aV (a:=-x) (b:=-x) O5 O5;grind
theorem Pk{c:Int}(h:c≠0):(c:Rat)≠0:=λe=>h (by exact_mod_cast e)
theorem Zf0{a' e c d:Rat}(i:c≠0)(j:d≠0)(k:c*a'=d*a)(l:c*e=d*b)(h:a*b<0):a'*e<0:=by
 have m:(c*c)*(a'*e)=(d*d)*(a*b):=O5;have n:=Gl i;have g:=Gl j;rcases(show a'*e<0\/0<=a'*e by grind)with q|q
 .exact q
 .have r:=aM (a:=c*c) (b:=a'*e) O5 q;have w:=aV (a:=d*d) (b:=-(a*b)) g O5;grind
theorem Yhm{e g c d:Rat}(h:e*(c*c)*(g*(d*d))<0):e*g<0:=by
 rcases(show e*g<0\/0<=e*g by grind)with q|q
 .exact q
 .have j:0<=c*d*(c*d):=by
   by_cases i:c*d=0
   .rw [i];grind
   .exact dC (Gl i)
  have k:=aM q j;grind
theorem Znx{F n:Nat}(i:Tr p)(k:p≠[])(hs:Sz n p)(M:n<=220)(I:p.length<=11)(D:p.length<=F+1)(ho:o=Dz F p.length (Xb p))(g:Tr o)(Q:o≠[])(y:Bv F o)(a0:a<b)(h1:Eh p.length p a=1)(h2:Zb p b<0):vch F o b<vch F o a:=by
 have m:=Dp.start i k;have h:=(m.ok i k hs M I D).2;have j:Ea F p:=by unfold Ea at h ⊢;rwa [m.2.2.1]at h
 obtain⟨⟨B,w⟩,z⟩:=Ff i k hs M I D p.length (Xb p) m (by rw [Pj i];exact aI _);rw [<-ho]at w z;rw [Dd m.2.2.1]at z;obtain⟨-,P⟩:=Ztc i k hs M I D g Q y.1.2.2.1 j z;obtain⟨δ,d1,Z⟩:=Bp p.length p a (aI _);obtain⟨s,W,s2,Y⟩:∃s,a<s/\s<=a+δ/\s<b:=by
  rcases(show a+δ<b\/b<=a+δ by grind)with q|q
  .exact⟨a+δ,O5,O5,q⟩
  .exact⟨(a+b)/2,O5,O5,O5⟩
 have N:0<Zb p s:=by
  have:=Z s W s2;rw [h1]at this;rcases Pi (Zb p s)with⟨r,l⟩|⟨r,l⟩|⟨r,l⟩
  .exact r
  .rw [l]at this;exact absurd this O3
  .rw [l]at this;exact absurd this O3
 have k1:Zb p s*Zb p b<0:=by have:=aV (a:=Zb p s) (b:=-Zb p b) N O5;grind
 obtain⟨c,d,hc,hd,e⟩:=Zfe ((Iv (Zx p)).trans (Qm i):Sim (Xb p) p);have S:Zb (Xb p) s*Zb (Xb p) b<0:=Zf0 (Pk hc) (Pk hd) (e s) (e b) k1;rw [w s,w b]at S;have k3:=Yhm S;obtain⟨c',d',G,H,R⟩:=Zfe ((Iv (Zx o)).trans (Qm g):Sim (Xb o) o);have V:Zb (Xb o) s*Zb (Xb o) b<0:=Zf0 (Pk G) (Pk H) (R s) (R b) k3;rw [<-P]at V;have m1:=Zj0 g Q y (dC W);rcases iG (vch F o b) (vch F o s)with q|q
 .exact Int.lt_of_lt_of_le q m1
 .exfalso;have hz:Zb (sqf F o) s≠0:=λe9=>by rw [e9]at V;grind
  have:=Zdk g Q y (dC Y) q hz b (dC Y) O5;grind
theorem Zgs:∀(n:Nat) (p:List Int) (x:Rat),Tr p->p≠[]->p.length<=n->Eh n p x≠0
 | 0,p,x,_,i,r=>absurd (aF O1) i
 | n+1,p,x,l,i,r=>by
  unfold Eh;by_cases h:Zb p x≠0
  .rw [aK h];rcases Pi (Zb p x)with⟨j,g⟩|⟨j,g⟩|⟨j,g⟩
   .rw [g];decide
   .rw [g];decide
   .exact absurd j h
  .rw [aH h];have m:Zb p x=0:=fT.1 h;have d:=Np p;refine Zgs n (Xa p) x (Mm l) (λe=>?_) O1;rw [e]at d;have w:=aG.2 i;have k:p.length=1:=by simp at d;omega
   match p,k with
   | [c],_=>
    have q:c≠0:=l.mem O8;rw [Pb]at m;exact Pk q m
theorem Zrt(n:Nat)(p:List Int)(x:Rat):-1<=Eh n p x/\Eh n p x<=1:=by
 induction n generalizing p with
 | zero=>show -1<=(0:Int)/\(0:Int)<=1;decide
 | succ n c=>unfold Eh;split;exact Ygd;exact c _
def An(F:Nat)(o:List Int)(a b:Rat):Prop:=0<vch F o a-vch F o b-(if Zb o b=0 then 1 else 0)
theorem Yhr{F n:Nat}(g:Tr p)(i:p≠[])(hs:Sz n p)(G:n<=220)(D:p.length<=11)(z:p.length<=F+1)(H:o=Dz F p.length (Xb p))(m:Tr o)(S:o≠[])(P:Bv F o)(k:a<b) :
  (Zb p a<0\/Zb p b<0\/Eh p.length p a<0\/An F o a b)↔(Eh p.length p a<0\/An F o a b):=by
 constructor
 .rintro(h|h|h|h)
  .left;rw [Zx4 p.length p a O5 (aI _),Zni h];decide
  .have r:=Zrt p.length p a;have r0:=Zgs p.length p a g i (aI _);rcases(show Eh p.length p a<0\/Eh p.length p a=1 by omega)with j|j
   .exact .inl j
   .right;have W:=Znx g i hs G D z H m S P k j h;have Q:=Dp.start g i;obtain⟨⟨B,y⟩,-⟩:=Ff g i hs G D z p.length (Xb p) Q (by rw [Pj g];exact aI _);rw [<-H]at y;obtain⟨c,d,V,R,e⟩:=Zfe ((Iv (Zx p)).trans (Qm g):Sim (Xb p) p);have l:Zb o b≠0:=λI=>by
     have w:(c:Rat)*Zb (Xb p) b=(d:Rat)*Zb p b:=e b;rw [y b,I]at w;have M:=Pk R;have N:(d:Rat)*Zb p b=0:=by rw [<-w];grind
     rcases dE.1 N with q|q
     .exact M q
     .rw [q]at h;grind
    unfold An;rw [aH l];omega
  .exact .inl h
  .exact .inr h
 .rintro(h|h)
  .exact .inr (.inr (.inl h))
  .exact .inr (.inr (.inr h))
theorem Ydg(p:List Int)(x:Rat)(h:Zb p x≠0):∃δ:Rat,0<δ/\∀y,x-δ<=y->y<=x->Ei (Zb p y)=Ei (Zb p x):=by
 obtain⟨L,r,k⟩:=Ci (x-1) x p;have i:0<(if 0<Zb p x then Zb p x else -Zb p x):=by split<;>grind
 obtain⟨δ,j,m,g⟩:=Hl (show(0:Rat)<1 by decide) (show 0<L+1 by grind) (show 0<(if 0<Zb p x then Zb p x else -Zb p x)/2 by grind);refine⟨δ,j,λy n q=>?_⟩;have l:=k y x O5 O5 O5;have b:=aM (a:=L) (b:=δ-(x-y)) O5 O5;have c:L*(x-y)<=δ*(L+1):=O5;rcases Pi (Zb p x)with⟨d,e⟩|⟨d,e⟩|⟨d,e⟩
 .rw [aK d]at g i;rw [e];exact Zy8 O5
 .rw [aH O5]at g i;rw [e];exact Zni O5
 .exact absurd d h
theorem rsg_1(h:Ei x=1):0<x:=by
 rcases Pi x with⟨d,c⟩|⟨d,c⟩|⟨d,c⟩
 .exact d
 .rw [c]at h;exact absurd h O3
 .rw [c]at h;exact absurd h O3
theorem Zo1(h:Ei x=-1):x<0:=by
 rcases Pi x with⟨d,c⟩|⟨d,c⟩|⟨d,c⟩
 .rw [c]at h;exact absurd h O3
 .exact d
 .rw [c]at h;exact absurd h O3
def Zx8(p:List Int)(a b:Rat):Prop:=∃x,a<=x/\x<=b/\Zb p x<0
theorem Yjd  {F:Nat} (hx:Tr xs) (h0:xs≠[]) (hC:Bv F xs) {σ:Rat} (Y:σ≠0) (S:a<b)
  (c:∀x,a<=x->x<b->∃δ:Rat,0<δ/\∀y,x<y->y<=x+δ->y<=b->0<σ*Zb (sqf F xs) y) :
  vch F xs a-vch F xs b<=(if Zb (sqf F xs) b=0 then 1 else 0):=by
 obtain⟨h,h1,R⟩:=Zl6 hx h0 hC a b;have H:∀x,a<=x->x<b->0<=σ*Zb (sqf F xs) x:=λx ha hb=>by
  rcases(show 0<=σ*Zb (sqf F xs) x\/σ*Zb (sqf F xs) x<0 by grind)with q|q
  .exact q
  .exfalso;have g:Zb (sqf F xs) x≠0:=λe=>by rw [e]at q;grind
   obtain⟨δ,d1,D⟩:=c x ha hb;obtain⟨ε,e1,Q⟩:=Zny (sqf F xs) x g;obtain⟨y,N,P,y3,y4⟩:∃y,x<y/\y<=x+δ/\y<=x+ε/\y<=b:=by
    rcases(show δ<=ε\/ε<=δ by grind)with w|w
    .rcases(show x+δ<=b\/b<=x+δ by grind)with v|v
     .exact⟨x+δ,O5,O5,O5,v⟩
     .exact⟨b,O5,O5,O5,O5⟩
    .rcases(show x+ε<=b\/b<=x+ε by grind)with v|v
     .exact⟨x+ε,O5,O5,O5,v⟩
     .exact⟨b,O5,O5,O5,O5⟩
   have Z:=D y N P y4;have k:=Q y N y3;rcases Pi (Zb (sqf F xs) x)with⟨i,j⟩|⟨i,j⟩|⟨i,j⟩
   .rw [j]at k;have I:=rsg_1 k;rcases(show σ<0\/0<σ by grind)with s|s
    .have:=aV (a:=-σ) (b:=Zb (sqf F xs) y) O5 I;grind
    .have:=aV s i;grind
   .rw [j]at k;have I:=Zo1 k;rcases(show σ<0\/0<σ by grind)with s|s
    .have:=aV (a:=-σ) (b:=-Zb (sqf F xs) x) O5 O5;grind
    .have:=aV (a:=σ) (b:=-Zb (sqf F xs) y) s O5;grind
   .exact g i
 have V:0<=σ*Zb (sqf F xs) b:=by
  rcases(show 0<=σ*Zb (sqf F xs) b\/σ*Zb (sqf F xs) b<0 by grind)with q|q
  .exact q
  .exfalso;have g:Zb (sqf F xs) b≠0:=λe=>by rw [e]at q;grind
   obtain⟨ε,e1,Q⟩:=Ydg (sqf F xs) b g;obtain⟨y,N,P,y3⟩:∃y,a<=y/\y<b/\b-ε<=y:=by
    rcases(show a<=b-ε\/b-ε<=a by grind)with v|v
    .exact⟨b-ε,v,O5,O5⟩
    .exact⟨a,O5,S,v⟩
   obtain⟨δ,d1,D⟩:=c y N P;obtain⟨z,z1,z2,r⟩:∃z,y<z/\z<=y+δ/\z<=b:=by
    rcases(show y+δ<=b\/b<=y+δ by grind)with v|v
    .exact⟨y+δ,O5,O5,v⟩
    .exact⟨b,P,O5,O5⟩
   have Z:=D z z1 z2 r;have k:=Q z O5 r;rcases Pi (Zb (sqf F xs) b)with⟨i,j⟩|⟨i,j⟩|⟨i,j⟩
   .rw [j]at k;have I:=rsg_1 k;rcases(show σ<0\/0<σ by grind)with s|s
    .have:=aV (a:=-σ) (b:=Zb (sqf F xs) z) O5 I;grind
    .have:=aV s i;grind
   .rw [j]at k;have I:=Zo1 k;rcases(show σ<0\/0<σ by grind)with s|s
    .have:=aV (a:=-σ) (b:=-Zb (sqf F xs) b) O5 O5;grind
    .have:=aV (a:=σ) (b:=-Zb (sqf F xs) z) s O5;grind
   .exact g i
 have d:∀u v,a<=u->u<=v->v<=b->v-u<=h/2->vch F xs u-vch F xs v<=(if v=b/\Zb (sqf F xs) b=0 then 1 else 0):=λu v l M B c4=>by
  have e:=R u v l M B O5;have e':vch F xs u-vch F xs v=crs (Zb (sqf F xs)) u v:=e;rw [e'];unfold crs;by_cases G:Zb (sqf F xs) u≠0/\Zb (sqf F xs) u*Zb (sqf F xs) v<=0
  .rw [aK G];have W:u<b:=by
    rcases(show u<b\/u=b by grind)with q|q
    .exact q
    .exfalso;have:v=u:=O5;subst this;have:=Gl G.1;grind
   have g1:=H u l W;have g2:0<=σ*Zb (sqf F xs) v:=by
    rcases(show v<b\/v=b by grind)with q|q
    .exact H v O5 q
    .rw [q];exact V
   have m:Zb (sqf F xs) v=0:=by
    rcases(show Zb (sqf F xs) v=0\/Zb (sqf F xs) v≠0 by grind)with q|q
    .exact q
    .exfalso;have m1:=aM g1 g2;have m2:=Gl Y;have m3:(σ*σ)*(Zb (sqf F xs) u*Zb (sqf F xs) v)>=0:=O5;rcases(show Zb (sqf F xs) u*Zb (sqf F xs) v<0\/Zb (sqf F xs) u*Zb (sqf F xs) v=0 by grind)with w|w
     .have:=aV m2 (show 0 < -(Zb (sqf F xs) u*Zb (sqf F xs) v) by grind);grind
     .rcases dE.1 w with z|z
      .exact G.1 z
      .exact q z
   rcases(show v<b\/v=b by grind)with q|q
   .exfalso;obtain⟨δ,d1,D⟩:=c v O5 q;obtain⟨z,z1,z2,r,z4⟩:∃z,v<z/\z<=v+δ/\z<=b/\z-v<=h/2:=by
     rcases(show δ<=h/2\/h/2<=δ by grind)with w|w
     .rcases(show v+δ<=b\/b<=v+δ by grind)with t|t
      .exact⟨v+δ,O5,O5,t,O5⟩
      .exact⟨b,q,O5,O5,O5⟩
     .rcases(show v+h/2<=b\/b<=v+h/2 by grind)with t|t
      .exact⟨v+h/2,O5,O5,t,O5⟩
      .exact⟨b,q,O5,O5,O5⟩
    have Z:=D z z1 z2 r;have a1:=R u z l O5 r O5;have a2:=R v z O5 O5 r O5;have r1:crs (Zb (sqf F xs)) u z=0:=by
     unfold crs;rw [aH];rintro⟨w1,w2⟩;have g3:0<σ*Zb (sqf F xs) u:=by
      rcases(show σ*Zb (sqf F xs) u=0\/0<σ*Zb (sqf F xs) u by grind)with t|t
      .rcases dE.1 t with t|t
       .exact absurd t Y
       .exact absurd t w1
      .exact t
     have m1:=aV g3 Z;have m2:=Gl Y;have m3:0<(σ*σ)*(Zb (sqf F xs) u*Zb (sqf F xs) z):=O5;have m4:=aM (a:=σ*σ) (b:=-(Zb (sqf F xs) u*Zb (sqf F xs) z)) O5 O5;grind
    have r2:crs (Zb (sqf F xs)) v z=0:=by unfold crs;rw [aH];rintro⟨w1,w2⟩;exact w1 m
    have r3:crs (Zb (sqf F xs)) u v=1:=by unfold crs;rw [aK G]
    rw [r1]at a1;rw [r2]at a2;rw [r3]at e;omega
   .rw [q]at m;rw [aK ⟨q,m⟩];decide
  .rw [aH G];split<;>decide
 have a0:∀n:Nat,∀u,a<=u->u<=b->b-u<=(n:Rat)*(h/2)->vch F xs u-vch F xs b<=(if Zb (sqf F xs) b=0 then 1 else 0):=λn=>by
  induction n with
  | zero=>
   intro u l M B;have:u=b:=by push_cast at B;grind
   subst this;rw [Int.sub_self];split<;>decide
  | succ n ih=>
   intro u l M B;push_cast at B;by_cases hy:b-u<=h/2
   .have:=d u b l M O5 hy;by_cases g:Zb (sqf F xs) b=0
    .rw [aK ⟨rfl,g⟩]at this;rw [aK g];exact this
    .rw [aH (λe=>g e.2)]at this;rw [aH g];exact this
   .have i1:=ih (u+h/2) O5 O5 O5;have i2:=d u (u+h/2) l O5 O5 O5;rw [aH (λe=>by have:=e.1;grind)]at i2;generalize (if Zb (sqf F xs) b=0 then(1:Int)else 0)=t at *;omega
 obtain⟨n,hn⟩:=Zgr (b-a) (show 0<h/2 by grind);exact a0 n a O5 O5 hn
structure Odp (F n:Nat) (p o:List Int):Prop where
 tr:Tr p
 ne:p≠[]
 sz:Sz n p
 hn:n<=220
 hl:p.length<=11
 hF:p.length<=F+1
 eq:o=Dz F p.length (Xb p)
 otr:Tr o
 one:o≠[]
 ok:Bv F o
theorem Odp.sq{F n:Nat}(h:Odp F n p o):∃(c d:Int) (B:List Int),c≠0/\d≠0/\∀x:Rat,(d:Rat)*Zb p x=(c:Rat)*(Zb o x*(Zb B x*Zb B x)):=by have i:=Dp.start h.tr h.ne;obtain⟨⟨B,g⟩,-⟩:=Ff h.tr h.ne h.sz h.hn h.hl h.hF p.length (Xb p) i (by rw [Pj h.tr];exact aI _);rw [<-h.eq]at g;obtain⟨c,d,j,k,e⟩:=Zfe ((Iv (Zx p)).trans (Qm h.tr):Sim (Xb p) p);exact⟨c,d,B,j,k,λx=>by rw [<-g x];exact(e x).symm⟩
theorem Odp.sqf{F n:Nat}(h:Odp F n p o):Go.Sky.sqf F o=Xb o:=by
 have e:=Dp.start h.tr h.ne;have c:=(e.ok h.tr h.ne h.sz h.hn h.hl h.hF).2;have d:Ea F p:=by unfold Ea at c ⊢;rwa [e.2.2.1]at c
 obtain⟨-,g⟩:=Ff h.tr h.ne h.sz h.hn h.hl h.hF p.length (Xb p) e (by rw [Pj h.tr];exact aI _);rw [<-h.eq]at g;rw [Dd e.2.2.1]at g;exact(Ztc h.tr h.ne h.sz h.hn h.hl h.hF h.otr h.one h.ok.1.2.2.1 d g).2
theorem Odp.srt{F n:Nat}(h:Odp F n p o):∃c d:Int,c≠0/\d≠0/\∀x:Rat,(c:Rat)*Zb (Go.Sky.sqf F o) x=(d:Rat)*Zb o x:=by rw [h.sqf];exact Zfe ((Iv (Zx o)).trans (Qm h.otr):Sim (Xb o) o)
theorem Odp.zero{F n:Nat}(h:Odp F n p o)(x:Rat):Zb (Go.Sky.sqf F o) x=0↔Zb o x=0:=by
 obtain⟨c,d,i,j,e⟩:=h.srt;have g:=e x;constructor
 .intro z;rw [z]at g;rcases dE.1 (show(d:Rat)*Zb o x=0 by grind)with q|q
  .exact absurd q (Pk j)
  .exact q
 .intro z;rw [z]at g;rcases dE.1 (show(c:Rat)*Zb (Go.Sky.sqf F o) x=0 by grind)with q|q
  .exact absurd q (Pk i)
  .exact q
theorem Odp.nz{F n:Nat}(h:Odp F n p o)(j:Zb p x≠0):Zb o x≠0:=λz=>by
 obtain⟨c,d,B,k,i,e⟩:=h.sq;have g:=e x;rw [z]at g;rcases dE.1 (show(d:Rat)*Zb p x=0 by grind)with q|q
 .exact Pk i q
 .exact j q
theorem Odp.opp{F n:Nat}(h:Odp F n p o){y:Rat}(j:Zb p x*Zb p y<0):Zb o x*Zb o y<0/\Zb (Go.Sky.sqf F o) x*Zb (Go.Sky.sqf F o) y<0:=by obtain⟨c,d,B,m,q,e⟩:=h.sq;have r:(Zb o x*(Zb B x*Zb B x))*(Zb o y*(Zb B y*Zb B y))<0:=Zf0 (Pk m) (Pk q) (e x).symm (e y).symm j;have l:=Yhm r;obtain⟨w,z,g,i,k⟩:=h.srt;exact⟨l,Zf0 (Pk g) (Pk i) (k x) (k y) l⟩
theorem Odp.sem{F n:Nat}(h:Odp F n p o)(i:a<b):(Eh p.length p a<0\/An F o a b)↔Zx8 p a b:=by
 have j:=Yhr h.tr h.ne h.sz h.hn h.hl h.hF h.eq h.otr h.one h.ok i;constructor
 .rintro(k|k)
  .obtain⟨δ,M,m⟩:=Bp p.length p a (aI _);have r:=Zrt p.length p a;have hm:Eh p.length p a=-1:=O1;rcases(show a+δ<=b\/b<=a+δ by grind)with q|q
   .exact⟨a+δ,O5,q,Zo1 (by rw [m (a+δ) O5 O5,hm])⟩
   .exact⟨b,O5,O5,Zo1 (by rw [m b i q,hm])⟩
  .rcases jP (Zx8 p a b)with q|q
   .exact q
   .exfalso;have S:∀x,a<=x->x<=b->0<=Zb p x:=λx u v=>by
     rcases(show 0<=Zb p x\/Zb p x<0 by grind)with w|w
     .exact w
     .exact absurd ⟨x,u,v,w⟩ q
    have l:∀x,a<=x->x<b->∃δ:Rat,0<δ/\∀y,x<y->y<=x+δ->y<=b->0<Zb p y:=λx u v=>by
     obtain⟨δ,M,m⟩:=Bp p.length p x (aI _);have r:=Zrt p.length p x;have r0:=Zgs p.length p x h.tr h.ne (aI _);refine⟨δ,M,λy G H I=>?_⟩;have s:=m y G H;rcases Pi (Zb p y)with⟨N,P⟩|⟨N,P⟩|⟨N,P⟩
     .exact N
     .have:=S y O5 I;grind
     .rw [P]at s;exact absurd s.symm r0
    obtain⟨δ,M,m⟩:=l a O5 i;obtain⟨z,z1,z2,z3⟩:∃z,a<z/\z<=a+δ/\z<=b:=by
     rcases(show a+δ<=b\/b<=a+δ by grind)with w|w
     .exact⟨a+δ,O5,O5,w⟩
     .exact⟨b,i,w,O5⟩
    have hz:=m z z1 z2 z3;have hσ:Zb (Go.Sky.sqf F o) z≠0:=λe=>h.nz (x:=z) O5 ((h.zero z).1 e);have Z:=Yjd h.otr h.one h.ok (σ:=Zb (Go.Sky.sqf F o) z) hσ i (λx u v=>by
     obtain⟨ε,e1,e2⟩:=l x u v;refine⟨ε,e1,λy G H I=>?_⟩;have hy:=e2 y G H I;have V:Zb (Go.Sky.sqf F o) y≠0:=λe=>h.nz (x:=y) O5 ((h.zero y).1 e);rcases(show 0<Zb (Go.Sky.sqf F o) z*Zb (Go.Sky.sqf F o) y\/Zb (Go.Sky.sqf F o) z*Zb (Go.Sky.sqf F o) y<0\/Zb (Go.Sky.sqf F o) z*Zb (Go.Sky.sqf F o) y=0 by grind)with w|w|w
     .exact w
     .exfalso;obtain⟨c,d,B,hc,hd,e⟩:=h.sq;obtain⟨c',d',Q,R,Y⟩:=h.srt;have w1:Zb o z*Zb o y<0:=Zf0 (Pk R) (Pk Q) (Y z).symm (Y y).symm w;have p1:=aV hz hy;have q1:((d:Rat)*(d:Rat))*(Zb p z*Zb p y)=((c:Rat)*(c:Rat))*((Zb o z*Zb o y)*((Zb B z*Zb B y)*(Zb B z*Zb B y))):=by
       have a1:=e z;have a2:=e y;have:((d:Rat)*Zb p z)*((d:Rat)*Zb p y)=((c:Rat)*(Zb o z*(Zb B z*Zb B z)))*((c:Rat)*(Zb o y*(Zb B y*Zb B y))):=by rw [a1,a2]
       grind
      have D:=aV (Gl (Pk hd)) p1;have q3:0<=(Zb B z*Zb B y)*(Zb B z*Zb B y):=by
       by_cases t:Zb B z*Zb B y=0
       .rw [t];grind
       .exact dC (Gl t)
      have q4:=aM (dC (Gl (Pk hc))) (aM (show 0<=-(Zb o z*Zb o y) by grind) q3);grind
     .rcases dE.1 w with t|t
      .exact absurd t hσ
      .exact absurd t V)
    unfold An at k;by_cases g:Zb o b=0
    .rw [aK g]at k;rw [aK ((h.zero b).2 g)]at Z;omega
    .rw [aH g]at k;rw [aH (λe=>g ((h.zero b).1 e))]at Z;omega
 .rintro⟨x,x1,x2,W⟩;rcases(show x=a\/x=b\/(a<x/\x<b) by grind)with q|q|⟨q1,D⟩
  .subst q;exact j.1 (.inl W)
  .subst q;exact j.1 (.inr (.inl W))
  .have r:=Zrt p.length p a;have r0:=Zgs p.length p a h.tr h.ne (aI _);rcases(show Eh p.length p a<0\/Eh p.length p a=1 by omega)with k|k
   .exact .inl k
   .right;have hv:=Znx h.tr h.ne h.sz h.hn h.hl h.hF h.eq h.otr h.one h.ok q1 k W;have m1:=Zj0 h.otr h.one h.ok (dC D);unfold An;by_cases g:Zb o b=0
    .rw [aK g];have hx:Zb (Go.Sky.sqf F o) x≠0:=λe=>h.nz (x:=x) O5 ((h.zero x).1 e);rcases iG (vch F o b) (vch F o x)with w|w
     .omega
     .exfalso;have:=Zdk h.otr h.one h.ok (dC D) w hx b (dC D) O5;rw [(h.zero b).2 g]at this;grind
    .rw [aH g];omega
theorem Zt7(g:Rat->Rat){h:Rat}(j:0<h):∀(n:Nat) (u v:Rat),u<v->v-u<=(n:Rat)*h->g u*g v<0->∃x y,u<=x/\x<y/\y<=v/\y-x<=h/\g x≠0/\g x*g y<=0
 | 0,u,v,a,b,_=>by push_cast at b;grind
 | n+1,u,v,a,b,c=>by
  push_cast at b;have d:g u≠0:=λe=>by rw [e]at c;grind
  by_cases i:v-u<=h
  .exact⟨u,v,O5,a,O5,i,d,O5⟩
  .rcases(show g u*g (u+h)<=0\/0<g u*g (u+h) by grind)with q|q
   .exact⟨u,u+h,O5,O5,O5,O5,d,q⟩
   .have k:g (u+h)*g v<0:=by
     have D:=Gl d;rcases(show g (u+h)*g v<0\/0<=g (u+h)*g v by grind)with w|w
     .exact w
     .have G:=aV q (show 0 < -(g u*g v) by grind);have H:=aM (dC D) w;grind
    obtain⟨x,y,F,l,m,r,z,B⟩:=Zt7 g j n (u+h) v O5 O5 k;exact⟨x,y,O5,l,m,r,z,B⟩
theorem Znv{c:Rat}(h:a*b<0)(d:a-b<=c)(e:b-a<=c):-c<=a/\a<=c:=by
 rcases(show 0<a\/a<0\/a=0 by grind)with q|q|q
 .have:b<0:=by
   rcases(show b<0\/0<=b by grind)with w|w
   .exact w
   .have:=aM (dC q) w;grind
  grind
 .have:0<b:=by
   rcases(show 0<b\/b<=0 by grind)with w|w
   .exact w
   .have:=aM (show 0<=-a by grind) (show 0<=-b by grind);grind
  grind
 .rw [q]at h;grind
theorem Zuj{F:Nat}(hx:Tr xs)(h0:xs≠[])(hC:Bv F xs)(ho:Tr o)(o0:o≠[])(hE:Ed o (sqf F xs))(r:u<v)(hu:Zb (sqf F xs) u≠0)(h:Zb o u*Zb o v<0):vch F xs v<vch F xs u:=by
 rcases iG (vch F xs v) (vch F xs u)with q|q
 .exact q
 .exfalso;have hk:=Zdk hx h0 hC (dC r) q hu;obtain⟨k,w,R,B⟩:=hE;have m:=Pk R;have l:∀d,Tr d->Ed d o->Ed d (tzl w)->d.length<=1:=λd hd e1 M=>by
   obtain⟨g,s1,I,r1⟩:=e1;obtain⟨i,s2,c2,r2⟩:=M;refine Zfd hx h0 hC.1.2.2.1 hd ⟨k*g,lmul w s1,bE R I,λx=>?_⟩ ⟨k*g*i,Nx ((lmul (ld w) s1).map λa=>i*a) ((lmul s2 (ld o)).map λa=>g*a),bE (bE R I) c2,λx=>?_⟩
   .rw [Zu];have Y:=B x;have j:=r1 x;push_cast;grind
   .rw [Xc,Zi,Zi,Zu,Zu,Ki];have W:=Dr ((sqf F xs).map λa=>k*a) (lmul w o) (λy=>by rw [Zi,Zu];exact B y) x;rw [Ae,Cj]at W;have j:=r1 x;have Z:=r2 x;rw [Ng]at Z;push_cast;have b1:(k:Rat)*g*i*Zb (ld (sqf F xs)) x=(g:Rat)*i*(Zb (ld w) x*Zb o x+Zb w x*Zb (ld o) x):=by rw [<-W];grind
    rw [b1];have b2:(g:Rat)*i*(Zb (ld w) x*Zb o x+Zb w x*Zb (ld o) x)=(i:Rat)*(Zb (ld w) x*((g:Rat)*Zb o x))+(g:Rat)*(((i:Rat)*Zb w x)*Zb (ld o) x):=O5;rw [b2,j,Z];grind
  obtain⟨ε,e1,M⟩:=Ybb ho (Qo w) o0 l u v;obtain⟨G,l1,l2⟩:=Ci u v o;obtain⟨H,m1,m2⟩:=Ci u v w;obtain⟨z,d1,-,d3⟩:=Hl (show(0:Rat)<1 by decide) (show 0<G+H by grind) (show 0<ε/2 by grind);obtain⟨n,hn⟩:=Zgr (v-u) d1;obtain⟨x,y,D,x2,V,x4,x5,x6⟩:=Zt7 (Zb o) d1 n u v r hn h;have sx:=hk x D O5;have sy:=hk y O5 V;have ox:=B x;have oy:=B y;have Q:Zb o y≠0:=λe=>by
   rw [e]at oy;rcases dE.1 (show(k:Rat)*Zb (sqf F xs) y=0 by grind)with t|t
   .exact m t
   .rw [t]at sy;grind
  have N:Zb o x*Zb o y<0:=by
   rcases(show Zb o x*Zb o y<0\/Zb o x*Zb o y=0 by grind)with t|t
   .exact t
   .rcases dE.1 t with t|t
    .exact absurd t x5
    .exact absurd t Q
  have S:0<Zb (sqf F xs) x*Zb (sqf F xs) y:=by
   have Y:=aV sx sy;have j:=Gl hu;rcases(show 0<Zb (sqf F xs) x*Zb (sqf F xs) y\/Zb (sqf F xs) x*Zb (sqf F xs) y<=0 by grind)with t|t
   .exact t
   .have:=aM (dC j) (show 0<=-(Zb (sqf F xs) x*Zb (sqf F xs) y) by grind);grind
  have P:Zb w x*Zb w y<0:=by
   have Y:(k:Rat)*k*(Zb (sqf F xs) x*Zb (sqf F xs) y)=(Zb w x*Zb w y)*(Zb o x*Zb o y):=by
    have:((k:Rat)*Zb (sqf F xs) x)*((k:Rat)*Zb (sqf F xs) y)=(Zb w x*Zb o x)*(Zb w y*Zb o y):=by rw [ox,oy]
    grind
   have j:=aV (Gl m) S;rcases(show Zb w x*Zb w y<0\/0<=Zb w x*Zb w y by grind)with t|t
   .exact t
   .have:=aM t (show 0<=-(Zb o x*Zb o y) by grind);grind
  have I:=l2 x y D O5 V;have c2:=m2 x y D O5 V;have n1:=aM (a:=G) (b:=z-(y-x)) O5 O5;have n2:=aM (a:=H) (b:=z-(y-x)) O5 O5;have n3:=aM (a:=G) (b:=z) O5 O5;have n4:=aM (a:=H) (b:=z) O5 O5;obtain⟨b1,b2⟩:=Znv (c:=ε/2) N O5 O5;obtain⟨b3,b4⟩:=Znv (c:=ε/2) P O5 O5;rcases M x D O5 with t|t
  .unfold Big at t;grind
  .unfold Big at t;rw [Ng]at t;grind
theorem Znk{F:Nat}(i:Tr xs)(d:xs≠[])(e:Bv F xs)(c:u<v)(g:Zb (sqf F xs) u≠0)(h:Zb (sqf F xs) v=0):vch F xs v<vch F xs u:=by
 rcases iG (vch F xs v) (vch F xs u)with q|q
 .exact q
 .exfalso;have:=Zdk i d e (dC c) q g v (dC c) O5;rw [h]at this;grind
theorem Odp.ed{F n:Nat}(h:Odp F n p o):Ed o (Go.Sky.sqf F p):=by have c:=Dp.start h.tr h.ne;obtain⟨-,d⟩:=Ff h.tr h.ne h.sz h.hn h.hl h.hF p.length (Xb p) c (by rw [Pj h.tr];exact aI _);rw [<-h.eq]at d;rwa [Dd c.2.2.1]at d
theorem Yfc{F:Nat}(i:Tr xs)(c:xs≠[])(d:Bv F xs)(x:Rat):Zb xs x=0↔Zb (sqf F xs) x=0:=by
 constructor
 .intro h;have j:(x.den:Int)≠0:=by exact_mod_cast x.den_nz
  have e:((x.num:Int):Rat)/((x.den:Int):Rat)=x:=by rw [<-Rat.divInt_eq_div];exact Rat.num_divInt_den x
  have:=Yfe i c d.1.2.2.1 j (r:=x.num) (by rw [e];exact h);rwa [e]at this
 .intro h;obtain⟨g,k⟩:=Ym2 i c d.1.2.2.1;rw [k x,h];grind
theorem Ynt {F n:Nat}  (h:Odp F n p o) (d:Bv F p) {K:Nat} {e:Nat} (j:∀u v:Rat,-(K:Rat)<=u->u<=v->v<=(K:Rat)->v-u<=1/((2^e:Nat):Rat)->vch F p u-vch F p v<=1)
   (h1:-(K:Rat)+1<=s) (H:t<=(K:Rat)) (hs:0<=Zb p s) (ht:0<=Zb p t) (N:Zx8 p s t):1/((2^(e+1):Nat):Rat)<t-s:=by
 obtain⟨x,x1,x2,x3⟩:=N;have l:s<x:=by rcases(show s<x\/s=x by grind)with q|q;exact q;subst q;grind
 have m:x<t:=by rcases(show x<t\/x=t by grind)with q|q;exact q;subst q;grind
 obtain⟨f1,f2,f3,f4,f5,f6⟩:=Og F h.tr h.ne d.1.2.2.1;have i:Zb (Go.Sky.sqf F p) x≠0:=λz=>by have:=(Yfc h.tr h.ne d x).2 z;grind
 rcases(show 1/((2^(e+1):Nat):Rat)<t-s\/t-s<=1/((2^(e+1):Nat):Rat) by grind)with q|q
 .exact q
 .exfalso;have P:=two_pow_pos e;have Q:=two_pow_pos (e+1);have D:((2^(e+1):Nat):Rat)=2*((2^e:Nat):Rat):=by rw [cC];push_cast;grind
  have hi:0<((2^e:Nat):Rat)⁻¹:=gX.2 P;have I:1/((2^(e+1):Nat):Rat)=((2^e:Nat):Rat)⁻¹/2:=by rw [D];grind
  have G:1/((2^e:Nat):Rat)=((2^e:Nat):Rat)⁻¹:=O5;have M:((2^e:Nat):Rat)⁻¹<=1:=by
   have Z:(1:Rat)<=((2^e:Nat):Rat):=by have:1<=2^e:=dY e;exact_mod_cast this
   have g2:=aM (a:=((2^e:Nat):Rat)-1) (b:=((2^e:Nat):Rat)⁻¹) O5 O5;have g3:((2^e:Nat):Rat)*((2^e:Nat):Rat)⁻¹=1:=kN _ O5;grind
  obtain⟨u,u1,u2,u3⟩:∃u,s-((2^e:Nat):Rat)⁻¹/2<=u/\u<=s/\vch F p x<vch F p u:=by
   by_cases z:Zb (Go.Sky.sqf F p) s=0
   .obtain⟨δ,Y,B⟩:=Bp (Go.Sky.sqf F p).length (Go.Sky.sqf F p) (s-((2^e:Nat):Rat)⁻¹/2) (aI _);have r:=Zgs (Go.Sky.sqf F p).length (Go.Sky.sqf F p) (s-((2^e:Nat):Rat)⁻¹/2) f2 f3 (aI _);obtain⟨u,S,V,W⟩:∃u,s-((2^e:Nat):Rat)⁻¹/2<u/\u<=s-((2^e:Nat):Rat)⁻¹/2+δ/\u<s:=by
     rcases(show s-((2^e:Nat):Rat)⁻¹/2+δ<s\/s<=s-((2^e:Nat):Rat)⁻¹/2+δ by grind)with w|w
     .exact⟨_,O5,jI,w⟩
     .exact⟨s-((2^e:Nat):Rat)⁻¹/4,O5,O5,O5⟩
    have R:Zb (Go.Sky.sqf F p) u≠0:=λc=>by have:=B u S V;rw [c]at this;exact r this.symm
    have m1:=Znk h.tr h.ne d W R z;have m2:=Zj0 h.tr h.ne d (dC l);exact⟨u,O5,O5,O1⟩
   .have g:0<Zb p s:=by have:Zb p s≠0:=λc=>z ((Yfc h.tr h.ne d s).1 c);grind
    have k:=h.opp (x:=s) (y:=x) (by have:=aV g (show 0 < -Zb p x by grind);grind);exact⟨s,O5,O5,Zuj h.tr h.ne d h.otr h.one h.ed l z k.1⟩
  have u4:vch F p t<vch F p x:=by
   by_cases z:Zb (Go.Sky.sqf F p) t=0
   .exact Znk h.tr h.ne d m i z
   .have g:0<Zb p t:=by have:Zb p t≠0:=λc=>z ((Yfc h.tr h.ne d t).1 c);grind
    have k:=h.opp (x:=x) (y:=t) (by have:=aV g (show 0 < -Zb p x by grind);grind);exact Zuj h.tr h.ne d h.otr h.one h.ed m i k.1
  have:=j u t O5 O5 H O5;omega
end Go.Sky

