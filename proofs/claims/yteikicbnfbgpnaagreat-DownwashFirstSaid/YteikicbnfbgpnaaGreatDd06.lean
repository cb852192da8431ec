/- Rules, arithmetic and contracts: part 7. No conditions but those that each theorem names. -/
import Derived.Test.YteikicbnfbgpnaaGreatDd05
set_option linter.all false
namespace Go.Sky
variable{F K:Nat}{xs a p t u b q:List Int}{z:R2}{k:Int}
def vch(F:Nat)(xs:List Int)(x:Rat):Int:=vat ((chn F xs).map Zf) x
def cvc_v(h:0<z.2):cvc F xs z=vch F xs (qv z):=Yo2 h
def Sqn(P:R2->R2->Prop)(hi:Rat):Rat->List (R2×R2)->Prop
 | d,[]=>d<=hi
 | d,c::r=>d<=qv c.1/\qv c.1<qv c.2/\P c.1 c.2/\Sqn P hi (qv c.2) r
theorem Sqn.le{P:R2->R2->Prop}{hi:Rat} : ∀{lo:Rat} {l:List (R2×R2)},Sqn P hi lo l->lo<=hi
 | lo,[],h=>h
 | lo,c::r,h=>by have:=Sqn.le h.2.2.2;have:=h.1;have:=h.2.1;grind
theorem Sqn.low{P:R2->R2->Prop}{hi:Rat}{lo d:Rat}(e:d<=lo):∀{l:List (R2×R2)},Sqn P hi lo l->Sqn P hi d l
 | [],h=>by have h:lo<=hi:=h;show d<=hi;grind
 | c::r,h=>⟨by have:=h.1;grind,h.2⟩
def Sqn.app{P:R2->R2->Prop}{d hi:Rat}{g:List (R2×R2)}(e:Sqn P hi d g):∀{lo:Rat} {f:List (R2×R2)},Sqn P d lo f->Sqn P hi lo (f ++ g)
 | lo,[],h=>e.low h
 | lo,c::r,h=>⟨h.1,h.2.1,h.2.2.1,Sqn.app e h.2.2.2⟩
theorem Zpv{a:R2}(j:0<a.2)(h:a.1.natAbs<=K):-(K:Rat)<=qv a/\qv a<=(K:Rat):=by
 obtain⟨g,i⟩:=Ykv h;have l:(1:Rat)<=(a.2:Rat):=by exact_mod_cast (show 1<=a.2 by omega)
 have c:(0:Rat)<=(K:Rat):=Gx (bG _);have hi:=fZ.2 (show 0<(a.2:Rat) by grind);have d:(a.2:Rat)*(a.2:Rat)⁻¹=1:=O4;unfold qv;rw [jJ];have t1:=aJ (a:=(a.2:Rat)⁻¹) (b:=(K:Rat)*a.2-a.1) O4 (by have:=aJ (a:=(K:Rat)) (b:=(a.2:Rat)-1) c O4;grind);have t2:=aJ (a:=(a.2:Rat)⁻¹) (b:=(K:Rat)*a.2+a.1) O4 (by have:=aJ (a:=(K:Rat)) (b:=(a.2:Rat)-1) c O4;grind);have e:(a.2:Rat)⁻¹*((K:Rat)*a.2-a.1)=(K:Rat)*(a.2*(a.2:Rat)⁻¹)-a.1*(a.2:Rat)⁻¹:=O4;have f:(a.2:Rat)⁻¹*((K:Rat)*a.2+a.1)=(K:Rat)*(a.2*(a.2:Rat)⁻¹)+a.1*(a.2:Rat)⁻¹:=O4;rw [e,d]at t1;rw [f,d]at t2;constructor<;>grind
theorem Zcm{a:R2}{n:Nat}(c:0<a.2)(h:bl a.1.natAbs<=n)(i:bl a.2.natAbs<=n)(l:n<=65536) :
  ¬Ia a.1 a.2/\0<(slow a).2/\bl (slow a).1.natAbs<=n/\bl (slow a).2.natAbs<=n/\qv (slow a)=qv a:=by
 obtain⟨f1,f2,f3,f4,f5,f6⟩:=Zqh (x:=a.1) (y:=a.2) (X:=a.1) (Y:=a.2) c c rfl h i l;refine⟨f1,f3,f4,f5,?_⟩;have r1:=Gg c;have r2:=Gg f3;have j:((Co a.1 a.2:Int):Rat)*(a.2:Rat)=(a.1:Rat)*((Ey a.1 a.2:Int):Rat):=by exact_mod_cast f6
 show((Co a.1 a.2:Int):Rat)/((Ey a.1 a.2:Int):Rat)=(a.1:Rat)/(a.2:Rat);generalize ((Co a.1 a.2:Int):Rat)=N at *;generalize ((Ey a.1 a.2:Int):Rat)=D at *;generalize (a.1:Rat)=x at *;generalize (a.2:Rat)=y at *;have:N/D*(D*y)=x/y*(D*y):=by have d:N/D*(D*y)=N*y:=O4;have e:x/y*(D*y)=x*D:=O4;rw [d,e,j]
 have m:=bD r2 r1;have f:N/D=N/D*(D*y)*(D*y)⁻¹:=O4;have g:x/y=x/y*(D*y)*(D*y)⁻¹:=O4;rw [f,this,<-g]
theorem sep_of  {A e:Nat} (x:Tr xs) (f:xs≠[]) (n:Ai F xs) (o:0<K) (m:0<A) (y:∀i,(cf (sqf F xs) i).natAbs<=A) (B:∀i,(cf (Yx (sqf F xs)) i).natAbs<=A)
  (hs:2<=(sqf F xs).length->Zyy K A (sqf F xs).length e=true) (u v:Rat) (j:-(K:Rat)<=u) (c:u<=v) (l:v<=(K:Rat)) (w:v-u<=1/((2^e:Nat):Rat)):vch F xs u-vch F xs v<=1:=by
 by_cases d:2<=(sqf F xs).length
 .have h:=Ypd x f n o m rfl d y B (hs d) j c l w;show vat _ u-vat _ v<=1;rw [h];unfold crs;split<;>decide
 .have D:=Od (sqf F xs);have s:Yx (sqf F xs)=[]:=aC O;have r:chn F xs=[sqf F xs]:=by unfold chn;rw [s,Ydc,Ew]
  unfold vch vat;rw [r];have r1:=Zbe (([Zf (sqf F xs)]).map λg=>Ea (g u));have r2:=Zbe (([Zf (sqf F xs)]).map λg=>Ea (g v));simp only [cK,fS,dI,eX]at r1 r2 ⊢;omega
theorem Sqn.mem{P:R2->R2->Prop}{hi:Rat} : ∀{lo:Rat} {l:List (R2×R2)},Sqn P hi lo l->∀c∈l,P c.1 c.2
 | _,[],_,c,e=>by cases e
 | lo,d::r,h,c,e=>by
  rcases bQ.1 e with rfl|e
  .exact h.2.2.1
  .exact Sqn.mem h.2.2.2 c e
theorem en_bl{Q d B:Nat}(h:En K Q d z)(g:0<Q)(s:Q*2^d<2^B)(v:K*(Q*2^d)<2^B):bl z.1.natAbs<=B/\bl z.2.natAbs<=B:=by
 obtain⟨j,i,w,y⟩:=h;have c:0<Q*2^d:=fW g (cE O3);have f:z.2.natAbs<=Q*2^d:=by have:=fN.2 i;rw [dD]at this;exact mD c this
 have l:z.1.natAbs<=K*z.2.natAbs:=by
  have r:=Gg j;have e:(z.1:Rat)=qv z*z.2:=by unfold qv;grind
  have t1:=aJ (a:=(K:Rat)-qv z) (b:=(z.2:Rat)) O4 O4;have t2:=aJ (a:=(K:Rat)+qv z) (b:=(z.2:Rat)) O4 O4;have x:((K*z.2.natAbs:Nat):Int)=(K:Int)*z.2:=by push_cast;rw [kS O]
  have n:((z.1:Int):Rat)<=(((K:Int)*z.2:Int):Rat):=by push_cast;grind
  have o:((-((K:Int)*z.2):Int):Rat)<=((z.1:Int):Rat):=by push_cast;grind
  have D:z.1<=(K:Int)*z.2:=by exact_mod_cast n
  have G:-((K:Int)*z.2)<=z.1:=by exact_mod_cast o
  omega
 have m:K*z.2.natAbs<=K*(Q*2^d):=aX _ f;exact⟨Zdj O,Zdj O⟩
theorem Yjk{n e w Q B:Nat}(h:En (2^n) Q (e+w) z)(o:0<Q)(g:Q<2^(2*n))(r:3*n+1+(e+w)<=B):bl z.1.natAbs<=B/\bl z.2.natAbs<=B:=by
 have c:∀m,m<=B->2^m<=2^B:=λm h=>dH O3 h;have f:0<2^(e+w):=cE O3;have d:Q*2^(e+w)<2^(2*n)*2^(e+w):=eF g f;have j:2^n*(Q*2^(e+w))<2^n*(2^(2*n)*2^(e+w)):=jI d (cE O3);have i:2^(2*n)*2^(e+w)=2^(2*n+(e+w)):=(bW _ _ _).symm;have l:2^n*(2^(2*n)*2^(e+w))=2^(n+(2*n+(e+w))):=by rw [i,<-bW]
 rw [i]at d;rw [l]at j;exact en_bl h o (dC d (c _ O)) (dC j (c _ O))
theorem Ed.const{g:List Int}(h:Ed g a)(o:Tr g)(m:Tr a)(l:a≠[])(w:g.length=a.length):∃k c:Int,k≠0/\c≠0/\∀x:Rat,(k:Rat)*Zf a x=(c:Rat)*Zf g x:=by
 obtain⟨k,s,i,h⟩:=h;obtain⟨v,f,j⟩:=Zxj i o m l h;have e:=aE.2 f
 match hs:tzl s,e,j with
 | [c],_,_=>
  have n:c≠0:=by have:=(Qg s).mem f;rw [hs]at this;exact this
  refine⟨k,c,i,n,λx=>?_⟩;rw [h x,<-Lg s,hs,Pu]
 | c::d::r,_,h9=>simp at h9;omega
theorem Ze8(p:List Int)(c:Int)(x:Rat):Zf (Zs p c) x=(c:Rat)*Zf p x:=by rw [<-Zl];exact Nw x _ _ λi=>by rw [Yk,Qu,cQ]
theorem Zoc{c:Int}(h:Tr p)(f:p≠[])(g:c≠0):Zs p c≠[]:=λe=>by have d:=Yk p c (p.length-1);rw [e,Zb6]at d;exact bK (h.mem f) g d.symm
theorem Ed.dv{g:List Int}(h:Ed g a):Dv g a:=by obtain⟨k,s,d,h⟩:=h;refine⟨k,s,d,λt=>?_⟩;have:=Nj (p:=a.map λc=>k*c) (q:=Qn s g) (λx=>by rw [Zl,Yo];exact h x) t;rw [Qu,Hh]at this;exact this
theorem ed_cop{w s:List Int}(G:k≠0)(m:Tr t)(I:Tr w)(t0:t≠[])(D:∀d,Tr d->Ed d t->Ed d w->d.length<=1)(h:∀x:Rat,(k:Rat)*(Zf u x*Zf w x)=Zf s x*Zf t x):Ed t u:=by
 obtain⟨g,A,B,f,j,n,y⟩:=Zmy w.length t w m I (aH _);have H:=D g f j n;have i:=(j.len f m t0).1
 match hgg:g,H,i with
 | [c],_,_=>
  have e:c≠0:=by have:=f.mem O5;exact this
  refine⟨k*c,Mt ((Qn A u).map λa=>k*a) (Qn B s),bK G e,λx=>?_⟩;rw [Xi,Zl,Yo,Yo];have l:=y x;rw [Pu]at l;have o:=h x;push_cast;rw [show(k:Rat)*c*Zf u x=k*(Zf u x*(c:Rat)) by grind,l];have v:(k:Rat)*(Zf u x*(Zf A x*Zf t x+Zf B x*Zf w x))=k*Zf A x*Zf u x*Zf t x+Zf B x*(k*(Zf u x*Zf w x)):=O4;rw [v,o];grind
 | c::d::r,h9,_=>simp at h9
def Oe(F:Nat)(p:List Int):List Int:=Na F (Yz p) (Yx (Yz p))
def Ei(F:Nat)(p:List Int):Prop:=eok F (gA (Yz p) (Yx (Yz p))) (gB (Yz p) (Yx (Yz p)))
theorem Pk(h:Tr p)(i:p≠[])(g:Ei F p):Tr (Oe F p)/\Oe F p≠[]/\Yz (Oe F p)=Oe F p/\Yz p=Qn (sqf F p) (Oe F p)/\(sqf F p).length+(Oe F p).length=p.length+1:=by obtain⟨f1,f2,f3,f4,f5,f6⟩:=Ou (F:=F) h i g;have c:Tr (Yz p):=Oy (Yv h);have d:Tr (Yx (Yz p)):=Ni c;have f:=Zdq (F:=F) c d;have j:=Ov f2 f f3 f5;rw [<-f4,Pm h]at j;have l:=aE.2 f3;have m:=aE.2 f5;refine⟨f,f5,Zwv f (Zlh c d f5) (Ag (Zmd F (Zil c d) (Zik c d)) (λe=>f5 (by unfold Na;rw [e];rfl))),f4,?_⟩;unfold Oe;omega
theorem Ymx{h:List Int}(i:Tr h)(g:h≠[]){m:Int}(e:∀x:Rat,(k:Rat)*(Zf a x*Zf h x)=(m:Rat)*(Zf b x*Zf h x))(x:Rat):(k:Rat)*Zf a x=(m:Rat)*Zf b x:=by
 have d:=Ee (v:=h) (f:=Mt (a.map λc=>k*c) (b.map λc=>(-m)*c)) (by rw [Zak i];exact g) (λx=>by rw [Xi,Zl,Zl];have:=e x;push_cast;grind) x
 rw [Xi,Zl,Zl]at d;push_cast at d;grind
theorem Zzw(R:Tr p)(h0:p≠[])(l:Ei F p)(e:Ei F (Oe F p)):Ed (sqf F (Oe F p)) (sqf F p):=by
 obtain⟨n,Y,f,a4,a5⟩:=Pk R h0 l;obtain⟨D,B,b3,Z,b5⟩:=Pk n Y e;obtain⟨-,u2,u3,-,-,-⟩:=Ou (F:=F) R h0 l;obtain⟨-,t2,t3,-,-,-⟩:=Ou (F:=F) n Y e;have ht:Tr (Yz p):=Oy (Yv R);have o:Ed (Oe F p) (Yx (Yz p)):=(Zd1 ht (Ni ht) l).2.ed;have e2:Ed (Oe F (Oe F p)) (Yx (Oe F p)):=by have:=(Zd1 (F:=F) (p:=Yz (Oe F p)) (q:=Yx (Yz (Oe F p))) (by rw [f];exact n) (Ni (by rw [f];exact n)) e).2.ed;have h9:Oe F (Oe F p)=Na F (Yz (Oe F p)) (Yx (Yz (Oe F p))):=rfl;rw [<-h9,f]at this;exact this
 have N:∀d,Tr d->Ed d (Oe F p)->Ed d (Yx (Oe F p))->Ed d (Oe F (Oe F p)):=λd H i r=>by unfold Oe at *;have:=Zlf (F:=F) (d:=d) (p:=Yz (Na F (Yz p) (Yx (Yz p)))) (q:=Yx (Yz (Na F (Yz p) (Yx (Yz p))))) (by rw [f];exact n) (Ni (by rw [f];exact n)) (by rw [f];exact i) (by rw [f];exact r);exact this
 rw [f]at Z;generalize hg:Oe F p=g at *;generalize hh:Oe F g=h at *;generalize hu:sqf F p=u at *;generalize a0:sqf F g=t at *;obtain⟨k,s,hk,P⟩:=o;obtain⟨m,w,hm,Q⟩:=e2;have hP:∀x:Rat,Zf (Yz p) x=Zf (lmul u g) x:=λx=>by rw [a4,Yo,Yc]
 have hG:∀x:Rat,Zf g x=Zf (lmul t h) x:=λx=>by
  have:Zf g x=Zf (Qn t h) x:=by rw [<-Z]
  rw [this,Yo,Yc]
 have I:∀x:Rat,Zf (Yx (Yz p)) x=Zf (ld u) x*Zf g x+Zf u x*Zf (ld g) x:=λx=>by rw [Kv,Ce hP,Be]
 have v:∀x:Rat,(m:Rat)*Zf (ld g) x=Zf w x*Zf h x:=λx=>by rw [<-Kv];exact Q x
 have V:∀x:Rat,(k:Rat)*(Zf (Qn u w) x*Zf h x)=(m:Rat)*(Zf (Qn (Mt s ((ld u).map λc=>(-k)*c)) t) x*Zf h x):=λx=>by rw [Yo,Yo,Xi,Zl];have i:=P x;have r:=I x;have h3:=v x;have h4:=hG x;rw [Yc]at h4;rw [r]at i;have:(k:Rat)*(Zf u x*Zf w x*Zf h x)=Zf u x*k*(Zf w x*Zf h x):=O4;rw [this,<-h3];push_cast;have:Zf u x*(k:Rat)*(m*Zf (ld g) x)=m*(k*(Zf (ld u) x*Zf g x+Zf u x*Zf (ld g) x)-k*Zf (ld u) x*Zf g x):=O4;rw [this,i,h4];grind
 have y:=Ymx D B V;refine ed_cop (s:=(Qn (Mt s ((ld u).map λc=>(-k)*c)) [m])) hk t2 (w:=tzl w) (Qg w) t3 (λd H i r=>?_) (λx=>?_)
 .have G:Ed d w:=r.congr λx=>Lg w x;have M:Ed (Qn d h) h:=N _ (Qi _ _) (by
   obtain⟨S,W,j,o⟩:=i;exact⟨S,W,j,λx=>by rw [hG x,Yc,Yo];have:=o x;grind⟩) (by
   obtain⟨S,W,j,o⟩:=G;exact⟨S*m,W,bK j hm,λx=>by rw [Kv,Yo];have:=o x;have:=v x;push_cast;grind⟩)
  have d0:=(i.len H t2 t3).1;have hl:=Ov H D d0 B;have:=(M.len (Qi _ _) D B).2;have l2:=aE.2 B;omega
 .rw [Lg,Yo,Pu];have:=y x;rw [Yo,Yo]at this;rw [this];grind
theorem Yc9(o:Tr u)(r:u≠[])(d:Tr t)(t0:t≠[])(m:Yz t=t)(h:Ed t u):pdv u t/\u=Qn (Lq u t) t/\Tr (Lq u t)/\Lq u t≠[]:=by
 have j:Ys t=1:=by have:=Za2 d t0;rwa [m]at this
 obtain⟨k,s,l,h⟩:=h.dv;obtain⟨q,n⟩:=gauss j _ k s rfl l h;have c:u=Qn (tzl q) t:=o.ext (Qi _ _) λi=>by rw [Hh,n,Zpw]
 obtain⟨f,g⟩:=Zp4 (Qg q) d t0;rw [<-c]at f g;rw [g];exact⟨f,c,Qg q,λe=>r (by rw [c,e,Ff])⟩
theorem Zl4(d:Tr p)(j:p≠[])(c:Ei F p)(m:2<=p.length):(Oe F p).length<p.length:=by obtain⟨h,l,-⟩:=Pk d j c;have f:Tr (Yz p):=Oy (Yv d);have i:Ed (Oe F p) (Yx (Yz p)):=(Zd1 f (Ni f) c).2.ed;have g:=Od (Yz p);have n:=Pm d;have:=(i.len h (Ni f) (λe=>by rw [e]at g;simp at g;omega)).2;omega
theorem Ynk(l:Tr p)(n:Yz p=p)(d:p.length=1):p=[1]:=by
 have f:p≠[]:=λe=>by rw [e]at d;simp at d
 have h:=Za2 l f;have j:0<cf (Yz p) ((Yz p).length-1):=Ag (Yv l) (λe=>f (aC (by rw [<-Zw,e];rfl)));rw [n]at h j
 match p,d with
 | [c],_=>
  have m:0<c:=j;have g:c∣Ys [c]:=Fr λi=>by
   match i with
   | 0=>exact Int.dvd_refl c
   | i+1=>rw [Yg O5];exact jN c
  rw [h]at g;have:=mG O3 g;rw [show c=1 by omega]
def Dp(p q:List Int):Prop:=Tr q/\q≠[]/\Yz q=q/\∃a,Tr a/\Yz p=Qn a q
theorem Dp.start(c:Tr p)(d:p≠[]):Dp p (Yz p):=
 ⟨Oy (Yv c),Zhy c d,Zwv (Oy (Yv c)) (Za2 c d) (Ag (Yv c) (λe=>d (aC (by rw [<-Zw,e];rfl)))),[1],.inr (show cf [1] 0≠0 by decide),by refine(Oy (Yv c)).ext (Qi _ _) λi=>?_;rw [Hh,Ztt];rfl⟩
theorem Dp.sz{n:Nat}(g:Tr p)(o:p≠[])(hs:Sz n p)(x:p.length<=13)(h:Dp p q):Sz (n+15) q/\q.length<=p.length:=by obtain⟨j,r,w,a,l,e⟩:=h;have s:fcs 0 13<=2^15*2^15:=O6;have d:=Pm g;have c:=Zhy g o;have v:Tr (Yz p):=Oy (Yv g);have i:a≠[]:=λm=>c (by rw [e,m,Ff]);refine⟨Fi (L:=13) (R:=24) j l (Zo9 hs) c v O O3 s (by rw [Dd];exact e),?_⟩;have f:=Ov l j i r;rw [<-e,d]at f;have:=aE.2 i;omega
theorem Dp.ok{n:Nat}(d:Tr p)(c:p≠[])(hs:Sz n p)(i:n<=220)(g:p.length<=11)(f:p.length<=F+1)(h:Dp p q):Ai F q/\Ei F q:=by obtain⟨e,j⟩:=h.sz d c hs O;have:=(chG F h.1 h.2.1 e O O O).1;exact⟨this,this.1.2.2.1⟩
theorem Dp.next(h:Dp p q)(c:Ei F q):Dp p (Oe F q):=by obtain⟨l,m,n,a,r,e⟩:=h;obtain⟨f,g,j,d,o⟩:=Pk l m c;refine⟨f,g,j,Qn a (sqf F q),Qi _ _,?_⟩;rw [n]at d;refine e.trans ((aI (Qn a) d).trans ?_);refine(Qi _ _).ext (Qi _ _) λi=>Nj (λx=>?_) i;rw [Yo,Yo,Yo,Yo];grind
def Cp(F:Nat):Nat->List Int->List Int
 | 0,p=>sqf F p
 | f+1,p=>if(sqf F p).length=1 then sqf F p else Qn (Lq (sqf F p) (sqf F (Oe F p))) (Cp F f (Oe F (Oe F p)))
def Zp9(F:Nat):Nat->List Int->List Int->List Int
 | 0,c,_=>c
 | f+1,c,q=>if(sqf F q).length=1 then c else if(sqf F (Oe F q)).length=1 then Qn c (Lq (sqf F q) (sqf F (Oe F q)))else Zp9 F f (Qn c (Lq (sqf F q) (sqf F (Oe F q)))) (Oe F (Oe F q))
theorem Zft(e:Tr q)(d:q≠[])(c:Ei F q)(h:(sqf F q).length=1):sqf F q=[1]/\q.length=1/\(Oe F q).length=1:=by
 obtain⟨f1,f2,f3,f4,f5,f6⟩:=Ou (F:=F) e d c;obtain⟨i,j,l,m,n⟩:=Pk e d c;have o:=aE.2 d;have g:q.length=1:=by
  rcases bA q.length 2 with f|f
  .omega
  .have:=Zl4 e d c f;omega
 exact⟨Ynk f2 f6 h,g,O⟩
theorem Zp2(c:Tr p):Qn p [1]=p:=by refine(Qi _ _).ext c λi=>Nj (λx=>?_) i;rw [Yo,Pu];push_cast;grind
theorem Yha(e:Tr q)(d:q≠[])(c:Ei F q)(h:q.length=1):∀f,Cp F f q=[1]:=λf=>by
 obtain⟨f1,f2,f3,f4,f5,f6⟩:=Ou (F:=F) e d c;obtain⟨i,g,j,l,m⟩:=Pk e d c;have n:=aE.2 f3;have o:=aE.2 g;have hs:(sqf F q).length=1:=O;have:=(Zft e d c hs).1;cases f with
 | zero=>exact this
 | succ f=>unfold Cp;rw [aF hs];exact this
theorem Zjp{p:List Int}{f:Nat}(e:Tr q)(d:q≠[])(c:Ei F q):Tr (Cp F f q):=by
 obtain⟨f1,f2,f3,f4,f5,f6⟩:=Ou (F:=F) e d c;cases f with
 | zero=>exact f2
 | succ f=>unfold Cp;split;exact f2;exact Qi _ _
theorem Zzx{n:Nat}(B:Tr p)(r:p≠[])(hs:Sz n p)(y:n<=220)(v:p.length<=11)(s:p.length<=F+1):∀(f:Nat) (g q:List Int),Tr g->Dp p q->q.length<=f->Zp9 F f g q=Qn g (Cp F f q):=by
 intro f
 induction f with
 | zero=>intro g q _ d w;have:=aE.2 d.2.1;omega
 | succ f I=>
  intro g q H d w;have e:=(d.ok B r hs y v s).2;have j:=d.next e;have c:=(j.ok B r hs y v s).2;have h:=j.next c;have m:=(h.ok B r hs y v s).2;unfold Zp9 Cp;by_cases l:(sqf F q).length=1
  .rw [aF l,aF l,(Zft d.1 d.2.1 e l).1,Zp2 H]
  .rw [aD l,aD l];have M:2<=q.length:=by obtain⟨f1,f2,f3,f4,f5,f6⟩:=Ou (F:=F) d.1 d.2.1 e;obtain⟨Q,D,R,S,V⟩:=Pk d.1 d.2.1 e;have Z:=aE.2 f3;have l2:=aE.2 D;omega
   have N:=Zl4 d.1 d.2.1 e M;obtain⟨-,-,-,-,Y⟩:=Pk j.1 j.2.1 c;obtain⟨-,W,G,-,-,-⟩:=Ou (F:=F) j.1 j.2.1 c;have lb:=aE.2 G;by_cases o:(sqf F (Oe F q)).length=1
   .obtain⟨s1,s2,P⟩:=Zft j.1 j.2.1 c o;rw [aF o,Yha h.1 h.2.1 m P];refine(Qi _ _).ext (Qi _ _) λi=>Nj (λx=>?_) i;rw [Yo,Yo,Yo,Pu];push_cast;grind
   .rw [aD o,I _ _ (Qi _ _) h O];refine(Qi _ _).ext (Qi _ _) λi=>Nj (λx=>?_) i;rw [Yo,Yo,Yo,Yo];grind
theorem Zwq{e:Int}(f:e=1\/e=-1)(h:Ys q=1):Ys (Zs q e)=1:=by
 have c:Ys (Zs q e)∣Ys q:=Fr λi=>by
  have:=Ln (Zs q e) i;rw [Yk]at this;rcases f with rfl|rfl
  .rwa [fL]at this
  .rw [Int.mul_neg_one]at this;exact(mA.1 this)
 rw [h]at c;have g:=Nk (Zs q e);have j:=mG O3 c;rcases(show Ys (Zs q e)=0\/Ys (Zs q e)=1 by omega)with d|d
 .rw [d]at c;exact absurd (oB.1 c) O3
 .exact d
theorem Yg6(h:Ys q=1):Zx q=q:=by unfold Zx;rw [h];simp
theorem Zsw{e:Int}(d:Tr q)(f:q≠[])(g:Yz q=q)(c:Ei F q)(l:e=1\/e=-1) :
  Tr (Zs q e)/\Zs q e≠[]/\Yz (Zs q e)=q/\Zx (Zs q e)=Zs q e/\pdv (Zs q e) (sqf F q)/\Lq (Zs q e) (sqf F q)=Zs (Oe F q) e:=by
 have j:e≠0:=by rcases l with rfl|rfl<;>decide
 obtain⟨f1,f2,f3,f4,f5,f6⟩:=Ou (F:=F) d f c;obtain⟨s,v,w,h,y⟩:=Pk d f c;have o:Ys q=1:=by have:=Za2 d f;rwa [g]at this
 rw [g]at h;have r:Zs q e=Qn (Zs (Oe F q) e) (sqf F q):=by
  refine(Qe _ _).ext (Qi _ _) λi=>Nj (λx=>?_) i;have:Zf q x=Zf (Qn (sqf F q) (Oe F q)) x:=by rw [<-h]
  rw [Ze8,Yo,Ze8,this,Yo];grind
 obtain⟨m,n⟩:=Zp4 (Qe (Oe F q) e) f2 f3;rw [<-r]at m n;exact⟨Qe _ _,Zoc d f j,by rw [Zqb (Qe _ _) d (Ze4 q j).symm,g],Yg6 (Zwq l o),m,n⟩
theorem Yg5(c:Tr p)(d:p≠[]):∃e:Int,(e=1\/e=-1)/\Zx p=Zs (Yz p) e:=by
 by_cases h:cf (Zx p) ((Zx p).length-1)<0
 .refine⟨-1,.inr rfl,?_⟩;rw [Zjs (λe=>d (aC (by rw [<-Zw,e]))) h];refine(Yv c).ext (Qe _ _) λi=>?_;rw [Yk,Yk];omega
 .refine⟨1,.inl rfl,?_⟩;rw [Zjr h];refine(Yv c).ext (Qe _ _) λi=>?_;rw [Yk];omega
def Oz(F:Nat)(p:List Int):List Int:=Lq (Zs (Zx p) 1) (sqf F p)
def Bz(F:Nat)(p:List Int):List Int:=Lq (Zx (Oz F p)) (sqf F (Oz F p))
def Zcs(F:Nat):Nat->List Int->List Int
 | 0,p=>sqf F p
 | f+1,p=>if(sqf F p).length=1 then sqf F p else Qn (Lq (sqf F p) (sqf F (Oz F p))) (Zcs F f (Bz F p))
theorem Dn(h:Yz p=Yz q):sqf F p=sqf F q:=by unfold sqf;rw [h]
theorem Zjv(h:Yz p=Yz q):Oe F p=Oe F q:=by unfold Oe;rw [h]
theorem Zle(h:Yz p=Yz q):∀f,Cp F f p=Cp F f q
 | 0=>Dn h
 | f+1=>by unfold Cp;rw [Dn h,Zjv h]
theorem Zkz(v:Tr p)(r:p≠[])(d:Ei F p)(c:Ei F (Oe F p)) :
  (∃e:Int,(e=1\/e=-1)/\Zs (Zx p) 1=Zs (Yz p) e/\pdv (Zs (Yz p) e) (sqf F p)/\Oz F p=Zs (Oe F p) e/\Zx (Oz F p)=Oz F p/\pdv (Oz F p) (sqf F (Oe F p))/\Bz F p=Zs (Oe F (Oe F p)) e)/\
  Yz (Oz F p)=Oe F p/\Yz (Bz F p)=Oe F (Oe F p)/\Tr (Oz F p)/\Oz F p≠[]/\Tr (Bz F p)/\Bz F p≠[]:=by
 obtain⟨V,W,j,-⟩:=Dp.start v r;have f:Ei F (Yz p):=by unfold Ei;rw [j];exact d
 have s:Oe F (Yz p)=Oe F p:=Zjv j;have h:sqf F (Yz p)=sqf F p:=Dn j;obtain⟨e,l,w⟩:=Yg5 v r;have g:Zs (Zx p) 1=Zs (Yz p) e:=by rw [w];refine(Qe _ _).ext (Qe _ _) λi=>?_;rw [Yk,fL]
 obtain⟨-,-,-,-,G,H⟩:=Zsw V W j f l;rw [s,h]at H;rw [h]at G;have S:Oz F p=Zs (Oe F p) e:=by unfold Oz;rw [g,H]
 obtain⟨y,B,D,-,-⟩:=Pk v r d;obtain⟨I,M,n,o,N,P⟩:=Zsw y B D c l;rw [<-S]at I M n o N P;have x:sqf F (Oz F p)=sqf F (Oe F p):=Dn (by rw [n,D]);have m:Bz F p=Zs (Oe F (Oe F p)) e:=by unfold Bz;rw [o,x,P]
 obtain⟨R,Y,Z,-,-⟩:=Pk y B c;have Q:e≠0:=by rcases l with rfl|rfl<;>decide
 refine⟨⟨e,l,g,G,S,o,N,m⟩,n,?_,I,M,?_,?_⟩
 .rw [m,Zqb (Qe _ _) R (Ze4 _ Q).symm,Z]
 .rw [m];exact Qe _ _
 .rw [m];exact Zoc R Y Q
theorem Zy8{n:Nat}(r:Tr p)(j:p≠[])(hs:Sz n p)(o:n<=220)(m:p.length<=11)(l:p.length<=F+1):∀(f:Nat) (q:List Int),Tr q->q≠[]->Dp p (Yz q)->Zcs F f q=Cp F f q:=by
 intro f
 induction f with
 | zero=>intro q _ _ _;rfl
 | succ f w=>
  intro q v x h;have d:=(h.ok r j hs o m l).2;have g:Ei F q:=by unfold Ei at d ⊢;rwa [h.2.2.1]at d
  have i:=h.next d;rw [Zjv h.2.2.1]at i;have c:=(i.ok r j hs o m l).2;have e:=i.next c;obtain⟨-,r1,r2,r3,D,y,B⟩:=Zkz v x g c;unfold Zcs Cp;have s:=i.2.2.1;rw [Dn (show Yz (Oz F q)=Yz (Oe F q) by rw [r1,s]),w _ y B (by rw [r2];exact e),Zle (show Yz (Bz F q)=Yz (Oe F (Oe F q)) by rw [r2,e.2.2.1])]
def Cu(F:Nat)(q:List Int):List Int:=Lq (sqf F q) (sqf F (Oe F q))
theorem Cg(e:Tr q)(f:q≠[])(d:Ei F q)(c:Ei F (Oe F q)):pdv (sqf F q) (sqf F (Oe F q))/\sqf F q=Qn (Cu F q) (sqf F (Oe F q))/\Tr (Cu F q)/\Cu F q≠[]:=by obtain⟨f1,f2,f3,f4,f5,f6⟩:=Ou (F:=F) e f d;obtain⟨g,h,i,j,l⟩:=Pk e f d;obtain⟨-,t2,t3,-,-,t6⟩:=Ou (F:=F) g h c;exact Yc9 f2 f3 t2 t3 t6 (Zzw e f d c)
theorem Zxc{n:Nat}(h:Tr p)(o:p≠[])(hs:Sz n p)(v:p.length<=13)(l:Tr a)(m:Tr b)(e:Yz p=Qn a b):Sz (n+15) b/\b.length<=p.length/\b≠[]:=by have r:fcs 0 13<=2^15*2^15:=O6;have f:=Pm h;have c:=Zhy h o;have s:Tr (Yz p):=Oy (Yv h);have i:a≠[]:=λd=>c (by rw [e,d,Ff]);have j:b≠[]:=λd=>c (by rw [e,d,Zbw]);refine⟨Fi (L:=13) (R:=24) m l (Zo9 hs) c s O O3 r (by rw [Dd];exact e),?_,j⟩;have g:=Ov l m i j;rw [<-e,f]at g;have:=aE.2 i;omega
def Op(p c q:List Int):Prop:=∃a,Tr a/\Yz p=Qn a (Qn c q)
theorem Op.start(c:Tr p):Op p [1] (Yz p):=⟨[1],.inr (show cf [1] 0≠0 by decide),by refine(Oy (Yv c)).ext (Qi _ _) λi=>Nj (λx=>?_) i;rw [Yo,Yo,Pu];push_cast;show Zf (Yz p) x=_;grind⟩
theorem Op.next{f:List Int}(l:Tr q)(m:q≠[])(y:Yz q=q)(d:Ei F q)(c:Ei F (Oe F q))(h:Op p f q):Op p (Qn f (Cu F q)) (Oe F (Oe F q)):=by
 obtain⟨a,H,e⟩:=h;obtain⟨-,D,I,M⟩:=Cg l m d c;obtain⟨n,o,r,g,G⟩:=Pk l m d;obtain⟨-,-,-,j,-⟩:=Pk n o c;rw [y]at g;rw [r]at j;refine⟨Qn a (Qn (sqf F (Oe F q)) (sqf F (Oe F q))),Qi _ _,e.trans ?_⟩;refine(Qi _ _).ext (Qi _ _) λi=>Nj (λx=>?_) i;have s:Zf q x=Zf (sqf F q) x*Zf (Oe F q) x:=by rw [<-Yo,<-g]
 have v:Zf (sqf F q) x=Zf (Cu F q) x*Zf (sqf F (Oe F q)) x:=by rw [<-Yo,<-D]
 have w:Zf (Oe F q) x=Zf (sqf F (Oe F q)) x*Zf (Oe F (Oe F q)) x:=by rw [<-Yo,<-j]
 simp only [Yo];rw [s,v];rw [w];generalize Zf (sqf F (Oe F q)) x=A;generalize Zf (Oe F (Oe F q)) x=B;grind
theorem Op.sz{c:List Int}{n:Nat}(j:Tr p)(d:p≠[])(hs:Sz n p)(f:p.length<=13)(g:Tr c)(m:Tr q)(h:Op p c q):Sz (n+15) c/\c.length<=p.length/\c≠[]:=by obtain⟨a,l,e⟩:=h;exact Zxc j d hs f (Qi a q) g (e.trans ((Qi _ _).ext (Qi _ _) λi=>Nj (λx=>by rw [Yo,Yo,Yo,Yo];grind) i))
theorem Zzq(c:Tr p):Qn [1] p=p:=by rw [Dd];exact Zp2 c
theorem Yhr{n:Nat}(d:Tr p)(e:p≠[])(hs:Sz n p)(h:n<=220)(g:p.length<=11)(f:p.length<=F+1):Zp9 F p.length [1] (Yz p)=Zcs F p.length p:=by have c:=Dp.start d e;have i:=(c.ok d e hs h g f).2;rw [Zzx d e hs h g f p.length [1] (Yz p) (.inr (show cf [1] 0≠0 by decide)) c (by rw [Pm d];exact aH _),Zzq (Zjp (p:=p) c.1 c.2.1 i),Zy8 d e hs h g f p.length p d e c];exact Zle c.2.2.1 _
def Zkd(f:Tr xs)(d:xs≠[])(e:Ai F xs){s t:Rat}(c:s<=t):vch F xs t<=vch F xs s:=Zmo f d e c
def Sqn.imp{P c:R2->R2->Prop}{hi:Rat}(d:∀x y,P x y->c x y):∀{lo:Rat} {l:List (R2×R2)},Sqn P hi lo l->Sqn c hi lo l
 | _,[],h=>h
 | _,_::_,h=>⟨h.1,h.2.1,d _ _ h.2.2.1,Sqn.imp d h.2.2.2⟩
def oe(f:Nat->Int):Nat->Int
 | 0=>0
 | k+1=>err (oe f k) (f k)
def mon(d n:Nat):List Int:=mono d ((2:Int)^n)
variable {P:Program} {N:Nat} {sc:Nat->Prop} {env:Pz} {H:Hp}
end Go.Sky
namespace Go.Sky
variable{f:Rat->Rat}{u v s t x a b:Rat}{xs p o:List Int}{F:Nat}
def HD(xs ys:List Int):Prop:=Vp ys/\ys≠[]/\Zaw ys/\Ai 13 ys/\chn 13 ys=chn 13 xs
def PH(xs:List Int)(x y:R2):Prop:=(0<x.2/\bl x.1.natAbs<=506/\bl x.2.natAbs<=506)/\(0<y.2/\bl y.1.natAbs<=506/\bl y.2.natAbs<=506)/\cvc 13 xs x-cvc 13 xs y=1
def DR:R2×R2:=((0,0),(0,0))
theorem Zg9(d:Rat){h:Rat}(c:0<h):∃n:Nat,d<=(n:Rat)*h:=by
 have i:0<h⁻¹:=fZ.2 c;refine⟨(d*h⁻¹).ceil.toNat,?_⟩;have e:=@oJ (d*h⁻¹);have g:(((d*h⁻¹).ceil:Int):Rat)<=(((d*h⁻¹).ceil.toNat:Nat):Rat):=by have:(d*h⁻¹).ceil<=(((d*h⁻¹).ceil.toNat:Nat):Int):=mB _;exact_mod_cast this
 have j:=dK (oE e g) (show 0<=h by grind);have k:d*h⁻¹*h=d:=O4;grind
theorem Zrd(h:crs f u v<=0)(d:f u≠0):0<f u*f v:=by
 unfold crs at h;by_cases c:f u≠0/\f u*f v<=0
 .rw [aF c]at h;exact absurd h O3
 .have:¬f u*f v<=0:=λe=>c ⟨d,e⟩;grind
theorem Zd8(l:Tr xs)(i:xs≠[])(j:Ai F xs)(G:s<=t)(D:vch F xs s<=vch F xs t)(hs:Zf (sqf F xs) s≠0):∀y,s<=y->y<=t->0<Zf (sqf F xs) s*Zf (sqf F xs) y:=by
 obtain⟨h,z,B⟩:=Zmn l i j s t;have g:∀u v,s<=u->u<=v->v<=t->v-u<=h->crs (Zf (sqf F xs)) u v<=0:=λu v a b c d=>by have e:=B u v a b c d;have R:vat ((chn F xs).map Zf) u<=vat ((chn F xs).map Zf) s:=Zmo l i j a;have S:vat ((chn F xs).map Zf) t<=vat ((chn F xs).map Zf) v:=Zmo l i j c;have V:vat ((chn F xs).map Zf) s<=vat ((chn F xs).map Zf) t:=D;omega
 generalize Zf (sqf F xs)=f at *;have m:∀n:Nat,∀y,s<=y->y<=t->y-s<=(n:Rat)*h->0<f s*f y:=λn=>by
  induction n with
  | zero=>
   intro y a b c;have:y=s:=by push_cast at c;grind
   subst this;exact Zrd (g _ _ a O4 b O4) hs
  | succ n P=>
   intro y a b c;push_cast at c;by_cases H:y-s<=h
   .exact Zrd (g s y O4 a b H) hs
   .have r:=P (y-h) O4 O4 O4;have I:f (y-h)≠0:=λe=>by rw [e]at r;grind
    have M:=Zrd (g (y-h) y O4 O4 b O4) I;have N:=bD r M;have w:f s*f (y-h)*(f (y-h)*f y)=(f (y-h)*f (y-h))*(f s*f y):=O4;rw [w]at N;have Q:0<f (y-h)*f (y-h):=by
     rcases(show 0<f (y-h)\/f (y-h)<0 by grind)with q|q
     .exact bD q q
     .have:=bD (a:=-f (y-h)) (b:=-f (y-h)) O4 O4;grind
    rcases(show 0<f s*f y\/f s*f y<=0 by grind)with q|q
    .exact q
    .have:=aJ (a:=f (y-h)*f (y-h)) (b:=-(f s*f y)) O4 O4;grind
 intro y a b;obtain⟨n,k⟩:∃n:Nat,y-s<=(n:Rat)*h:=by obtain⟨n,k⟩:=Zg9 (y-s) z;exact⟨n,k⟩
 exact m n y a b k
theorem Zgh(D:s<=t)(w:∀u,s<=u->u<=t->0<=Zf (ld p) u):Zf p s<=Zf p t:=by
 rcases(show Zf p s<=Zf p t\/Zf p t<Zf p s by grind)with h|h
 .exact h
 .exfalso;obtain⟨M,Y,N⟩:=Zjk s t p;have z:s<t:=by
   rcases(show s<t\/s=t by grind)with d|d
   .exact d
   .rw [d]at h;grind
  obtain⟨n,B⟩:=Zg9 (M*(t-s)*(t-s)+1) (show 0<Zf p s-Zf p t by grind);have g:(0:Rat)<(n:Rat):=by
   rcases aV n with d|d
   .subst d;have:=aJ (a:=M*(t-s)) (b:=t-s) (aJ O4 O4) O4;push_cast at B;grind
   .exact_mod_cast d
  have m:(n:Rat)≠0:=λe=>by rw [e]at g;exact absurd g O3
  have c:(n:Rat)*((t-s)/n)=t-s:=by rw [jJ,<-kO,kH (n:Rat),kO,lL _ m,Rat.mul_one]
  have q:∀k:Nat,(k:Rat)<=(n:Rat)->-(M*((t-s)/n)*((t-s)/n))*k<=Zf p (s+k*((t-s)/n))-Zf p s:=λk=>by
   induction k with
   | zero=>intro _;push_cast;rw [show s+0*((t-s)/n)=s by grind];grind
   | succ k G=>
    intro y;push_cast at y ⊢;have S:=G O4;have l:0<=(t-s)/n:=by rw [jJ];exact aJ O4 (dE (fZ.2 g))
    have i:=c;generalize (t-s)/(n:Rat)=h at *;have H:(0:Rat)<=(k:Rat):=by exact_mod_cast bG k
    have P:=aJ (a:=(k:Rat)) (b:=h) H l;have Q:=aJ (a:=(n:Rat)-(k+1)) (b:=h) O4 l;have j:=(N (s+k*h) (s+(k+1)*h) O4 O4 O4).1;have e:=w (s+k*h) O4 O4;have R:=aJ l e;rw [show s+(k+1)*h-(s+k*h)=h by grind]at j;grind
  have r:=q n O4;have i:=c;rw [i,show s+(t-s)=t by grind]at r;have I:-(M*((t-s)/n)*((t-s)/n))*n=-(M*((t-s)/n)*(t-s)):=O4;rw [I]at r;have V:M*((t-s)/n)*(t-s)*n=M*(t-s)*(t-s):=O4;have W:=aJ (a:=Zf p t-Zf p s+M*((t-s)/n)*(t-s)) (b:=(n:Rat)) O4 O4;grind
theorem Zf2(p:List Int)(x:Rat):Zf (p.map λa=>-1*a) x=-Zf p x:=by rw [Zl];push_cast;grind
theorem Zo0(k:s<t)(e:∀u,s<u->u<=t->0<Zf (ld p) u)(g:0<=Zf (ld p) s):Zf p s<Zf p t:=by
 have i:s<(s+t)/2/\(s+t)/2<t:=by constructor<;>grind
 generalize (s+t)/2=m at *;have r:=Zgh (p:=p) (s:=s) (t:=m) O4 (λu a b=>by
  rcases(show s<u\/u=s by grind)with h|h
  .exact dE (e u h O4)
  .rw [h];exact g)
 obtain⟨M,l,n⟩:=Zjk m t p;have j:=e m i.1 O4;obtain⟨η,q,y,z⟩:=Gb (show 0<t-m by grind) l (show 0<Zf (ld p) m/2 by grind);have b:=(n m (m+η) O4 O4 O4).1;rw [show m+η-m=η by grind]at b;have w:=Zgh (p:=p) (s:=m+η) (t:=t) O4 (λu a b=>dE (e u O4 b));have c:=aJ (a:=η) (b:=Zf (ld p) m/2-η*M) O4 O4;have d:=bD q j;grind
def Eo:Nat->List Int->Rat->Int
 | 0,_,_=>0
 | n+1,p,x=>if Zf p x≠0 then Ea (Zf p x)else Eo n (Yx p) x
def Zy4(h:0<x):Ea x=1:=Ar h
def Zn3(h:x<0):Ea x=-1:=Au h
theorem Zs4(h:x=0):Ea x=0:=by subst h;rfl
theorem Pj(x:Rat):(0<x/\Ea x=1)\/(x<0/\Ea x=-1)\/(x=0/\Ea x=0):=by
 rcases(show 0<x\/x<0\/x=0 by grind)with h|h|h
 .exact .inl ⟨h,Zy4 h⟩
 .exact .inr (.inl ⟨h,Zn3 h⟩)
 .exact .inr (.inr ⟨h,Zs4 h⟩)
theorem Zyd(n:Nat)(p:List Int)(x:Rat)(h:Zf p x≠0)(c:p.length<=n):Eo n p x=Ea (Zf p x):=by
 cases n with
 | zero=>have:p=[]:=aC O;subst this;exact absurd rfl h
 | succ n=>unfold Eo;rw [aF h]
theorem Zoi(p:List Int)(x:Rat)(h:Zf p x≠0):∃δ:Rat,0<δ/\∀y,x<y->y<=x+δ->Ea (Zf p y)=Ea (Zf p x):=by
 obtain⟨L,r,k⟩:=Bd x (x+1) p;have i:0<(if 0<Zf p x then Zf p x else -Zf p x):=by split<;>grind
 obtain⟨δ,j,m,g⟩:=Gb (show(0:Rat)<1 by decide) (show 0<L+1 by grind) (show 0<(if 0<Zf p x then Zf p x else -Zf p x)/2 by grind);refine⟨δ,j,λy n q=>?_⟩;have l:=k x y O4 O4 O4;have b:=aJ (a:=L) (b:=δ-(y-x)) O4 O4;have c:L*(y-x)<=δ*(L+1):=O4;rcases Pj (Zf p x)with⟨d,e⟩|⟨d,e⟩|⟨d,e⟩
 .rw [aF d]at g i;rw [e];exact Zy4 O4
 .rw [aD O4]at g i;rw [e];exact Zn3 O4
 .exact absurd d h
theorem Aj:∀(n:Nat) (p:List Int) (x:Rat),p.length<=n->∃δ:Rat,0<δ/\∀y,x<y->y<=x+δ->Ea (Zf p y)=Eo n p x
 | 0,p,x,q=>⟨1,O3,λy _ _=>by have:p=[]:=aC O;subst this;exact Zs4 rfl⟩
 | n+1,p,x,q=>by
  by_cases h:Zf p x≠0
  .rw [Zyd (n+1) p x h q];exact Zoi p x h
  .have M:Zf p x=0:=gF.1 h;have H:=Od p;obtain⟨δ,B,D⟩:=Aj n (Yx p) x O;have G:Eo (n+1) p x=Eo n (Yx p) x:=by unfold Eo;rw [aD h];cases n<;>rfl
   have k:Zf (ld p) x≠0->Ea (Zf (ld p) x)=Eo n (Yx p) x:=λg=>by rw [<-Kv]at g ⊢;exact(Zyd n (Yx p) x g O).symm
   refine⟨δ,B,λy l N=>?_⟩;rw [G];have i:∀u,x<u->u<=y->Ea (Zf (ld p) u)=Eo n (Yx p) x:=λu a b=>by rw [<-Kv];exact D u a O4
   have e:=i y l O4;generalize Eo n (Yx p) x=σ at *;rcases Pj (Zf (ld p) y)with⟨m,j⟩|⟨m,j⟩|⟨m,j⟩
   .rw [j]at e;subst e;refine Zy4 ?_;have:=Zo0 (p:=p) l (λu a b=>by
     rcases Pj (Zf (ld p) u)with⟨d,c⟩|⟨d,c⟩|⟨d,c⟩
     .exact d
     .have:=i u a b;rw [c]at this;exact absurd this O3
     .have:=i u a b;rw [c]at this;exact absurd this O3) (by
     rcases Pj (Zf (ld p) x)with⟨d,c⟩|⟨d,c⟩|⟨d,c⟩
     .exact dE d
     .have:=k O4;rw [c]at this;exact absurd this O3
     .grind)
    grind
   .rw [j]at e;subst e;refine Zn3 ?_;have r:∀u,Zf (ld (p.map λa=>-1*a)) u=-Zf (ld p) u:=λu=>by rw [Aw];push_cast;grind
    have:=Zo0 (p:=p.map λa=>-1*a) l (λu a b=>by
     rw [r];rcases Pj (Zf (ld p) u)with⟨d,c⟩|⟨d,c⟩|⟨d,c⟩
     .have:=i u a b;rw [c]at this;exact absurd this O3
     .grind
     .have:=i u a b;rw [c]at this;exact absurd this O3) (by
     rw [r];rcases Pj (Zf (ld p) x)with⟨d,c⟩|⟨d,c⟩|⟨d,c⟩
     .have:=k O4;rw [c]at this;exact absurd this O3
     .grind
     .grind)
    rw [Zf2,Zf2]at this;grind
   .rw [j]at e;subst e;refine Zs4 ?_;have w:∀u,x<=u->u<=y->Zf (ld p) u=0:=λu a b=>by
     rcases(show x<u\/u=x by grind)with g|g
     .rcases Pj (Zf (ld p) u)with⟨d,c⟩|⟨d,c⟩|⟨d,c⟩
      .have:=i u g b;rw [c]at this;exact absurd this O3
      .have:=i u g b;rw [c]at this;exact absurd this O3
      .exact d
     .subst g;rcases Pj (Zf (ld p) u)with⟨d,c⟩|⟨d,c⟩|⟨d,c⟩
      .have:=k O4;rw [c]at this;exact absurd this O3
      .have:=k O4;rw [c]at this;exact absurd this O3
      .exact d
    have I:=Zgh (p:=p) (s:=x) (t:=y) O4 (λu a b=>by rw [w u a b];grind);have z:=Zgh (p:=p.map λa=>-1*a) (s:=x) (t:=y) O4 (λu a b=>by rw [Aw,w u a b];push_cast;grind);rw [Zf2,Zf2]at z;grind
theorem Ed.mul_l{a b c:List Int}(h:Ed a b):Ed (Qn c a) (Qn c b):=by obtain⟨k,s,d,e⟩:=h;exact⟨k,s,d,λx=>by rw [Yo,Yo];have:=e x;grind⟩
theorem Fo{n:Nat}(D:Tr p)(m:p≠[])(hs:Sz n p)(z:n<=220)(w:p.length<=11)(r:p.length<=F+1):∀(f:Nat) (q:List Int),Dp p q->q.length<=f->
  (∃B:List Int,∀x:Rat,Zf q x=Zf (Cp F f q) x*(Zf B x*Zf B x))/\Ed (Cp F f q) (sqf F q):=by
 intro f
 induction f with
 | zero=>intro q d y;have:=aE.2 d.2.1;omega
 | succ f ih=>
  intro q d y;have g:=(d.ok D m hs z w r).2;have h:=d.next g;have e:=(h.ok D m hs z w r).2;have i:=h.next e;unfold Cp;by_cases l:(sqf F q).length=1
  .rw [aF l];obtain⟨s1,s2,s3⟩:=Zft d.1 d.2.1 g l;refine⟨⟨[1],λx=>?_⟩,Ed.refl _⟩;rw [s1,Ynk d.1 d.2.2.1 s2,Pu];push_cast;grind
  .rw [aD l];have lq:2<=q.length:=by obtain⟨f1,f2,f3,f4,f5,f6⟩:=Ou (F:=F) d.1 d.2.1 g;obtain⟨P,G,H,k,Q⟩:=Pk d.1 d.2.1 g;have l1:=aE.2 f3;have l2:=aE.2 G;omega
   have a0:=Zl4 d.1 d.2.1 g lq;obtain⟨P,G,H,k,Q⟩:=Pk d.1 d.2.1 g;obtain⟨b1,b2,b3,I,b5⟩:=Pk h.1 h.2.1 e;obtain⟨-,t2,t3,-,-,-⟩:=Ou (F:=F) h.1 h.2.1 e;have lb:=aE.2 t3;obtain⟨⟨B,Z⟩,hE⟩:=ih _ i O;obtain⟨-,N,o3,o4⟩:=Cg d.1 d.2.1 g e;have j:=(i.ok D m hs z w r).2;rw [d.2.2.1]at k;rw [H]at I;have R:∀x,Zf q x=Zf (sqf F q) x*Zf (Oe F q) x:=λx=>by rw [<-Yo,<-k]
   have V:∀x,Zf (sqf F q) x=Zf (Cu F q) x*Zf (sqf F (Oe F q)) x:=λx=>by rw [<-Yo,<-N]
   have W:∀x,Zf (Oe F q) x=Zf (sqf F (Oe F q)) x*Zf (Oe F (Oe F q)) x:=λx=>by rw [<-Yo,<-I]
   refine⟨⟨Qn (sqf F (Oe F q)) B,λx=>?_⟩,?_⟩
   .rw [Yo,Yo,R x,V x,W x,Z x];show _=Zf (Cu F q) x*_*_;generalize Zf (sqf F (Oe F q)) x=S;generalize Zf B x=C;grind
   .have Y:Ed (Cp F f (Oe F (Oe F q))) (sqf F (Oe F q)):=hE.trans (Zzw h.1 h.2.1 e j);have M:=Y.mul_l (c:=Cu F q);rw [<-N]at M;exact M
theorem Ztq{n:Nat}(W:Tr p)(R:p≠[])(hs:Sz n p)(hn:n<=220)(hl:p.length<=11)(hF:p.length<=F+1)(H:Tr o)(Z:o≠[])(g:Ei F o)(B:Ei F p)(h:Ed o (sqf F p)):(Oe F o).length=1/\sqf F o=Yz o:=by
 obtain⟨N,a2,a3,P,a5⟩:=Pk H Z g;obtain⟨f1,f2,f3,f4,f5,f6⟩:=Ou (F:=F) W R B;obtain⟨-,s2,s3,s4,s5,s6⟩:=Ou (F:=F) H Z g;have Y:Tr (Yz o):=Oy (Yv H);have S:=Zd1 Y (Ni Y) g;have Q:Ed (Oe F o) (Yz o):=S.1.ed;have e2:Ed (Oe F o) (ld (Yz o)):=(S.2.ed:Ed (Oe F o) (Yx (Yz o))).congr λx=>Kv _ x;have D:Sim (Yz o) o:=(Hd (Zx o)).trans (Qf H);obtain⟨k,w,G,l⟩:Ed (Yz o) (sqf F p):=by
  obtain⟨k,w,G,e⟩:=h;obtain⟨c,d,hc,M,I⟩:=D;have j:∀x:Rat,(c:Rat)*Zf (Yz o) x=(d:Rat)*Zf o x:=λx=>by rw [<-Zl,<-Zl];exact Nw x _ _ λi=>by rw [Qu,Qu];exact I i
  exact⟨d*k,w.map λa=>c*a,bK M G,λx=>by rw [Zl];have a:=e x;have b:=j x;push_cast;grind⟩
 have V:(Oe F o).length<=1:=by
  refine Zfu W R B N (Q.trans ⟨k,w,G,l⟩) ?_;have h1:Ed (Oe F o) (lmul w (ld (Yz o))):=by obtain⟨m,z,hm,e⟩:=e2;exact⟨m,lmul w z,hm,λx=>by rw [Yc,Yc];have:=e x;grind⟩
  have h2:Ed (Oe F o) (ld (sqf F p)):=Ed.lin Q h1 (ld w) k G λx=>by have:=Ce (p:=(sqf F p).map λa=>k*a) (q:=lmul w (Yz o)) (λy=>by rw [Zl,Yc];exact l y) x;rw [Aw,Be]at this;rw [Yc,this]
  exact h2.congr λx=>(Kv _ x).symm
 have r:(Oe F o).length=1:=by have:=aE.2 a2;omega
 refine⟨r,?_⟩;rw [Ynk N a3 r,Zp2 s2]at P;exact P.symm
theorem Zfv{a b:List Int}(h:Sim a b):∃c d:Int,c≠0/\d≠0/\∀x:Rat,(c:Rat)*Zf a x=(d:Rat)*Zf b x:=by obtain⟨c,d,g,j,e⟩:=h;exact⟨c,d,g,j,λx=>by rw [<-Zl,<-Zl];exact Nw x _ _ λi=>by rw [Qu,Qu];exact e i⟩
theorem Gw(h:x≠0):0<x*x:=by
 rcases(show 0<x\/x<0 by grind)with q|q
 .exact bD q q
 .have:=bD (a:=-x) (b:=-x) O4 O4;grind
theorem Py{c:Int}(h:c≠0):(c:Rat)≠0:=λe=>h (by exact_mod_cast e)
theorem Zgc{e g c d:Rat}(j:c≠0)(k:d≠0)(l:c*e=d*a)(m:c*g=d*b)(h:a*b<0):e*g<0:=by
 have n:(c*c)*(e*g)=(d*d)*(a*b):=O4;have r:=Gw j;have i:=Gw k;rcases(show e*g<0\/0<=e*g by grind)with q|q
 .exact q
 .have w:=aJ (a:=c*c) (b:=e*g) O4 q;have y:=bD (a:=d*d) (b:=-(a*b)) i O4;grind
theorem Yhm{e g c d:Rat}(h:e*(c*c)*(g*(d*d))<0):e*g<0:=by
 rcases(show e*g<0\/0<=e*g by grind)with q|q
 .exact q
 .have j:0<=c*d*(c*d):=by
   by_cases i:c*d=0
   .rw [i];grind
   .exact dE (Gw i)
  have k:=aJ q j;grind
theorem Zoh{n:Nat}(i:Tr p)(k:p≠[])(hs:Sz n p)(M:n<=220)(I:p.length<=11)(D:p.length<=F+1)(ho:o=Cp F p.length (Yz p))(g:Tr o)(Q:o≠[])(y:Ai F o)(a0:a<b)(h1:Eo p.length p a=1)(h2:Zf p b<0):vch F o b<vch F o a:=by
 have m:=Dp.start i k;have h:=(m.ok i k hs M I D).2;have j:Ei F p:=by unfold Ei at h ⊢;rwa [m.2.2.1]at h
 obtain⟨⟨B,w⟩,z⟩:=Fo i k hs M I D p.length (Yz p) m (by rw [Pm i];exact aH _);rw [<-ho]at w z;rw [Dn m.2.2.1]at z;obtain⟨-,P⟩:=Ztq i k hs M I D g Q y.1.2.2.1 j z;obtain⟨δ,d1,Z⟩:=Aj p.length p a (aH _);obtain⟨s,W,s2,Y⟩:∃s,a<s/\s<=a+δ/\s<b:=by
  rcases(show a+δ<b\/b<=a+δ by grind)with q|q
  .exact⟨a+δ,O4,O4,q⟩
  .exact⟨(a+b)/2,O4,O4,O4⟩
 have N:0<Zf p s:=by
  have:=Z s W s2;rw [h1]at this;rcases Pj (Zf p s)with⟨r,l⟩|⟨r,l⟩|⟨r,l⟩
  .exact r
  .rw [l]at this;exact absurd this O3
  .rw [l]at this;exact absurd this O3
 have k1:Zf p s*Zf p b<0:=by have:=bD (a:=Zf p s) (b:=-Zf p b) N O4;grind
 obtain⟨c,d,hc,hd,e⟩:=Zfv ((Hd (Zx p)).trans (Qf i):Sim (Yz p) p);have S:Zf (Yz p) s*Zf (Yz p) b<0:=Zgc (Py hc) (Py hd) (e s) (e b) k1;rw [w s,w b]at S;have k3:=Yhm S;obtain⟨c',d',G,H,R⟩:=Zfv ((Hd (Zx o)).trans (Qf g):Sim (Yz o) o);have V:Zf (Yz o) s*Zf (Yz o) b<0:=Zgc (Py G) (Py H) (R s) (R b) k3;rw [<-P]at V;have m1:=Zkd g Q y (dE W);rcases gY (vch F o b) (vch F o s)with q|q
 .exact Int.lt_of_lt_of_le q m1
 .exfalso;have hz:Zf (sqf F o) s≠0:=λe9=>by rw [e9]at V;grind
  have:=Zd8 g Q y (dE Y) q hz b (dE Y) O4;grind
theorem Zha:∀(n:Nat) (p:List Int) (x:Rat),Tr p->p≠[]->p.length<=n->Eo n p x≠0
 | 0,p,x,_,i,r=>absurd (aC O) i
 | n+1,p,x,l,i,r=>by
  unfold Eo;by_cases h:Zf p x≠0
  .rw [aF h];rcases Pj (Zf p x)with⟨j,g⟩|⟨j,g⟩|⟨j,g⟩
   .rw [g];decide
   .rw [g];decide
   .exact absurd j h
  .rw [aD h];have m:Zf p x=0:=gF.1 h;have d:=Od p;refine Zha n (Yx p) x (Ni l) (λe=>?_) O;rw [e]at d;have w:=aE.2 i;have k:p.length=1:=by simp at d;omega
   match p,k with
   | [c],_=>
    have q:c≠0:=l.mem O5;rw [Pu]at m;exact Py q m
theorem Zr2(n:Nat)(p:List Int)(x:Rat):-1<=Eo n p x/\Eo n p x<=1:=by
 induction n generalizing p with
 | zero=>show -1<=(0:Int)/\(0:Int)<=1;decide
 | succ n c=>unfold Eo;split;exact Yf8 _;exact c _
def Zah(F:Nat)(o:List Int)(a b:Rat):Prop:=0<vch F o a-vch F o b-(if Zf o b=0 then 1 else 0)
theorem Yhy{n:Nat}(g:Tr p)(i:p≠[])(hs:Sz n p)(G:n<=220)(D:p.length<=11)(z:p.length<=F+1)(H:o=Cp F p.length (Yz p))(m:Tr o)(S:o≠[])(P:Ai F o)(k:a<b) :
  (Zf p a<0\/Zf p b<0\/Eo p.length p a<0\/Zah F o a b)↔(Eo p.length p a<0\/Zah F o a b):=by
 constructor
 .rintro(h|h|h|h)
  .left;rw [Zyd p.length p a O4 (aH _),Zn3 h];decide
  .have r:=Zr2 p.length p a;have r0:=Zha p.length p a g i (aH _);rcases(show Eo p.length p a<0\/Eo p.length p a=1 by omega)with j|j
   .exact .inl j
   .right;have W:=Zoh g i hs G D z H m S P k j h;have Q:=Dp.start g i;obtain⟨⟨B,y⟩,-⟩:=Fo g i hs G D z p.length (Yz p) Q (by rw [Pm g];exact aH _);rw [<-H]at y;obtain⟨c,d,V,R,e⟩:=Zfv ((Hd (Zx p)).trans (Qf g):Sim (Yz p) p);have l:Zf o b≠0:=λI=>by
     have w:(c:Rat)*Zf (Yz p) b=(d:Rat)*Zf p b:=e b;rw [y b,I]at w;have M:=Py R;have N:(d:Rat)*Zf p b=0:=by rw [<-w];grind
     rcases fE.1 N with q|q
     .exact M q
     .rw [q]at h;grind
    unfold Zah;rw [aD l];omega
  .exact .inl h
  .exact .inr h
 .rintro(h|h)
  .exact .inr (.inr (.inl h))
  .exact .inr (.inr (.inr h))
theorem Yds(p:List Int)(x:Rat)(h:Zf p x≠0):∃δ:Rat,0<δ/\∀y,x-δ<=y->y<=x->Ea (Zf p y)=Ea (Zf p x):=by
 obtain⟨L,r,k⟩:=Bd (x-1) x p;have i:0<(if 0<Zf p x then Zf p x else -Zf p x):=by split<;>grind
 obtain⟨δ,j,m,g⟩:=Gb (show(0:Rat)<1 by decide) (show 0<L+1 by grind) (show 0<(if 0<Zf p x then Zf p x else -Zf p x)/2 by grind);refine⟨δ,j,λy n q=>?_⟩;have l:=k y x O4 O4 O4;have b:=aJ (a:=L) (b:=δ-(x-y)) O4 O4;have c:L*(x-y)<=δ*(L+1):=O4;rcases Pj (Zf p x)with⟨d,e⟩|⟨d,e⟩|⟨d,e⟩
 .rw [aF d]at g i;rw [e];exact Zy4 O4
 .rw [aD O4]at g i;rw [e];exact Zn3 O4
 .exact absurd d h
theorem rsg_1(h:Ea x=1):0<x:=by
 rcases Pj x with⟨d,c⟩|⟨d,c⟩|⟨d,c⟩
 .exact d
 .rw [c]at h;exact absurd h O3
 .rw [c]at h;exact absurd h O3
theorem Zpg(h:Ea x=-1):x<0:=by
 rcases Pj x with⟨d,c⟩|⟨d,c⟩|⟨d,c⟩
 .rw [c]at h;exact absurd h O3
 .exact d
 .rw [c]at h;exact absurd h O3
def Yej(p:List Int)(a b:Rat):Prop:=∃x,a<=x/\x<=b/\Zf p x<0
theorem Yjd   (hx:Tr xs) (h0:xs≠[]) (hC:Ai F xs) {σ:Rat} (Y:σ≠0) (S:a<b)
  (c:∀x,a<=x->x<b->∃δ:Rat,0<δ/\∀y,x<y->y<=x+δ->y<=b->0<σ*Zf (sqf F xs) y) :
  vch F xs a-vch F xs b<=(if Zf (sqf F xs) b=0 then 1 else 0):=by
 obtain⟨h,h1,R⟩:=Zmn hx h0 hC a b;have H:∀x,a<=x->x<b->0<=σ*Zf (sqf F xs) x:=λx ha hb=>by
  rcases(show 0<=σ*Zf (sqf F xs) x\/σ*Zf (sqf F xs) x<0 by grind)with q|q
  .exact q
  .exfalso;have g:Zf (sqf F xs) x≠0:=λe=>by rw [e]at q;grind
   obtain⟨δ,d1,D⟩:=c x ha hb;obtain⟨ε,e1,Q⟩:=Zoi (sqf F xs) x g;obtain⟨y,N,P,y3,y4⟩:∃y,x<y/\y<=x+δ/\y<=x+ε/\y<=b:=by
    rcases(show δ<=ε\/ε<=δ by grind)with w|w
    .rcases(show x+δ<=b\/b<=x+δ by grind)with v|v
     .exact⟨x+δ,O4,O4,O4,v⟩
     .exact⟨b,O4,O4,O4,O4⟩
    .rcases(show x+ε<=b\/b<=x+ε by grind)with v|v
     .exact⟨x+ε,O4,O4,O4,v⟩
     .exact⟨b,O4,O4,O4,O4⟩
   have Z:=D y N P y4;have k:=Q y N y3;rcases Pj (Zf (sqf F xs) x)with⟨i,j⟩|⟨i,j⟩|⟨i,j⟩
   .rw [j]at k;have I:=rsg_1 k;rcases(show σ<0\/0<σ by grind)with s|s
    .have:=bD (a:=-σ) (b:=Zf (sqf F xs) y) O4 I;grind
    .have:=bD s i;grind
   .rw [j]at k;have I:=Zpg k;rcases(show σ<0\/0<σ by grind)with s|s
    .have:=bD (a:=-σ) (b:=-Zf (sqf F xs) x) O4 O4;grind
    .have:=bD (a:=σ) (b:=-Zf (sqf F xs) y) s O4;grind
   .exact g i
 have V:0<=σ*Zf (sqf F xs) b:=by
  rcases(show 0<=σ*Zf (sqf F xs) b\/σ*Zf (sqf F xs) b<0 by grind)with q|q
  .exact q
  .exfalso;have g:Zf (sqf F xs) b≠0:=λe=>by rw [e]at q;grind
   obtain⟨ε,e1,Q⟩:=Yds (sqf F xs) b g;obtain⟨y,N,P,y3⟩:∃y,a<=y/\y<b/\b-ε<=y:=by
    rcases(show a<=b-ε\/b-ε<=a by grind)with v|v
    .exact⟨b-ε,v,O4,O4⟩
    .exact⟨a,O4,S,v⟩
   obtain⟨δ,d1,D⟩:=c y N P;obtain⟨z,z1,z2,r⟩:∃z,y<z/\z<=y+δ/\z<=b:=by
    rcases(show y+δ<=b\/b<=y+δ by grind)with v|v
    .exact⟨y+δ,O4,O4,v⟩
    .exact⟨b,P,O4,O4⟩
   have Z:=D z z1 z2 r;have k:=Q z O4 r;rcases Pj (Zf (sqf F xs) b)with⟨i,j⟩|⟨i,j⟩|⟨i,j⟩
   .rw [j]at k;have I:=rsg_1 k;rcases(show σ<0\/0<σ by grind)with s|s
    .have:=bD (a:=-σ) (b:=Zf (sqf F xs) z) O4 I;grind
    .have:=bD s i;grind
   .rw [j]at k;have I:=Zpg k;rcases(show σ<0\/0<σ by grind)with s|s
    .have:=bD (a:=-σ) (b:=-Zf (sqf F xs) b) O4 O4;grind
    .have:=bD (a:=σ) (b:=-Zf (sqf F xs) z) s O4;grind
   .exact g i
 have d:∀u v,a<=u->u<=v->v<=b->v-u<=h/2->vch F xs u-vch F xs v<=(if v=b/\Zf (sqf F xs) b=0 then 1 else 0):=λu v l M B c4=>by
  have e:=R u v l M B O4;have e':vch F xs u-vch F xs v=crs (Zf (sqf F xs)) u v:=e;rw [e'];unfold crs;by_cases G:Zf (sqf F xs) u≠0/\Zf (sqf F xs) u*Zf (sqf F xs) v<=0
  .rw [aF G];have W:u<b:=by
    rcases(show u<b\/u=b by grind)with q|q
    .exact q
    .exfalso;have:v=u:=O4;subst this;have:=Gw G.1;grind
   have g1:=H u l W;have g2:0<=σ*Zf (sqf F xs) v:=by
    rcases(show v<b\/v=b by grind)with q|q
    .exact H v O4 q
    .rw [q];exact V
   have m:Zf (sqf F xs) v=0:=by
    rcases(show Zf (sqf F xs) v=0\/Zf (sqf F xs) v≠0 by grind)with q|q
    .exact q
    .exfalso;have m1:=aJ g1 g2;have m2:=Gw Y;have m3:(σ*σ)*(Zf (sqf F xs) u*Zf (sqf F xs) v)>=0:=O4;rcases(show Zf (sqf F xs) u*Zf (sqf F xs) v<0\/Zf (sqf F xs) u*Zf (sqf F xs) v=0 by grind)with w|w
     .have:=bD m2 (show 0 < -(Zf (sqf F xs) u*Zf (sqf F xs) v) by grind);grind
     .rcases fE.1 w with z|z
      .exact G.1 z
      .exact q z
   rcases(show v<b\/v=b by grind)with q|q
   .exfalso;obtain⟨δ,d1,D⟩:=c v O4 q;obtain⟨z,z1,z2,r,z4⟩:∃z,v<z/\z<=v+δ/\z<=b/\z-v<=h/2:=by
     rcases(show δ<=h/2\/h/2<=δ by grind)with w|w
     .rcases(show v+δ<=b\/b<=v+δ by grind)with t|t
      .exact⟨v+δ,O4,O4,t,O4⟩
      .exact⟨b,q,O4,O4,O4⟩
     .rcases(show v+h/2<=b\/b<=v+h/2 by grind)with t|t
      .exact⟨v+h/2,O4,O4,t,O4⟩
      .exact⟨b,q,O4,O4,O4⟩
    have Z:=D z z1 z2 r;have a1:=R u z l O4 r O4;have a2:=R v z O4 O4 r O4;have r1:crs (Zf (sqf F xs)) u z=0:=by
     unfold crs;rw [aD];rintro⟨w1,w2⟩;have g3:0<σ*Zf (sqf F xs) u:=by
      rcases(show σ*Zf (sqf F xs) u=0\/0<σ*Zf (sqf F xs) u by grind)with t|t
      .rcases fE.1 t with t|t
       .exact absurd t Y
       .exact absurd t w1
      .exact t
     have m1:=bD g3 Z;have m2:=Gw Y;have m3:0<(σ*σ)*(Zf (sqf F xs) u*Zf (sqf F xs) z):=O4;have m4:=aJ (a:=σ*σ) (b:=-(Zf (sqf F xs) u*Zf (sqf F xs) z)) O4 O4;grind
    have r2:crs (Zf (sqf F xs)) v z=0:=by unfold crs;rw [aD];rintro⟨w1,w2⟩;exact w1 m
    have r3:crs (Zf (sqf F xs)) u v=1:=by unfold crs;rw [aF G]
    rw [r1]at a1;rw [r2]at a2;rw [r3]at e;omega
   .rw [q]at m;rw [aF ⟨q,m⟩];decide
  .rw [aD G];split<;>decide
 have a0:∀n:Nat,∀u,a<=u->u<=b->b-u<=(n:Rat)*(h/2)->vch F xs u-vch F xs b<=(if Zf (sqf F xs) b=0 then 1 else 0):=λn=>by
  induction n with
  | zero=>
   intro u l M B;have:u=b:=by push_cast at B;grind
   subst this;rw [Int.sub_self];split<;>decide
  | succ n ih=>
   intro u l M B;push_cast at B;by_cases hy:b-u<=h/2
   .have:=d u b l M O4 hy;by_cases g:Zf (sqf F xs) b=0
    .rw [aF ⟨rfl,g⟩]at this;rw [aF g];exact this
    .rw [aD (λe=>g e.2)]at this;rw [aD g];exact this
   .have i1:=ih (u+h/2) O4 O4 O4;have i2:=d u (u+h/2) l O4 O4 O4;rw [aD (λe=>by have:=e.1;grind)]at i2;generalize (if Zf (sqf F xs) b=0 then(1:Int)else 0)=t at *;omega
 obtain⟨n,hn⟩:=Zg9 (b-a) (show 0<h/2 by grind);exact a0 n a O4 O4 hn
structure Odp (F n:Nat) (p o:List Int):Prop where
 tr:Tr p
 ne:p≠[]
 sz:Sz n p
 hn:n<=220
 hl:p.length<=11
 hF:p.length<=F+1
 eq:o=Cp F p.length (Yz p)
 otr:Tr o
 one:o≠[]
 ok:Ai F o
theorem Odp.sq{n:Nat}(h:Odp F n p o):∃(c d:Int) (B:List Int),c≠0/\d≠0/\∀x:Rat,(d:Rat)*Zf p x=(c:Rat)*(Zf o x*(Zf B x*Zf B x)):=by have i:=Dp.start h.tr h.ne;obtain⟨⟨B,g⟩,-⟩:=Fo h.tr h.ne h.sz h.hn h.hl h.hF p.length (Yz p) i (by rw [Pm h.tr];exact aH _);rw [<-h.eq]at g;obtain⟨c,d,j,k,e⟩:=Zfv ((Hd (Zx p)).trans (Qf h.tr):Sim (Yz p) p);exact⟨c,d,B,j,k,λx=>by rw [<-g x];exact(e x).symm⟩
theorem Odp.sqf{n:Nat}(h:Odp F n p o):Go.Sky.sqf F o=Yz o:=by
 have e:=Dp.start h.tr h.ne;have c:=(e.ok h.tr h.ne h.sz h.hn h.hl h.hF).2;have d:Ei F p:=by unfold Ei at c ⊢;rwa [e.2.2.1]at c
 obtain⟨-,g⟩:=Fo h.tr h.ne h.sz h.hn h.hl h.hF p.length (Yz p) e (by rw [Pm h.tr];exact aH _);rw [<-h.eq]at g;rw [Dn e.2.2.1]at g;exact(Ztq h.tr h.ne h.sz h.hn h.hl h.hF h.otr h.one h.ok.1.2.2.1 d g).2
theorem Odp.srt{n:Nat}(h:Odp F n p o):∃c d:Int,c≠0/\d≠0/\∀x:Rat,(c:Rat)*Zf (Go.Sky.sqf F o) x=(d:Rat)*Zf o x:=by rw [h.sqf];exact Zfv ((Hd (Zx o)).trans (Qf h.otr):Sim (Yz o) o)
theorem Odp.zero{n:Nat}(h:Odp F n p o)(x:Rat):Zf (Go.Sky.sqf F o) x=0↔Zf o x=0:=by
 obtain⟨c,d,i,j,e⟩:=h.srt;have g:=e x;constructor
 .intro z;rw [z]at g;rcases fE.1 (show(d:Rat)*Zf o x=0 by grind)with q|q
  .exact absurd q (Py j)
  .exact q
 .intro z;rw [z]at g;rcases fE.1 (show(c:Rat)*Zf (Go.Sky.sqf F o) x=0 by grind)with q|q
  .exact absurd q (Py i)
  .exact q
theorem Odp.nz{n:Nat}(h:Odp F n p o)(j:Zf p x≠0):Zf o x≠0:=λz=>by
 obtain⟨c,d,B,k,i,e⟩:=h.sq;have g:=e x;rw [z]at g;rcases fE.1 (show(d:Rat)*Zf p x=0 by grind)with q|q
 .exact Py i q
 .exact j q
theorem Odp.opp{n:Nat}(h:Odp F n p o){y:Rat}(j:Zf p x*Zf p y<0):Zf o x*Zf o y<0/\Zf (Go.Sky.sqf F o) x*Zf (Go.Sky.sqf F o) y<0:=by obtain⟨c,d,B,m,q,e⟩:=h.sq;have r:(Zf o x*(Zf B x*Zf B x))*(Zf o y*(Zf B y*Zf B y))<0:=Zgc (Py m) (Py q) (e x).symm (e y).symm j;have l:=Yhm r;obtain⟨w,z,g,i,k⟩:=h.srt;exact⟨l,Zgc (Py g) (Py i) (k x) (k y) l⟩
theorem Odp.sem{n:Nat}(h:Odp F n p o)(i:a<b):(Eo p.length p a<0\/Zah F o a b)↔Yej p a b:=by
 have j:=Yhy h.tr h.ne h.sz h.hn h.hl h.hF h.eq h.otr h.one h.ok i;constructor
 .rintro(k|k)
  .obtain⟨δ,M,m⟩:=Aj p.length p a (aH _);have r:=Zr2 p.length p a;have hm:Eo p.length p a=-1:=O;rcases(show a+δ<=b\/b<=a+δ by grind)with q|q
   .exact⟨a+δ,O4,q,Zpg (by rw [m (a+δ) O4 O4,hm])⟩
   .exact⟨b,O4,O4,Zpg (by rw [m b i q,hm])⟩
  .rcases Classical.em (Yej p a b)with q|q
   .exact q
   .exfalso;have S:∀x,a<=x->x<=b->0<=Zf p x:=λx u v=>by
     rcases(show 0<=Zf p x\/Zf p x<0 by grind)with w|w
     .exact w
     .exact absurd ⟨x,u,v,w⟩ q
    have l:∀x,a<=x->x<b->∃δ:Rat,0<δ/\∀y,x<y->y<=x+δ->y<=b->0<Zf p y:=λx u v=>by
     obtain⟨δ,M,m⟩:=Aj p.length p x (aH _);have r:=Zr2 p.length p x;have r0:=Zha p.length p x h.tr h.ne (aH _);refine⟨δ,M,λy G H I=>?_⟩;have s:=m y G H;rcases Pj (Zf p y)with⟨N,P⟩|⟨N,P⟩|⟨N,P⟩
     .exact N
     .have:=S y O4 I;grind
     .rw [P]at s;exact absurd s.symm r0
    obtain⟨δ,M,m⟩:=l a O4 i;obtain⟨z,z1,z2,z3⟩:∃z,a<z/\z<=a+δ/\z<=b:=by
     rcases(show a+δ<=b\/b<=a+δ by grind)with w|w
     .exact⟨a+δ,O4,O4,w⟩
     .exact⟨b,i,w,O4⟩
    have hz:=m z z1 z2 z3;have hσ:Zf (Go.Sky.sqf F o) z≠0:=λe=>h.nz (x:=z) O4 ((h.zero z).1 e);have Z:=Yjd h.otr h.one h.ok (σ:=Zf (Go.Sky.sqf F o) z) hσ i (λx u v=>by
     obtain⟨ε,e1,e2⟩:=l x u v;refine⟨ε,e1,λy G H I=>?_⟩;have hy:=e2 y G H I;have V:Zf (Go.Sky.sqf F o) y≠0:=λe=>h.nz (x:=y) O4 ((h.zero y).1 e);rcases(show 0<Zf (Go.Sky.sqf F o) z*Zf (Go.Sky.sqf F o) y\/Zf (Go.Sky.sqf F o) z*Zf (Go.Sky.sqf F o) y<0\/Zf (Go.Sky.sqf F o) z*Zf (Go.Sky.sqf F o) y=0 by grind)with w|w|w
     .exact w
     .exfalso;obtain⟨c,d,B,hc,hd,e⟩:=h.sq;obtain⟨c',d',Q,R,Y⟩:=h.srt;have w1:Zf o z*Zf o y<0:=Zgc (Py R) (Py Q) (Y z).symm (Y y).symm w;have p1:=bD hz hy;have q1:((d:Rat)*(d:Rat))*(Zf p z*Zf p y)=((c:Rat)*(c:Rat))*((Zf o z*Zf o y)*((Zf B z*Zf B y)*(Zf B z*Zf B y))):=by
       have a1:=e z;have a2:=e y;have:((d:Rat)*Zf p z)*((d:Rat)*Zf p y)=((c:Rat)*(Zf o z*(Zf B z*Zf B z)))*((c:Rat)*(Zf o y*(Zf B y*Zf B y))):=by rw [a1,a2]
       grind
      have D:=bD (Gw (Py hd)) p1;have q3:0<=(Zf B z*Zf B y)*(Zf B z*Zf B y):=by
       by_cases t:Zf B z*Zf B y=0
       .rw [t];grind
       .exact dE (Gw t)
      have q4:=aJ (dE (Gw (Py hc))) (aJ (show 0<=-(Zf o z*Zf o y) by grind) q3);grind
     .rcases fE.1 w with t|t
      .exact absurd t hσ
      .exact absurd t V)
    unfold Zah at k;by_cases g:Zf o b=0
    .rw [aF g]at k;rw [aF ((h.zero b).2 g)]at Z;omega
    .rw [aD g]at k;rw [aD (λe=>g ((h.zero b).1 e))]at Z;omega
 .rintro⟨x,x1,x2,W⟩;rcases(show x=a\/x=b\/(a<x/\x<b) by grind)with q|q|⟨q1,D⟩
  .subst q;exact j.1 (.inl W)
  .subst q;exact j.1 (.inr (.inl W))
  .have r:=Zr2 p.length p a;have r0:=Zha p.length p a h.tr h.ne (aH _);rcases(show Eo p.length p a<0\/Eo p.length p a=1 by omega)with k|k
   .exact .inl k
   .right;have hv:=Zoh h.tr h.ne h.sz h.hn h.hl h.hF h.eq h.otr h.one h.ok q1 k W;have m1:=Zkd h.otr h.one h.ok (dE D);unfold Zah;by_cases g:Zf o b=0
    .rw [aF g];have hx:Zf (Go.Sky.sqf F o) x≠0:=λe=>h.nz (x:=x) O4 ((h.zero x).1 e);rcases gY (vch F o b) (vch F o x)with w|w
     .omega
     .exfalso;have:=Zd8 h.otr h.one h.ok (dE D) w hx b (dE D) O4;rw [(h.zero b).2 g]at this;grind
    .rw [aD g];omega
theorem Zue(g:Rat->Rat){h:Rat}(j:0<h):∀(n:Nat) (u v:Rat),u<v->v-u<=(n:Rat)*h->g u*g v<0->∃x y,u<=x/\x<y/\y<=v/\y-x<=h/\g x≠0/\g x*g y<=0
 | 0,u,v,a,b,_=>by push_cast at b;grind
 | n+1,u,v,a,b,c=>by
  push_cast at b;have d:g u≠0:=λe=>by rw [e]at c;grind
  by_cases i:v-u<=h
  .exact⟨u,v,O4,a,O4,i,d,O4⟩
  .rcases(show g u*g (u+h)<=0\/0<g u*g (u+h) by grind)with q|q
   .exact⟨u,u+h,O4,O4,O4,O4,d,q⟩
   .have k:g (u+h)*g v<0:=by
     have D:=Gw d;rcases(show g (u+h)*g v<0\/0<=g (u+h)*g v by grind)with w|w
     .exact w
     .have H:=bD q (show 0 < -(g u*g v) by grind);have I:=aJ (dE D) w;grind
    obtain⟨x,y,G,l,m,r,z,B⟩:=Zue g j n (u+h) v O4 O4 k;exact⟨x,y,O4,l,m,r,z,B⟩
theorem Zof{c:Rat}(h:a*b<0)(d:a-b<=c)(e:b-a<=c):-c<=a/\a<=c:=by
 rcases(show 0<a\/a<0\/a=0 by grind)with q|q|q
 .have:b<0:=by
   rcases(show b<0\/0<=b by grind)with w|w
   .exact w
   .have:=aJ (dE q) w;grind
  grind
 .have:0<b:=by
   rcases(show 0<b\/b<=0 by grind)with w|w
   .exact w
   .have:=aJ (show 0<=-a by grind) (show 0<=-b by grind);grind
  grind
 .rw [q]at h;grind
theorem Zuv(hx:Tr xs)(h0:xs≠[])(hC:Ai F xs)(ho:Tr o)(o0:o≠[])(hE:Ed o (sqf F xs))(r:u<v)(hu:Zf (sqf F xs) u≠0)(h:Zf o u*Zf o v<0):vch F xs v<vch F xs u:=by
 rcases gY (vch F xs v) (vch F xs u)with q|q
 .exact q
 .exfalso;have hk:=Zd8 hx h0 hC (dE r) q hu;obtain⟨k,w,R,B⟩:=hE;have m:=Py R;have l:∀d,Tr d->Ed d o->Ed d (tzl w)->d.length<=1:=λd hd e1 M=>by
   obtain⟨g,s1,I,r1⟩:=e1;obtain⟨i,s2,c2,r2⟩:=M;refine Zfu hx h0 hC.1.2.2.1 hd ⟨k*g,lmul w s1,bK R I,λx=>?_⟩ ⟨k*g*i,Mt ((lmul (ld w) s1).map λa=>i*a) ((lmul s2 (ld o)).map λa=>g*a),bK (bK R I) c2,λx=>?_⟩
   .rw [Yc];have Y:=B x;have j:=r1 x;push_cast;grind
   .rw [Xi,Zl,Zl,Yc,Yc,Kv];have W:=Ce (p:=(sqf F xs).map λa=>k*a) (q:=lmul w o) (λy=>by rw [Zl,Yc];exact B y) x;rw [Aw,Be]at W;have j:=r1 x;have Z:=r2 x;rw [Lg]at Z;push_cast;have b1:(k:Rat)*g*i*Zf (ld (sqf F xs)) x=(g:Rat)*i*(Zf (ld w) x*Zf o x+Zf w x*Zf (ld o) x):=by rw [<-W];grind
    rw [b1];have b2:(g:Rat)*i*(Zf (ld w) x*Zf o x+Zf w x*Zf (ld o) x)=(i:Rat)*(Zf (ld w) x*((g:Rat)*Zf o x))+(g:Rat)*(((i:Rat)*Zf w x)*Zf (ld o) x):=O4;rw [b2,j,Z];grind
  obtain⟨ε,e1,M⟩:=Ybg ho (Qg w) o0 l u v;obtain⟨G,l1,l2⟩:=Bd u v o;obtain⟨H,m1,m2⟩:=Bd u v w;obtain⟨z,d1,-,d3⟩:=Gb (show(0:Rat)<1 by decide) (show 0<G+H by grind) (show 0<ε/2 by grind);obtain⟨n,hn⟩:=Zg9 (v-u) d1;obtain⟨x,y,D,x2,V,x4,x5,x6⟩:=Zue (Zf o) d1 n u v r hn h;have sx:=hk x D O4;have sy:=hk y O4 V;have ox:=B x;have oy:=B y;have Q:Zf o y≠0:=λe=>by
   rw [e]at oy;rcases fE.1 (show(k:Rat)*Zf (sqf F xs) y=0 by grind)with t|t
   .exact m t
   .rw [t]at sy;grind
  have N:Zf o x*Zf o y<0:=by
   rcases(show Zf o x*Zf o y<0\/Zf o x*Zf o y=0 by grind)with t|t
   .exact t
   .rcases fE.1 t with t|t
    .exact absurd t x5
    .exact absurd t Q
  have S:0<Zf (sqf F xs) x*Zf (sqf F xs) y:=by
   have Y:=bD sx sy;have j:=Gw hu;rcases(show 0<Zf (sqf F xs) x*Zf (sqf F xs) y\/Zf (sqf F xs) x*Zf (sqf F xs) y<=0 by grind)with t|t
   .exact t
   .have:=aJ (dE j) (show 0<=-(Zf (sqf F xs) x*Zf (sqf F xs) y) by grind);grind
  have P:Zf w x*Zf w y<0:=by
   have Y:(k:Rat)*k*(Zf (sqf F xs) x*Zf (sqf F xs) y)=(Zf w x*Zf w y)*(Zf o x*Zf o y):=by
    have:((k:Rat)*Zf (sqf F xs) x)*((k:Rat)*Zf (sqf F xs) y)=(Zf w x*Zf o x)*(Zf w y*Zf o y):=by rw [ox,oy]
    grind
   have j:=bD (Gw m) S;rcases(show Zf w x*Zf w y<0\/0<=Zf w x*Zf w y by grind)with t|t
   .exact t
   .have:=aJ t (show 0<=-(Zf o x*Zf o y) by grind);grind
  have I:=l2 x y D O4 V;have c2:=m2 x y D O4 V;have n1:=aJ (a:=G) (b:=z-(y-x)) O4 O4;have n2:=aJ (a:=H) (b:=z-(y-x)) O4 O4;have n3:=aJ (a:=G) (b:=z) O4 O4;have n4:=aJ (a:=H) (b:=z) O4 O4;obtain⟨b1,b2⟩:=Zof (c:=ε/2) N O4 O4;obtain⟨b3,b4⟩:=Zof (c:=ε/2) P O4 O4;rcases M x D O4 with t|t
  .unfold Big at t;grind
  .unfold Big at t;rw [Lg]at t;grind
theorem Zn6(i:Tr xs)(d:xs≠[])(e:Ai F xs)(c:u<v)(g:Zf (sqf F xs) u≠0)(h:Zf (sqf F xs) v=0):vch F xs v<vch F xs u:=by
 rcases gY (vch F xs v) (vch F xs u)with q|q
 .exact q
 .exfalso;have:=Zd8 i d e (dE c) q g v (dE c) O4;rw [h]at this;grind
theorem Odp.ed{n:Nat}(h:Odp F n p o):Ed o (Go.Sky.sqf F p):=by have c:=Dp.start h.tr h.ne;obtain⟨-,d⟩:=Fo h.tr h.ne h.sz h.hn h.hl h.hF p.length (Yz p) c (by rw [Pm h.tr];exact aH _);rw [<-h.eq]at d;rwa [Dn c.2.2.1]at d
theorem Yfg(i:Tr xs)(c:xs≠[])(d:Ai F xs)(x:Rat):Zf xs x=0↔Zf (sqf F xs) x=0:=by
 constructor
 .intro h;have j:(x.den:Int)≠0:=by exact_mod_cast x.den_nz
  have e:((x.num:Int):Rat)/((x.den:Int):Rat)=x:=by rw [<-Rat.divInt_eq_div];exact Rat.num_divInt_den x
  have:=Yfi i c d.1.2.2.1 j (r:=x.num) (by rw [e];exact h);rwa [e]at this
 .intro h;obtain⟨g,k⟩:=Ymv i c d.1.2.2.1;rw [k x,h];grind
theorem Ynn {n:Nat}  (h:Odp F n p o) (d:Ai F p) {K:Nat} {e:Nat} (j:∀u v:Rat,-(K:Rat)<=u->u<=v->v<=(K:Rat)->v-u<=1/((2^e:Nat):Rat)->vch F p u-vch F p v<=1)
   (h1:-(K:Rat)+1<=s) (H:t<=(K:Rat)) (hs:0<=Zf p s) (ht:0<=Zf p t) (N:Yej p s t):1/((2^(e+1):Nat):Rat)<t-s:=by
 obtain⟨x,x1,x2,x3⟩:=N;have l:s<x:=by rcases(show s<x\/s=x by grind)with q|q;exact q;subst q;grind
 have m:x<t:=by rcases(show x<t\/x=t by grind)with q|q;exact q;subst q;grind
 obtain⟨f1,f2,f3,f4,f5,f6⟩:=Ou (F:=F) h.tr h.ne d.1.2.2.1;have i:Zf (Go.Sky.sqf F p) x≠0:=λz=>by have:=(Yfg h.tr h.ne d x).2 z;grind
 rcases(show 1/((2^(e+1):Nat):Rat)<t-s\/t-s<=1/((2^(e+1):Nat):Rat) by grind)with q|q
 .exact q
 .exfalso;have P:=two_pow_pos e;have Q:=two_pow_pos (e+1);have D:((2^(e+1):Nat):Rat)=2*((2^e:Nat):Rat):=by rw [bX];push_cast;grind
  have hi:0<((2^e:Nat):Rat)⁻¹:=fZ.2 P;have I:1/((2^(e+1):Nat):Rat)=((2^e:Nat):Rat)⁻¹/2:=by rw [D];grind
  have G:1/((2^e:Nat):Rat)=((2^e:Nat):Rat)⁻¹:=O4;have M:((2^e:Nat):Rat)⁻¹<=1:=by
   have Z:(1:Rat)<=((2^e:Nat):Rat):=by have:1<=2^e:=dL e;exact_mod_cast this
   have g2:=aJ (a:=((2^e:Nat):Rat)-1) (b:=((2^e:Nat):Rat)⁻¹) O4 O4;have g3:((2^e:Nat):Rat)*((2^e:Nat):Rat)⁻¹=1:=lL _ O4;grind
  obtain⟨u,u1,u2,u3⟩:∃u,s-((2^e:Nat):Rat)⁻¹/2<=u/\u<=s/\vch F p x<vch F p u:=by
   by_cases z:Zf (Go.Sky.sqf F p) s=0
   .obtain⟨δ,Y,B⟩:=Aj (Go.Sky.sqf F p).length (Go.Sky.sqf F p) (s-((2^e:Nat):Rat)⁻¹/2) (aH _);have r:=Zha (Go.Sky.sqf F p).length (Go.Sky.sqf F p) (s-((2^e:Nat):Rat)⁻¹/2) f2 f3 (aH _);obtain⟨u,S,V,W⟩:∃u,s-((2^e:Nat):Rat)⁻¹/2<u/\u<=s-((2^e:Nat):Rat)⁻¹/2+δ/\u<s:=by
     rcases(show s-((2^e:Nat):Rat)⁻¹/2+δ<s\/s<=s-((2^e:Nat):Rat)⁻¹/2+δ by grind)with w|w
     .exact⟨_,O4,gJ,w⟩
     .exact⟨s-((2^e:Nat):Rat)⁻¹/4,O4,O4,O4⟩
    have R:Zf (Go.Sky.sqf F p) u≠0:=λc=>by have:=B u S V;rw [c]at this;exact r this.symm
    have m1:=Zn6 h.tr h.ne d W R z;have m2:=Zkd h.tr h.ne d (dE l);exact⟨u,O4,O4,O⟩
   .have g:0<Zf p s:=by have:Zf p s≠0:=λc=>z ((Yfg h.tr h.ne d s).1 c);grind
    have k:=h.opp (x:=s) (y:=x) (by have:=bD g (show 0 < -Zf p x by grind);grind);exact⟨s,O4,O4,Zuv h.tr h.ne d h.otr h.one h.ed l z k.1⟩
  have u4:vch F p t<vch F p x:=by
   by_cases z:Zf (Go.Sky.sqf F p) t=0
   .exact Zn6 h.tr h.ne d m i z
   .have g:0<Zf p t:=by have:Zf p t≠0:=λc=>z ((Yfg h.tr h.ne d t).1 c);grind
    have k:=h.opp (x:=x) (y:=t) (by have:=bD g (show 0 < -Zf p x by grind);grind);exact Zuv h.tr h.ne d h.otr h.one h.ed m i k.1
  have:=j u t O4 O4 H O4;omega
end Go.Sky

