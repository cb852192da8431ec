/- Rules, arithmetic and contracts: part 7. No conditions but those that each theorem names. -/
import Derived.Test.YteikicbnfbgpnaaGreatEf05
set_option linter.all false
namespace Go.Sky
variable{f:Rat->Rat}{u v s x lo:Rat}{xs c p o r rest before q z:List Int}{F t i M N k fuel:Nat}{a b m:R2}{d y ov:Int}{ls cs:List (SL×List Int)}{ds:List (List Int)}
def HD(xs ys:List Int):Prop:=Vp ys/\ys≠[]/\Zbf ys/\Zac 13 ys/\chn 13 ys=chn 13 xs
def PH(xs:List Int)(x y:R2):Prop:=(0<x.2/\bl x.1.natAbs<=506/\bl x.2.natAbs<=506)/\(0<y.2/\bl y.1.natAbs<=506/\bl y.2.natAbs<=506)/\cvc 13 xs x-cvc 13 xs y=1
def DR:R2×R2:=((0,0),(0,0))
theorem Zh2(d:Rat){h:Rat}(e:0<h):∃n:Nat,d<=(n:Rat)*h:=by
 have l:0<h⁻¹:=fK.2 e;refine⟨(d*h⁻¹).ceil.toNat,?_⟩;have g:=@nQ (d*h⁻¹);have j:(((d*h⁻¹).ceil:Int):Rat)<=(((d*h⁻¹).ceil.toNat:Nat):Rat):=by have:(d*h⁻¹).ceil<=(((d*h⁻¹).ceil.toNat:Nat):Int):=lF _;exact_mod_cast this
 have w:=cT (lQ g j) (show 0<=h by grind);have B:d*h⁻¹*h=d:=O4;grind
theorem Zs1(h:crs f u v<=0)(g:f u≠0):0<f u*f v:=by
 unfold crs at h;by_cases e:f u≠0/\f u*f v<=0
 .rw [aM e]at h;exact absurd h O3
 .have:¬f u*f v<=0:=λj=>e ⟨g,j⟩;grind
theorem Zes(B:Tr xs)(j:xs≠[])(l:Zac F xs){t:Rat}(R:s<=t)(Q:vch F xs s<=vch F xs t)(hs:Zg (sqf F xs) s≠0):∀y,s<=y->y<=t->0<Zg (sqf F xs) s*Zg (sqf F xs) y:=by
 obtain⟨h,I,P⟩:=Zno B j l s t;have g:∀u v,s<=u->u<=v->v<=t->v-u<=h->crs (Zg (sqf F xs)) u v<=0:=λu v a b c d=>by have e:=P u v a b c d;have m1:vat ((chn F xs).map Zg) u<=vat ((chn F xs).map Zg) s:=Znp B j l a;have m2:vat ((chn F xs).map Zg) t<=vat ((chn F xs).map Zg) v:=Znp B j l c;have m3:vat ((chn F xs).map Zg) s<=vat ((chn F xs).map Zg) t:=Q;omega
 generalize Zg (sqf F xs)=f at *;have D:∀n:Nat,∀y,s<=y->y<=t->y-s<=(n:Rat)*h->0<f s*f y:=λn=>by
  induction n with
  | zero=>
   intro y a b c;have:y=s:=by push_cast at c;grind
   subst this;exact Zs1 (g _ _ a O4 b O4) hs
  | succ n Z=>
   intro y a b c;push_cast at c;by_cases S:y-s<=h
   .exact Zs1 (g s y O4 a b S) hs
   .have G:=Z (y-h) O4 O4 O4;have V:f (y-h)≠0:=λe=>by rw [e]at G;grind
    have W:=Zs1 (g (y-h) y O4 O4 b O4) V;have Y:=aU G W;have H:f s*f (y-h)*(f (y-h)*f y)=(f (y-h)*f (y-h))*(f s*f y):=O4;rw [H]at Y;have i4:0<f (y-h)*f (y-h):=by
     rcases(show 0<f (y-h)\/f (y-h)<0 by grind)with q|q
     .exact aU q q
     .have:=aU (a:=-f (y-h)) (b:=-f (y-h)) O4 O4;grind
    rcases(show 0<f s*f y\/f s*f y<=0 by grind)with q|q
    .exact q
    .have:=aH (a:=f (y-h)*f (y-h)) (b:=-(f s*f y)) O4 O4;grind
 intro y a b;obtain⟨n,w⟩:∃n:Nat,y-s<=(n:Rat)*h:=by obtain⟨n,w⟩:=Zh2 (y-s) I;exact⟨n,w⟩
 exact D n y a b w
theorem Zg9 (p:List Int)(s:Rat)(t:Rat)(V:s<=t)(P:∀u,s<=u->u<=t->0<=Zg (ld p) u):Zg p s<=Zg p t:=by
 rcases(show Zg p s<=Zg p t\/Zg p t<Zg p s by grind)with h|h
 .exact h
 .exfalso;obtain⟨M,m1,m2⟩:=Zkn s t p;have R:s<t:=by
   rcases(show s<t\/s=t by grind)with l|l
   .exact l
   .rw [l]at h;grind
  obtain⟨n,S⟩:=Zh2 (M*(t-s)*(t-s)+1) (show 0<Zg p s-Zg p t by grind);have w:(0:Rat)<(n:Rat):=by
   rcases aV n with l|l
   .subst l;have:=aH (a:=M*(t-s)) (b:=t-s) (aH O4 O4) O4;push_cast at S;grind
   .exact_mod_cast l
  have G:(n:Rat)≠0:=λe=>by rw [e]at w;exact absurd w O3
  have g:(n:Rat)*((t-s)/n)=t-s:=by rw [jQ,<-lI,kQ (n:Rat),lI,Rat.mul_inv_cancel _ G,Rat.mul_one]
  have H:∀k:Nat,(k:Rat)<=(n:Rat)->-(M*((t-s)/n)*((t-s)/n))*k<=Zg p (s+k*((t-s)/n))-Zg p s:=λk=>by
   induction k with
   | zero=>intro _;push_cast;rw [show s+0*((t-s)/n)=s by grind];grind
   | succ k W=>
    intro Q;push_cast at Q ⊢;have i1:=W O4;have D:0<=(t-s)/n:=by rw [jQ];exact aH O4 (cS (fK.2 w))
    have B:=g;generalize (t-s)/(n:Rat)=h at *;have Y:(0:Rat)<=(k:Rat):=by exact_mod_cast bA k
    have b1:=aH (a:=(k:Rat)) (b:=h) Y D;have b2:=aH (a:=(n:Rat)-(k+1)) (b:=h) O4 D;have j:=(m2 (s+k*h) (s+(k+1)*h) O4 O4 O4).1;have e:=P (s+k*h) O4 O4;have e2:=aH D e;rw [show s+(k+1)*h-(s+k*h)=h by grind]at j;grind
  have I:=H n O4;have B:=g;rw [B,show s+(t-s)=t by grind]at I;have Z:-(M*((t-s)/n)*((t-s)/n))*n=-(M*((t-s)/n)*(t-s)):=O4;rw [Z]at I;have k3:M*((t-s)/n)*(t-s)*n=M*(t-s)*(t-s):=O4;have k4:=aH (a:=Zg p t-Zg p s+M*((t-s)/n)*(t-s)) (b:=(n:Rat)) O4 O4;grind
theorem Zgt(p:List Int)(x:Rat):Zg (p.map λa=>-1*a) x=-Zg p x:=by rw [Zp];push_cast;grind
theorem Zp7 (p:List Int){t:Rat}(n:s<t)(e:∀u,s<u->u<=t->0<Zg (ld p) u)(g:0<=Zg (ld p) s):Zg p s<Zg p t:=by
 have j:s<(s+t)/2/\(s+t)/2<t:=by constructor<;>grind
 generalize (s+t)/2=m at *;have G:=Zg9 p s m O4 (λu a b=>by
  rcases(show s<u\/u=s by grind)with h|h
  .exact cS (e u h O4)
  .rw [h];exact g)
 obtain⟨M,w,B⟩:=Zkn m t p;have l:=e m j.1 O4;obtain⟨η,D,I,P⟩:=Gg (show 0<t-m by grind) w (show 0<Zg (ld p) m/2 by grind);have b:=(B m (m+η) O4 O4 O4).1;rw [show m+η-m=η by grind]at b;have H:=Zg9 p (m+η) t O4 (λu a b=>cS (e u O4 b));have c:=aH (a:=η) (b:=Zg (ld p) m/2-η*M) O4 O4;have d:=aU D l;grind
def Dl:Nat->List Int->Rat->Int
 | 0,_,_=>0
 | n+1,p,x=>if Zg p x≠0 then Ep (Zg p x)else Dl n (Xf p) x
def Ya7(h:0<x):Ep x=1:=Zaj h
theorem Zo7(h:x<0):Ep x=-1:=Zak h
theorem Zuw(h:x=0):Ep x=0:=by subst h;rfl
theorem Ph(x:Rat):(0<x/\Ep x=1)\/(x<0/\Ep x=-1)\/(x=0/\Ep x=0):=by
 rcases(show 0<x\/x<0\/x=0 by grind)with h|h|h
 .exact .inl ⟨h,Ya7 h⟩
 .exact .inr (.inl ⟨h,Zo7 h⟩)
 .exact .inr (.inr ⟨h,Zuw h⟩)
theorem Zz6(n:Nat)(p:List Int)(x:Rat)(h:Zg p x≠0)(e:p.length<=n):Dl n p x=Ep (Zg p x):=by
 cases n with
 | zero=>have:p=[]:=aC O;subst this;exact absurd rfl h
 | succ n=>unfold Dl;rw [aM h]
theorem Zpl(p:List Int)(x:Rat)(h:Zg p x≠0):∃δ:Rat,0<δ/\∀y,x<y->y<=x+δ->Ep (Zg p y)=Ep (Zg p x):=by
 obtain⟨L,I,B⟩:=Bp x (x+1) p;have n:0<(if 0<Zg p x then Zg p x else -Zg p x):=by split<;>grind
 obtain⟨δ,w,D,j⟩:=Gg (show(0:Rat)<1 by decide) (show 0<L+1 by grind) (show 0<(if 0<Zg p x then Zg p x else -Zg p x)/2 by grind);refine⟨δ,w,λy G H=>?_⟩;have l:=B x y O4 O4 O4;have b:=aH (a:=L) (b:=δ-(y-x)) O4 O4;have c:L*(y-x)<=δ*(L+1):=O4;rcases Ph (Zg p x)with⟨e,g⟩|⟨e,g⟩|⟨e,g⟩
 .rw [aM e]at j n;rw [g];exact Ya7 O4
 .rw [aG O4]at j n;rw [g];exact Zo7 O4
 .exact absurd e h
theorem Zad:∀(n:Nat) (p:List Int) (x:Rat),p.length<=n->∃δ:Rat,0<δ/\∀y,x<y->y<=x+δ->Ep (Zg p y)=Dl n p x
 | 0,p,x,I=>⟨1,O3,λy _ _=>by have:p=[]:=aC O;subst this;exact Zuw rfl⟩
 | n+1,p,x,I=>by
  by_cases h:Zg p x≠0
  .rw [Zz6 (n+1) p x h I];exact Zpl p x h
  .have h0:Zg p x=0:=eT.1 h;have Y:=Oc p;obtain⟨δ,S,V⟩:=Zad n (Xf p) x O;have W:Dl (n+1) p x=Dl n (Xf p) x:=by unfold Dl;rw [aG h];cases n<;>rfl
   have D:Zg (ld p) x≠0->Ep (Zg (ld p) x)=Dl n (Xf p) x:=λl=>by rw [<-Ie]at l ⊢;exact(Zz6 n (Xf p) x l O).symm
   refine⟨δ,S,λy G h2=>?_⟩;rw [W];have w:∀u,x<u->u<=y->Ep (Zg (ld p) u)=Dl n (Xf p) x:=λu a b=>by rw [<-Ie];exact V u a O4
   have j:=w y G O4;generalize Dl n (Xf p) x=σ at *;rcases Ph (Zg (ld p) y)with⟨H,B⟩|⟨H,B⟩|⟨H,B⟩
   .rw [B]at j;subst j;refine Ya7 ?_;have:=Zp7 p G (λu a b=>by
     rcases Ph (Zg (ld p) u)with⟨g,e⟩|⟨g,e⟩|⟨g,e⟩
     .exact g
     .have:=w u a b;rw [e]at this;exact absurd this O3
     .have:=w u a b;rw [e]at this;exact absurd this O3) (by
     rcases Ph (Zg (ld p) x)with⟨g,e⟩|⟨g,e⟩|⟨g,e⟩
     .exact cS g
     .have:=D O4;rw [e]at this;exact absurd this O3
     .grind)
    grind
   .rw [B]at j;subst j;refine Zo7 ?_;have P:∀u,Zg (ld (p.map λa=>-1*a)) u=-Zg (ld p) u:=λu=>by rw [Zam];push_cast;grind
    have:=Zp7 (p.map λa=>-1*a) G (λu a b=>by
     rw [P];rcases Ph (Zg (ld p) u)with⟨g,e⟩|⟨g,e⟩|⟨g,e⟩
     .have:=w u a b;rw [e]at this;exact absurd this O3
     .grind
     .have:=w u a b;rw [e]at this;exact absurd this O3) (by
     rw [P];rcases Ph (Zg (ld p) x)with⟨g,e⟩|⟨g,e⟩|⟨g,e⟩
     .have:=D O4;rw [e]at this;exact absurd this O3
     .grind
     .grind)
    rw [Zgt,Zgt]at this;grind
   .rw [B]at j;subst j;refine Zuw ?_;have Q:∀u,x<=u->u<=y->Zg (ld p) u=0:=λu a b=>by
     rcases(show x<u\/u=x by grind)with l|l
     .rcases Ph (Zg (ld p) u)with⟨g,e⟩|⟨g,e⟩|⟨g,e⟩
      .have:=w u l b;rw [e]at this;exact absurd this O3
      .have:=w u l b;rw [e]at this;exact absurd this O3
      .exact g
     .subst l;rcases Ph (Zg (ld p) u)with⟨g,e⟩|⟨g,e⟩|⟨g,e⟩
      .have:=D O4;rw [e]at this;exact absurd this O3
      .have:=D O4;rw [e]at this;exact absurd this O3
      .exact g
    have Z:=Zg9 p x y O4 (λu a b=>by rw [Q u a b];grind);have R:=Zg9 (p.map λa=>-1*a) x y O4 (λu a b=>by rw [Zam,Q u a b];push_cast;grind);rw [Zgt,Zgt]at R;grind
theorem Ed.mul_l{a b:List Int}(h:Ed a b):Ed (Qt c a) (Qt c b):=by obtain⟨k,s,g,e⟩:=h;exact⟨k,s,g,λx=>by rw [Yo,Yo];have:=e x;grind⟩
theorem Fy{n:Nat}(V:Tr p)(H:p≠[])(hs:Sz n p)(R:n<=220)(P:p.length<=11)(I:p.length<=F+1):∀(f:Nat) (q:List Int),Dp p q->q.length<=f->
  (∃B:List Int,∀x:Rat,Zg q x=Zg (Be F f q) x*(Zg B x*Zg B x))/\Ed (Be F f q) (sqf F q):=by
 intro f
 induction f with
 | zero=>intro q e Q;have:=aD.2 e.2.1;omega
 | succ f ih=>
  intro q e Q;have h:=(e.ok V H hs R P I).2;have j:=e.next h;have g:=(j.ok V H hs R P I).2;have l:=j.next g;unfold Be;by_cases G:(sqf F q).length=1
  .rw [aM G];obtain⟨s1,s2,s3⟩:=Zgk e.1 e.2.1 h G;refine⟨⟨[1],λx=>?_⟩,Ed.refl _⟩;rw [s1,Yqu e.1 e.2.2.1 s2,Px];push_cast;grind
  .rw [aG G];have lq:2<=q.length:=by obtain⟨f1,f2,f3,f4,f5,f6⟩:=Ov F e.1 e.2.1 h;obtain⟨a1,W,Y,D,a5⟩:=Pi e.1 e.2.1 h;have l1:=aD.2 f3;have l2:=aD.2 W;omega
   have a0:=Zm7 e.1 e.2.1 h lq;obtain⟨a1,W,Y,D,a5⟩:=Pi e.1 e.2.1 h;obtain⟨b1,b2,b3,Z,b5⟩:=Pi j.1 j.2.1 g;obtain⟨-,t2,t3,-,-,-⟩:=Ov F j.1 j.2.1 g;have lb:=aD.2 t3;obtain⟨⟨B,hB⟩,hE⟩:=ih _ l O;obtain⟨-,o2,o3,o4⟩:=Cy e.1 e.2.1 h g;have w:=(l.ok V H hs R P I).2;rw [e.2.2.1]at D;rw [Y]at Z;have e1:∀x,Zg q x=Zg (sqf F q) x*Zg (Om F q) x:=λx=>by rw [<-Yo,<-D]
   have e2:∀x,Zg (sqf F q) x=Zg (Bi F q) x*Zg (sqf F (Om F q)) x:=λx=>by rw [<-Yo,<-o2]
   have e3:∀x,Zg (Om F q) x=Zg (sqf F (Om F q)) x*Zg (Om F (Om F q)) x:=λx=>by rw [<-Yo,<-Z]
   refine⟨⟨Qt (sqf F (Om F q)) B,λx=>?_⟩,?_⟩
   .rw [Yo,Yo,e1 x,e2 x,e3 x,hB x];show _=Zg (Bi F q) x*_*_;generalize Zg (sqf F (Om F q)) x=S;generalize Zg B x=C;grind
   .have h9:Ed (Be F f (Om F (Om F q))) (sqf F (Om F q)):=hE.trans (Yby j.1 j.2.1 g w);have h8:=h9.mul_l (c:=Bi F q);rw [<-o2]at h8;exact h8
theorem Zvi{n:Nat}(hp:Tr p)(W:p≠[])(hs:Sz n p)(hn:n<=220)(hl:p.length<=11)(hF:p.length<=F+1)(I:Tr o)(o0:o≠[])(g:Dc F o)(D:Dc F p)(h:Ed o (sqf F p)):(Om F o).length=1/\sqf F o=Xc o:=by
 obtain⟨R,a2,a3,S,a5⟩:=Pi I o0 g;obtain⟨f1,f2,f3,f4,f5,f6⟩:=Ov F hp W D;obtain⟨-,s2,s3,s4,s5,s6⟩:=Ov F I o0 g;have ht:Tr (Xc o):=Nc (Yu I);have Y:=Zek ht (Np ht) g;have V:Ed (Om F o) (Xc o):=Y.1.ed;have e2:Ed (Om F o) (ld (Xc o)):=(Y.2.ed:Ed (Om F o) (Xf (Xc o))).congr λx=>Ie _ x;have G:Sim (Xc o) o:=(Hm (Zz o)).trans (Ql I);obtain⟨k,w,H,l⟩:Ed (Xc o) (sqf F p):=by
  obtain⟨k,w,H,e⟩:=h;obtain⟨c,d,hc,Q,P⟩:=G;have j:∀x:Rat,(c:Rat)*Zg (Xc o) x=(d:Rat)*Zg o x:=λx=>by rw [<-Zp,<-Zp];exact Na x _ _ λi=>by rw [Qp,Qp];exact P i
  exact⟨d*k,w.map λa=>c*a,bC Q H,λx=>by rw [Zp];have a:=e x;have b:=j x;push_cast;grind⟩
 have Z:(Om F o).length<=1:=by
  refine Zgl hp W D R (V.trans ⟨k,w,H,l⟩) ?_;have h1:Ed (Om F o) (lmul w (ld (Xc o))):=by obtain⟨m,z,hm,e⟩:=e2;exact⟨m,lmul w z,hm,λx=>by rw [Yc,Yc];have:=e x;grind⟩
  have h2:Ed (Om F o) (ld (sqf F p)):=Ed.lin V h1 (ld w) k H λx=>by have:=Cw ((sqf F p).map λa=>k*a) (lmul w (Xc o)) (λy=>by rw [Zp,Yc];exact l y) x;rw [Zam,Bq]at this;rw [Yc,this]
  exact h2.congr λx=>(Ie _ x).symm
 have B:(Om F o).length=1:=by have:=aD.2 a2;omega
 refine⟨B,?_⟩;rw [Yqu R a3 B,Zrg s2]at S;exact S.symm
theorem Zgm{a b:List Int}(h:Sim a b):∃c d:Int,c≠0/\d≠0/\∀x:Rat,(c:Rat)*Zg a x=(d:Rat)*Zg b x:=by obtain⟨c,d,g,j,e⟩:=h;exact⟨c,d,g,j,λx=>by rw [<-Zp,<-Zp];exact Na x _ _ λi=>by rw [Qp,Qp];exact e i⟩
theorem Fe(h:x≠0):0<x*x:=by
 rcases(show 0<x\/x<0 by grind)with q|q
 .exact aU q q
 .have:=aU (a:=-x) (b:=-x) O4 O4;grind
theorem Ob{c:Int}(h:c≠0):(c:Rat)≠0:=λe=>h (by exact_mod_cast e)
theorem Zg2{a b e g c d:Rat}(l:c≠0)(n:d≠0)(w:c*e=d*a)(B:c*g=d*b)(h:a*b<0):e*g<0:=by
 have D:(c*c)*(e*g)=(d*d)*(a*b):=O4;have G:=Fe l;have j:=Fe n;rcases(show e*g<0\/0<=e*g by grind)with q|q
 .exact q
 .have H:=aH (a:=c*c) (b:=e*g) O4 q;have I:=aU (a:=d*d) (b:=-(a*b)) j O4;grind
theorem Ykf{j l e g:Rat}(h:j*(e*e)*(l*(g*g))<0):j*l<0:=by
 rcases(show j*l<0\/0<=j*l by grind)with q|q
 .exact q
 .have w:0<=e*g*(e*g):=by
   by_cases n:e*g=0
   .rw [n];grind
   .exact cS (Fe n)
  have B:=aH q w;grind
theorem Zpk{n:Nat}(j:Tr p)(w:p≠[])(hs:Sz n p)(Y:n<=220)(W:p.length<=11)(R:p.length<=F+1)(ho:o=Be F p.length (Xc p))(g:Tr o)(o0:o≠[])(P:Zac F o){a b:Rat}(a1:a<b)(h1:Dl p.length p a=1)(h2:Zg p b<0):vch F o b<vch F o a:=by
 have G:=Dp.start j w;have h:=(G.ok j w hs Y W R).2;have l:Dc F p:=by unfold Dc at h ⊢;rwa [G.2.2.1]at h
 obtain⟨⟨B,I⟩,Q⟩:=Fy j w hs Y W R p.length (Xc p) G (by rw [Pp j];exact aI _);rw [<-ho]at I Q;rw [Ch G.2.2.1]at Q;obtain⟨-,a0⟩:=Zvi j w hs Y W R g o0 P.1.2.2.1 l Q;obtain⟨δ,d1,d2⟩:=Zad p.length p a (aI _);obtain⟨s,s1,s2,s3⟩:∃s,a<s/\s<=a+δ/\s<b:=by
  rcases(show a+δ<b\/b<=a+δ by grind)with q|q
  .exact⟨a+δ,O4,O4,q⟩
  .exact⟨(a+b)/2,O4,O4,O4⟩
 have Z:0<Zg p s:=by
  have:=d2 s s1 s2;rw [h1]at this;rcases Ph (Zg p s)with⟨H,D⟩|⟨H,D⟩|⟨H,D⟩
  .exact H
  .rw [D]at this;exact absurd this O3
  .rw [D]at this;exact absurd this O3
 have k1:Zg p s*Zg p b<0:=by have:=aU (a:=Zg p s) (b:=-Zg p b) Z O4;grind
 obtain⟨c,d,hc,hd,e⟩:=Zgm ((Hm (Zz p)).trans (Ql j):Sim (Xc p) p);have k2:Zg (Xc p) s*Zg (Xc p) b<0:=Zg2 (Ob hc) (Ob hd) (e s) (e b) k1;rw [I s,I b]at k2;have k3:=Ykf k2;obtain⟨c',d',S,V,e'⟩:=Zgm ((Hm (Zz o)).trans (Ql g):Sim (Xc o) o);have k4:Zg (Xc o) s*Zg (Xc o) b<0:=Zg2 (Ob S) (Ob V) (e' s) (e' b) k3;rw [<-a0]at k4;have m1:=Zlk g o0 P (cS s1);rcases gL (vch F o b) (vch F o s)with q|q
 .exact Int.lt_of_lt_of_le q m1
 .exfalso;have hz:Zg (sqf F o) s≠0:=λe9=>by rw [e9]at k4;grind
  have:=Zes g o0 P (cS s3) q hz b (cS s3) O4;grind
theorem Zh3:∀(n:Nat) (p:List Int) (x:Rat),Tr p->p≠[]->p.length<=n->Dl n p x≠0
 | 0,p,x,_,l,I=>absurd (aC O) l
 | n+1,p,x,D,l,I=>by
  unfold Dl;by_cases h:Zg p x≠0
  .rw [aM h];rcases Ph (Zg p x)with⟨w,j⟩|⟨w,j⟩|⟨w,j⟩
   .rw [j];decide
   .rw [j];decide
   .exact absurd w h
  .rw [aG h];have G:Zg p x=0:=eT.1 h;have g:=Oc p;refine Zh3 n (Xf p) x (Np D) (λe=>?_) O;rw [e]at g;have P:=aD.2 l;have B:p.length=1:=by simp at g;omega
   match p,B with
   | [c],_=>
    have H:c≠0:=D.mem O5;rw [Px]at G;exact Ob H G
theorem Zts(n:Nat)(p:List Int)(x:Rat):-1<=Dl n p x/\Dl n p x<=1:=by
 induction n generalizing p with
 | zero=>show -1<=(0:Int)/\(0:Int)<=1;decide
 | succ n e=>unfold Dl;split;exact Yiv;exact e _
def Zay(F:Nat)(o:List Int)(a b:Rat):Prop:=0<vch F o a-vch F o b-(if Zg o b=0 then 1 else 0)
theorem Ykr{n:Nat}(g:Tr p)(j:p≠[])(hs:Sz n p)(R:n<=220)(Q:p.length<=11)(P:p.length<=F+1)(S:o=Be F p.length (Xc p))(G:Tr o)(o0:o≠[])(Z:Zac F o){a b:Rat}(w:a<b) :
  (Zg p a<0\/Zg p b<0\/Dl p.length p a<0\/Zay F o a b)↔(Dl p.length p a<0\/Zay F o a b):=by
 constructor
 .rintro(h|h|h|h)
  .left;rw [Zz6 p.length p a O4 (aI _),Zo7 h];decide
  .have r:=Zts p.length p a;have r0:=Zh3 p.length p a g j (aI _);rcases(show Dl p.length p a<0\/Dl p.length p a=1 by omega)with l|l
   .exact .inl l
   .right;have hv:=Zpk g j hs R Q P S G o0 Z w l h;have hD:=Dp.start g j;obtain⟨⟨B,I⟩,-⟩:=Fy g j hs R Q P p.length (Xc p) hD (by rw [Pp g];exact aI _);rw [<-S]at I;obtain⟨c,d,hc,hd,e⟩:=Zgm ((Hm (Zz p)).trans (Ql g):Sim (Xc p) p);have D:Zg o b≠0:=λV=>by
     have H:(c:Rat)*Zg (Xc p) b=(d:Rat)*Zg p b:=e b;rw [I b,V]at H;have W:=Ob hd;have Y:(d:Rat)*Zg p b=0:=by rw [<-H];grind
     rcases fR.1 Y with q|q
     .exact W q
     .rw [q]at h;grind
    unfold Zay;rw [aG D];omega
  .exact .inl h
  .exact .inr h
 .rintro(h|h)
  .exact .inr (.inr (.inl h))
  .exact .inr (.inr (.inr h))
theorem Yfz(p:List Int)(x:Rat)(h:Zg p x≠0):∃δ:Rat,0<δ/\∀y,x-δ<=y->y<=x->Ep (Zg p y)=Ep (Zg p x):=by
 obtain⟨L,I,B⟩:=Bp (x-1) x p;have n:0<(if 0<Zg p x then Zg p x else -Zg p x):=by split<;>grind
 obtain⟨δ,w,D,j⟩:=Gg (show(0:Rat)<1 by decide) (show 0<L+1 by grind) (show 0<(if 0<Zg p x then Zg p x else -Zg p x)/2 by grind);refine⟨δ,w,λy G H=>?_⟩;have l:=B y x O4 O4 O4;have b:=aH (a:=L) (b:=δ-(x-y)) O4 O4;have c:L*(x-y)<=δ*(L+1):=O4;rcases Ph (Zg p x)with⟨e,g⟩|⟨e,g⟩|⟨e,g⟩
 .rw [aM e]at j n;rw [g];exact Ya7 O4
 .rw [aG O4]at j n;rw [g];exact Zo7 O4
 .exact absurd e h
theorem rsg_1(h:Ep x=1):0<x:=by
 rcases Ph x with⟨g,e⟩|⟨g,e⟩|⟨g,e⟩
 .exact g
 .rw [e]at h;exact absurd h O3
 .rw [e]at h;exact absurd h O3
theorem Zqr(h:Ep x=-1):x<0:=by
 rcases Ph x with⟨g,e⟩|⟨g,e⟩|⟨g,e⟩
 .rw [e]at h;exact absurd h O3
 .exact g
 .rw [e]at h;exact absurd h O3
def Zz9(p:List Int)(a b:Rat):Prop:=∃x,a<=x/\x<=b/\Zg p x<0
theorem Yl9   (hx:Tr xs) (h0:xs≠[]) (hC:Zac F xs) {a b σ:Rat} (hσ:σ≠0) (a0:a<b)
  (g:∀x,a<=x->x<b->∃δ:Rat,0<δ/\∀y,x<y->y<=x+δ->y<=b->0<σ*Zg (sqf F xs) y) :
  vch F xs a-vch F xs b<=(if Zg (sqf F xs) b=0 then 1 else 0):=by
 obtain⟨h,h1,h2⟩:=Zno hx h0 hC a b;have V:∀x,a<=x->x<b->0<=σ*Zg (sqf F xs) x:=λx ha hb=>by
  rcases(show 0<=σ*Zg (sqf F xs) x\/σ*Zg (sqf F xs) x<0 by grind)with q|q
  .exact q
  .exfalso;have l:Zg (sqf F xs) x≠0:=λe=>by rw [e]at q;grind
   obtain⟨δ,d1,R⟩:=g x ha hb;obtain⟨ε,e1,e2⟩:=Zpl (sqf F xs) x l;obtain⟨y,Z,y2,y3,y4⟩:∃y,x<y/\y<=x+δ/\y<=x+ε/\y<=b:=by
    rcases(show δ<=ε\/ε<=δ by grind)with w|w
    .rcases(show x+δ<=b\/b<=x+δ by grind)with v|v
     .exact⟨x+δ,O4,O4,O4,v⟩
     .exact⟨b,O4,O4,O4,O4⟩
    .rcases(show x+ε<=b\/b<=x+ε by grind)with v|v
     .exact⟨x+ε,O4,O4,O4,v⟩
     .exact⟨b,O4,O4,O4,O4⟩
   have k1:=R y Z y2 y4;have G:=e2 y Z y3;rcases Ph (Zg (sqf F xs) x)with⟨B,D⟩|⟨B,D⟩|⟨B,D⟩
   .rw [D]at G;have W:=rsg_1 G;rcases(show σ<0\/0<σ by grind)with s|s
    .have:=aU (a:=-σ) (b:=Zg (sqf F xs) y) O4 W;grind
    .have:=aU s B;grind
   .rw [D]at G;have W:=Zqr G;rcases(show σ<0\/0<σ by grind)with s|s
    .have:=aU (a:=-σ) (b:=-Zg (sqf F xs) x) O4 O4;grind
    .have:=aU (a:=σ) (b:=-Zg (sqf F xs) y) s O4;grind
   .exact l B
 have a3:0<=σ*Zg (sqf F xs) b:=by
  rcases(show 0<=σ*Zg (sqf F xs) b\/σ*Zg (sqf F xs) b<0 by grind)with q|q
  .exact q
  .exfalso;have l:Zg (sqf F xs) b≠0:=λe=>by rw [e]at q;grind
   obtain⟨ε,e1,e2⟩:=Yfz (sqf F xs) b l;obtain⟨y,Z,y2,y3⟩:∃y,a<=y/\y<b/\b-ε<=y:=by
    rcases(show a<=b-ε\/b-ε<=a by grind)with v|v
    .exact⟨b-ε,v,O4,O4⟩
    .exact⟨a,O4,a0,v⟩
   obtain⟨δ,d1,R⟩:=g y Z y2;obtain⟨z,z1,z2,P⟩:∃z,y<z/\z<=y+δ/\z<=b:=by
    rcases(show y+δ<=b\/b<=y+δ by grind)with v|v
    .exact⟨y+δ,O4,O4,v⟩
    .exact⟨b,y2,O4,O4⟩
   have k1:=R z z1 z2 P;have G:=e2 z O4 P;rcases Ph (Zg (sqf F xs) b)with⟨B,D⟩|⟨B,D⟩|⟨B,D⟩
   .rw [D]at G;have W:=rsg_1 G;rcases(show σ<0\/0<σ by grind)with s|s
    .have:=aU (a:=-σ) (b:=Zg (sqf F xs) z) O4 W;grind
    .have:=aU s B;grind
   .rw [D]at G;have W:=Zqr G;rcases(show σ<0\/0<σ by grind)with s|s
    .have:=aU (a:=-σ) (b:=-Zg (sqf F xs) b) O4 O4;grind
    .have:=aU (a:=σ) (b:=-Zg (sqf F xs) z) s O4;grind
   .exact l B
 have j:∀u v,a<=u->u<=v->v<=b->v-u<=h/2->vch F xs u-vch F xs v<=(if v=b/\Zg (sqf F xs) b=0 then 1 else 0):=λu v H Y Q c4=>by
  have e:=h2 u v H Y Q O4;have e':vch F xs u-vch F xs v=crs (Zg (sqf F xs)) u v:=e;rw [e'];unfold crs;by_cases S:Zg (sqf F xs) u≠0/\Zg (sqf F xs) u*Zg (sqf F xs) v<=0
  .rw [aM S];have a4:u<b:=by
    rcases(show u<b\/u=b by grind)with q|q
    .exact q
    .exfalso;have:v=u:=O4;subst this;have:=Fe S.1;grind
   have g1:=V u H a4;have g2:0<=σ*Zg (sqf F xs) v:=by
    rcases(show v<b\/v=b by grind)with q|q
    .exact V v O4 q
    .rw [q];exact a3
   have I:Zg (sqf F xs) v=0:=by
    rcases(show Zg (sqf F xs) v=0\/Zg (sqf F xs) v≠0 by grind)with q|q
    .exact q
    .exfalso;have m1:=aH g1 g2;have m2:=Fe hσ;have m3:(σ*σ)*(Zg (sqf F xs) u*Zg (sqf F xs) v)>=0:=O4;rcases(show Zg (sqf F xs) u*Zg (sqf F xs) v<0\/Zg (sqf F xs) u*Zg (sqf F xs) v=0 by grind)with w|w
     .have:=aU m2 (show 0 < -(Zg (sqf F xs) u*Zg (sqf F xs) v) by grind);grind
     .rcases fR.1 w with z|z
      .exact S.1 z
      .exact q z
   rcases(show v<b\/v=b by grind)with q|q
   .exfalso;obtain⟨δ,d1,R⟩:=g v O4 q;obtain⟨z,z1,z2,P,z4⟩:∃z,v<z/\z<=v+δ/\z<=b/\z-v<=h/2:=by
     rcases(show δ<=h/2\/h/2<=δ by grind)with w|w
     .rcases(show v+δ<=b\/b<=v+δ by grind)with t|t
      .exact⟨v+δ,O4,O4,t,O4⟩
      .exact⟨b,q,O4,O4,O4⟩
     .rcases(show v+h/2<=b\/b<=v+h/2 by grind)with t|t
      .exact⟨v+h/2,O4,O4,t,O4⟩
      .exact⟨b,q,O4,O4,O4⟩
    have k1:=R z z1 z2 P;have a1:=h2 u z H O4 P O4;have a2:=h2 v z O4 O4 P O4;have r1:crs (Zg (sqf F xs)) u z=0:=by
     unfold crs;rw [aG];rintro⟨w1,w2⟩;have g3:0<σ*Zg (sqf F xs) u:=by
      rcases(show σ*Zg (sqf F xs) u=0\/0<σ*Zg (sqf F xs) u by grind)with t|t
      .rcases fR.1 t with t|t
       .exact absurd t hσ
       .exact absurd t w1
      .exact t
     have m1:=aU g3 k1;have m2:=Fe hσ;have m3:0<(σ*σ)*(Zg (sqf F xs) u*Zg (sqf F xs) z):=O4;have m4:=aH (a:=σ*σ) (b:=-(Zg (sqf F xs) u*Zg (sqf F xs) z)) O4 O4;grind
    have r2:crs (Zg (sqf F xs)) v z=0:=by unfold crs;rw [aG];rintro⟨w1,w2⟩;exact w1 I
    have r3:crs (Zg (sqf F xs)) u v=1:=by unfold crs;rw [aM S]
    rw [r1]at a1;rw [r2]at a2;rw [r3]at e;omega
   .rw [q]at I;rw [aM ⟨q,I⟩];decide
  .rw [aG S];split<;>decide
 have a5:∀n:Nat,∀u,a<=u->u<=b->b-u<=(n:Rat)*(h/2)->vch F xs u-vch F xs b<=(if Zg (sqf F xs) b=0 then 1 else 0):=λn=>by
  induction n with
  | zero=>
   intro u H Y Q;have:u=b:=by push_cast at Q;grind
   subst this;rw [Int.sub_self];split<;>decide
  | succ n ih=>
   intro u H Y Q;push_cast at Q;by_cases hy:b-u<=h/2
   .have:=j u b H Y O4 hy;by_cases l:Zg (sqf F xs) b=0
    .rw [aM ⟨rfl,l⟩]at this;rw [aM l];exact this
    .rw [aG (λe=>l e.2)]at this;rw [aG l];exact this
   .have i1:=ih (u+h/2) O4 O4 O4;have i2:=j u (u+h/2) H O4 O4 O4;rw [aG (λe=>by have:=e.1;grind)]at i2;generalize (if Zg (sqf F xs) b=0 then(1:Int)else 0)=t at *;omega
 obtain⟨n,hn⟩:=Zh2 (b-a) (show 0<h/2 by grind);exact a5 n a O4 O4 hn
structure Odp (F n:Nat) (p o:List Int):Prop where
 tr:Tr p
 ne:p≠[]
 sz:Sz n p
 hn:n<=220
 hl:p.length<=11
 hF:p.length<=F+1
 eq:o=Be F p.length (Xc p)
 otr:Tr o
 one:o≠[]
 ok:Zac F o
theorem Odp.sq{n:Nat}(h:Odp F n p o):∃(c d:Int) (B:List Int),c≠0/\d≠0/\∀x:Rat,(d:Rat)*Zg p x=(c:Rat)*(Zg o x*(Zg B x*Zg B x)):=by have j:=Dp.start h.tr h.ne;obtain⟨⟨B,g⟩,-⟩:=Fy h.tr h.ne h.sz h.hn h.hl h.hF p.length (Xc p) j (by rw [Pp h.tr];exact aI _);rw [<-h.eq]at g;obtain⟨c,d,l,w,e⟩:=Zgm ((Hm (Zz p)).trans (Ql h.tr):Sim (Xc p) p);exact⟨c,d,B,l,w,λx=>by rw [<-g x];exact(e x).symm⟩
theorem Odp.sqf{n:Nat}(h:Odp F n p o):Go.Sky.sqf F o=Xc o:=by
 have j:=Dp.start h.tr h.ne;have e:=(j.ok h.tr h.ne h.sz h.hn h.hl h.hF).2;have g:Dc F p:=by unfold Dc at e ⊢;rwa [j.2.2.1]at e
 obtain⟨-,l⟩:=Fy h.tr h.ne h.sz h.hn h.hl h.hF p.length (Xc p) j (by rw [Pp h.tr];exact aI _);rw [<-h.eq]at l;rw [Ch j.2.2.1]at l;exact(Zvi h.tr h.ne h.sz h.hn h.hl h.hF h.otr h.one h.ok.1.2.2.1 g l).2
theorem Odp.srt{n:Nat}(h:Odp F n p o):∃c d:Int,c≠0/\d≠0/\∀x:Rat,(c:Rat)*Zg (Go.Sky.sqf F o) x=(d:Rat)*Zg o x:=by rw [h.sqf];exact Zgm ((Hm (Zz o)).trans (Ql h.otr):Sim (Xc o) o)
theorem Odp.zero{n:Nat}(h:Odp F n p o)(x:Rat):Zg (Go.Sky.sqf F o) x=0↔Zg o x=0:=by
 obtain⟨c,d,j,l,e⟩:=h.srt;have g:=e x;constructor
 .intro z;rw [z]at g;rcases fR.1 (show(d:Rat)*Zg o x=0 by grind)with q|q
  .exact absurd q (Ob l)
  .exact q
 .intro z;rw [z]at g;rcases fR.1 (show(c:Rat)*Zg (Go.Sky.sqf F o) x=0 by grind)with q|q
  .exact absurd q (Ob j)
  .exact q
theorem Odp.nz{n:Nat}(h:Odp F n p o)(l:Zg p x≠0):Zg o x≠0:=λz=>by
 obtain⟨c,d,B,w,j,e⟩:=h.sq;have g:=e x;rw [z]at g;rcases fR.1 (show(d:Rat)*Zg p x=0 by grind)with q|q
 .exact Ob j q
 .exact l q
theorem Odp.opp{n:Nat}(h:Odp F n p o){y:Rat}(l:Zg p x*Zg p y<0):Zg o x*Zg o y<0/\Zg (Go.Sky.sqf F o) x*Zg (Go.Sky.sqf F o) y<0:=by obtain⟨c,d,B,G,H,e⟩:=h.sq;have I:(Zg o x*(Zg B x*Zg B x))*(Zg o y*(Zg B y*Zg B y))<0:=Zg2 (Ob G) (Ob H) (e x).symm (e y).symm l;have D:=Ykf I;obtain⟨P,Q,g,j,w⟩:=h.srt;exact⟨D,Zg2 (Ob g) (Ob j) (w x) (w y) D⟩
theorem Odp.sem{n:Nat}(h:Odp F n p o){a b:Rat}(j:a<b):(Dl p.length p a<0\/Zay F o a b)↔Zz9 p a b:=by
 have l:=Ykr h.tr h.ne h.sz h.hn h.hl h.hF h.eq h.otr h.one h.ok j;constructor
 .rintro(D|D)
  .obtain⟨δ,S,H⟩:=Zad p.length p a (aI _);have r:=Zts p.length p a;have hm:Dl p.length p a=-1:=O;rcases(show a+δ<=b\/b<=a+δ by grind)with q|q
   .exact⟨a+δ,O4,q,Zqr (by rw [H (a+δ) O4 O4,hm])⟩
   .exact⟨b,O4,O4,Zqr (by rw [H b j q,hm])⟩
  .rcases Classical.em (Zz9 p a b)with q|q
   .exact q
   .exfalso;have a0:∀x,a<=x->x<=b->0<=Zg p x:=λx u v=>by
     rcases(show 0<=Zg p x\/Zg p x<0 by grind)with w|w
     .exact w
     .exact absurd ⟨x,u,v,w⟩ q
    have G:∀x,a<=x->x<b->∃δ:Rat,0<δ/\∀y,x<y->y<=x+δ->y<=b->0<Zg p y:=λx u v=>by
     obtain⟨δ,S,H⟩:=Zad p.length p x (aI _);have r:=Zts p.length p x;have r0:=Zh3 p.length p x h.tr h.ne (aI _);refine⟨δ,S,λy P Q R=>?_⟩;have s:=H y P Q;rcases Ph (Zg p y)with⟨V,W⟩|⟨V,W⟩|⟨V,W⟩
     .exact V
     .have:=a0 y O4 R;grind
     .rw [W]at s;exact absurd s.symm r0
    obtain⟨δ,S,H⟩:=G a O4 j;obtain⟨z,z1,z2,z3⟩:∃z,a<z/\z<=a+δ/\z<=b:=by
     rcases(show a+δ<=b\/b<=a+δ by grind)with w|w
     .exact⟨a+δ,O4,O4,w⟩
     .exact⟨b,j,w,O4⟩
    have hz:=H z z1 z2 z3;have hσ:Zg (Go.Sky.sqf F o) z≠0:=λe=>h.nz (x:=z) O4 ((h.zero z).1 e);have hf:=Yl9 h.otr h.one h.ok (σ:=Zg (Go.Sky.sqf F o) z) hσ j (λx u v=>by
     obtain⟨ε,e1,e2⟩:=G x u v;refine⟨ε,e1,λy P Q R=>?_⟩;have hy:=e2 y P Q R;have a3:Zg (Go.Sky.sqf F o) y≠0:=λe=>h.nz (x:=y) O4 ((h.zero y).1 e);rcases(show 0<Zg (Go.Sky.sqf F o) z*Zg (Go.Sky.sqf F o) y\/Zg (Go.Sky.sqf F o) z*Zg (Go.Sky.sqf F o) y<0\/Zg (Go.Sky.sqf F o) z*Zg (Go.Sky.sqf F o) y=0 by grind)with w|w|w
     .exact w
     .exfalso;obtain⟨c,d,B,hc,hd,e⟩:=h.sq;obtain⟨c',d',Y,Z,e'⟩:=h.srt;have w1:Zg o z*Zg o y<0:=Zg2 (Ob Z) (Ob Y) (e' z).symm (e' y).symm w;have p1:=aU hz hy;have q1:((d:Rat)*(d:Rat))*(Zg p z*Zg p y)=((c:Rat)*(c:Rat))*((Zg o z*Zg o y)*((Zg B z*Zg B y)*(Zg B z*Zg B y))):=by
       have a1:=e z;have a2:=e y;have:((d:Rat)*Zg p z)*((d:Rat)*Zg p y)=((c:Rat)*(Zg o z*(Zg B z*Zg B z)))*((c:Rat)*(Zg o y*(Zg B y*Zg B y))):=by rw [a1,a2]
       grind
      have I:=aU (Fe (Ob hd)) p1;have q3:0<=(Zg B z*Zg B y)*(Zg B z*Zg B y):=by
       by_cases t:Zg B z*Zg B y=0
       .rw [t];grind
       .exact cS (Fe t)
      have q4:=aH (cS (Fe (Ob hc))) (aH (show 0<=-(Zg o z*Zg o y) by grind) q3);grind
     .rcases fR.1 w with t|t
      .exact absurd t hσ
      .exact absurd t a3)
    unfold Zay at D;by_cases g:Zg o b=0
    .rw [aM g]at D;rw [aM ((h.zero b).2 g)]at hf;omega
    .rw [aG g]at D;rw [aG (λe=>g ((h.zero b).1 e))]at hf;omega
 .rintro⟨x,x1,x2,x3⟩;rcases(show x=a\/x=b\/(a<x/\x<b) by grind)with q|q|⟨q1,I⟩
  .subst q;exact l.1 (.inl x3)
  .subst q;exact l.1 (.inr (.inl x3))
  .have r:=Zts p.length p a;have r0:=Zh3 p.length p a h.tr h.ne (aI _);rcases(show Dl p.length p a<0\/Dl p.length p a=1 by omega)with D|D
   .exact .inl D
   .right;have hv:=Zpk h.tr h.ne h.sz h.hn h.hl h.hF h.eq h.otr h.one h.ok q1 D x3;have m1:=Zlk h.otr h.one h.ok (cS I);unfold Zay;by_cases g:Zg o b=0
    .rw [aM g];have hx:Zg (Go.Sky.sqf F o) x≠0:=λe=>h.nz (x:=x) O4 ((h.zero x).1 e);rcases gL (vch F o b) (vch F o x)with w|w
     .omega
     .exfalso;have:=Zes h.otr h.one h.ok (cS I) w hx b (cS I) O4;rw [(h.zero b).2 g]at this;grind
    .rw [aG g];omega
theorem Zwc(g:Rat->Rat){h:Rat}(j:0<h):∀(n:Nat) (u v:Rat),u<v->v-u<=(n:Rat)*h->g u*g v<0->∃x y,u<=x/\x<y/\y<=v/\y-x<=h/\g x≠0/\g x*g y<=0
 | 0,u,v,a,b,_=>O4
 | n+1,u,v,a,b,c=>by
  have l:g u≠0:=λe=>O10;by_cases G:v-u<=h
  .grind
  .rcases(show g u*g (u+h)<=0\/0<g u*g (u+h) by grind)with q|q
   .grind
   .have B:g (u+h)*g v<0:=by
     have D:=Fe l;rcases(show g (u+h)*g v<0\/0<=g (u+h)*g v by grind)with w|w
     .omega
     .have V:=aU q (show 0 < -(g u*g v) by grind);have W:=aH (cS D) w;grind
    obtain⟨x,y,H,I,P,Q,R,S⟩:=Zwc g j n _ v O4 O4 B;grind
theorem Zpj{a b c:Rat}(h:a*b<0)(e:a-b<=c)(g:b-a<=c):-c<=a/\a<=c:=by
 rcases(show 0<a\/a<0\/a=0 by grind)with q|q|q
 .have:b<0:=by
   rcases(show b<0\/0<=b by grind)with w|w
   .omega
   .have:=aH (cS q) w;grind
  grind
 .have:0<b:=by
   rcases(show 0<b\/b<=0 by grind)with w|w
   .omega
   .have:=aH (show 0<=-a by grind) (show 0<=-b by grind);grind
  grind
 grind
theorem Zws(hx:Tr xs)(h0:xs≠[])(hC:Zac F xs)(ho:Tr o)(o0:o≠[])(hE:Ed o (sqf F xs))(j:u<v)(hu:Zg (sqf F xs) u≠0)(h:Zg o u*Zg o v<0):vch F xs v<vch F xs u:=by
 rcases gL (vch F xs v) (vch F xs u)with q|q
 .omega
 .exfalso;have hk:=Zes hx h0 hC (cS j) q hu;obtain⟨k,w,S,hw⟩:=hE;have P:=Ob S;have g:∀d,Tr d->Ed d o->Ed d (tzl w)->d.length<=1:=λd hd e1 I=>by
   obtain⟨V,s1,H,r1⟩:=e1;obtain⟨k2,s2,c2,r2⟩:=I;refine Zgl hx h0 hC.1.2.2.1 hd ⟨k*V,lmul w s1,bC S H,λx=>?_⟩ ⟨k*V*k2,Mp ((lmul (ld w) s1).map λa=>k2*a) ((lmul s2 (ld o)).map λa=>V*a),bC (bC S H) c2,λx=>?_⟩
   .grind [Yc,r1]
   .rw [Xp,Zp,Zp,Yc,Yc,Ie];have a0:=Cw ((sqf F xs).map λa=>k*a) (lmul w o) (λy=>by grind [Zp,Yc]) x;grind [Zam,Bq,r1,r2,Mn]
  obtain⟨ε,e1,I⟩:=Ydj ho (Qj w) o0 g u v;obtain⟨D,l1,l2⟩:=Bp u v o;obtain⟨G,m1,m2⟩:=Bp u v w;obtain⟨l,d1,-,d3⟩:=Gg (show(0:Rat)<1 by rfl) (show 0<D+G by grind) (show 0<ε/2 by grind);obtain⟨n,hn⟩:=Zh2 (v-u) d1;obtain⟨x,y,B,x2,Y,x4,x5,x6⟩:=Zwc (Zg o) d1 n u v j hn h;have sx:=hk x B O4;have sy:=hk y O4 Y;have ox:=hw x;have oy:=hw y;have a3:Zg o y≠0:=λe=>by grind [Rat.mul_eq_zero]
  have Q:Zg o x*Zg o y<0:=by grind [Rat.mul_eq_zero]
  have W:0<Zg (sqf F xs) x*Zg (sqf F xs) y:=by
   have a1:=aU sx sy;have Z:=Fe hu;rcases(show 0<Zg (sqf F xs) x*Zg (sqf F xs) y\/Zg (sqf F xs) x*Zg (sqf F xs) y<=0 by grind)with t|t
   .omega
   .have:=aH (cS Z) (show 0<=-(Zg (sqf F xs) x*Zg (sqf F xs) y) by grind);grind
  have R:Zg w x*Zg w y<0:=by
   have a1:(k:Rat)*k*(Zg (sqf F xs) x*Zg (sqf F xs) y)=(Zg w x*Zg w y)*(Zg o x*Zg o y):=by grind
   have Z:=aU (Fe P) W;rcases(show Zg w x*Zg w y<0\/0<=Zg w x*Zg w y by grind)with t|t
   .omega
   .have:=aH t (show 0<=-(Zg o x*Zg o y) by grind);grind
  have H:=l2 x y B O4 Y;have c2:=m2 x y B O4 Y;have n1:=aH (a:=D) (b:=l-(y-x)) O4 O4;have n2:=aH (a:=G) (b:=l-(y-x)) O4 O4;have n3:=aH (a:=D) (b:=l) O4 O4;have n4:=aH (a:=G) (b:=l) O4 O4;obtain⟨b1,b2⟩:=Zpj (c:=ε/2) Q O4 O4;obtain⟨b3,b4⟩:=Zpj (c:=ε/2) R O4 O4;rcases I x B O4 with t|t
  .unfold Big at t;grind
  .unfold Big at t;grind [Mn]
theorem Zpa(l:Tr xs)(g:xs≠[])(h:Zac F xs)(e:u<v)(j:Zg (sqf F xs) u≠0)(n:Zg (sqf F xs) v=0):vch F xs v<vch F xs u:=by
 rcases gL _ _ with q|q
 .omega
 .have:=Zes l g h (cS e) q j v (cS e) O5;simp_all
theorem Odp.ed{n:Nat}(h:Odp F n p o):Ed o (Go.Sky.sqf F p):=by have e:=Dp.start h.tr h.ne;obtain⟨-,g⟩:=Fy h.tr h.ne h.sz h.hn h.hl h.hF p.length _ e (by rw [Pp h.tr];omega);rw [<-h.eq]at g;rwa [Ch e.2.2.1]at g
theorem Yhz(n:Tr xs)(j:xs≠[])(l:Zac F xs)(x:Rat):Zg xs x=0↔Zg (sqf F xs) x=0:=by
 constructor
 .intro h;have w:(x.den:Int)≠0:=by exact_mod_cast x.den_nz
  have e:((x.num))/((x.den:Int))=x:=by grind [Rat.divInt_eq_div,Rat.num_divInt_den]
  have:=Yh1 n j l.1.2.2.1 w (r:=x.num) O4;grind
 .obtain⟨g,B⟩:=Yp1 n j l.1.2.2.1;grind
theorem Yqz {n:Nat}  (h:Odp F n p o) (g:Zac F p) {K:Nat} {e:Nat} (B:∀u v:Rat,-(K:Rat)<=u->u<=v->v<=(K:Rat)->v-u<=1/((2^e:Nat):Rat)->vch F p u-vch F p v<=1)
  {t:Rat} (h1:-(K:Rat)+1<=s) (R:t<=(K:Rat)) (hs:0<=Zg p s) (ht:0<=Zg p t) (W:Zz9 p s t):1/((2^(e+1):Nat):Rat)<t-s:=by
 obtain⟨x,x1,x2,x3⟩:=W;have D:s<x:=O4;have G:x<t:=O4;obtain⟨f1,f2,f3,f4,f5,f6⟩:=Ov F h.tr h.ne g.1.2.2.1;have l:Zg (Go.Sky.sqf F p) x≠0:=λz=>by have:=(Yhz h.tr h.ne g x).2 z;grind
 rcases(show 1/((2^(e+1):Nat):Rat)<t-s\/t-s<=1/((2^(e+1):Nat):Rat) by grind)with q|q
 .omega
 .exfalso;have Y:=two_pow_pos e;have Z:=two_pow_pos (e+1);have P:((2^(e+1):Nat):Rat)=2*((2^e:Nat):Rat):=O4;have hi:0<((2^e:Nat):Rat)⁻¹:=fK.2 Y;have S:1/((2^(e+1):Nat):Rat)=((2^e:Nat):Rat)⁻¹/2:=by rw [P];grind
  have Q:1/((2^e:Nat):Rat)=((2^e:Nat):Rat)⁻¹:=O4;have V:((2^e:Nat):Rat)⁻¹<=1:=by
   have g1:(1:Rat)<=((2^e:Nat):Rat):=by have:1<=2^e:=dK e;exact_mod_cast this
   have g2:=aH (a:=((2^e:Nat):Rat)-1) (b:=((2^e:Nat):Rat)⁻¹) O4 O4;grind [Rat.mul_inv_cancel]
  obtain⟨u,u1,u2,u3⟩:∃u,s-((2^e:Nat):Rat)⁻¹/2<=u/\u<=s/\vch F p x<vch F p u:=by
   by_cases z:Zg (Go.Sky.sqf F p) s=0
   .obtain⟨δ,d1,I⟩:=Zad (Go.Sky.sqf F p).length (Go.Sky.sqf F p) (s-((2^e:Nat):Rat)⁻¹/2) (aI _);have H:=Zh3 (Go.Sky.sqf F p).length (Go.Sky.sqf F p) (s-((2^e:Nat):Rat)⁻¹/2) f2 f3 (aI _);obtain⟨u,w1,w2,w3⟩:∃u,s-((2^e:Nat):Rat)⁻¹/2<u/\u<=s-((2^e:Nat):Rat)⁻¹/2+δ/\u<s:=by
     rcases(show s-((2^e:Nat):Rat)⁻¹/2+δ<s\/s<=s-((2^e:Nat):Rat)⁻¹/2+δ by grind)with w|w
     .grind
     .exact⟨s-((2^e:Nat):Rat)⁻¹/4,O4,O4,O4⟩
    have hu:Zg (Go.Sky.sqf F p) u≠0:=λc=>by have:=I u w1 w2;rw [c]at this;exact H this.symm
    have m1:=Zpa h.tr h.ne g w3 hu z;have m2:=Zlk h.tr h.ne g (cS D);grind
   .have j:0<Zg p s:=by have:Zg p s≠0:=λc=>z ((Yhz h.tr h.ne g s).1 c);grind
    have k:=h.opp (x:=s) (y:=x) (by have:=aU j (show 0 < -Zg p x by grind);grind);exact⟨s,O4,O5,Zws h.tr h.ne g h.otr h.one h.ed D z k.1⟩
  have u4:vch F p t<vch F p x:=by
   by_cases z:Zg (Go.Sky.sqf F p) t=0
   .exact Zpa h.tr h.ne g G l z
   .have j:0<Zg p t:=by have:Zg p t≠0:=λc=>z ((Yhz h.tr h.ne g t).1 c);grind
    have k:=h.opp (x:=x) (y:=t) (by have:=aU j (show 0 < -Zg p x by grind);grind);exact Zws h.tr h.ne g h.otr h.one h.ed G l k.1
  have:=B u t O4 O4 R O4;omega
def Zc3(xs:List Int)(m:Nat):Prop:=xs.length=0\/(xs.length+2)*(xs.length+2)*(Xz xs+m+2*(xs.length-1)+32)<=65536
instance (xs:List Int) (m:Nat):Decidable (Zc3 xs m):=by unfold Zc3;infer_instance
def sgf_t{m:Nat}(h:xs.length=0):Value.bool (decide (Zc3 xs m))= .bool true:=aE Value.bool (aJ (.inl h))
theorem sgf_i{m:Nat}{n:Int}(h:xs.length≠0)(g:n=(((xs.length+2)*(xs.length+2)*(Xz xs+m+2*(xs.length-1)+32):Nat):Int)):Value.bool (decide (Zc3 xs m))= .bool (decide (n<=65536)):=aE Value.bool (bF.2 (by
 subst g;show(xs.length=0\/_<=65536)↔_;constructor
 .intro e;rcases e with e|e
  .exact absurd e h
  .exact nL.2 e
 .intro e;exact .inr (nL.1 e)))
def efit(z:R2):Bool:=decide (max (bl z.1.natAbs) (bl z.2.natAbs)<=512)
def Zj9:List Int->Int
 | []=>0
 | x::r=>if x=0 then Zj9 r else x
theorem Zwi{s:Int}(h:s≠0):∀{L:List Int} {i:Nat},i<L.length->(∀k,k<i->L.getD k 0=0)->L.getD i 0=s->Zj9 L=s
 | [],i,hi,_,_=>absurd hi O5
 | x::r,0,_,_,hs=>by have e:x=s:=hs;subst e;unfold Zj9;rw [aG h]
 | x::r,i+1,hi,hz,hs=>by have e:x=0:=hz 0 O;unfold Zj9;rw [aM e];exact Zwi h (L:=r) (i:=i) (by simpa using hi) (λk g=>hz (k+1) O) hs
theorem Zpr:∀{L:List Int},(∀k,k<L.length->L.getD k 0=0)->Zj9 L=0
 | [],_=>rfl
 | x::r,hz=>by have e:x=0:=hz 0 O5;unfold Zj9;rw [aM e];exact Zpr λk g=>hz (k+1) (by simpa using g)
def aft(e:List (List Int))(m:R2):Int:=Zj9 (e.map (Cl m.1 m.2))
def vlu(e:List (List Int))(m:R2):Int:=if e.length=0 then 0 else Cl m.1 m.2 (e.getD 0 [])
def chv(e:List (List Int))(m:R2):Int:=chg (e.map (Cl m.1 m.2))
def crb(e:List (List Int))(a b:R2):Bool:=if e.length=0 then false else decide (0<chv e a-chv e b-if Cl b.1 b.2 (e.getD 0 [])=0 then 1 else 0)
def cmp(a b:R2):Int:=(a.1*b.2-b.1*a.2).sign
def ngb(ds cs:List (List Int))(a b:R2):Bool:=if cmp a b=0 then decide (vlu ds a<0)else(decide (aft ds a<0) || crb cs a b)
theorem Yeh(ls:List (SL×List Int))(x y:Int):aft (ls.map Prod.snd) (x,y)=Zj9 (sgx ls (Cl x y)):=by unfold aft;rw [Yat rfl]
theorem Ysr(ls:List (SL×List Int))(x y:Int):chv (ls.map Prod.snd) (x,y)=chg (sgx ls (Cl x y)):=by unfold chv;rw [Yat rfl]
theorem Zig(h:i<ls.length):(ls.map Prod.snd).getD i []=(ls.getD i Z0).2:=by rw [aK,aK,fC,aN h];rfl
theorem Ydv(e:List (List Int))(m:R2):0<=chv e m/\chv e m<=(e.length:Int):=by have:=Zbx (e.map (Cl m.1 m.2));rw [aT]at this;exact this
theorem Zuv(h:Ep x=0):x=0:=by
 rcases Ph x with⟨g,e⟩|⟨g,e⟩|⟨g,e⟩
 .rw [e]at h;exact absurd h O3
 .rw [e]at h;exact absurd h O3
 .exact g
theorem sgm_i{x l:Int}(g:-1<=x/\x<=1)(e:-1<=l/\l<=1):Nw (x*l):=by
 rcases(show x=-1\/x=0\/x=1 by omega)with h|h|h<;>subst h
 .exact⟨O,O⟩
 .exact⟨O,O⟩
 .exact⟨O,O⟩
theorem Yav{x l:Int}(g:-1<=x/\x<=1)(e:-1<=l/\l<=1)(h:x*l<0):x=-l:=by rcases(show x=-1\/x=0\/x=1 by omega)with h|h|h<;>subst h<;>omega
theorem Yau{x l:Int}(j:-1<=x/\x<=1)(g:-1<=l/\l<=1)(h:¬x*l<0)(e:x≠0):¬x=-l:=by rcases(show x=-1\/x=0\/x=1 by omega)with h|h|h<;>subst h<;>omega
theorem Yaw{x l:Int}(h:x=0):¬x*l<0:=by subst h;omega
theorem crb_t{x e g:Int}(h:cs.length≠0)(j:Cl e g (cs.getD 0 Z0).2=0):Value.bool (crb (cs.map Prod.snd) (x,y) (e,g))= .bool (decide (0<chv (cs.map Prod.snd) (x,y)-chv (cs.map Prod.snd) (e,g)-1)):=by unfold crb;rw [aT,aG h,Zig O,aM j]
theorem crb_f{x e g:Int}(h:cs.length≠0)(j:¬Cl e g (cs.getD 0 Z0).2=0):Value.bool (crb (cs.map Prod.snd) (x,y) (e,g))= .bool (decide (0<chv (cs.map Prod.snd) (x,y)-chv (cs.map Prod.snd) (e,g))):=by unfold crb;rw [aT,aG h,Zig O,aG j,fT]
theorem ngb_t{cs:List (List Int)}(h:¬cmp a b=0)(e:aft ds a<0):Value.bool (ngb ds cs a b)= .bool true:=by unfold ngb;rw [aG h,aJ e];rfl
theorem ngb_f{cs:List (List Int)}(h:¬cmp a b=0)(e:¬aft ds a<0):Value.bool (ngb ds cs a b)= .bool (crb cs a b):=by unfold ngb;rw [aG h,aF e];rfl
def Zf4:Nat->List Int->List (List Int)
 | 0,_=>[]
 | n+1,p=>if p.length=0 then []else p::Zf4 n (Xf p)
theorem Zww{m:R2}(l:0<m.2):∀(n:Nat) (p:List Int),p.length<=n->aft (Zf4 n p) m=Dl n p (qv m)
 | 0,p,B=>rfl
 | n+1,p,B=>by
  unfold Zf4;by_cases j:p.length=0
  .rw [aM j];have:p=[]:=aC j;subst this;have g:∀n,Dl n [] (qv m)=0:=λn=>by
    induction n with
    | zero=>rfl
    | succ n h=>unfold Dl;rw [aG (by show ¬(0:Rat)≠0;simp)];exact h
   rw [g];rfl
  .rw [aG j];have D:=Oc p;have h:=Zww l n (Xf p) O;unfold aft at h ⊢;rw [bP];unfold Zj9 Dl;have w:Cl m.1 m.2 p=Ep (Zg p (qv m)):=Zev l p;rw [w];by_cases g:Zg p (qv m)=0
   .rw [aM (Zuw g),aG (by simpa using g)];exact h
   .rw [aG (λe=>g (Zuv e)),aM g]
structure Cvd (xs:List Int):Prop where
 v:Vp xs
 s:Sz 205 xs
 l:xs.length<=11
theorem Zhn(h:Cvd xs)(e:xs≠[])(g:Dp xs r):Sz 220 r/\r.length<=11:=by obtain⟨j,l⟩:=g.sz h.v.tr e h.s (by have:=h.l;omega);exact⟨j,by have:=h.l;omega⟩
theorem Zef(h:Cvd xs)(n:xs≠[])(e:Dp xs r) :
  Vp r/\r≠[]/\(∀i,bl (cf r (i+1)*((i:Int)+1)).natAbs<=65536)/\Vp (Xf r)/\¬Zpq r (Xf r)/\eok 13 (gA r (Xf r)) (gB r (Xf r))/\Ng 13 r (Xf r)=Om 13 r/\Vp (Om 13 r)/\
  Bx r (Om 13 r)=0/\pdv r (Om 13 r)/\Ly r (Om 13 r)=sqf 13 r/\Vp (sqf 13 r)/\Sz 235 (sqf 13 r)/\(sqf 13 r).length<=11/\Dp xs (Om 13 r)/\sqf 13 r≠[]/\((sqf 13 r).length≠1->(Om 13 r).length<r.length)/\Dc 13 r:=by
 obtain⟨R,s2⟩:=Zhn h n e;have G:Vp r:=⟨R.mono O,e.1,O⟩;have g:=e.ok h.v.tr n h.s O (by have:=h.l;omega) (show xs.length<=13+1 by have:=h.l;omega);obtain⟨⟨q1,V,W,P,Q⟩,-,-⟩:=g.1;have l:=e.2.2.1;have B:=(chG 13 e.1 e.2.1 R O O O).2.1;have Y:=(chG 13 e.1 e.2.1 R O O O).2.2.1;have I:=Zlh G e.2.1 g.1.1;have S:Om 13 r=Ng 13 r (Xf r):=by unfold Om;rw [l]
 have w:=e.next g.2;have H:Vp (Om 13 r):=by obtain⟨t1,t2⟩:=Zhn h n w;exact⟨t1.mono O,w.1,O⟩
 have D:sqf 13 r=Ly r (Om 13 r):=by unfold sqf Om;rw [l]
 obtain⟨f1,f2,f3,f4,f5,f6⟩:=Ov 13 e.1 e.2.1 g.2;have j:∀i,bl (cf r (i+1)*((i:Int)+1)).natAbs<=65536:=λi=>by
  by_cases hi:i<r.length
  .have:=q1 i hi;rwa [l]at this
  .rw [Yn O];simp [Ks]
 rw [l]at V W P Q;rw [<-S]at P Q;refine⟨G,e.2.1,j,Zgc G (λi _=>j i),V,W,S.symm,H,P,Q,D.symm,I,B,O,w,f3,λZ=>?_,g.2⟩;refine Zm7 e.1 e.2.1 g.2 ?_;have:=Pi e.1 e.2.1 g.2;have l1:=aD.2 f3;have l2:=aD.2 this.2.1;omega
def Ir(xs:List Int):List Int:=Zrn 13 xs.length [1] (Xc xs)
structure OddI (xs:List Int) (t:Nat) (rest out before:List Int):Prop where
 ex:∃f q,Dp xs q/\q.length<=f/\Zrn 13 f out q=Ir xs/\Tr out/\Op xs out q/\((t%2=1/\rest=q)\/(t%2=0/\rest=Om 13 q/\before=sqf 13 q/\(sqf 13 q).length≠1))
theorem OddI.start{b:List Int}(h:Cvd xs)(e:xs≠[]):OddI xs 1 (Xc xs) [1] b:=
 ⟨xs.length,Xc xs,Dp.start h.v.tr e,by rw [Pp h.v.tr];exact aI _,rfl,.inr O3,Op.start h.v.tr,.inl ⟨rfl,rfl⟩⟩
theorem OddI.dp{e:List Int}(h:Cvd xs)(j:xs≠[])(n:OddI xs t rest e before):Dp xs rest:=by
 obtain⟨f,q,g,w,B,D,G,l|⟨-,rfl,-⟩⟩:=n.ex
 .rw [l.2];exact g
 .exact(Zef h j g).2.2.2.2.2.2.2.2.2.2.2.2.2.2.1
theorem OddI.out{e:List Int}(h:Cvd xs)(l:xs≠[])(B:OddI xs t rest e before):Vp e/\Sz 220 e/\e.length<=11:=by obtain⟨f,q,n,D,G,g,w,-⟩:=B.ex;obtain⟨j,H,I⟩:=w.sz h.v.tr l h.s (by have:=h.l;omega) g n.1;have:=h.l;exact⟨⟨j.mono O,g,O⟩,j,O⟩
theorem OddI.odd_end{e:List Int}(h:Cvd xs)(w:xs≠[])(l:OddI xs t rest e before)(I:t%2=1)(n:(sqf 13 rest).length=1):e=Ir xs:=by
 obtain⟨f,q,j,B,g,D,G,⟨-,rfl⟩|⟨H,-⟩⟩:=l.ex
 .cases f with
  | zero=>exact absurd (aD.2 j.2.1) O
  | succ f=>unfold Zrn at g;rw [aM n]at g;exact g
 .omega
theorem OddI.odd_next{e:List Int}(w:OddI xs t rest e before)(G:t%2=1)(B:(sqf 13 rest).length≠1):OddI xs (t+1) (Om 13 rest) e (sqf 13 rest):=by
 obtain⟨f,q,g,h,j,l,n,⟨-,rfl⟩|⟨D,-⟩⟩:=w.ex
 .exact⟨f,rest,g,h,j,l,n,.inr ⟨O,rfl,rfl,B⟩⟩
 .omega
theorem OddI.even{g:List Int}(h:Cvd xs)(H:xs≠[])(hI:OddI xs t rest g before)(ht:t%2=0) :
  Vp before/\Bx before (sqf 13 rest)=0/\pdv before (sqf 13 rest)/\Vp (Ly before (sqf 13 rest))/\¬Zap g (Ly before (sqf 13 rest))/\
  ((sqf 13 rest).length=1->Qt g (Ly before (sqf 13 rest))=Ir xs)/\((sqf 13 rest).length≠1->OddI xs (t+1) (Om 13 rest) (Qt g (Ly before (sqf 13 rest))) (sqf 13 rest))/\Vp (Qt g (Ly before (sqf 13 rest))):=by
 obtain⟨f,q,j,h2,n,h4,h5,⟨h7,-⟩|⟨-,rfl,rfl,hq⟩⟩:=hI.ex
 .omega
 obtain⟨a1,a2,a3,a4,a5,a6,a7,a8,a9,b0,c0,Q,R,c5,S,c6,V,B⟩:=Zef h H j;obtain⟨b1,b2,b3,b4,b5,b6,b7,b8,b9,c7,c8,W,Y,c9,D,l,Z,G⟩:=Zef h H S;obtain⟨c1,c2,c3,c4⟩:=Cy j.1 j.2.1 B G;have hO:=h5.next j.1 j.2.1 j.2.2.1 B G;have ho:=h.l;obtain⟨s1,s2,s3⟩:=hO.sz h.v.tr H h.s O Qm D.1;obtain⟨o1,o2,o3⟩:=h5.sz h.v.tr H h.s O h4 j.1;have d0:(Bi 13 q).length<=11:=by have e:=aE List.length c2;rw [Ow c3 W.tr c4 l]at e;have:=aD.2 l;omega
 have I:Sz 450 (Bi 13 q):=by obtain⟨a,ha,e⟩:=hO;have e2:Xc xs=Qt (Qt (Qt a (Om 13 (Om 13 q))) g) (Bi 13 q):=e.trans ((Qm).ext Qm λi=>Nk (λx=>by simp only [Yo];grind) i);exact(Zy6 h.v.tr H h.s O Qm c3 e2).1.mono O
 have hd:Bx (sqf 13 q) (sqf 13 (Om 13 q))=0:=by
  have m1:=Qx R;have m2:=Qx Y;have l1:=aD.2 l;unfold Bx;rw [aG O];split
  .rfl
  .have:((sqf 13 q).length-(sqf 13 (Om 13 q)).length+1)*(Xz (sqf 13 (Om 13 q))+1)<=12*240:=aP O O;rw [aG O]
 have a0:Vp (Bi 13 q):=⟨I.mono O,c3,O⟩;have hm:¬Zap g (Bi 13 q):=λhF=>by have m1:=Qx o1;have m2:=Qx I;rcases hF.2.2 with w|w<;>omega
 refine⟨Q,hd,c1,a0,hm,λP=>?_,λP=>?_,⟨s1.mono O,Qm,aB s2 O⟩⟩
 .cases f with
  | zero=>exact absurd (aD.2 j.2.1) O
  | succ f=>unfold Zrn at n;rw [aG hq,aM P]at n;exact n
 .cases f with
  | zero=>exact absurd (aD.2 j.2.1) O
  | succ f=>
   unfold Zrn at n;rw [aG hq,aG P]at n;have l1:=V hq;have l2:=Z P;exact⟨f,Om 13 (Om 13 q),D,O,n,Qm,hO,.inl ⟨O,rfl⟩⟩
theorem Yfo(h:Cvd xs)(g:xs≠[]):Ir xs=Be 13 xs.length (Xc xs):=by have e:=Dp.start h.v.tr g;have l:=h.l;have j:=(e.ok h.v.tr g h.s O5 O (show xs.length<=13+1 by omega)).2;unfold Ir;rw [Ybz h.v.tr g h.s O5 O O _ [1] _ (.inr (show cf [1] 0≠0 by decide)) e (by rw [Pp h.v.tr];omega),Ybr (Zks xs e.1 e.2.1 j)]
theorem Zch(h:Cvd xs)(g:xs≠[]):Odp 13 205 xs (Ir xs)/\Vp (Ir xs)/\Sz 220 (Ir xs)/\(Ir xs).length<=xs.length/\Zbf (Ir xs):=by
 have j:=Dp.start h.v.tr g;have S:=h.l;have w:=(j.ok h.v.tr g h.s O5 O (show xs.length<=13+1 by omega)).2;have D:=Yfo h g;have l:Tr (Ir xs):=by rw [D];exact Zks xs j.1 j.2.1 w
 obtain⟨⟨B,R⟩,-⟩:=Fy h.v.tr g h.s O5 O (show xs.length<=13+1 by omega) xs.length (Xc xs) j (by rw [Pp h.v.tr];omega);have e:Xc xs=Qt (Qt B B) (Ir xs):=j.1.ext Qm λi=>Nk (λx=>by grind [Yo]) i;obtain⟨n,P,G⟩:=Zy6 h.v.tr g h.s O Qm l e;have I:=(chG 13 l G n O5 O O).1;refine⟨⟨h.v.tr,g,h.s,O5,O,O,D,l,G,I⟩,⟨n.mono O5,l,O⟩,n,P,.inr ?_⟩;have V:=Qx n;have H:((Ir xs).length+2)*((Ir xs).length+2)<=13*13:=aP O O;have Q:((Ir xs).length+2)*((Ir xs).length+2)*(Xz (Ir xs)+16)<=13*13*236:=aP H O;omega
def Ah(xs:List Int):List (List Int):=if xs.length=0 then []else chn 13 (Ir xs)
def Pk(xs:List Int):List (List Int):=Zf4 xs.length xs
theorem Zwv:∀(n k:Nat) (p:List Int),Tr p->p.length<=25->Sz k p->∀q∈Zf4 n p,Tr q/\q.length<=p.length/\Sz (k+5*n) q
 | 0,_,_,_,_,_,q,e=>absurd e (by simp [Zf4])
 | n+1,k,p,g,j,hs,q,e=>by
  unfold Zf4 at e;by_cases h:p.length=0
  .grind
  .rw [aG h]at e;rcases bB.1 e with rfl|e
   .exact⟨g,aI _,hs.mono O5⟩
   .have l:=Oc p;obtain⟨w,B,D⟩:=Zwv n _ _ (Np g) O (Gx hs j) q e;grind
theorem Cf(h:Cvd xs):∀q∈Pk xs,Vp q/\Xz q<=6150/\q.length<=11:=λq j=>by have n:=h.l;obtain⟨g,l,e⟩:=Zwv _ 205 xs h.v.tr O h.s q j;have:=Qx e;exact⟨⟨e.mono O,g,O⟩,O,O⟩
theorem Zhv(h:Cvd xs):∀q∈Ah xs,Vp q/\Xz q<=6150/\q.length<=11:=λq g=>by
 have R:=h.l;unfold Ah at g;by_cases n:xs.length=0
 .grind
 .rw [aG n]at g;have l:xs≠[]:=λe=>n O4;obtain⟨j,w,B,H,I⟩:=Zch h l;obtain⟨D,P,Q,G⟩:=chG 13 j.otr j.one B O5 O (show(Ir xs).length<=13+1 by omega);exact⟨Yha w j.one D q g,(G q g).1,O4⟩
theorem Zk7(xs:List Int):(Ah xs).length<=1000:=by
 unfold Ah;split
 .simp
 .have:=Za7 13 (sqf 13 (Ir xs)) (Zz (Xf (sqf 13 (Ir xs))));unfold chn;omega
theorem Zui(h:Xz p<=6150)(j:p.length<=11)(a:bl m.1.natAbs<=5300)(b:bl m.2.natAbs<=5300):¬Kz p m.1 m.2:=λg=>by
 have e:=by show max (bl m.1.natAbs) (max (bl m.2.natAbs) 0)<=5300;omega
 have l:(p.length-1)*Xz [m.1,m.2]<=10*5300:=aP O e;have:=g.2;omega
def Zds(h:Cvd xs)(a:bl m.1.natAbs<=5300)(b:bl m.2.natAbs<=5300):(∀p∈Pk xs,¬Kz p m.1 m.2)/\(∀p∈Ah xs,¬Kz p m.1 m.2):=
 ⟨λp e=>Zui (Cf h p e).2.1 (Cf h p e).2.2 a b,λp e=>Zui (Zhv h p e).2.1 (Zhv h p e).2.2 a b⟩
theorem Yjq(e:0<a.2)(g:0<b.2):((a.1*b.2-b.1*a.2:Int):Rat)=(qv a-qv b)*((a.2:Rat)*(b.2:Rat)):=by have h:=Gk e;have j:=Gk g;unfold qv;grind
theorem Ysi(j:0<a.2)(l:0<b.2):cmp a b<0↔qv a<qv b:=by
 have e:=Yjq j l;have n:=aU (Gk j) (Gk l);unfold cmp;rw [Pv];constructor
 .intro h;have g:((a.1*b.2-b.1*a.2):Rat)<0:=by exact_mod_cast h
  rcases(show qv a<qv b\/qv b<=qv a by grind)with q|q
  .omega
  .have:=aH (show 0<=qv a-qv b by grind) (Rat.le_of_lt n);grind
 .intro h;have:=aU (show 0<qv b-qv a by grind) n;have g:((a.1*b.2-b.1*a.2):Rat)<0:=O4;exact_mod_cast g
theorem Zs3(g:0<a.2)(j:0<b.2):cmp a b=0↔qv a=qv b:=by
 have e:=Yjq g j;have n:=aU (Gk g) (Gk j);unfold cmp;rw [eD];constructor
 .intro h;rw [h]at e;grind [Rat.mul_eq_zero]
 .intro h;have l:((a.1*b.2-b.1*a.2):Rat)=0:=O4;exact_mod_cast l
theorem Zs2(e:0<a.2)(g:0<b.2):cmp a b<=0↔qv a<=qv b:=by have h:=Ysi e g;grind [Zs3,Rat.le_of_lt,Int.le_of_lt,Int.le_of_eq]
def Yl8(e:0<m.2)(p:List Int):Cl m.1 m.2 p=Ep (Zg p (qv m)):=Zev e p
theorem Ysq(h:Cvd xs)(j:xs≠[])(H:0<a.2)(l:0<b.2):crb (Ah xs) a b=true↔Zay 13 (Ir xs) (qv a) (qv b):=by
 obtain⟨g,w,B,D,G⟩:=Zch h j;unfold crb Zay Ah;have I:∃r,chn 13 (Ir xs)=sqf 13 (Ir xs)::r:=by unfold chn Nz;split<;>exact⟨_,rfl⟩
 have P:∀m:R2,0<m.2->chv _ m=vch 13 (Ir xs) _:=λm n=>(cvc_v n);rw [Yl8 l];have Q:Ep _=0↔Zg _ (qv b)=0:=⟨λe=>(g.zero _).1 (Zuv e),λe=>Zuw ((g.zero _).2 e)⟩;grind
theorem Zlj(g:0<m.2):vlu (Pk xs) m=Ep (Zg xs (qv m)):=by
 unfold vlu Pk;by_cases e:xs.length=0
 .have:=aC e;subst this;rfl
 .obtain⟨n,h⟩:∃n,xs.length=n+1:=⟨xs.length-1,O⟩;unfold Zf4;simp_all [aG,Yl8]
theorem Zg5(h:Cvd xs)(g:0<a.2)(H:0<b.2)(l:qv a<=qv b):ngb (Pk xs) (Ah xs) a b=true↔Zz9 xs (qv a) (qv b):=by
 unfold ngb;by_cases n:cmp a b=0
 .rw [aM n,Zlj g,iD];have e:=(Zs3 g H).1 n;constructor
  .intro B;refine⟨qv a,jP,l,?_⟩;rcases Ph (Zg xs (qv a))with⟨D,G⟩|⟨D,G⟩|⟨D,G⟩
   all_goals omega
  .rintro⟨x,P,Q,R⟩;grind [Zo7]
 .rw [aG n];have w:qv a<qv b:=by grind [Zs3]
  by_cases j:xs=[]
  .subst j;constructor
   .intro B;exact absurd B (by show ¬(decide ((0)<0) || false)=true;simp)
   .rintro⟨x,P,Q,R⟩;assumption
  .obtain⟨I,S,V,W,Y⟩:=Zch h j;rw [<-I.sem w,mA,iD,Ysq h j g H,show aft (Pk xs) a=Dl _ xs _ from Zww g _ _ (aI _)]
theorem Zw2(h:Cvd xs){m:Nat}(l:m<=100):Zc3 xs m:=by refine .inr ?_;have j:=h.l;have n:=Qx h.s;have e:(xs.length+2)*(xs.length+2)<=13*13:=aP O O;have g:(xs.length+2)*(xs.length+2)*(Xz xs+m+2*(xs.length-1)+32)<=13*13*357:=aP e O;omega
theorem Zpv(h:xs.length=0):Pk xs=[]:=by unfold Pk;rw [h];rfl
theorem Ysp(h:xs.length=0):Ah xs=[]:=by unfold Ah;grind
theorem Zs8(h:xs.length≠0):Ah xs=chn 13 (Ir xs):=by unfold Ah;grind
theorem Zpw:∀(n m:Nat) (p:List Int),p.length<=n->p.length<=m->Zf4 n p=Zf4 m p
 | 0,m,p,g,h=>by
  cases m with
  | zero=>rfl
  | succ m=>unfold Zf4;grind
 | n+1,m,p,g,h=>by
  have j:=Oc p;cases m with
  | zero=>unfold Zf4;grind
  | succ m=>
   unfold Zf4;by_cases e:p.length=0
   .grind
   .rw [aG e,aG e,Zpw n m _ O O]
theorem Zex(h:p.length≠0):Pk p=p::Pk (Xf p):=by have g:=Oc p;unfold Pk;obtain⟨n,e⟩:∃n,p.length=n+1:=⟨p.length-1,O⟩;rw [e,show Zf4 _ p=if p.length=0 then []else p::Zf4 n _ from rfl,aG h,Zpw n _ _ O (aI _)]
def Ab(M:Nat)(p:List Int):Prop:=∀i,(cf p i).natAbs<=M
def Ab.sz{n:Nat}(h:Ab M p)(e:M<2^n):Sz n p:=λi=>(Qo n _).2 (aW (h i) e)
def Ab.mono(h:Ab M p)(e:M<=N):Ab N p:=λi=>aB (h i) e
theorem Zae(h:Ab M p)(c:Int):Ab (M*c.natAbs) (Zr p c):=λi=>by rw [Yi,bX];exact aL _ (h i)
theorem Zue{f:Nat->Int}{M n:Nat}(h:∀k,(f k).natAbs<=M)(e:∀k,n<=k->f k=0):∀m,(Yj f m).natAbs<=min m n*M
 | 0=>by show(0:Int).natAbs<=_;simp
 | m+1=>by
  have g:=Zue h e m;rw [Ym];rcases aX m n with q|q
  .grind [Nat.succ_mul]
  grind
theorem Yob{n:Nat}(e:Ab M p)(g:Ab N q)(j:p.length<=n):Ab (n*(M*N)) (Qt p q):=λi=>by
 rw [Hs];exact aB (Zue (λk=>by rw [bX];exact aP (e k) (g _)) (λk h=>by show cf p k*_=0;rw [Yn O,cN]) _) (aL _ (Nat.min_le_right _ _))
theorem Zz7(e:Ab M p)(g:Ab N q):Ab (M+N) (Ht p q):=λi=>by rw [Dh];have:=e i;have:=g i;omega
theorem Yoa(e:Ab M p)(g:Ab N q):Ab (M+N) (Ei p q):=λi=>by rw [Ih];have:=e i;have:=g i;omega
theorem ab_in(h:∀a∈c,Nw a):Ab (2^63) (tzl c):=λi=>by rw [Lb];obtain⟨e,g⟩:=Lp h i;show(c.getD i 0).natAbs<=_;omega
theorem Zr2{n:Nat}(e:p.length<=n)(g:q.length<=n):(Ht p q).length<=n:=by unfold Ht;grind [Nat.le_trans,Mc,Yt]
theorem Ycf{n:Nat}(e:p.length<=n)(g:q.length<=n):(Ei p q).length<=n:=by unfold Ei;grind [Nat.le_trans,Mc,Yt]
theorem Ycg{n m:Nat}(l:Tr p)(w:Tr q)(h:p.length<=n)(j:q.length<=m):(Qt p q).length<=n+m-1:=by
 by_cases e:p=[]
 .simp_all [Fp,bA]
 .by_cases g:q=[]
  .simp_all [Zcg,bA]
  grind [Ow]
def dN:Nat->List Int->List Int
 | 0,p=>p
 | n+1,p=>Xf (dN n p)
def axQ(o:Nat)(c:List Int):List Int:=Zr (dN o (tzl c)) (1000^o)
def sqQ(o:Nat)(c:List Int):List Int:=Qt (axQ o c) (axQ o c)
def sumQ(o:Nat)(x y z:List Int):Nat->List Int
 | 0=>[]
 | i+1=>Ht (sumQ o x y z i) (sqQ o (Zu i x y z))
def kilo(o:Nat):Int:=Zan (List.replicate o 1000)
def timC(o:Nat)(m ov T:Int):Int:=Zan (m::ov::List.replicate o T)
def oneQ(o:Nat)(m ov T:Int):List Int:=Zr [1] (timC o m ov T)
def formP(o:Nat)(m ov T:Int)(x y z:List Int):List Int:=Zz (Ei (Qt (oneQ o m ov T) (oneQ o m ov T)) (sumQ o x y z 3))
structure Sgo (fr to ov:Int) (x y z:List Int):Prop where
 t1:0<=fr
 t2:fr<to
 t3:to<=3600000
 o1:1<=ov
 o2:ov<=4294967296
 hx:∀a∈x,Nw a
 hy:∀a∈y,Nw a
 hz:∀a∈z,Nw a
 lx:1<=x.length/\x.length<=6
 ly:1<=y.length/\y.length<=6
 lz:1<=z.length/\z.length<=6
def Sgo.hc{fr e:Int}{x y:List Int}(h:Sgo fr e ov x y z)(i:Nat):∀a∈Zu i x y z,Nw a:=Ig h.hx h.hy h.hz i
def Sgo.lc{fr e:Int}{x y:List Int}(h:Sgo fr e ov x y z)(i:Nat):1<=(Zu i x y z).length/\(Zu i x y z).length<=6:=Cu (p:=λl:List Int=>1<=l.length/\l.length<=6) h.lx h.ly h.lz
theorem Sgo.of{fr l:Int}{x y:List Int}(H:∀a∈x,Nw a)(I:∀a∈y,Nw a)(P:∀a∈z,Nw a)(h:Bd fr l ov x y z=true):Sgo fr l ov x y z:=by unfold Bd Yer axB at h;simp only [aR,dA]at h;obtain⟨⟨⟨⟨⟨⟨⟨⟨n,w⟩,B⟩,D⟩,G⟩,e⟩,g⟩,j⟩,-⟩:=h;exact⟨n,w,B,D,G,H,I,P,⟨e.1.1.1,e.1.1.2⟩,⟨g.1.1.1,g.1.1.2⟩,⟨j.1.1.1,j.1.1.2⟩⟩
def Mk:Nat->Nat
 | 0=>2^63
 | 1=>5*2^63
 | _=>4*(5*2^63)
theorem Zqa(h:c.length<=6):¬25<(tzl c).length:=by grind [Mc]
def Lw(z:R2):Prop:=0<z.2/\Int.gcd z.1 z.2=1
theorem lgcd_p{x:Int}(e:0<y):Kq x y=(Int.gcd x y:Int):=by unfold Kq;omega
theorem Yk8 (x:Int)(e:0<y):Lw (x/Kq x y,y/Kq x y):=by have g:0<Int.gcd x y:=Int.gcd_pos_of_ne_zero_right _ O;rw [lgcd_p e];refine⟨Int.ediv_pos_of_pos_of_dvd e O5 (iP ..),?_⟩;grind [Int.gcd_ediv_gcd_ediv_gcd]
theorem Zru(e:0<a.2)(h:¬Ij a.1 a.2):Lw (slow a):=by obtain⟨g,j,-⟩:=Zfx h;have:=Yk8 a.1 e;unfold slow;grind
theorem Yk7(h:Zff a b)(e:0<a.2)(g:0<b.2):Lw (Oi a b):=by obtain⟨l,n,-⟩:=Zfx h.2;have j:0<Eh _ _*2:=fU (Zyr h.1 (fU e g)) O;have:=Yk8 (Dq (a.1*b.2+b.1*a.2) (a.2*b.2)*1) j;unfold Oi;grind
structure Hv (n Q j:Nat) (W:Rat) (a b:R2):Prop where
 hQ:0<Q
 hQ2:Q<2^(2*n)
 ea:En (2^n) Q j a
 eb:En (2^n) Q j b
 wd:(qv b-qv a)*((2^j:Nat):Rat)=W
 le:qv a<=qv b
 la:Lw a
 lb:Lw b
theorem Hv.start{n:Nat}(h:0<a.2)(j:0<b.2)(w:bl a.1.natAbs<=n)(G:bl a.2.natAbs<=n)(B:bl b.1.natAbs<=n)(H:bl b.2.natAbs<=n)(D:n<=65536)(R:qv a<=qv b):∃Q,Hv n Q 0 (qv b-qv a) (slow a) (slow b):=by
 obtain⟨S,V,s3,W,s5⟩:=Zc2 h w G D;obtain⟨t1,t2,t3,t4,t5⟩:=Zc2 j B H D;have Z:=(Qo n _).1 W;have pb:=(Qo n _).1 t4;have qa:=Zq9 h (dO ((Qo n _).1 w));have qb:=Zq9 j (dO ((Qo n _).1 B));have e:0<(slow a).2.natAbs*(slow b).2.natAbs:=fJ O O;have g:(slow a).2.natAbs*(slow b).2.natAbs<2^(2*n):=by rw [show 2*n=n+n by omega,cC];simp_all [iR,dO,bZ]
 generalize Y:(slow a).2.natAbs*(slow b).2.natAbs=Q at *;have l:((Q*2^0))=(slow a).2*(slow b).2:=by grind
 have I:En (2^n) Q 0 _:=⟨V,O10,O4,O4⟩;have P:En (2^n) Q 0 _:=⟨t2,O10,O4,O4⟩;exact⟨Q,e,g,I,P,O4,O4,Zru h S,Zru j t1⟩
theorem Hv.mid{n Q j B:Nat}{W:Rat}(h:Hv n Q j W a b)(hB:3*n+2+j<=B)(l:B<=65536) :
  Zff a b/\(bl (Oi a b).1.natAbs<=B/\bl (Oi a b).2.natAbs<=B/\0<(Oi a b).2)/\qv (Oi a b)=(qv a+qv b)/2/\(bl a.1.natAbs<=B/\bl a.2.natAbs<=B/\0<a.2)/\(bl b.1.natAbs<=B/\bl b.2.natAbs<=B/\0<b.2)/\
  Hv n Q (j+1) W a (Oi a b)/\Hv n Q (j+1) W (Oi a b) b:=by
 have H:∀m,m<=B->2^m<=2^B:=λm h=>cQ O h;have g:Q*2^(j+1)<2^B:=by have:Q*2^(j+1)<2^(2*n)*2^(j+1):=dS h.hQ2 (bZ O);rw [<-cC]at this;grind
 have w:2*2^n*(Q*2^j)<2^B:=by
  have R:Q*2^j<2^(2*n)*2^j:=dS h.hQ2 (bZ O);have h2:2*2^n*(Q*2^j)<2*2^n*(2^(2*n)*2^j):=iT R (fJ O (bZ O));have h3:2*2^n*(2^(2*n)*2^j)=2^(3*n+1+j):=by rw [<-cC,<-mU,<-cC];grind
  grind
 obtain⟨P,D,G,V,Y⟩:=mid_en h.ea h.eb h.hQ g w l;obtain⟨Z,p2⟩:=Ymh j 0 B h.ea h.hQ h.hQ2 O;obtain⟨r1,r2⟩:=Ymh j 0 B h.eb h.hQ h.hQ2 O;have e:=Yk7 P h.ea.pos h.eb.pos;have I:((2^(j+1):Nat))=2*((2^j:Nat)):=O4;have S:=h.le;refine⟨P,⟨V,Y,D.pos⟩,G,⟨Z,p2,h.ea.pos⟩,⟨r1,r2,h.eb.pos⟩,⟨h.hQ,h.hQ2,h.ea.up,D,?_,O4,h.la,e⟩,⟨h.hQ,h.hQ2,D,h.eb.up,?_,O4,e,h.lb⟩⟩
 .rw [G,I,<-h.wd];grind
 .rw [G,I,<-h.wd];grind
def Yet{n:Nat}(h:Sz k p)(e:k<=n)(i:Nat):(cf p i).natAbs<=2^n:=aB (Zie h i) (cQ O e)
theorem Ypr(h:Cvd xs)(j:xs≠[]):Zac 13 xs/\∀u v:Rat,-((2^34:Nat):Rat)<=u->u<=v->v<=((2^34:Nat):Rat)->v-u<=1/((2^5000:Nat):Rat)->vch 13 xs u-vch 13 xs v<=1:=by have P:=h.l;obtain⟨l,e,H,I⟩:=chG 13 h.v.tr j h.s O5 O O;have w:=Gx e O;have g:∀n,n<=11->2<=n->Yaz (2^34) (2^225) n 5000=true:=O7;obtain⟨n,D⟩:∃n:Nat,n=225:=⟨_,rfl⟩;rw [<-D]at g;have w:Sz n (Xf (sqf 13 xs)):=O4;have G:∀i,(cf _ i).natAbs<=2^n:=λi=>Yet e O i;exact⟨l,λu v=>sep_of h.v.tr j l (bZ O) (bZ O) G (λi=>Zie w i) (λB=>g _ O B) u v⟩
theorem Yfj{j e w:Nat}{W:Rat}(G:1/((2^(e+1):Nat):Rat)<x)(H:x*((2^j:Nat):Rat)=W)(I:W<=((2^w:Nat):Rat)):j<e+1+w:=by
 have g:=two_pow_pos (e+1);have h:=two_pow_pos j;rcases aX j _ with q|q
 .omega
 .have hi:=fK.2 g;have l:((2^(e+1)))*((2^w))<=((2^j):Rat):=by
   have:2^(e+1)*2^w<=2^j:=by rw [<-cC];simp_all [cQ]
   exact_mod_cast this
  have n:=aU (show 0<x-((2^(e+1)))⁻¹ by grind) h;have B:=aH (cS hi) (show 0<=((2^j))-((2^(e+1)))*((2^w)) by grind);have D:((2^(e+1)):Rat)⁻¹*(((2^(e+1)))*((2^w)))=((2^w)):=by grind
  grind
structure NIn (xs:List Int) (s t:Rat) (j:Nat) (a b:R2):Prop where
 ex:∃Q W,Hv 34 Q j W a b/\W<=((2^34:Nat):Rat)
 lo:s<=qv a
 hi:qv b<=t
 l0:-((2^33:Nat):Rat)<=s
 h0:t<=((2^33:Nat):Rat)
 pa:0<=Zg xs (qv a)
 pb:0<=Zg xs (qv b)
 ng:Zz9 xs (qv a) (qv b)
theorem NIn.j{hi:Rat}{j:Nat}(l:Cvd xs)(g:xs≠[])(h:NIn xs lo hi j a b):j<5035:=by obtain⟨Q,W,n,B⟩:=h.ex;obtain⟨D,hs⟩:=Ypr l g;have G:=h.lo;have H:=h.hi;have I:=h.l0;have P:=h.h0;have:=Yqz (Zch l g).1 D (K:=2^34) (e:=5000) hs (s:=qv a) (t:=qv b) O4 O4 h.pa h.pb h.ng;exact Yfj (e:=5000) (w:=34) this n.wd B
theorem NIn.start(e:0<a.2)(g:0<b.2)(j:bl a.1.natAbs<=32)(G:bl a.2.natAbs<=32)(l:bl b.1.natAbs<=32)(H:bl b.2.natAbs<=32)(h:qv a<=qv b)(P:0<=Zg xs (qv a))(R:0<=Zg xs (qv b))(I:Zz9 xs (qv a) (qv b)) :
  NIn xs (qv a) (qv b) 0 (slow a) (slow b):=by
 obtain⟨Q,w⟩:=Hv.start (n:=34) e g O O O O O5 h;obtain⟨-,-,-,-,S⟩:=Zc2 e O O O5;obtain⟨-,-,-,-,t5⟩:=Zc2 g O O O5;have B:=Zq9 (K:=2^33) e (aB (dO ((Qo 32 _).1 j)) O);have D:=Zq9 (K:=2^33) g (aB (dO ((Qo 32 _).1 l)) O);exact⟨⟨Q,_,w,O4⟩,O4,O4,B.1,D.2,O4,O4,O4⟩
structure Fnd (xs:List Int) (s t:Rat) (m:R2):Prop where
 ng:Zg xs (qv m)<0
 lo:s<=qv m
 hi:qv m<=t
 b1:bl m.1.natAbs<=5200
 b2:bl m.2.natAbs<=5200
 lw:Lw m
theorem NIn.round{hi:Rat}{j:Nat}(R:Cvd xs)(Z:xs≠[])(h:NIn xs lo hi j a b) :
  Zff a b/\(bl (Oi a b).1.natAbs<=5200/\bl (Oi a b).2.natAbs<=5200/\0<(Oi a b).2)/\(bl a.1.natAbs<=5200/\bl a.2.natAbs<=5200/\0<a.2)/\(bl b.1.natAbs<=5200/\bl b.2.natAbs<=5200/\0<b.2)/\
  (vlu (Pk xs) (Oi a b)<0->Fnd xs lo hi (Oi a b))/\(¬vlu (Pk xs) (Oi a b)<0->ngb (Pk xs) (Ah xs) a (Oi a b)=true->NIn xs lo hi (j+1) a (Oi a b))/\
  (¬vlu (Pk xs) (Oi a b)<0->ngb (Pk xs) (Ah xs) a (Oi a b)=false->NIn xs lo hi (j+1) (Oi a b) b):=by
 have hj:=h.j R Z;obtain⟨Q,W,D,G⟩:=h.ex;obtain⟨S,n,m3,w,V,m6,m7⟩:=D.mid (B:=5200) O O5;have a0:=D.le;have l1:=h.lo;have l2:=h.hi;have hv:=Zlj (xs:=xs) n.2.2;have l:¬vlu (Pk xs) (Oi a b)<0->0<=Zg xs (qv (Oi a b)):=λg=>by grind [Ph,Rat.le_of_lt,Rat.le_refl]
 have e:=Zg5 R w.2.2 n.2.2 (show qv a<=qv _ by grind);refine⟨S,n,w,V,λg=>?_,λg P=>?_,λg P=>?_⟩
 .have:Zg xs (qv (Oi a b))<0:=by
   rcases Ph (Zg xs (qv (Oi a b)))with⟨H,I⟩|⟨H,I⟩|⟨H,I⟩
   all_goals omega
  exact⟨this,O4,O4,n.1,n.2.1,Yk7 S w.2.2 V.2.2⟩
 .exact⟨⟨Q,W,m6,G⟩,l1,O4,h.l0,h.h0,h.pa,l g,e.1 P⟩
 .refine⟨⟨Q,W,m7,G⟩,O4,l2,h.l0,h.h0,l g,h.pb,?_⟩;obtain⟨x,x1,x2,Y⟩:=h.ng;rcases(show x<=qv (Oi a b)\/qv (Oi a b)<=x by grind)with q|q
  .have:=e.2 ⟨x,x1,q,Y⟩;grind
  .exact⟨x,q,x2,Y⟩
def frs(xs:List Int):Nat->R2->R2->R2×R2
 | 0,a,b=>(a,b)
 | n+1,a,b=>if ngb (Pk xs) (Ah xs) a (Oi a b)then frs xs n a (Oi a b)else frs xs n (Oi a b) b
structure E32 (a:R2):Prop where
 p:0<a.2
 b1:bl a.1.natAbs<=32
 b2:bl a.2.natAbs<=32
theorem E32.slow(h:E32 a):E32 (slow a)/\qv (Go.Sky.slow a)=qv a/\Lw (Go.Sky.slow a)/\¬Ij a.1 a.2:=by obtain⟨e,g,j,l,w⟩:=Zc2 (n:=32) h.p h.b1 h.b2 O;exact⟨⟨g,j,l⟩,w,Zru h.p e,e⟩
theorem Zkc(j:0<m.2):vlu (Pk xs) m<0↔Zg xs (qv m)<0:=by
 rw [Zlj j];rcases Ph (Zg xs (qv m))with⟨g,e⟩|⟨g,e⟩|⟨g,e⟩
 .rw [e];constructor
  .intro h;exact absurd h O3
  .intro h;grind
 .rw [e];exact⟨λ_=>g,λ_=>O3⟩
 .rw [e,g];constructor
  .intro h;exact absurd h O3
  .intro h;grind
theorem end_l(n:E32 a)(e:qv a<=qv b)(h:vlu (Pk xs) (slow a)<0):Fnd xs (qv a) (qv b) (slow a):=by obtain⟨g,j,w,B⟩:=n.slow;have l:=(Zkc g.p).1 h;exact⟨l,by rw [j];exact jP,by rw [j];exact e,aB g.b1 O3,aB g.b2 O3,w⟩
theorem end_r(n:E32 b)(e:qv a<=qv b)(h:vlu (Pk xs) (slow b)<0):Fnd xs (qv a) (qv b) (slow b):=by obtain⟨g,j,w,B⟩:=n.slow;have l:=(Zkc g.p).1 h;exact⟨l,by rw [j];exact e,by rw [j];exact jP,aB g.b1 O3,aB g.b2 O3,w⟩
theorem Yfp(w:Cvd xs)(g:E32 a)(h:E32 b)(j:qv a<=qv b)(l:¬vlu (Pk xs) (slow a)<0)(n:¬vlu (Pk xs) (slow b)<0)(B:ngb (Pk xs) (Ah xs) a b=true) :
  NIn xs (qv a) (qv b) 0 (slow a) (slow b):=by
 obtain⟨H,I,P,Q⟩:=g.slow;obtain⟨t1,t2,t3,t4⟩:=h.slow;have D:¬Zg xs (qv (slow a))<0:=λe=>l ((Zkc H.p).2 e);have G:¬Zg xs (qv (slow b))<0:=λe=>n ((Zkc t1.p).2 e);rw [I]at D;rw [t2]at G;exact NIn.start g.p h.p g.b1 g.b2 h.b1 h.b2 j O4 O4 ((Zg5 w g.p h.p j).1 B)
theorem ngb_ne(h:ngb (Pk xs) (Ah xs) a b=true):xs≠[]:=λe=>by
 subst e;unfold ngb at h;split at h
 .exact absurd h (by show ¬decide ((0:Int)<0)=true;decide)
 .exact absurd h (by show ¬(decide ((0:Int)<0) || false)=true;decide)
theorem E32.efit(h:E32 a):efit a=true:=by have:=h.b1;have:=h.b2;unfold Go.Sky.efit;exact aJ O
structure FIn (xs:List Int) (j:Nat) (a b:R2):Prop where
 ex:∃Q W,Hv 34 Q j W a b
 bj:j<=200
theorem FIn.start(e:E32 a)(g:E32 b)(h:qv a<=qv b):FIn xs 0 (slow a) (slow b):=by obtain⟨Q,j⟩:=Hv.start (n:=34) e.p g.p (aB e.b1 O3) (aB e.b2 O3) (aB g.b1 O3) (aB g.b2 O3) O h;exact⟨⟨Q,_,j⟩,O⟩
theorem FIn.round{j:Nat}(h:FIn xs j a b) :
  Zff a b/\(bl (Oi a b).1.natAbs<=5200/\bl (Oi a b).2.natAbs<=5200/\0<(Oi a b).2)/\(bl a.1.natAbs<=5200/\bl a.2.natAbs<=5200/\0<a.2)/\(bl b.1.natAbs<=5200/\bl b.2.natAbs<=5200/\0<b.2)/\
  (j<200->FIn xs (j+1) a (Oi a b)/\FIn xs (j+1) (Oi a b) b):=by
 obtain⟨Q,W,e⟩:=h.ex;have I:=h.bj;obtain⟨l,n,P,w,D,G,H⟩:=e.mid (B:=5200) O O;exact⟨l,n,w,D,λg=>⟨⟨⟨Q,W,G⟩,O⟩,⟨⟨Q,W,H⟩,O⟩⟩⟩
theorem Yqy(j:E32 a)(l:E32 b)(g:qv a<=qv b)(hi:i<2)(h:vlu (Pk xs) ([slow a,slow b].getD i (0,0))<0):Fnd xs (qv a) (qv b) ([slow a,slow b].getD i (0,0)):=by
 rcases(show i=0\/i=1 by omega)with e|e
 .subst e;exact end_l j g h
 .subst e;exact end_r l g h
theorem Yry(g:E32 a)(h:E32 b)(i:Nat)(hi:i<2):E32 ([slow a,slow b].getD i (0,0)):=by
 rcases(show i=0\/i=1 by omega)with e|e
 .subst e;exact g.slow.1
 .subst e;exact h.slow.1
def Ysj(e:E32 a)(g:E32 b)(h:¬0<cmp a b):qv a<=qv b:=(Zs2 e.p g.p).1 O
def Zjz:E32 (0,1):=⟨O3,O3,O3⟩
def Zjy:E32 (1,1):=⟨O3,O3,O3⟩
def Zhu:¬0<cmp (0,1) (1,1):=O7
def Ky(xs:List Int):Bool:=ngb (Pk xs) (Ah xs) (0,1) (1,1)
def slS(d:List Int):Nat->Int
 | 0=>0
 | k+1=>slS d k+Zan [d.getD k 0,(k:Int)+1]
def fsS(d:List Int)(k:Nat):Int:=if k=0 then 0 else d.getD 0 0
def qr(a b:Int):R2:=(Dq a b,Eh a b)
def bgS(c:List Int):Int:=fsS (c.drop 1) (c.drop 1).length
def enS(c:List Int):Int:=slS (c.drop 1) (c.drop 1).length
def bS(ov T:Int)(x y z:List Int):Nat->List R2
 | 0=>List.replicate 3 (0,0)
 | i+1=>(bS ov T x y z i).set i (qr (bgS (Zu i x y z)) (Zan [ov,T]))
def eS(ov T:Int)(x y z:List Int):Nat->List R2
 | 0=>List.replicate 3 (0,0)
 | i+1=>(eS ov T x y z i).set i (qr (enS (Zu i x y z)) (Zan [ov,T]))
def joinB(fr j ov:Int)(x y z:List Int)(e h g:Int)(l n w:List Int):Bool:=
 decide (qr (bgS l) (Zan [g,h-e])=qr (enS x) (Zan [ov,j-fr])/\qr (bgS n) (Zan [g,h-e])=qr (enS y) (Zan [ov,j-fr])/\qr (bgS w) (Zan [g,h-e])=qr (enS z) (Zan [ov,j-fr]))
def plT(c:List Int)(a d:Int)(k:Nat):Int:=c.getD k 0*(a^k*d^(5-(k:Int)).toNat)
def plS(c:List Int)(a d:Int):Nat->Int
 | 0=>0
 | k+1=>plS c a d k+plT c a d k
def pl(c:List Int)(a d:Int):Int:=plS c a d c.length
def atS(a d:Int)(x y z:List Int):Nat->List Int
 | 0=>List.replicate 3 0
 | i+1=>(atS a d x y z i).set i (pl (Zu i x y z) a d)
def gS(ov a d:Int)(x y z:List Int):Nat->Int
 | 0=>ov*d^5
 | i+1=>(Int.gcd (gS ov a d x y z i) (pl (Zu i x y z) a d):Int)
abbrev plV (p q r o:Int):Value:= .agg #[.bool (decide (p<0)),.string (Qq p.natAbs),.bool (decide (q<0)),.string (Qq q.natAbs),.bool (decide (r<0)),.string (Qq r.natAbs),.bool (decide (o<0)),.string (Qq o.natAbs)]
theorem Bu(a d:Int)(x y z:List Int):∀i,(atS a d x y z i).length=3
 | 0=>rfl
 | i+1=>by show(List.set _ _ _).length=3;rw [bM];exact Bu a d x y z i
theorem Yn5(a d:Int)(x y z:List Int)(h:i<3):atS a d x y z i=(atS a d x y z i).set i 0:=by
 match i,h with
 | 0,_=>rfl
 | 1,_=>rfl
 | 2,_=>rfl
theorem Zuq{l:List Int}{v:Int}(h:i<l.length):(l.set i v).getD i 0=v:=by rw [aK,lT h];rfl
theorem Ybt(h:∀x∈c,Nw x){a:Int}(l:0<=a/\a<=3600000)(n:1<=d/\d<=3600000)(w:k<=5):(a^k*d^(5-(k:Int)).toNat).natAbs<=3600000^5/\(plT c a d k).natAbs<=9223372036854775808*3600000^5:=by
 have e:(a^k*d^(5-(k:Int)).toNat).natAbs<=3600000^5:=by rw [bX,kW,kW];refine aB (aP (fS (show a.natAbs<=3600000 by omega) k) (fS (show d.natAbs<=3600000 by omega) _)) ?_;rw [<-cC,show k+(5-(k:Int)).toNat=5 by omega];exact aI _
 obtain⟨g,j⟩:=Lp h k;refine⟨e,?_⟩;unfold plT;rw [bX];exact aP O e
theorem Ybv{c:List Int}(h:∀x∈c,Nw x){a d:Int}(e:0<=a/\a<=3600000)(g:1<=d/\d<=3600000):∀k,k<=6->(plS c a d k).natAbs<=k*(9223372036854775808*3600000^5)
 | 0,_=>by show(0:Int).natAbs<=_;decide
 | k+1,j=>by have l:=Ybv h e g k O;have:=(Ybt h e g (k:=k) O).2;show(plS c a d k+plT c a d k).natAbs<=_;rw [cY];omega
def Zdx(h:∀x∈c,Nw x){a:Int}(g:0<=a/\a<=3600000)(j:1<=d/\d<=3600000)(e:k<=6):bl (plS c a d k).natAbs<=180:=
 (Qo 180 _).2 (aW (Ybv h g j k e) (aW (aL _ e) O3))
theorem Zti(h:∀x∈c,Nw x){a:Int}(j:0<=a/\a<=3600000)(l:1<=d/\d<=3600000)(n:k<=5):bl (a^k*d^(5-(k:Int)).toNat).natAbs<=180/\bl (plT c a d k).natAbs<=180:=by obtain⟨e,g⟩:=Ybt h j l n;exact⟨(Qo 180 _).2 (aW e O3),(Qo 180 _).2 (aW g O3)⟩
theorem Zjb (a:Int)(g:0<=a/\a<=3600000)(e:k<=5):bl (a^k).natAbs<=180:=by refine(Qo 180 _).2 ?_;rw [kW];exact aW (aB (fS (show a.natAbs<=3600000 by omega) k) (cQ O3 e)) O3
theorem Zwh{fr n ov:Int}{x y z:List Int}(h:Sgo fr n ov x y z){a d:Int}(e:0<=a/\a<=3600000)(g:1<=d/\d<=3600000):∀i,0<gS ov a d x y z i/\bl (gS ov a d x y z i).natAbs<=180
 | 0=>by have j:=h.o1;have l:=h.o2;refine⟨fU O (jN O),(Qo 180 _).2 ?_⟩;show(ov*d^5).natAbs<_;rw [bX,kW];exact aW (aP (show ov.natAbs<=4294967296 by omega) (fS (show d.natAbs<=3600000 by omega) 5)) O3
 | i+1=>by obtain⟨j,l⟩:=Zwh h e g i;have w:0<Int.gcd (gS ov a d x y z i) (pl (Zu i x y z) a d):=kR _ O;have B:=Zlc (gS ov a d x y z i) (pl (Zu i x y z) a d);have D:bl (pl (Zu i x y z) a d).natAbs<=180:=Zdx (h.hc i) e g (h.lc i).2;show 0<((Int.gcd _ _:Nat):Int)/\bl ((Int.gcd _ _:Nat):Int).natAbs<=180;exact⟨O,O⟩
def sameP(ov a d:Int)(x y z:List Int)(e h g:Int)(j l n:List Int):Bool:=
 decide (pl x a d/gS ov a d x y z 3=pl j h g/gS e h g j l n 3/\pl y a d/gS ov a d x y z 3=pl l h g/gS e h g j l n 3/\pl z a d/gS ov a d x y z 3=pl n h g/gS e h g j l n 3/\ov*d^5/gS ov a d x y z 3=e*g^5/gS e h g j l n 3)
def Zmv(h ov:Int)(x y z:List Int)(e g:Int)(j l n:List Int):Bool:=decide (h=e) && sameP ov 1 1 x y z g 0 1 j l n
structure Gin (g:Zl):Prop where
 f:Nw g.1.1
 t:Nw g.1.2.1
 o:Nw g.1.2.2
 x:∀a∈g.2.1.2,Nw a
 y:∀a∈g.2.2.1.2,Nw a
 z:∀a∈g.2.2.2.2,Nw a
def seB(g:Zl):Bool:=Bd g.1.1 g.1.2.1 g.1.2.2 g.2.1.2 g.2.2.1.2 g.2.2.2.2
def meG(g h:Zl):Bool:=Zmv g.1.2.1 g.1.2.2 g.2.1.2 g.2.2.1.2 g.2.2.2.2 h.1.1 h.1.2.2 h.2.1.2 h.2.2.1.2 h.2.2.2.2
abbrev SgG (g:Zl):Prop:=Sgo g.1.1 g.1.2.1 g.1.2.2 g.2.1.2 g.2.2.1.2 g.2.2.2.2
def Mx{g:Zl}(h:Gin g)(e:seB g=true):SgG g:=Sgo.of h.x h.y h.z e
def Ze2(ps:List Zl)(i:Nat):Bool:=seB (ps.getD i G0) && (decide (i=0) || meG (ps.getD (i-1) G0) (ps.getD i G0))
def Xy(ps:List Zl):Bool:=(List.range ps.length).all (Ze2 ps) && decide (1<=ps.length) && decide (ps.length<=256)
theorem Fh{ps:List Zl}(h:Ze2 ps i=true):seB (ps.getD i G0)=true:=by unfold Ze2 at h;rw [aR]at h;exact h.1
theorem Yki{ps:List Zl}(h:seB (ps.getD i G0)=false):Ze2 ps i=false:=by unfold Ze2;rw [h];rfl
theorem Ykj{ps:List Zl}(h:seB (ps.getD i G0)=true)(e:i=0):Ze2 ps i=true:=by unfold Ze2;rw [h,aJ e];rfl
theorem Zit{ps:List Zl}(h:seB (ps.getD i G0)=true)(e:0<i):Ze2 ps i=meG (ps.getD (i-1) G0) (ps.getD i G0):=by unfold Ze2;rw [h,aF O];rfl
theorem Zg1 (i:Nat){ps:List Zl}(hi:i<ps.length)(h:Ze2 ps i=false):Xy ps=false:=by
 unfold Xy;have:(List.range ps.length).all (Ze2 ps)=false:=by
  cases hb:(List.range ps.length).all (Ze2 ps)with
  | false=>rfl
  | true=>have:=cJ.1 hb i (gT.2 hi);rw [h]at this;cases this
 rw [this];rfl
theorem Zkt{ps:List Zl}(h:∀i,i<ps.length->Ze2 ps i=true):Xy ps=decide (1<=ps.length/\ps.length<=256):=by unfold Xy;rw [cJ.2 λi hi=>h i (gT.1 hi)];simp
theorem Zo6(g:Zl)(i:Nat):seB g=false\/(seB g=true/\i=0)\/(seB g=true/\0<i):=by
 cases seB g
 .exact .inl rfl
 .exact .inr (by rcases aV i with h|h;exact .inl ⟨rfl,h⟩;exact .inr ⟨rfl,h⟩)
theorem Ox{ps:List Zl}(h:Xy ps=true):(∀i,i<ps.length->Ze2 ps i=true)/\1<=ps.length/\ps.length<=256:=by unfold Xy at h;simp only [aR,dA]at h;exact⟨λi hi=>cJ.1 h.1.1 i (gT.2 hi),h.1.2,h.2⟩
open Go.ChangeShapes Go.WideShapes Go.ChangeAt Go.RowKit Go.Joins Go.Deep
open Go.Proofs
variable {P:Program} {W:World} {H:Type} {enc:TypeId×Value->H}
theorem Zy1{n:Int}(h:(Lit.int .i64 n).wf=true):Nw n:=by simp [Lit.wf,IntKind.has,IntKind.min,IntKind.max,IntKind.bits,IntKind.signed]at h;exact⟨O,O⟩
theorem Zp3{w:World}{a:Addr}{v:Value}(h:w.cell? a=some v):a.spot=none/\a.block<w.heap.size:=by
 unfold World.cell? at h;split at h
 .rename_i c t f e;refine⟨?_,(aS.1 e).1⟩;cases hs:a.spot with
  | none=>rfl
  | some x=>rw [hs]at h;simp at h
 .cases h
theorem Zis{t e:TypeId}{c:Value}{x:DataW H×List MemPlace}(hs:P.underlying t=some (.slice e))(he:P.underlying e=some (.int .i64))(hc:P.cellsOf e=1)(h:DataW.trod enc P W 0 (λ_=>true) true fuel t [c]=some x) :
  ∃(s:SL) (l:List Int),c=Xl s/\(Yy 1 Yk (Xl s) l).holds W/\∀a∈l,Nw a:=by
 rcases open_ints hs he hc h with⟨I,_⟩|⟨a,n,w,zs,I,_,hl,hm,hz,_,B,a2⟩
 .cases I;exact⟨(none,0,0),[],rfl,Cc 1 Yk W,λx Y=>by cases Y⟩
 .cases I;have a3:zs.length=w:=by simpa using hz
  have Q:(zs.take n).length=n:=by rw [cD];omega
  by_cases hn:n=0
  .subst hn;exact⟨(some a,0,w),[],rfl,⟨⟨some a,w,rfl,hl,hm,.inl rfl⟩,λb Z=>absurd rfl Z.1⟩,λx Y=>by cases Y⟩
  .have c0:=B 0 O;obtain⟨g,D,G⟩:=a;rw [show(⟨g,D,G⟩:Addr).add 0=⟨g,D,G⟩from rfl]at c0;obtain⟨V,S⟩:=Zp3 c0;simp only at V S;subst V;refine⟨(some ⟨g,D,none⟩,n,w),zs.take n,rfl,⟨⟨some ⟨g,D,none⟩,w,by rw [Q],by rw [Q];exact hl,hm,.inr ⟨g,D,rfl,λi x hi j u hj=>?_⟩⟩,λb Z=>by cases Z.2;exact S⟩,λx Y=>?_⟩
   .have a0:i<n:=by
     rcases aX i n with h|h
     .exact h
     .rw [bT (by rw [Q];exact h)]at hi;cases hi
    have a1:j=0:=by
     rcases j with _|j
     .rfl
     .simp [Value.cells]at hj
    subst a1;have R:=B i O;rw [Ol]at R;rw [List.getElem?_take_of_lt a0]at hi;rw [aK,hi]at R;simp [Value.cells]at hj;subst hj;simpa using R
   .have R:=a2 x (eW Y);have h3:=bounds_i64 R;exact⟨O,O⟩
theorem Ye3 {t ti D e:TypeId} {f0 f1 f2 f3 f4 f5:Field} {cs:List Value}  {x:DataW H×List MemPlace} (ht:P.underlying t=some (.struct #[f0,f1,f2,f3,f4,f5]))
  (h0:f0.type=ti) (h1:f1.type=ti) (h2:f2.type=ti) (h3:f3.type=D) (h4:f4.type=D) (h5:f5.type=D) (o0:f0.offset=0) (o1:f1.offset=1) (o2:f2.offset=2) (o3:f3.offset=3) (o4:f4.offset=4) (o5:f5.offset=5)
  (hi:P.underlying ti=some (.int .i64)) (hs:P.underlying D=some (.slice e)) (I:P.underlying e=some (.int .i64)) (G:P.cellsOf e=1) (l:P.cellsOf ti=1) (w:P.cellsOf D=1) (hC:P.cellsOf t=6)
  (h:DataW.trod enc P W 0 (λ_=>true) true fuel t cs=some x):∃g:Zl,cs=[.int .i64 g.1.1,.int .i64 g.1.2.1,.int .i64 g.1.2.2,Xl g.2.1.1,Xl g.2.2.1.1,Xl g.2.2.2.1]/\(qG g).holds W/\Gin g:=by
 obtain⟨xs,n,_,hx,hl,B,j⟩:=DataW.trod_struct ht h;rw [hC]at hl
 match cs,hl with
 | [c0,c1,c2,c3,c4,c5],_=>
 match xs,B with
 | [y0,y1,y2,y3,y4,y5],_=>
 have e0:=j 0 f0 rfl;have e1:=j 1 f1 rfl;have e2:=j 2 f2 rfl;have e3:=j 3 f3 rfl;have e4:=j 4 f4 rfl;have e5:=j 5 f5 rfl;rw [h0,o0,l]at e0;rw [h1,o1,l]at e1;rw [h2,o2,l]at e2;rw [h3,o3,w]at e3;rw [h4,o4,w]at e4;rw [h5,o5,w]at e5;obtain⟨m0,q0,w0⟩:=DataW.trod_int hi e0;obtain⟨m1,q1,w1⟩:=DataW.trod_int hi e1;obtain⟨m2,q2,w2⟩:=DataW.trod_int hi e2;obtain⟨sx,x,rfl,Q,R⟩:=Zis (enc:=enc) hs I G (c:=c3) (x:=y3) e3;obtain⟨sy,y,rfl,S,V⟩:=Zis (enc:=enc) hs I G (c:=c4) (x:=y4) e4;obtain⟨sz,z,rfl,Y,Z⟩:=Zis (enc:=enc) hs I G (c:=c5) (x:=y5) e5;simp at q0 q1 q2;subst q0;subst q1;subst q2;exact⟨((m0,m1,m2),(sx,x),(sy,y),(sz,z)),rfl,λu hu=>by
  simp only [bB,dI,gR]at hu;rcases hu with rfl|rfl|rfl
  .exact Q
  .exact S
  .exact Y,⟨Zy1 w0.2,Zy1 w1.2,Zy1 w2.2,R,V,Z⟩⟩
end Go.Sky

