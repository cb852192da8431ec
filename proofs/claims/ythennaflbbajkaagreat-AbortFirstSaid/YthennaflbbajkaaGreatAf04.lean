/- Rules, arithmetic and contracts: part 5. No conditions but those that each theorem names. -/
import Derived.Test.YthennaflbbajkaaGreatAf03
set_option linter.all false
namespace Go.Sky
variable{s x η ε t δ:Rat}{a u b y q z xs p d:List Int}{f:Rat->Rat}{k Y c:Int}{fs r:List (Rat->Rat)}{ls:List (List Int)}{m i K:Nat}
abbrev RWL:=List (Bool×ByteArray)
def smallR(r:RWL):Bool:=decide (r.length<=8) && r.all λc=>decide (c.2.size<=6)
noncomputable def dec (r:RWL):List Int:=if h:okP r=true then(okP_ex h).choose else []
noncomputable def bdE (r:RWL):Int:=if okP r=true then Zwx (dec r)else 2
noncomputable def bdZ (r:RWL):Int:=if bdE r=0 then sbound (dec r)else 0
def firstE(r:RWL)(x y e g:Int):Int:=if okP r=true then(if r.length=0\/0<x*g-e*y then 3 else 0)else 2
def chke:Nat->Nat->Nat->Nat->Nat->Bool
 | 0,e,_,A,_=>Nat.ble (A+e*64) 65500
 | f+1,e,g,A,B=>Nat.ble (A+e*64) 65500 && (Nat.beq g 0 || (List.range g).all λl=>chke f g l B (bif Nat.ble l 1 then 2 else A+(e-g+1)*B))
inductive SV:List Int->List Int->Prop
 | one (a:Int):SV [a] [a]
 | step (a:Int) (r t:List Int):SV r t->SV (a::r) (a::t)
 | skip (a u w:Int) (r t:List Int):(a=1\/a=-1)->(-1<=u/\u<=1)->(-1<=w/\w<=1)->SV (-a::r) (-a::t)->SV (a::u::-a::r) (a::w::-a::t)
theorem Znt{s:Int×Int}{a u:Int}(g:a=1\/a=-1)(h:-1<=u/\u<=1):Me (Me (Me s a) u) (-a)=Me (Me s a) (-a):=by obtain⟨n,l⟩:=s;have e:u=-1\/u=0\/u=1:=O;rcases g with rfl|rfl<;>rcases e with rfl|rfl|rfl<;>simp [Me]
theorem SV.fold(h:SV a b):∀s,a.foldl Me s=b.foldl Me s:=by
 induction h with
 | one a=>intro s;rfl
 | step a r t _ e=>intro s;exact e (Me s a)
 | skip a u w r t g j l _ e=>
  intro s;show(r.foldl Me (Me (Me (Me s a) u) (-a)))=(t.foldl Me (Me (Me (Me s a) w) (-a)));rw [Znt g j,Znt g l];exact e (Me s a)
def SV.chg(h:SV a b):chg a=chg b:=aE Prod.fst (h.fold (0,0))
def Ep(x:Rat):Int:=if x<0 then -1 else if x=0 then 0 else 1
theorem Yes:-1<=Ep x/\Ep x<=1:=by unfold Ep;split;decide;split<;>decide
theorem Ao(h:0<x):Ep x=1:=by unfold Ep;rw [aJ O4,aJ O4]
theorem Ap(h:x<0):Ep x=-1:=by unfold Ep;rw [aO h]
def Big(η x:Rat)(f:Rat->Rat):Prop:=η<f x\/f x < -η
def Tri(η x:Rat):(Rat->Rat)->List (Rat->Rat)->Prop
 | _,[]=>True
 | _,[g]=>Big η x g
 | f,g::k::r=>(Big η x g/\Tri η x g (k::r))\/(Big η x k/\f x*k x<0/\Tri η x k r)
def Near(η x y:Rat)(f:Rat->Rat):Prop:=f x-f y<=η/\f y-f x<=η
theorem Zqx{y:Rat}(g:0<=η)(h:Big η x f)(e:Near η x y f):Ep (f x)=Ep (f y)/\(Ep (f x)=1\/Ep (f x)=-1):=by
 obtain⟨j,l⟩:=e;rcases h with h|h
 .rw [Ao O4,Ao O4];exact⟨rfl,.inl rfl⟩
 .rw [Ap O4,Ap O4];exact⟨rfl,.inr rfl⟩
theorem opp_sg{a b:Rat}(h:a*b<0):Ep b=- Ep a:=by
 rcases(show a<0\/a=0\/0<a by grind)with g|g|g
 .rw [Ap g,Ao (by
   rcases(show b<=0\/0<b by grind)with e|e
   .have:=aG (a:=-a) (b:=-b) O4 O4;grind
   .exact e)];rfl
 .subst g;grind
 .rw [Ao g,Ap (by
   rcases(show 0<=b\/b<0 by grind)with e|e
   .have:=aG (a:=a) (b:=b) O4 e;grind
   .exact e)]
theorem Zob{η x y:Rat}(o:0<=η):∀(n:Nat) (f:Rat->Rat) (fs:List (Rat->Rat)),fs.length<=n->Big η x f->(∀g∈f::fs,Near η x y g)->Tri η x f fs->
  SV ((f::fs).map λg=>Ep (g x)) ((f::fs).map λg=>Ep (g y))
 | _,f,[],_,D,e,_=>by have:=(Zqx o D (e f (bX ..))).1;simp only [cI,iL,this];exact SV.one _
 | 0,f,g::r,F,_,_,_=>absurd F O7
 | n+1,f,[g],F,D,e,v=>by have B:=(Zqx o D (e f (bX ..))).1;have h:=Zob o n g [] O7 v (λk w=>e k (bN _ w)) aA;rw [cI,cI,B];exact SV.step _ _ _ h
 | n+1,f,g::k::r,F,D,e,v=>by
  have B:=Zqx o D (e f (bX ..));rcases v with⟨I,v⟩|⟨w,N,v⟩
  .have h:=Zob o n g (k::r) (by simp at F ⊢;omega) I (λk w=>e k (bN _ w)) v;rw [cI (l:=g::k::r),cI (l:=g::k::r),B.1];exact SV.step _ _ _ h
  .have h:=Zob o n k r (by simp at F ⊢;omega) w (λj M=>e j (bN _ (bN _ M))) v;have G:=(Zqx o w (e k O7)).1;have H:=opp_sg N;rw [cI (l:=r),cI (l:=r)]at h;simp only [cI];rw [<-G]at h ⊢;rw [H]at h ⊢;rw [<-B.1];exact SV.skip _ _ _ _ _ B.2 Yes Yes h
structure Lnk (η x:Rat) (f g k:Rat->Rat):Prop where
 big:¬Big η x g->Big η x k
 opp:¬Big η x g->f x*k x<0
def Lnks(η x:Rat):(Rat->Rat)->List (Rat->Rat)->Prop
 | _,[]=>True
 | _,[g]=>Big η x g
 | f,g::k::r=>Lnk η x f g k/\Lnks η x g (k::r)
theorem Zky{η x:Rat} : ∀(n:Nat) (f:Rat->Rat) (fs:List (Rat->Rat)),fs.length<=n->Lnks η x f fs->Tri η x f fs
 | _,f,[],_,_=>trivial
 | 0,f,g::r,l,_=>absurd l O7
 | n+1,f,[g],_,h=>h
 | n+1,f,[g,k],l,h=>by
  by_cases e:Big η x g
  .exact .inl ⟨e,h.2⟩
  .exact .inr ⟨h.1.big e,h.1.opp e,aA⟩
 | n+1,f,g::k::j::r,l,h=>by
  by_cases e:Big η x g
  .exact .inl ⟨e,Zky n g (k::j::r) (by simp at l ⊢;omega) h.2⟩
  .exact .inr ⟨h.1.big e,h.1.opp e,Zky n k (j::r) (by simp at l ⊢;omega) h.2.2⟩
def Rl3(s t:Rat)(f g k:Rat->Rat):Prop:=∃m n Q:Rat,0<m/\0<n/\0<Q/\∀x,s<=x->x<=t->∃q,-Q<=q/\q<=Q/\m*f x=q*g x-n*k x
def Rl2(s t:Rat)(f g:Rat->Rat):Prop:=∃m Q:Rat,0<m/\0<Q/\∀x,s<=x->x<=t->∃q,-Q<=q/\q<=Q/\m*f x=q*g x
def Rls(s t:Rat):(Rat->Rat)->List (Rat->Rat)->Prop
 | _,[]=>True
 | f,[g]=>Rl2 s t f g
 | f,g::k::r=>Rl3 s t f g k/\Rls s t g (k::r)
theorem Zbz{q Q g e:Rat}(h:-Q<=q)(j:q<=Q)(l:-e<=g)(n:g<=e)(o:0<=Q):q*g<=Q*e/\-(Q*e)<=q*g:=by
 have a:=aG (a:=Q-q) (b:=e+g) O4 O4;have b:=aG (a:=Q+q) (b:=e-g) O4 O4;have c:=aG (a:=Q-q) (b:=e-g) O4 O4;have d:=aG (a:=Q+q) (b:=e+g) O4 O4
 all_goals grind
theorem Zdh{g:Rat->Rat}(h:¬Big η x g):-η<=g x/\g x<=η:=by unfold Big at h;all_goals grind
theorem Zw8{g:Rat->Rat}(h:η<=ε)(e:Big ε x g):Big η x g:=by unfold Big at *;grind
theorem Gb{a b:Rat}(h:0<ε)(g:0<a)(j:0<b):∃e:Rat,0<e/\e<=ε/\e*a<=b:=by have l:=aV j (fD.2 g);have n:b*a⁻¹*a=b:=O4;grind [Rat.mul_le_mul_of_nonneg_right]
theorem pair3{g k:Rat->Rat}(h:Rl3 s t f g k)(H:0<ε)(R:∀x,s<=x->x<=t->Big ε x f\/Big ε x g) :
  ∃e,0<e/\(∀x,s<=x->x<=t->Big e x g\/Big e x k)/\∀η,0<η->η<=e->∀x,s<=x->x<=t->Lnk η x f g k:=by
 obtain⟨m,n,Q,G,hn,hQ,S⟩:=h;obtain⟨e,M,e2,e3⟩:=Gb H (show 0<Q+n by grind) (Rat.mul_pos G H);have o:∀η,0<η->η<=e->∀x,s<=x->x<=t->¬Big η x g->Big η x k/\f x*k x<0:=λη B v x hs l j=>by
  obtain⟨q,V,W,q3⟩:=S x hs l;obtain⟨N,P⟩:=Zdh j;obtain⟨p1,p2⟩:=Zbz V W N P O4;have F:Big ε x f:=(R x hs l).resolve_right λh=>j (Zw8 O4 h);have Z:η*(Q+n)<=m*ε:=by have:=dI v (show 0<=Q+n by grind);grind
  rcases F with F|F
  .have I:m*ε<m*f x:=by have:=aV G (show 0<f x-ε by grind);grind
   have w:k x < -η:=by
    rcases(show k x < -η\/-η<=k x by grind)with D|D
    .omega
    .have:=aG (a:=n) (b:=k x+η) O4 O4;grind
   refine⟨.inr w,?_⟩;have:=aV (a:=f x) (b:=- k x) O4 O4;grind
  .have I:m*f x < - (m*ε):=by have:=aV G (show 0 < -ε-f x by grind);grind
   have d2:n*η<n*k x:=O4;have w:η<k x:=by
    rcases(show η<k x\/k x<=η by grind)with D|D
    .omega
    .have:=aG (a:=n) (b:=η-k x) O4 O4;grind
   refine⟨.inl w,?_⟩;have:=aV (a:=- f x) (b:=k x) O4 O4;grind
 refine⟨e,M,λx hs l=>?_,λη B v x hs l=>⟨λj=>(o η B v x hs l j).1,λj=>(o η B v x hs l j).2⟩⟩;grind
theorem pair2{g:Rat->Rat}(h:Rl2 s t f g)(n:0<ε)(H:∀x,s<=x->x<=t->Big ε x f\/Big ε x g) :
  ∃e,0<e/\∀η,0<η->η<=e->∀x,s<=x->x<=t->Big η x g:=by
 obtain⟨m,Q,l,G,I⟩:=h;obtain⟨e,w,R,S⟩:=Gb n G (aV l n);refine⟨e,w,λη V F x hs v=>?_⟩;by_cases o:Big η x g
 .omega
 .obtain⟨q,M,N,q3⟩:=I x hs v;obtain⟨B,D⟩:=Zdh o;obtain⟨W,Z⟩:=Zbz M N B D O4;have j:=(H x hs v).resolve_right λh=>o (Zw8 O4 h);have P:η*Q<=m*ε:=by have:=dI F (show 0<=Q by grind);grind
  rcases j with j|j
  .have:=aV l (show 0<f x-ε by grind);grind
  .have:=aV l (show 0 < -ε-f x by grind);grind
theorem Zsx{s t:Rat} : ∀(n:Nat) (f:Rat->Rat) (fs:List (Rat->Rat)) (ε:Rat),fs.length<=n->Rls s t f fs->0<ε->(∀g r,fs=g::r->∀x,s<=x->x<=t->Big ε x f\/Big ε x g)->
  ∃e,0<e/\∀η,0<η->η<=e->∀x,s<=x->x<=t->Lnks η x f fs
 | _,f,[],ε,_,_,o,_=>⟨ε,o,λ_ _ _ _ _ _=>trivial⟩
 | 0,f,g::r,ε,hl,_,_,_=>absurd hl O7
 | n+1,f,[g],ε,_,h,o,G=>pair2 h o (G g [] rfl)
 | n+1,f,g::k::r,ε,hl,h,o,G=>by
  obtain⟨e,H,M,I⟩:=pair3 h.1 o (G g _ rfl);obtain⟨B,D,l⟩:=Zsx n g _ e (by simp at hl ⊢;omega) h.2 H (λP Q F=>by injection F with j w;subst j;exact M)
  rcases(show e<=B\/B<=e by grind)with N|N
  .exact⟨e,H,λη j w x hs v=>⟨I η j w x hs v,l η j O4 x hs v⟩⟩
  .exact⟨B,D,λη j w x hs v=>⟨I η j O4 x hs v,l η j w x hs v⟩⟩
def Lip(s t L:Rat)(f:Rat->Rat):Prop:=∀x y,s<=x->x<=y->y<=t->f x-f y<=L*(y-x)/\f y-f x<=L*(y-x)
def vat(fs:List (Rat->Rat))(x:Rat):Int:=chg (fs.map λg=>Ep (g x))
theorem Ykw{L:Rat}(F:0<L)(I:∀g∈f::fs,Lip s t L g)(v:0<δ)(o:∀x,s<=x->x<=t->Big δ x f)(M:Rls s t f fs) :
  ∃h,0<h/\∀x y,s<=x->x<=y->y<=t->y-x<=h->vat (f::fs) x=vat (f::fs) y:=by
 obtain⟨e,w,B⟩:=Zsx _ f fs δ (aI _) M v (λg r _ x hs N=> .inl (o x hs N));obtain⟨η,n,S,V⟩:=Gb v (show(0)<1 by rfl) w;obtain⟨h,D,Q,R⟩:=Gb n F n;refine⟨h,D,λx y j l P H=>SV.chg ?_⟩;refine Zob O4 _ f fs (aI _) (Zw8 O4 (o x j O4)) (λg G=>?_) (Zky _ _ _ (aI _) (B η n O4 x j O4));obtain⟨a,b⟩:=I g G x y j l P;have:=dI H (show 0<=L by grind);exact⟨O4,O4⟩
theorem Ya6{L:Rat}(M:0<L)(Q:∀g∈f::fs,Lip s t L g)(P:0<δ)(N:∀x,s<=x->x<=t->Big δ x f)(S:Rls s t f fs)(w:s<=t) :
  vat (f::fs) s=vat (f::fs) t:=by
 obtain⟨h,H,D⟩:=Ykw M Q P N S;have B:∀n:Nat,∀y,s<=y->y<=t->y-s<=(n:Rat)*h->vat (f::fs) s=vat (f::fs) y:=λn=>by
  induction n with
  | zero=>
    intro y e j l;have:y=s:=by simp at l;grind
    rw [this]
  | succ n G=>
   intro y e j l;have F:((n+1:Nat):Rat)*h=(n:Rat)*h+h:=by push_cast;grind
   rcases(show y-s<=(n:Rat)*h\/(n:Rat)*h<y-s by grind)with o|o
   .exact G y e j o
   .have I:(0:Rat)<=(n:Rat)*h:=aG (by exact_mod_cast bH n) O4;rcases(show s<=y-h\/y-h<s by grind)with v|v
    .rw [G (y-h) v O4 O4];exact D (y-h) y v O4 j O4
    .exact D s y O4 e j O4
 have e:∃n:Nat,t-s<=(n:Rat)*h:=by
  have j:0<h⁻¹:=fD.2 H;refine⟨((t-s)*h⁻¹).ceil.toNat,?_⟩;have l:=@mN ((t-s)*h⁻¹);have F:((((t-s)*h⁻¹).ceil:Int):Rat)<=((((t-s)*h⁻¹).ceil.toNat:Nat):Rat):=by have:((t-s)*h⁻¹).ceil<=((((t-s)*h⁻¹).ceil.toNat:Nat):Int):=jV _;exact_mod_cast this
  have o:=dI (mD l F) (show 0<=h by grind);have I:(t-s)*h⁻¹*h=t-s:=O4;grind
 obtain⟨n,R⟩:=e;exact B n t w O4 R
def Zc:List Int->Rat->Rat
 | [],_=>0
 | c::p,x=>(c:Rat)+x*Zc p x
theorem Ym4(s t:Rat):∃K:Rat,0<K/\∀x,s<=x->x<=t->-K<=x/\x<=K:=by
 rcases(show(0<=s\/s<0) by grind)with h|h<;>rcases(show(0<=t\/t<0) by grind)with e|e
 .exact⟨t+1,O4,λx _ _=>O4⟩
 .exact⟨1,O4,λx _ _=>O4⟩
 .exact⟨t-s+1,O4,λx _ _=>O4⟩
 .exact⟨-s+1,O4,λx _ _=>O4⟩
theorem Zr9(s t:Rat):∀p:List Int,∃B:Rat,0<B/\∀x,s<=x->x<=t->-B<=Zc p x/\Zc p x<=B
 | []=>⟨1,O3,λx _ _=>by unfold Zc;grind⟩
 | c::p=>by obtain⟨B,g,h⟩:=Zr9 s t p;obtain⟨K,w,D⟩:=Ym4 s t;obtain⟨C,F,j⟩:=Ym4 (c:Rat) (c:Rat);have G:=j (c:Rat) O4 O4;refine⟨C+K*B,by have:=aV w g;grind,λx hs e=>?_⟩;obtain⟨l,n⟩:=h x hs e;obtain⟨o,v⟩:=D x hs e;obtain⟨f1,f2⟩:=Zbz o v l n O4;unfold Zc;constructor<;>grind
theorem Cx(s t:Rat):∀p:List Int,∃L:Rat,0<L/\Lip s t L (Zc p)
 | []=>⟨1,O3,λx y _ _ _=>by unfold Zc;constructor<;>grind⟩
 | c::p=>by obtain⟨L,D,F⟩:=Cx s t p;obtain⟨B,I,l⟩:=Zr9 s t p;obtain⟨K,v,w⟩:=Ym4 s t;refine⟨K*L+B,by have:=aV v D;grind,λx y hs h j=>?_⟩;obtain⟨G,H⟩:=F x y hs h j;obtain⟨M,N⟩:=l y O4 j;obtain⟨n,o⟩:=w x hs O4;obtain⟨f1,f2⟩:=Zbz (q:=x) (g:=Zc p x-Zc p y) (e:=L*(y-x)) n o O4 O4 O4;have P:=aG (a:=B-Zc p y) (b:=y-x) O4 O4;have Q:=aG (a:=B+Zc p y) (b:=y-x) O4 O4;unfold Zc;constructor<;>grind
theorem Zj7(x:Rat):∀q:List Int,(∀i,cf q i=0)->Zc q x=0
 | [],_=>rfl
 | c::q,h=>by have e:c=0:=h 0;have g:=Zj7 x q λi=>h (i+1);unfold Zc;rw [g,e];grind
theorem Ng(x:Rat):∀p q:List Int,(∀i,cf p i=cf q i)->Zc p x=Zc q x
 | [],q,h=>by rw [Zj7 x q λi=>(h i).symm.trans (Yw (bH _))];rfl
 | c::p,[],h=>by rw [Zj7 x (c::p) λi=>(h i).trans (Yw (bH _))];rfl
 | c::p,d::q,h=>by have e:c=d:=h 0;have g:=Ng x p q λi=>h (i+1);unfold Zc;rw [g,e]
def Ma:List Int->List Int->List Int
 | [],q=>q
 | p,[]=>p
 | a::p,b::q=>(a+b)::Ma p q
theorem Zs9(p:List Int):Ma p []=p:=by cases p<;>rfl
theorem Xh(x:Rat):∀p q:List Int,Zc (Ma p q) x=Zc p x+Zc q x
 | [],q=>by unfold Ma;show Zc q x=0+Zc q x;grind
 | a::p,[]=>by rw [Zs9];show Zc (a::p) x=Zc (a::p) x+0;grind
 | a::p,b::q=>by have h:=Xh x p q;unfold Ma Zc;rw [h];push_cast;grind
theorem Mz:∀(p q:List Int) (i:Nat),cf (Ma p q) i=cf p i+cf q i
 | [],q,i=>by unfold Ma;rw [show cf [] i=0 from Yw (bH _)];omega
 | a::p,[],i=>by rw [Zs9,show cf [] i=0 from Yw (bH _)];omega
 | a::p,b::q,0=>rfl
 | a::p,b::q,i+1=>Mz p q i
theorem Zj(x:Rat)(c:Int):∀p:List Int,Zc (p.map λa=>c*a) x=(c:Rat)*Zc p x
 | []=>by show(0:Rat)=c*0;grind
 | a::p=>by have h:=Zj x c p;simp only [cI];unfold Zc;rw [h];push_cast;grind
theorem Qt(c:Int):∀(p:List Int) (i:Nat),cf (p.map λa=>c*a) i=c*cf p i
 | [],i=>by simp [cf]
 | a::p,0=>rfl
 | a::p,i+1=>Qt c p i
def lmul:List Int->List Int->List Int
 | [],_=>[]
 | c::p,q=>Ma (q.map λa=>c*a) (0::lmul p q)
theorem Zz(x:Rat):∀p q:List Int,Zc (lmul p q) x=Zc p x*Zc q x
 | [],q=>by show(0:Rat)=0*Zc q x;grind
 | c::p,q=>by have h:=Zz x p q;unfold lmul;rw [Xh,Zj];show(c:Rat)*Zc q x+(((0:Int):Rat)+x*Zc (lmul p q) x)=((c:Rat)+x*Zc p x)*Zc q x;rw [h];grind
theorem El:∀(p q:List Int) (i:Nat),cf (lmul p q) i=Yf (λk=>cf p k*cf q (i-k)) (i+1)
 | [],q,i=>by rw [show cf (lmul [] q) i=0 from Yw (bH _)];exact(Fu λk _=>by rw [show cf [] k=0 from Yw (bH _),cP]).symm
 | c::p,q,0=>by unfold lmul;rw [Mz,Qt,Yr,Fg];show c*cf q 0+0=0+c*cf q 0;omega
 | c::p,q,i+1=>by have h:=El p q i;unfold lmul;rw [Mz,Qt,La];show c*cf q (i+1)+cf (lmul p q) i=c*cf q (i+1)+_;rw [h];congr 1;refine Xj λk e=>?_;show cf p k*cf q (i-k)=cf p k*cf q (i+1-(k+1));rw [show i+1-(k+1)=i-k by omega]
theorem Dt (a:Int)(c:Int)(x:List Int)(s:List Int)(y:List Int)(z:List Int)(h:∀t,a*cf x t=(ps s*ps y).c t-c*cf z t)(q:Rat):(a:Rat)*Zc x q=Zc s q*Zc y q-(c:Rat)*Zc z q:=by
 have e:∀t,cf (Ma (x.map λb=>a*b) (z.map λb=>c*b)) t=cf (lmul s y) t:=λt=>by rw [Mz,Qt,Qt,El,h t,PS.mul_c];show Yf (λk=>cf s k*cf y (t-k)) (t+1)-c*cf z t+c*cf z t=_;omega
 have g:=Ng q _ _ e;rw [Xh,Zj,Zj,Zz]at g;grind
theorem Ybn{x:List Int}(H:Tr x)(w:Tr y)(j:y≠[])(Q:y.length<=x.length):Rl3 s t (Zc x) (Zc y) (Zc (Mj x y)):=by
 have V:=aL.2 j;obtain⟨r1,r2,k,u,P⟩:=Zfi w j x.length x H O;have hs:=Zg0 x.length H w j Q O;have v:Tr (Zg8 (Zbh x.length x y)):=Nq _ _;obtain⟨m,n,R,S,G⟩:=Zen v;rw [hs]at G;have N:0<Zcd y^k:=iI (Zfm w j);obtain⟨B,I,D⟩:=Zr9 s t u;have o:(0:Rat)<(m:Rat):=by exact_mod_cast R
 have e:(0:Rat)<(n:Rat):=by exact_mod_cast S
 have l:(0:Rat)<((Zcd y^k:Int):Rat):=by exact_mod_cast N
 refine⟨(n:Rat)*((Zcd y^k:Int):Rat),(m:Rat),(n:Rat)*B,aV e l,o,aV e I,λq g h=>⟨(n:Rat)*Zc u q,?_,?_,?_⟩⟩
 .have:=aG (a:=(n:Rat)) (b:=Zc u q+B) O4 (by have:=D q g h;grind);grind
 .have:=aG (a:=(n:Rat)) (b:=B-Zc u q) O4 (by have:=D q g h;grind);grind
 .have M:=Dt (Zcd y^k) (-1) x u y (Zbh x.length x y) (λt=>by rw [P t];omega) q;have F:Zc ((Mj x y).map λb=>m*b) q=Zc ((Zbh x.length x y).map λb=>(-n)*b) q:=Ng q _ _ λi=>by rw [Qt,Qt,G i,Zai,mM,Int.neg_mul]
  rw [Zj,Zj]at F;push_cast at M F ⊢;grind
theorem rl2_of{g:Rat->Rat}(h:Rl3 s t f g (Zc [])):Rl2 s t f g:=by obtain⟨m,n,Q,o,F,l,v⟩:=h;refine⟨m,Q,o,l,λx e j=>?_⟩;obtain⟨q,w,B,D⟩:=v x e j;refine⟨q,w,B,?_⟩;have:Zc [] x=0:=rfl;rw [this]at D;grind
theorem Zm0 (s:Rat)(t:Rat) : ∀(f:Nat) (a b:List Int),Tr a->Tr b->cok f a b->∃r,Mr f a b=a::r/\Rls s t (Zc a) (r.map Zc)/\(b=[]->r=[])/\(b≠[]->∃w,r=b::w):=λf=>by
 induction f with
 | zero=>
  intro a b l n h;have e:b=[]:=h;subst e;exact⟨[],rfl,aA,λ_=>rfl,λh=>absurd rfl h⟩
 | succ f I=>
  intro a b l n h;by_cases e:b=[]
  .subst e;exact⟨[],Bo _ _,aA,λ_=>rfl,λh=>absurd rfl h⟩
  .obtain⟨g,N,M,o,H,hs⟩:=Zlq h e;obtain rfl:f=g:=O;obtain⟨r,B,D,F,G⟩:=I b (Mj a b) n (Zb7 l) H;have j:=Ybn (s:=s) (t:=t) l n e o;refine⟨b::r,by rw [hs,B],?_,λh=>absurd h e,λ_=>⟨r,rfl⟩⟩;by_cases v:Mj a b=[]
   .rw [F v];rw [v]at j;exact rl2_of j
   .obtain⟨w,rfl⟩:=G v;exact⟨j,D⟩
theorem Zsy{L M:Rat}(h:L<=M)(l:Lip s t L f):Lip s t M f:=λx y e g j=>by obtain⟨a,b⟩:=l x y e g j;have:=dI h (show 0<=y-x by grind);constructor<;>grind
theorem Zy3(s t:Rat):∀ls:List (List Int),∃L:Rat,0<L/\∀g∈ls.map Zc,Lip s t L g
 | []=>⟨1,O3,λg e=>by cases e⟩
 | p::ls=>by
  obtain⟨L,l,h⟩:=Zy3 s t ls;obtain⟨M,n,j⟩:=Cx s t p;refine⟨L+M,O4,λg e=>?_⟩;rw [cI]at e;rcases aU.1 e with rfl|e
  .exact Zsy O4 j
  .exact Zsy O4 (h g e)
theorem Zfg{f:Nat}(n:Tr a)(o:Tr b)(v:cok f a b)(e:s<=t)(w:0<δ)(l:∀x,s<=x->x<=t->Big δ x (Zc a)) :
  vat ((Mr f a b).map Zc) s=vat ((Mr f a b).map Zc) t:=by
 obtain⟨r,h,j,_,_⟩:=Zm0 s t f a b n o v;obtain⟨L,B,g⟩:=Zy3 s t (Mr f a b);rw [h]at g ⊢;exact Ya6 B g w l j e
theorem Zr6(x:Rat)(l:Int):∀p:List Int,Zc (p ++ [l]) x=Zc p x+(l:Rat)*x^p.length
 | []=>by show(l:Rat)+x*0=0+l*x^0;rw [dM];grind
 | c::p=>by have h:=Zr6 x l p;rw [gQ,dX,dA];unfold Zc;rw [h];grind
def alt:List Int->List Int
 | []=>[]
 | c::p=>c::(alt p).map λa=>-1*a
theorem Yfh(c:Int)(p:List Int)(X Y:Int)(h:p≠[]):pev (c::p) X Y=c*Y^p.length+X*pev p X Y:=by
 have e:=aL.2 h;unfold pev;rw [dX,La,<-Mi];congr 1
 .show c*(X^0*Y^(p.length+1-1-0))=_;rw [eK,iG,show p.length+1-1-0=p.length by omega]
 .refine Xj λi hi=>?_;show cf p i*(X^(i+1)*Y^(p.length+1-1-(i+1)))=X*(cf p i*(X^i*Y^(p.length-1-i)));rw [show p.length+1-1-(i+1)=p.length-1-i by omega,eC];grind
theorem Zyh{X Y:Int}(e:0<Y):∀p:List Int,((pev p X Y:Int):Rat)=Zc p ((X:Rat)/(Y:Rat))*(Y:Rat)^(p.length-1)
 | []=>by show(0:Rat)=0*_;grind
 | [c]=>by
  have:pev [c] X Y=c:=by unfold pev;show 0+c*(X^0*Y^0)=c;rw [eK,eK];omega
  rw [this];show(c:Rat)=(c+X/Y*0)*(Y:Rat)^0;rw [dM];grind
 | c::d::p=>by
  have h:=Zyh (X:=X) e (d::p);rw [Yfh c (d::p) X Y O7];have g:(Y:Rat)≠0:=by
    have:(0:Rat)<(Y:Rat):=by exact_mod_cast e
    grind
  push_cast;rw [h];show(c:Rat)*(Y:Rat)^(p.length+1)+X*(Zc (d::p) (X/Y)*(Y:Rat)^(p.length+1-1))=((c:Rat)+X/Y*Zc (d::p) (X/Y))*(Y:Rat)^(p.length+1+1-1);rw [show p.length+1-1=p.length by omega,show p.length+1+1-1=p.length+1 by omega,dA];generalize Zc (d::p) (X/Y)=R;generalize (Y:Rat)^p.length=P;have:(X:Rat)/Y*Y=X:=O4;grind
theorem Yed{z:Int}{r q:Rat}(l:0<q)(h:(z:Rat)=r*q):z.sign=Ep r:=by
 rcases(show r<0\/r=0\/0<r by grind)with e|e|e
 .rw [Ap e];have:=aV (a:=-r) (b:=q) O4 l;have g:(z:Rat)<0:=O4;have j:z<0:=by exact_mod_cast g
  exact jJ j
 .subst e;have g:(z:Rat)=0:=O4;have j:z=0:=by exact_mod_cast g
  subst j;rfl
 .rw [Ao e];have:=aV e l;have g:(0:Rat)<z:=O4;have j:0<z:=by exact_mod_cast g
  exact kE j
theorem Zpy{X:Int}(e:0<Y)(p:List Int):fat X Y p=Ep (Zc p ((X:Rat)/(Y:Rat))):=by
 have:(0:Rat)<(Y:Rat):=by exact_mod_cast e
 exact Yed (Rat.pow_pos this) (Zyh e p)
theorem Yli{F:Nat}(o:Tr xs)(l:xs≠[])(j:eok F (gA (Xr xs) (Xd (Xr xs))) (gB (Xr xs) (Xd (Xr xs)))):∃g:List Int,∀x,Zc xs x=Zc (sqf F xs) x*Zc g x:=by
 obtain⟨f1,f2,f3,f4,f5,f6⟩:=Nf F o l j;have h:∃k:Int,∀i,cf xs i=k*cf (Xr xs) i:=by
  unfold Xr Hy;split
  .refine⟨-Xs xs,λi=>?_⟩;rw [Qn,<-Fl xs i];grind
  .refine⟨Xs xs,λi=>?_⟩;rw [<-Fl xs i];grind
 obtain⟨k,h⟩:=h;refine⟨(Mt F (Xr xs) (Xd (Xr xs))).map λa=>k*a,λx=>?_⟩;have n:Zc (Xr xs) x=Zc (sqf F xs) x*Zc (Mt F (Xr xs) (Xd (Xr xs))) x:=by
  have:=Dt 1 0 (Xr xs) (sqf F xs) (Mt F (Xr xs) (Xd (Xr xs))) [] (λt=>by have e:=Gj (sqf F xs) (Mt F (Xr xs) (Xd (Xr xs))) t;rw [<-f4]at e;rw [e];omega) x
  push_cast at this;grind
 have e:Zc xs x=Zc ((Xr xs).map λa=>k*a) x:=Ng x _ _ λi=>by rw [Qt];exact h i
 rw [e,Zj,Zj,n];grind
theorem Ykk{f:List Int->Int}(h:∀p∈ls,Ep (Zc p x)=f p):vat (ls.map Zc) x=chg (ls.map f):=by unfold vat;rw [fZ];exact aE chg (lC λp e=>h p e)
def Ynv{F:Nat}{X:Int}(e:0<Y):cnt F xs X Y=vat ((chn F xs).map Zc) ((X:Rat)/(Y:Rat)):=
 (Ykk λp _=>(Zpy e p).symm).symm
theorem Zzr(t:Int):∀p:List Int,Zc p (t:Rat)=((ev1 p t:Int):Rat)
 | []=>rfl
 | c::p=>by have h:=Zzr t p;rw [show Zc _ (t)=(c)+(t)*Zc p _ from rfl,show ev1 _ t=c+t*ev1 p t from rfl,h];push_cast;rfl
theorem Zor(h:∀x:Rat,Zc p x=0)(i:Nat):cf p i=0:=by
 by_cases l:cf p i=0
 .omega
 .have:=Zr5 _ p ((List.range p.length).map λn:Nat=>(n)) rfl ⟨i,l⟩ (by
   refine List.Pairwise.map _ (λa b g=>?_) List.nodup_range;intro e;exact g (by exact_mod_cast e)) (λt o=>by
   have j:=Zzr t p;rw [h]at j;exact_mod_cast j.symm)
  grind
theorem Ml(h:∀x:Rat,Zc p x=Zc q x)(i:Nat):cf p i=cf q i:=by have e:=Zor (p:=Ma p (q.map λa=>(-1)*a)) (λx=>by grind [Xh,Zj]) i;rw [Mz,Qt]at e;omega
theorem Lk(p:List Int)(x:Rat):Zc (tzl p) x=Zc p x:=Ng x _ _ λi=>Hc p i
theorem Xm(p q:List Int)(x:Rat):Zc (Qx p q) x=Zc p x*Zc q x:=by rw [<-Zz];exact Ng x _ _ λi=>by rw [Gj,El];rfl
theorem Pt(c:Int)(x:Rat):Zc [c] x=(c:Rat):=by show(c)+x*0=c;grind
def ld:List Int->List Int
 | []=>[]
 | _::p=>Ma p (0::ld p)
theorem Zfl(c:Int)(p:List Int)(x:Rat):Zc (ld (c::p)) x=Zc p x+x*Zc (ld p) x:=by rw [show ld _=Ma p _ from rfl,Xh];show Zc p x+(((0))+x*Zc _ x)=_;grind
theorem Zlw:∀(p:List Int) (i:Nat),cf (ld p) i=cf p (i+1)*((i:Int)+1)
 | [],i=>by rw [Zc1,show ld []=[]from rfl,Zc1,cP]
 | c::p,0=>by rw [show ld _=Ma p _ from rfl,Mz];show cf p 0+0=cf p 0*_;simp
 | c::p,i+1=>by have h:=Zlw p i;rw [show ld _=Ma p _ from rfl,Mz];show cf p _+cf _ i=cf p _*_;grind
theorem Ki(p:List Int)(x:Rat):Zc (Xd p) x=Zc (ld p) x:=Ng x _ _ λi=>by rw [Zgl,Zlw]
theorem Ce (p:List Int)(q:List Int)(h:∀x,Zc p x=Zc q x)(x:Rat):Zc (ld p) x=Zc (ld q) x:=Ng x _ _ λi=>by grind [Zlw,Ml]
theorem Ylp(p q:List Int)(x:Rat):Zc (ld (Ma p q)) x=Zc (ld p) x+Zc (ld q) x:=by rw [<-Xh];exact Ng x _ _ λi=>by rw [Zlw,Mz,Mz,Zlw,Zlw];grind
theorem Ar(c:Int)(p:List Int)(x:Rat):Zc (ld (p.map λa=>c*a)) x=(c:Rat)*Zc (ld p) x:=by rw [<-Zj];grind [Ng,Zlw,Qt]
theorem Cy(x:Rat):∀p q:List Int,Zc (ld (lmul p q)) x=Zc (ld p) x*Zc q x+Zc p x*Zc (ld q) x
 | [],q=>by show(0)=0*Zc q x+0*Zc _ x;grind
 | c::p,q=>by have h:=Cy x p q;rw [show lmul _ q=Ma _ _ from rfl,Ylp,Ar,Zfl,Zfl,Zz,show Zc (c::p) x=(c)+x*Zc p x from rfl];grind
def Ed(g a:List Int):Prop:=∃(k:Int) (s:List Int),k≠0/\∀x:Rat,(k:Rat)*Zc a x=Zc s x*Zc g x
theorem Ed.refl(a:List Int):Ed a a:=⟨1,[1],O,λx=>by rw [Pt]⟩
theorem Ed.nil(g:List Int):Ed g []:=⟨1,[],O,λx=>by show(((1)))*0=0*Zc g x;simp⟩
theorem Ed.trans{c:List Int} : Ed a b->Ed b c->Ed a c:=λ⟨k,s,g,h⟩ ⟨m,u,j,e⟩=>
 ⟨k*m,lmul u s,bD g j,λx=>by grind [Zz]⟩
theorem Ed.congr{g:List Int}(h:Ed g a)(e:∀x,Zc a x=Zc b x):Ed g b:=by obtain⟨k,s,j,h⟩:=h;exact⟨k,s,j,λx=>O4⟩
theorem Ed.congr_l{g j:List Int}(h:Ed g a)(e:∀x,Zc g x=Zc j x):Ed j a:=by obtain⟨k,s,l,h⟩:=h;exact⟨k,s,l,λx=>O4⟩
theorem Ed.sim{g:List Int}(h:Ed g a)(e:Sim a b):Ed g b:=by
 obtain⟨k,s,j,h⟩:=h;obtain⟨m,n,v,l,e⟩:=e;refine⟨k*n,s.map λc=>m*c,bD j l,λx=>?_⟩;have o:Zc (a.map λc=>m*c) x=Zc (b.map λc=>n*c) x:=Ng x _ _ λi=>by grind [Qt]
 grind [Zj]
theorem Ed.lin{g c:List Int}(j:Ed g a)(l:Ed g b)(s:List Int)(L:Int)(e:L≠0)(h:∀x,(L:Rat)*Zc c x=Zc s x*Zc a x+Zc b x):Ed g c:=by obtain⟨k,u,n,w⟩:=j;obtain⟨m,v,o,B⟩:=l;refine⟨L*(k*m),Ma ((lmul s u).map λc=>m*c) (v.map λc=>k*c),bD e (bD n o),λx=>?_⟩;grind [Xh,Zj,Zz]
theorem Zwi{g s:List Int}(G:k≠0)(F:Tr g)(B:Tr a)(v:a≠[])(h:∀x:Rat,(k:Rat)*Zc a x=Zc s x*Zc g x):g≠[]/\tzl s≠[]/\(tzl s).length+g.length<=a.length+1:=by
 have D:∀i,k*cf a i=(ps _*ps g).c i:=λi=>by have j:=Ml (p:=a.map λc=>k*c) (q:=lmul (tzl s) g) (λx=>by grind [Zj,Zz,Lk]) i;rw [Qt,El]at j;rw [j];rfl
 have o:∀i,k*cf a i=0->cf a i=0:=λi hi=>(Int.mul_eq_zero.1 hi).resolve_left G;have l:=B.mem v;have j:tzl s≠[]:=λe=>l (o _ (by simp_all [Ly,Yw,bH]));have n:g≠[]:=λe=>l (o _ (by simp_all [PS.mul_comm',Ly,Yw,bH]));refine⟨n,j,?_⟩;have I:=Bv (p:=tzl s) (q:=g) (a:=(tzl s).length-1) (b:=g.length-1) (λi hi=>Yw O) (λi hi=>Yw O);rw [<-D]at I;have H:=bD ((Qp s).mem j) (F.mem n);rcases aW ((tzl s).length-1+(g.length-1)) a.length with w|w
 .omega
 simp_all [Yw,dZ]
theorem Ed.len{g:List Int}(h:Ed g a)(l:Tr g)(j:Tr a)(e:a≠[]):g≠[]/\g.length<=a.length:=by obtain⟨k,s,n,h⟩:=h;obtain⟨o,v,w⟩:=Zwi n l j e h;grind [List.length_pos_iff]
theorem Ed.same{g:List Int}(h:Ed g a)(B:Tr g)(v:Tr a)(n:a≠[])(G:g.length=a.length):Ed a g:=by
 obtain⟨k,s,D,h⟩:=h;obtain⟨F,j,l⟩:=Zwi D B v n h;have e:=aL.2 j
 match hs:tzl s,e,l with
 | [c],_,_=>
  have w:=by have:=(Qp s).mem j;rw [hs]at this;exact this
  refine⟨c,[k],w,λx=>?_⟩;have o:=h x;rw [<-Lk s]at o;grind [Pt]
 | c::d::r,_,h9=>grind
theorem Zly:∀(n:Nat) (a b:List Int),Tr a->Tr b->b.length<=n->∃g A B:List Int,Tr g/\Ed g a/\Ed g b/\∀x,Zc g x=Zc A x*Zc a x+Zc B x*Zc b x
 | n,a,[],h,j,_=>⟨a,[1],[],h,Ed.refl a,Ed.nil a,λx=>by rw [Pt];show _=_+0*(0);grind⟩
 | 0,a,c::r,_,_,hl=>absurd hl O7
 | n+1,a,c::b',h,j,hl=>by
  have e:(c::b')≠[]:=O7;generalize c::b'=b at *;obtain⟨k,s,hs⟩:=Zav a e;have o:=Ii (j.mem e) k;generalize cf b _^k=L at hs o;have F:=Pq a e;obtain⟨g,A,B,v,l,w,G⟩:=Zly n b (Qr a b) j (Ip h) O;have D:∀x,(L)*Zc a x=Zc s x*Zc b x+Zc (Qr a b) x:=λx=>by have:=Dt L (-1) a s b (Qr a b) (λt=>O4) x;grind
  refine⟨g,B.map λc=>L*c,Ma A ((lmul B s).map λc=>(-1)*c),v,l.lin w s L o D,l,λx=>?_⟩;grind [Zj,Xh,Zz]
def Irr(q:List Int):Prop:=Tr q/\2<=q.length/\∀d,Tr d->Ed d q->d.length<=1\/d.length=q.length
def Zdj(h:2<=q.length):q≠[]:=λe=>O4
theorem Ygl:∀(n:Nat) (q:List Int),q.length<=n->Tr q->2<=q.length->∃p,Irr p/\Ed p q
 | 0,q,B,_,j=>O
 | n+1,q,B,o,j=>by
  by_cases h:Irr q
  .grind [Ed.refl]
  .have:∃d,Tr d/\Ed d q/\¬(d.length<=1\/d.length=q.length):=by refine bC λw=>h ⟨o,j,λd e g=>bC λv=>w ⟨d,e,g,v⟩⟩
   obtain⟨d,e,g,G⟩:=this;have D:=(g.len e o (Zdj j)).2;obtain⟨p,F,l⟩:=Ygl n d O e O;exact⟨p,F,l.trans g⟩
theorem Zdo (f:List Int)(h:List Int)(m:List Int)(N:Irr q)(M:k≠0)(e:∀x:Rat,(k:Rat)*(Zc f x*Zc h x)=Zc m x*Zc q x):Ed q f\/Ed q h:=by
 obtain⟨j,n,w⟩:=N;obtain⟨g,A,B,l,o,F,D⟩:=Zly _ q _ j (Qp f) (aI _);have I:=(o.len l j (Zdj n)).1;rcases w g l o with v|v
 .right
  match g,I,v,l,D with
  | [c],_,_,l,D=>
   have H:=l.mem O7;refine⟨c*k,Ma ((lmul A h).map λc=>k*c) (lmul B m),bD H M,λx=>?_⟩;grind [Pt,Lk,Xh,Zj,Zz]
  | c::d::r,_,h9,_,_=>grind
 .left;have G:=o.same l j (Zdj n) v;exact(G.trans F).congr λx=>Lk f x
def Cf(q:List Int):Nat->List Int
 | 0=>[1]
 | n+1=>Qx q (Cf q n)
theorem Zce{q:List Int}(j:Tr q)(g:2<=q.length):∀n,Tr (Cf q n)/\n+1<=(Cf q n).length
 | 0=>⟨.inr (show cf [1] 0≠0 by decide),aI _⟩
 | n+1=>by obtain⟨l,h⟩:=Zce j g n;refine⟨Qo _ _,?_⟩;show n+1+1<=(Qx q _).length;rw [Nz j l (Zdj g) (λe=>by rw [e]at h;simp at h)];omega
theorem Cd(q:List Int)(n:Nat)(x:Rat):Zc (Cf q (n+1)) x=Zc q x*Zc (Cf q n) x:=Xm _ _ _
theorem Zos(q:List Int):∀(n:Nat) (x:Rat),Zc (ld (Cf q (n+1))) x=((n:Rat)+1)*(Zc (Cf q n) x*Zc (ld q) x)
 | n,x=>by
  have e:Zc (ld (Cf q (n+1))) x=Zc (ld (lmul q (Cf q n))) x:=Ce _ _ (λy=>by rw [Cd,Zz]) x;rw [e,Cy]
  match n with
  | 0=>
   rw [show Zc (ld (Cf q 0)) x=0 from by rw [show Cf q 0=[1]from rfl,Zfl];show(0:Rat)+x*0=0;grind];simp;grind
  | n+1=>
   rw [Zos q n x,Cd];push_cast;grind
theorem Yd0{s g u:List Int}{c:Int}{k:Nat}(R:∀x:Rat,Zc p x=Zc s x*Zc g x)(B:∀d,Tr d->Ed d p->Ed d (ld p)->Ed d g)(S:Irr q)(G:Ed q s)(H:Ed q (ld s))(Q:Ed (Cf q k) g):Ed (Cf q (k+1)) g:=by
 obtain⟨h,o,D⟩:=S;obtain⟨l,n,V,e1⟩:=G;obtain⟨F,s2,W,e2⟩:=H;have d1:∀x:Rat,(l:Rat)*Zc (ld s) x=Zc (ld n) x*Zc q x+Zc n x*Zc (ld q) x:=λx=>by have:=Ce (s.map λa=>l*a) (lmul n q) (λy=>by grind [Zj,Zz]) x;grind [Ar,Cy]
 have I:Ed q n:=by
  rcases Zdo n (ld q) (Ma (s2.map λa=>l*a) ((ld n).map λa=>(-F)*a)) ⟨h,o,D⟩ W (λx=>by grind [Xh,Zj])with h9|h9
  .omega
  .exfalso;have M:Ed q (Xd q):=h9.congr λx=>(Ki q x).symm;have hl:=Nt q;have:=(M.len h (Mh h) (λe=>O4)).2;omega
 obtain⟨v,j,Z,e3⟩:=I;obtain⟨c,u,kc,eu⟩:=Q;have P:∀x:Rat,((l*v*c:Int):Rat)*Zc p x=Zc (lmul j u) x*Zc (Cf q (k+1+1)) x:=λx=>by grind [Zz,Cd]
 have w:l*v*c≠0:=bD (bD V Z) kc;generalize l*v*c=C at P w;have N:∀x:Rat,(C:Rat)*Zc (ld p) x=Zc (ld (lmul j u)) x*Zc (Cf q (k+1+1)) x+Zc (lmul j u) x*((((k+1:Nat):Rat)+1)*(Zc (Cf q (k+1)) x*Zc (ld q) x)):=λx=>by have:=Ce (p.map λa=>C*a) (lmul (lmul j u) (Cf q (k+1+1))) (λy=>by grind [Zj,Zz]) x;grind [Ar,Cy,Zos]
 refine B _ (Zce h o _).1 ⟨C,lmul (lmul j u) q,w,λx=>?_⟩ ⟨C,Ma (lmul (ld (lmul j u)) q) ((lmul (lmul j u) (ld q)).map λa=>((k+2:Nat):Int)*a),w,λx=>?_⟩
 .grind [Zz,Cd]
 .rw [N x,Xh,Zj,Zz _ (ld (lmul j u)),Zz _ (lmul j u),Cd q (k+1)];push_cast;grind
theorem Yd2{s g:List Int}(l:∀x:Rat,Zc p x=Zc s x*Zc g x)(F:Tr g)(w:g≠[])(j:∀d,Tr d->Ed d p->Ed d (ld p)->Ed d g)(G:Tr q)(B:Ed q s)(D:Ed q (ld s)):q.length<=1:=by
 refine bC λh=>?_;obtain⟨r,n,e⟩:=Ygl _ q (aI _) G O;have o:∀k,Ed (Cf r k) g:=λk=>by
  induction k with
  | zero=>exact⟨1,g,O,λx=>by rw [show Cf r 0=[1]from rfl,Pt];simp⟩
  | succ k H=>exact Yd0 (u:=[]) (c:=0) l j n (e.trans B) (e.trans D) H
 obtain⟨v,I⟩:=Zce n.1 n.2.1 g.length;have:=((o _).len v F w).2;omega
theorem Ync(o:Tr b)(g:b≠[])(h:Ed d a)(j:Ed d b):Ed d (Qr a b):=by
  obtain⟨k,s,hs⟩:=Zav a g;have n:=Ii (o.mem g) k;generalize cf b (b.length-1)^k=L at hs n;have v:∀x,(L:Rat)*Zc a x=Zc s x*Zc b x+Zc (Qr a b) x:=λx=>by have:=Dt L (-1) a s b (Qr a b) (λt=>by rw [hs t];omega) x;push_cast at this;grind
  have l:Ed d (a.map λc=>L*c):=by obtain⟨k,u,w,e⟩:=h;exact⟨k,u.map λc=>L*c,w,λx=>by rw [Zj,Zj];have:=e x;grind⟩
  exact j.lin l (s.map λc=>(-1)*c) 1 O3 λx=>by rw [Zj,Zj];push_cast;have:=v x;grind
theorem Ztr{d:List Int} : ∀(f:Nat) {a b:List Int},Tr a->Tr b->Ed d a->Ed d b->Ed d (eu f a b)
  | 0,a,b,_,_,e,_=>e
  | f+1,a,b,l,j,e,h=>by
    by_cases g:b=[]
    . rw [g,Zlg];exact e
    . rw [show eu (f + 1) a b = eu f b (Yu (Qr a b)) by
          conv=>lhs;unfold eu
          rw [aJ g]]
      have t1:=Ip (q:=b) l;exact Ztr f j (Xg t1) h ((Ync j g e h).sim (Qu t1).symm)
theorem Zkf{F:Nat}(e:Tr p)(g:Tr q)(h:Ed d p)(j:Ed d q):Ed d (Mt F p q):=by
  have l:=h.sim (Qu e).symm;have n:=j.sim (Qu g).symm;unfold Mt;refine Ed.sim ?_ (Iy _).symm;refine Ztr F (Zjp e g) (Zjo e g) ?_ ?_
  . unfold gA;split<;>assumption
  . unfold gB;split<;>assumption
theorem Zfd{F:Nat}(j:Tr xs)(l:xs≠[])(e:eok F (gA (Xr xs) (Xd (Xr xs))) (gB (Xr xs) (Xd (Xr xs))))(v:Tr q)(n:Ed q (sqf F xs))(o:Ed q (Xd (sqf F xs))):q.length<=1:=by
  obtain⟨f1,f2,f3,f4,f5,f6⟩:=Nf F j l e;have hs:Tr (Xr xs):=Nw (Xg j);have h:Tr (Xd (Xr xs)):=Mh hs;refine Yd2 (p:=Xr xs) (s:=sqf F xs) (g:=Mt F (Xr xs) (Xd (Xr xs))) (λx=>?_) (Zfc _ hs h) f5 (λd _ a b=>?_) v n (o.congr λx=>Ki _ x)
  . have:Zc (Xr xs) x=Zc (Qx (sqf F xs) (Mt F (Xr xs) (Xd (Xr xs)))) x:=by rw [<-f4]
    rw [this,Xm]
  . exact Zkf hs h a (b.congr λx=>(Ki _ x).symm)
theorem Za3:∀(l:List Int) (n z:Int),(l.foldl Me (n,z)).1=n+(l.foldl Me (0,z)).1
 | [],n,z=>O7
 | x::l,n,z=>by
  simp only [gC];by_cases h:x=0
  .have e:∀n,Me (n,z) x=(n,z):=λn=>by unfold Me;rw [aO h]
   rw [e,e];exact Za3 l n z
  .by_cases g:x=-z
   .have e:∀n,Me (n,z) x=(n+1,x):=λn=>by unfold Me;rw [aJ h,aO (by dsimp only;exact g)]
    rw [e,e,Za3 l (n+1) x,Za3 l (0+1) x];omega
   .have e:∀n,Me (n,z) x=(n,x):=λn=>by unfold Me;rw [aJ h,aJ (by dsimp only;exact g)]
    rw [e,e];exact Za3 l n x
theorem Yn7{x y:Int}{l:List Int}(n:y≠0):chg (x::y::l)=chg (y::l)+(if x=-y then 1 else 0):=by
 unfold chg;simp only [gC];have g:Me (0,0) y=(0,y):=by unfold Me;rw [aJ n,aJ (by dsimp only;omega)]
 rw [g];by_cases j:x=0
 .have e:Me (0,0) x=(0,0):=by unfold Me;rw [aO j]
  rw [e,g,aJ O];omega
 .have e:Me (0,0) x=(0,x):=by unfold Me;rw [aJ j,aJ (by dsimp only;omega)]
  rw [e];have o:Me (0,x) y=(if x=-y then 1 else 0,y):=by
   unfold Me;rw [aJ n];by_cases h:x=-y
   .rw [aO (by dsimp only;omega),aO h];rfl
   .rw [aJ (by dsimp only;omega),aJ h]
  rw [o,Za3];omega
def crs(f:Rat->Rat)(u v:Rat):Int:=if f u≠0/\f u*f v<=0 then 1 else 0
theorem Zip(s t:Rat):∀p:List Int,∃M:Rat,0<M/\∀x y,s<=x->x<=y->y<=t->
  -(M*(y-x)*(y-x))<=Zc p y-Zc p x-(y-x)*Zc (ld p) x/\Zc p y-Zc p x-(y-x)*Zc (ld p) x<=M*(y-x)*(y-x)
 | []=>⟨1,O3,λx y S V W=>by have:=aG (a:=y-x) (b:=y-x) O4 O4;show -(1*(y-x)*(y-x))<=(0:Rat)-0-(y-x)*0/\(0:Rat)-0-(y-x)*0<=1*(y-x)*(y-x);constructor<;>grind⟩
 | c::p=>by obtain⟨M,G,H⟩:=Zip s t p;obtain⟨L,Z,F⟩:=Cx s t p;obtain⟨K,B,D⟩:=Ym4 s t;refine⟨L+K*M,by have:=aV B G;grind,λx y hs h l=>?_⟩;obtain⟨n,o⟩:=H x y hs h l;obtain⟨I,N⟩:=F x y hs h l;obtain⟨v,w⟩:=D x hs O4;have j:0<=y-x:=O4;obtain⟨f1,f2⟩:=Zbz (q:=x) (Q:=K) (g:=Zc p y-Zc p x-(y-x)*Zc (ld p) x) (e:=M*(y-x)*(y-x)) v w n o O4;have P:=aG (a:=y-x) (b:=L*(y-x)-(Zc p y-Zc p x)) j O4;have R:=aG (a:=y-x) (b:=L*(y-x)+(Zc p y-Zc p x)) j O4;rw [Zfl,show Zc (c::p) y=(c:Rat)+y*Zc p y from rfl,show Zc (c::p) x=(c:Rat)+x*Zc p x from rfl];constructor<;>grind
theorem Yae(D:Tr a)(hb:Tr b)(h0:a≠[])(hc:∀q,Tr q->Ed q a->Ed q b->q.length<=1)(s t:Rat):∃ε:Rat,0<ε/\∀x,s<=x->x<=t->Big ε x (Zc a)\/Big ε x (Zc b):=by
 obtain⟨g,A,B,e,o,Z,j⟩:=Zly _ a b D hb (aI _);have hl:=hc g e o Z;have hg:=(o.len e D h0).1
 match g,hg,hl,e,j with
 | [c],_,_,e,j=>
  have n:c≠0:=e.mem O7;obtain⟨P,p1,p2⟩:=Zr9 s t A;obtain⟨Q,q1,q2⟩:=Zr9 s t B;obtain⟨ε,W,e2,e3⟩:=Gb (show(0:Rat)<1 by decide) (show 0<(P+Q)+(P+Q) by grind) (show(0:Rat)<1 by decide);refine⟨ε,W,λx hs F=>?_⟩;by_cases v:Big ε x (Zc a)
  .exact .inl v
  .by_cases w:Big ε x (Zc b)
   .exact .inr w
   .exfalso;obtain⟨G,H⟩:=Zdh v;obtain⟨I,M⟩:=Zdh w;obtain⟨N,R⟩:=p2 x hs F;obtain⟨S,V⟩:=q2 x hs F;obtain⟨u1,u2⟩:=Zbz N R G H O4;obtain⟨v1,v2⟩:=Zbz S V I M O4;have h4:=j x;rw [Pt]at h4;have l:(c:Rat)<=-1\/1<=(c:Rat):=by
     rcases lL n with h|h
     .left;have:((c:Int):Rat)<=((-1:Int):Rat):=by exact_mod_cast (show c<=-1 by omega)
      rwa [show(((-1:Int)):Rat)=-1 from rfl]at this
     .right;have:1<=c:=O;exact_mod_cast this
    rcases l with l|l<;>grind
 | c::d::r,_,h9,_,_=>simp at h9
theorem Big.near{ε x y:Rat}{f:Rat->Rat}(h:Big ε x f)(e:f x-f y<=ε/2)(g:f y-f x<=ε/2):Big (ε/2) y f:=by unfold Big at *;grind
theorem Zr4(x:Rat):Ep x=-1↔x<0:=by unfold Ep;grind
theorem Yet(x:Rat):Ep (-x)=- Ep x:=by unfold Ep;grind
theorem Zmi{g:Rat->Rat}(h:Ep (g x)≠0):vat (f::g::r) x=vat (g::r) x+(if Ep (f x)=- Ep (g x)then 1 else 0):=by exact Yn7 h
def Tay(s t M:Rat)(p:List Int):Prop:=∀x y,s<=x->x<=y->y<=t->-(M*(y-x)*(y-x))<=Zc p y-Zc p x-(y-x)*Zc (ld p) x/\Zc p y-Zc p x-(y-x)*Zc (ld p) x<=M*(y-x)*(y-x)
theorem Zhx  {f:Nat}  (ha:Tr a) (hb:Tr b) (R:cok f a b) {κ:Rat} (hκ:0<κ) (N:∀x,Zc (ld a) x=κ*Zc b x)
  {L L' M h:Rat} (e1:0<ε) (e2:∀x,s<=x->x<=t->Big ε x (Zc a)\/Big ε x (Zc b)) (l1:0<=L) (l2:Lip s t L (Zc a)) (b1:0<=L') (F:Lip s t L' (Zc b)) (m1:0<=M) (m2:Tay s t M a)
  (h5:0<h) (h3:h*(L+L')<=ε/2) (h7:h*M<=κ*ε/2) {u v:Rat} (hs:s<=u) (j:u<=v) (ht:v<=t) (hh:v-u<=h) :
  vat ((Mr f a b).map Zc) u-vat ((Mr f a b).map Zc) v=crs (Zc a) u v:=by
 have hL:∀w,u<=w->w<=v->L*(w-u)<=ε/2/\L'*(w-u)<=ε/2:=λw l o=>by
  have p1:=aG (a:=L) (b:=h-(w-u)) O4 O4;have p2:=aG (a:=L') (b:=h-(w-u)) O4 O4;have p3:=aG (a:=L) (b:=h) O4 O4;have p4:=aG (a:=L') (b:=h) O4 O4
  all_goals grind
 by_cases B:Big ε u (Zc a)
 .have S:∀w,u<=w->w<=v->Big (ε/2) w (Zc a):=λw l o=>by obtain⟨Z,x2⟩:=l2 u w hs l O4;have:=hL w l o;exact B.near O4 O4
  rw [Zfg ha hb R j (show 0<ε/2 by grind) S];have hv:=S v j O7;have:crs (Zc a) u v=0:=by
   unfold crs;refine aJ λ⟨_,h9⟩=>?_;obtain⟨Z,x2⟩:=l2 u v hs j ht;have a7:=hL v j O7;unfold Big at B hv;rcases B with V|V
   .have:0<Zc a v:=O4;have:=aV (show 0<Zc a u by grind) this;grind
   .have:0 < - Zc a v:=O4;have:=aV (show 0 < - Zc a u by grind) this;grind
  omega
 .have n:Big ε u (Zc b):=(e2 u hs O4).resolve_left B;have S:∀w,u<=w->w<=v->Big (ε/2) w (Zc b):=λw l o=>by obtain⟨Z,x2⟩:=F u w hs l O4;have:=hL w l o;exact n.near O4 O4
  have a0:b≠[]:=λe=>by rw [e]at n;unfold Big at n;have:Zc [] u=0:=rfl;grind
  obtain⟨g,hg,hd,b0,I,a2⟩:=Zlq R a0;have hT:=Zfg hb (Zb7 ha) I j (show 0<ε/2 by grind) S;obtain⟨r,hr,_,_,_⟩:=Zm0 u v g b (Mj a b) hb (Zb7 ha) I;rw [a2,hr];rw [hr]at hT;simp only [cI]at hT ⊢;have a3:∃σ:Rat,(σ=1\/σ=-1)/\ε<σ*Zc b u/\∀w,u<=w->w<=v->0<σ*Zc b w:=by
   unfold Big at n;rcases n with V|V
   .refine⟨1,.inl rfl,O4,λw l o=>?_⟩;obtain⟨Z,x2⟩:=F u w hs l O4;grind
   .refine⟨-1,.inr rfl,O4,λw l o=>?_⟩;obtain⟨Z,x2⟩:=F u w hs l O4;grind
  obtain⟨σ,W,a8,H⟩:=a3;have D:u<v->σ*Zc a u<σ*Zc a v:=λP=>by
   obtain⟨y1,y2⟩:=m2 u v hs j ht;rw [N u]at y1 y2;have hd:0<v-u:=O4;have z1:M*(v-u)<=κ*ε/2:=by have:=aG (a:=M) (b:=h-(v-u)) O4 O4;grind
   have z2:0<κ*(σ*Zc b u)-M*(v-u):=by have:=aV hκ (show 0<σ*Zc b u-ε by grind);have:=aV hκ e1;grind
   have z3:=aV hd z2;rcases W with rfl|rfl<;>grind
  have Q:∀w,u<=w->w<=v->Ep (Zc b w)≠0:=λw l o=>by
   have:=H w l o;rcases W with rfl|rfl
   all_goals grind [Ao,Ap]
  rw [Zmi (Q u O7 j),Zmi (Q v j O7),hT];have a6:∀w,u<=w->w<=v->(Ep (Zc a w)=- Ep (Zc b w)↔σ*Zc a w<0):=λw l o=>by
   have:=H w l o;rcases W with rfl|rfl
   all_goals grind [Ao,Zr4,Ap,Yet]
  rw [show(if Ep (Zc a u)=- Ep (Zc b u)then(1:Int)else 0)=if σ*Zc a u<0 then 1 else 0 from by grind];rw [show(if Ep (Zc a v)=- Ep (Zc b v)then(1:Int)else 0)=if σ*Zc a v<0 then 1 else 0 from by grind];have a4:crs (Zc a) u v=if σ*Zc a u<0/\¬σ*Zc a v<0 then 1 else 0:=by
   unfold crs;have a1:Zc a u*Zc a v=(σ*Zc a u)*(σ*Zc a v):=by all_goals grind
   have hz:Zc a u≠0↔σ*Zc a u≠0:=by rcases W with rfl|rfl<;>constructor<;>intro h9 h8<;>exact h9 O4
   have a5:(Zc a u≠0/\Zc a u*Zc a v<=0)↔(σ*Zc a u<0/\¬σ*Zc a v<0):=by
    rw [a1,hz];generalize V:σ*Zc a u=p at *;generalize hq:σ*Zc a v=q at *;constructor
    .intro ⟨n1,n2⟩;rcases(show u<v\/u=v by grind)with P|a9
     .have:=D P;rcases(show p<0\/0<p by grind)with G|G
      .refine⟨G,λn4=>?_⟩;have:=aV (show 0 < -p by grind) (show 0 < -q by grind);grind
      .have:=aV G (show 0<q by grind);grind
     .exfalso;have:q=p:=O4;rw [this]at n2;rcases(show p<0\/0<p by grind)with G|G
      .have:=aV (show 0 < -p by grind) (show 0 < -p by grind);grind
      .have:=aV G G;grind
    .intro ⟨n1,n2⟩;refine⟨O4,?_⟩;have:=aG (show 0<=-p by grind) (show 0<=q by grind);grind
   grind
  grind
theorem Zjt (κ:Rat){f:Nat}(w:Tr a)(B:Tr b)(G:a≠[])(g:cok f a b)(S:0<κ)(e:∀x,Zc (ld a) x=κ*Zc b x)(P:∀q,Tr q->Ed q a->Ed q b->q.length<=1) :
  ∃h:Rat,0<h/\∀u v,s<=u->u<=v->v<=t->v-u<=h->vat ((Mr f a b).map Zc) u-vat ((Mr f a b).map Zc) v=crs (Zc a) u v:=by
 obtain⟨ε,D,F⟩:=Yae w B G P s t;obtain⟨L,l1,W⟩:=Cx s t a;obtain⟨n,V,l⟩:=Cx s t b;obtain⟨M,Z,m2⟩:=Zip s t a;obtain⟨H,I,h3,h4⟩:=Gb (show(0)<1 by rfl) (show 0<L+n by grind) (show 0<ε/2 by grind);obtain⟨h,o,h6,N⟩:=Gb I Z (show 0<κ*ε/2 by grind [Rat.mul_pos]);refine⟨h,o,λu v hs j R Q=>Zhx w B g S e D F O4 W O4 l O4 m2 o ?_ N hs j R Q⟩;have:=aG (a:=L+n) (b:=H-h) O4 O4;grind
theorem Ygo:∀(n m:Nat) (f:Nat->Nat),(∀k,k<n->f k<m)->(∀a b,a<n->b<n->f a=f b->a=b)->n<=m
 | 0,_,_,_,_=>bH _
 | n+1,m,f,g,hi=>by
  have h:=g n O7;have:=Ygo n (m-1) (λk=>if f n<f k then f k-1 else f k) (λk o=>by
   grind) (λa b j l e=>by
   grind)
  omega
theorem php{n:Nat}{f:Nat->Nat}(h:m<n)(v:∀k,k<n->f k<m):∃a b,a<n/\b<n/\a≠b/\f a=f b:=by refine bC λj=>?_;have:=Ygo n m f v λa b l o e=>bC λg=>j ⟨a,b,l,o,g,e⟩;omega
def enc(B:Nat)(d:Nat->Nat):Nat->Nat
 | 0=>0
 | n+1=>enc B d n+d n*B^n
theorem Zp7{B:Nat}{d:Nat->Nat} : ∀n,(∀i,i<n->d i<B)->enc B d n<B^n
 | 0,_=>by simp [enc]
 | n+1,h=>by have j:=Zp7 n λi hi=>h i O;have e:=h n O7;have g:(d n+1)*B^n<=B*B^n:=aP _ e;rw [dK]at g;rw [dD,bW _ B];show enc B d n+d n*B^n<_;omega
theorem Zzu{B:Nat}{d e:Nat->Nat} : ∀n,(∀i,i<n->d i<B)->(∀i,i<n->e i<B)->enc B d n=enc B e n->∀i,i<n->d i=e i
 | 0,_,_,_,i,hi=>absurd hi (bK i)
 | n+1,g,j,h,i,hi=>by
  have v:=Zp7 n λi hi=>g i O;have D:=Zp7 n λi hi=>j i O;have h:enc B d n+d n*B^n=enc B e n+e n*B^n:=h;have w:0<B^n:=O;have o:d n=e n:=by
   have F:(enc B d n+d n*B^n)/B^n=d n:=by rw [kR _ _ w,dS v,bT]
   simp_all [kR,dS,bT]
  rcases aW i n with l|l
  .exact Zzu n (λi hi=>g i O) (λi hi=>j i O) (by rw [o]at h;omega) i l
  .rw [show i=n by omega];exact o
def dig(B k j:Nat):Nat:=k/B^j%B
theorem Zp8(B k:Nat):∀n,enc B (dig B k) n=k%B^n
 | 0=>by simp [enc,kS]
 | n+1=>by show enc B _ n+dig B k n*B^n=_;rw [Zp8 B k n,dD,mL];unfold dig;rw [bW]
theorem Zjs (C:Int){f:Nat->Int} : ∀n,(∀i,i<n->-C<=f i/\f i<=C)->-((n:Int)*C)<=Yf f n/\Yf f n<=(n:Int)*C
 | 0,_=>by simp [Fg]
 | n+1,h=>by have e:=Zjs _ n λi hi=>h i O;grind [Yr]
theorem Zms(f g:Nat->Int):∀n,Yf (λi=>f i-g i) n=Yf f n-Yf g n
 | 0=>by rfl
 | n+1=>by rw [Yr,Yr,Yr,Zms f g n];omega
theorem siegel{N M A:Nat}(R:M<N)(hA:0<A)(c:Nat->Nat->Int)(hc:∀i j,i<M->j<N->(c i j).natAbs<=A) :
  ∃x:Nat->Int,(∃j,j<N/\x j≠0)/\(∀j,j<N->(x j).natAbs<=(2*N*A)^M)/\∀i,i<M->Yf (λj=>c i j*x j) N=0:=by
 generalize S:(2*N*A)^M=X;generalize hW:N*(A*X)=W;let d:=λk j=>dig (X+1) k j;have hd:∀k j,d k j<=X:=λk j=>lZ (bI _ (mE X));let y:=λk i=>Yf (λj=>c i j*(d k j:Int)) N;have B:∀k i,i<M->-(W:Int)<=y k i/\y k i<=(W:Int):=λk i hi=>by
  have g:=Zjs ((A*X:Nat):Int) (f:=λj=>c i j*(d k j:Int)) N λj v=>by
   have h:=hc i j hi v;have F:(c i j*(d k j:Int)).natAbs<=A*X:=by simp_all [bQ,eH,aS]
   omega
  grind
 let e:=λk=>enc (2*W+1) (λi=>(y k i+(W:Int)).toNat) M;have o:∀k i,i<M->(y k i+(W:Int)).toNat<2*W+1:=λk i hi=>by have:=B k i hi;omega
 have w:(2*W+1)^M<(X+1)^N:=by
  have g:2*W+1<=(2*N*A)*(X+1):=by grind [Nat.mul_pos]
  have h:=fS g M;rw [Nat.mul_pow,S]at h;have F:(X+1)^(M+1)<=(X+1)^N:=cY O7 O;grind
 obtain⟨a,b,V,Z,l,hf⟩:=php (f:=e) w (λk _=>Zp7 M (o k));have D:=Zzu M (o a) (o b) hf;refine⟨λj=>(d a j:Int)-(d b j:Int),?_,λj _=>?_,λi hi=>?_⟩
 .refine bC λQ=>l ?_;have P:∀j,j<N->d a j=d b j:=λj v=>bC λG=>Q ⟨j,v,λh6=>G O4⟩;have H:=Zp8 (X+1) a N;have I:=Zp8 (X+1) b N;rw [bG V]at H;rw [bG Z]at I;have e3:∀n,n<=N->enc (X+1) (dig (X+1) a) n=enc (X+1) (dig (X+1) b) n:=λn=>by
   induction n with
   | zero=>intro _;rfl
   | succ n ih=>
    intro hn;have G:dig (X+1) a n=dig (X+1) b n:=P n O;show enc _ _ n+dig (X+1) a n*_=enc _ _ n+dig (X+1) b n*_;grind
  grind
 .grind
 .have g:Yf (λj=>c i j*((d a j:Int)-(d b j:Int))) N=y a i-y b i:=by rw [<-Zms];grind
  rw [g];have h:=D i hi;have F:=B a i hi;have h4:=B b i hi;omega
theorem Zhv(f:Nat->Int)(p:Nat):∀q,Yf f (p+q)=Yf f p+Yf (λk=>f (p+k)) q
 | 0=>by simp [Fg]
 | q+1=>by rw [<-iD,Yr,Yr,Zhv f p q];omega
def sft(a:List Int)(t k:Nat):Int:=if k<=t then cf a (t-k)else 0
theorem Zlp{U:List Int}{p:Nat}(h:U.length=p)(t:Nat):(ps U*ps a).c t=Yf (λk=>sft a t k*cf U k) p:=by rw [<-Zux,<-h];refine Xj λk _=>?_;unfold sft;split<;>grind
theorem Zdr{U:List Int}{p t:Nat}(h:U.length<=p)(j:p+a.length<=t+1):(ps U*ps a).c t=0:=by
 rw [PS.mul_c];refine Fu λk g=>?_;rw [Lh,Lh];rcases aW k U.length with e|e
 .rw [Yw (p:=a) O,dZ]
 .rw [Yw e,cP]
theorem Zhz (a:List Int)(b:List Int)(e:Nat){p q A:Nat}(B:0<A)(D:∀i,(cf a i).natAbs<=A)(F:∀i,(cf b i).natAbs<=A)(H:0<p+q)(I:p+a.length<=p+q+e)(P:q+b.length<=p+q+e) :
  ∃U V:List Int,U.length=p/\V.length=q/\((∃i,cf U i≠0)\/∃i,cf V i≠0)/\(∀i,(cf U i).natAbs<=(2*(p+q)*A)^(p+q-1))/\(∀i,(cf V i).natAbs<=(2*(p+q)*A)^(p+q-1))/\
   ∀t,e<=t->(ps U*ps a).c t+(ps V*ps b).c t=0:=by
 obtain⟨x,⟨j,Q,g⟩,w,G⟩:=siegel (N:=p+q) (M:=p+q-1) (A:=A) O B (λi j=>if j<p then sft a (e+i) j else sft b (e+i) (j-p)) (λi j _ _=>by
  split<;>unfold sft<;>split
  .exact D _
  .simp
  .exact F _
  .simp)
 have n:∀i,cf (mk p x) i=if i<p then x i else 0:=λi=>Ku _ _ _
 have o:∀i,cf (mk q λk=>x (p+k)) i=if i<q then x (p+i)else 0:=λi=>Ku _ _ _
 refine⟨mk p x,mk q λk=>x (p+k),Yz _ _,Yz _ _,?_,λi=>?_,λi=>?_,λt R=>?_⟩
 .rcases aW j p with h|h
  .exact .inl ⟨j,by rw [n,aO h];exact g⟩
  .exact .inr ⟨j-p,by rw [o,aO O,show p+(j-p)=j by omega];exact g⟩
 .rw [n];split
  .exact w i O
  .exact bH _
 .rw [o];split
  .exact w _ O
  .exact bH _
 .rcases aW (t-e) (p+q-1)with h|h
  .have v:=G (t-e) h;rw [show e+(t-e)=t by omega,Zhv]at v;rw [Zlp (Yz _ _),Zlp (Yz _ _),<-v];congr 1
   .exact Xj λk l=>by rw [aO l,n,aO l]
   .exact Xj λk l=>by rw [aJ O,o,aO l,show p+k-p=k by omega]
  .rw [Zdr (mF (Yz _ _)) O,Zdr (mF (Yz _ _)) O];rfl
theorem Yaf (t:Nat){U:List Int}{p X A:Nat}(h:U.length=p)(j:∀i,(cf U i).natAbs<=X)(l:∀i,(cf a i).natAbs<=A):((ps U*ps a).c t).natAbs<=p*(X*A):=by
 rw [Zlp h];have e:=Zjs ((X*A:Nat):Int) (f:=λk=>sft a t k*cf U k) p λk _=>by
  have:(sft a t k*cf U k).natAbs<=X*A:=by
   rw [bQ,bW];refine aS (j k) ?_;unfold sft;split
   .exact l _
   .simp
  omega
 have g:((p:Int)*((X*A:Nat):Int))=((p*(X*A):Nat):Int):=by push_cast;rfl
 rw [g]at e;omega
theorem Zfn (w:List Int)(q:List Int)(n:Nat)(h:∀x,Zc w x=Zc q x*Zc y x)(l:Tr y)(e:y≠[])(v:∀i,n<=i->cf w i=0):tzl q=[]\/(tzl q).length+y.length<=n+1:=by
 by_cases j:tzl q=[]
 .grind
 .have o:∀i,cf w i=(ps _*ps y).c i:=λi=>by rw [Ml (q:=lmul (tzl q) y) (λx=>by grind [Zz,Lk]) i,El];rfl
  have B:=Bv (p:=tzl q) (q:=y) (a:=(tzl q).length-1) (b:=y.length-1) (λi hi=>Yw O) (λi hi=>Yw O);have g:=bD ((Qp q).mem j) (l.mem e);grind
theorem Eb (v:List Int){f:List Int}(j:tzl v≠[])(h:∀x,Zc v x*Zc f x=0)(x:Rat):Zc f x=0:=by
 by_cases e:tzl f=[]
 .rw [<-Lk,e];rfl
 .rcases Zfn _ v 0 (λx=>by rw [Lk,h x];rfl) (Qp f) e (λi _=>Zc1 i)with g|g
  all_goals grind [List.length_pos_iff]
structure Inv (a b x y:List Int):Prop where
 ex:∃(α β γ:Int) (u' v' u v:List Int),α≠0/\β≠0/\γ≠0/\
  (∀t:Rat,(α:Rat)*Zc x t=Zc u' t*Zc a t+Zc v' t*Zc b t)/\(∀t:Rat,(β:Rat)*Zc y t=Zc u t*Zc a t+Zc v t*Zc b t)/\
  (∀t:Rat,Zc u' t*Zc v t-Zc u t*Zc v' t=(γ:Rat))/\(tzl v).length<=a.length-x.length+1/\(tzl v').length<=a.length-x.length+1
 xl:x.length<=b.length
 yl:y.length<x.length
theorem Zyb{x:List Int}{L:Int}(g:Tr y)(e:y≠[])(j:z.length<=x.length)(h:∀t:Rat,(L:Rat)*Zc x t=Zc q t*Zc y t+(c:Rat)*Zc z t):tzl q=[]\/(tzl q).length+y.length<=x.length+1:=
 Zfn (Ma (x.map λa=>L*a) (z.map λa=>(-c)*a)) _ _ (λt=>by grind [Xh,Zj]) g e λi hi=>by rw [Mz,Qt,Qt,Yw hi,Yw O];simp
theorem Ay{n:Nat}(g:(tzl p).length<=m)(j:(tzl q).length<=n)(i:Nat)(hi:m+n<=i+1):cf (lmul p q) i=0:=by have e:cf (lmul p q) i=cf (lmul (tzl p) (tzl q)) i:=Ml (λx=>by grind [Zz,Lk]) i;rw [e,El];have h:=Zdr (a:=tzl q) (t:=i) g O;assumption
def Zn8{n:Nat}(h:∀i,n<=i->cf p i=0):(tzl p).length<=n:=Zbb h
theorem Yao{n:Nat}(h:(tzl p).length<=n)(hi:n<=i):cf p i=0:=by rw [<-Hc];grind [Yw]
theorem Inv.next{x z':List Int}{L:Int}(F:Inv a b x y)(G:b.length<=a.length)(hx:Tr x)(N:Tr y)(B:y≠[])(hL:L≠0)(h:∀t:Rat,(L:Rat)*Zc x t=Zc q t*Zc y t+Zc z' t)(P:Sim z' z)(g:z.length<y.length):Inv a b y z:=by
 obtain⟨⟨α,β,γ,W,o,u,v,R,l,hγ,Z,w,e3,S,V⟩,xl,yl⟩:=F;obtain⟨m,n,hm,H,hs⟩:=P;have M:∀t:Rat,(m:Rat)*Zc z' t=(n:Rat)*Zc z t:=λt=>by
  have:=Ng t (z'.map λa=>m*a) (z.map λa=>n*a) λi=>by grind [Qt]
  grind [Zj]
 have D:∀t:Rat,((L*m:Int):Rat)*Zc x t=Zc (q.map λa=>m*a) t*Zc y t+(n:Rat)*Zc z t:=λt=>by grind [Zj]
 have I:=Zyb N B O D;have e:(tzl (q.map λa=>m*a)).length<=x.length-y.length+1:=by grind
 generalize hQ:(q.map λa=>m*a)=Q at *;have j:∀t:Rat,((n*(α*β):Int))*Zc z t=Zc (Ma (W.map λc=>(L*m*β)*c) ((lmul Q u).map λc=>(-α)*c)) t*Zc a t+Zc (Ma (o.map λc=>(L*m*β)*c) ((lmul Q v).map λc=>(-α)*c)) t*Zc b t:=λt=>by rw [Xh,Xh,Zj,Zj,Zj,Zj,Zz,Zz];grind
 refine⟨⟨β,n*(α*β),-(L*m*β*γ),u,v,_,_,l,bD H (bD R l),?_,w,j,λt=>?_,?_,?_⟩,O,g⟩
 .simp_all
 .rw [Xh,Xh,Zj,Zj,Zj,Zj,Zz,Zz];grind
 .refine Zn8 λi hi=>?_;rw [Mz,Qt,Qt,Yao (p:=o) V O,Ay e S i O];simp
 omega
theorem Inv.first{z':List Int}{L:Int}(l:b.length<=a.length)(I:Tr a)(o:Tr b)(g:b≠[])(G:L≠0)(h:∀t:Rat,(L:Rat)*Zc a t=Zc q t*Zc b t+Zc z' t)(F:Sim z' z)(e:z.length<b.length):Inv a b b z:=by
 obtain⟨m,n,M,v,hs⟩:=F;have D:∀t:Rat,(m:Rat)*Zc z' t=(n:Rat)*Zc z t:=λt=>by
  have:=Ng t (z'.map λa=>m*a) (z.map λa=>n*a) λi=>by grind [Qt]
  grind [Zj]
 have j:∀t:Rat,((L*m:Int):Rat)*Zc a t=Zc (q.map λa=>m*a) t*Zc b t+(n:Rat)*Zc z t:=λt=>by grind [Zj]
 have w:=Zyb o g O j;have B:(tzl (q.map λa=>m*a)).length<=a.length-b.length+1:=by grind
 generalize H:(q.map λa=>m*a)=Q at *;refine⟨⟨1,n,-(L*m),[],[1],[L*m],Q.map λc=>(-1)*c,O,v,?_,λt=>?_,λt=>?_,λt=>?_,?_,?_⟩,aI _,e⟩
 .simp_all
 .rw [Pt];show _=(0:Rat)*_+_;grind
 .grind [Pt,Zj]
 .rw [Pt,Pt];show(0:Rat)*_-_=_;grind
 .refine Zn8 λi hi=>?_;grind [Qt,Yao]
 grind [Nat.le_trans,Hm]
def Zgx{n:Nat}(h:Sz n a)(i:Nat):(cf a i).natAbs<=2^n:=dV ((Qs n _).1 (h i))
theorem Aq(h:tzl p=[])(x:Rat):Zc p x=0:=by rw [<-Lk,h];rfl
theorem tzl_ne(h:cf p i≠0):tzl p≠[]:=λe=>h ((Kx p).1 e i)
def nn_eq{x a b:Nat}(e:x<=b)(g:b<=a):b-x+1+(a-x+1)=a+b-2*x+2:=O
theorem Inv.bound{x:List Int}{n s:Nat}(hI:Inv a b x y)(I:b.length<=a.length)(ha:Tr a)(hx:Tr x)(hy:Tr y)(h0:y≠[])(hp:Xs y=1)(na:Sz n a)(nb:Sz n b)(hs:a.length+b.length-2*x.length+2<=2^s) :
  Pb y<=(s+1+n)*(a.length+b.length-2*x.length+2):=by
 obtain⟨⟨α,β,γ,u',v',u,v,hα,hβ,hγ,e1,e2,e3,l1,l2⟩,xl,yl⟩:=hI;have a6:=aL.2 h0;have a5:x≠[]:=λe=>O4;have D:a≠[]:=λe=>by grind
 obtain⟨U,V,lU,lV,W,bU,bV,hz⟩:=Zhz a b (x.length-1) (p:=b.length-x.length+1) (q:=a.length-x.length+1) (A:=2^n) (bR O) (Zgx na) (Zgx nb) O O O;have hv:a.length+1<=(tzl v).length+x.length:=by
  refine bC λB=>?_;have Q:∀i,cf (Ma (a.map λc=>γ*c) ((lmul y v').map λc=>β*c)) i=cf (lmul (tzl v) (x.map λc=>α*c)) i:=λi=>Ml (λt=>by grind [Xh,Zj,Zz,Lk]) i
  have o:=Q (a.length-1);rw [Mz,Qt,Qt,Ay (m:=y.length) (n:=a.length-x.length+1) (Hm _) l2 _ O,El]at o;have F:=Zdr (U:=tzl v) (a:=x.map λc=>α*c) (p:=(tzl v).length) (t:=a.length-1) (aI _) O4;rw [PS.mul_c]at F;have G:Yf (λk=>cf (tzl v) k*cf (x.map λc=>α*c) (a.length-1-k)) (a.length-1+1)=0:=F;rw [G]at o;have:=bD hγ (ha.mem D);omega
 have g:tzl v≠[]:=λe=>O4;have cR:∀i,cf (Ma (lmul U a) (lmul V b)) i=(ps U*ps a).c i+(ps V*ps b).c i:=λi=>by rw [Mz,El,El,PS.mul_c,PS.mul_c];rfl
 generalize hR:Ma (lmul U a) (lmul V b)=R at cR;have rR:∀t,Zc R t=Zc U t*Zc a t+Zc V t*Zc b t:=λt=>by grind [Xh,Zz]
 have lR:(tzl R).length<=x.length-1:=Zn8 λi hi=>O4;have hf:tzl (Ma (lmul U v) ((lmul u V).map λc=>(-1)*c))=[]:=by
  rcases Zfn (Ma (lmul R v) ((lmul y V).map λc=>(-β)*c)) (Ma (lmul U v) ((lmul u V).map λc=>(-1)*c)) (a.length-1) (y:=a) (λt=>by
   grind [Xh,Zj,Zz]) ha D (λi hi=>by
   rw [Mz,Qt,Ay lR l1 i O,Ay (m:=y.length) (n:=a.length-x.length+1) (Hm _) (aB (Hm _) (mF lV)) i O];simp)with B|B
  .omega
  .refine bC λh8=>?_;grind [List.length_pos_iff]
 have a4:∀t,Zc U t*Zc v t=Zc u t*Zc V t:=λt=>by have:=Aq hf t;grind [Xh,Zj,Zz]
 have a1:∀t,Zc R t*Zc v t=β*Zc y t*Zc V t:=λt=>by grind
 have hw:∀t,(γ:Rat)*Zc V t=Zc v t*Zc (Ma (lmul u' V) ((lmul v' U).map λc=>(-1)*c)) t:=λt=>by rw [Xh,Zj,Zz,Zz,<-e3 t];grind
 generalize Ma (lmul u' V) ((lmul v' U).map λc=>(-1)*c)=w at hw;have hV:tzl V≠[]:=λe=>by
  rcases W with⟨i,hi⟩|⟨i,hi⟩
  .refine hi (Ml (p:=U) (q:=[]) (λt=>?_) i▸Zc1 i);exact Eb v (f:=U) g (λt=>by grind [Aq]) t
  grind [tzl_ne]
 have a0:∃c:Int,c≠0/\∀t,Zc w t=(c:Rat):=by
  have j:tzl w≠[]:=λe=>hV ((Kx V).2 λi=>by have:=Ml (p:=V.map λc=>γ*c) (q:=[]) (λt=>by rw [Zj,hw t,Aq e];show _=(0:Rat);simp) i;grind [Qt,Zc1,Int.mul_eq_zero])
  rcases Zfn (V.map λc=>γ*c) w (a.length-x.length+1) (y:=tzl v) (λt=>by grind [Zj,Lk]) (Qp v) g (λi hi=>by grind [Qt,Yw])with B|B
  .grind
  .have h8:=aL.2 j;have h7:(tzl w).length=1:=O
   match M:tzl w,h7 with
   | [c],_=>
    refine⟨c,?_,λt=>by rw [<-Lk,M,Pt]⟩;have:=(Qp w).mem j;rw [M]at this;exact this
 obtain⟨c,P,M⟩:=a0;have h:Sim R y:=by
  refine⟨γ,β*c,hγ,bD hβ P,λi=>?_⟩;have:=Ml (p:=R.map λd=>γ*d) (q:=y.map λd=>(β*c)*d) (λt=>by
   rw [Zj,Zj];push_cast;have o:Zc (Ma (R.map λd=>γ*d) (y.map λd=>(-(β*c))*d)) t=0:=Eb v g (λt=>by grind [Xh,Zj]) t
   grind [Xh,Zj]) i
  grind [Qt]
 have Z:Sz ((s+1+n)*(a.length+b.length-2*x.length+2)) R:=λi=>by
  rw [cR];have c1:=Yaf i lU bU (Zgx na);have c2:=Yaf i lV bV (Zgx nb);have H:b.length-x.length+1+(a.length-x.length+1)=a.length+b.length-2*x.length+2:=nn_eq xl I;rw [<-H]at hs ⊢;generalize hN:b.length-x.length+1+(a.length-x.length+1)=N at *;generalize a3:(2*N*2^n)^(N-1)=X at *;have c3:((ps U*ps a).c i+(ps V*ps b).c i).natAbs<=N*(X*2^n):=by rw [<-hN,dK];omega
  refine(Qs _ _).2 (aY c3 ?_);have a2:0<X:=O4;have c4:N*(X*2^n)<(2*N*2^n)^N:=by
   have e:(2*N*2^n)^N=X*(2*N*2^n):=by grind [Nat.pow_succ,Nat.succ_eq_add_one]
   grind [Nat.mul_pos,Nat.pow_pos]
  have c5:2*N*2^n<=2^(s+1+n):=by rw [bM,dD];exact aP _ O
  grind [Nat.pow_le_pow_left,Nat.pow_mul,Nat.lt_of_lt_of_le]
 have o:tzl R≠[]:=λe=>by obtain⟨m,k,hm,S,e9⟩:=h;have:=e9 (y.length-1);rw [(Kx R).1 e,dZ]at this;exact bD S (hy.mem h0) this.symm
 have l:Sim (tzl R) y:=by obtain⟨m,k,hm,S,e9⟩:=h;exact⟨m,k,hm,S,λi=>by grind [Hc]⟩
 have F:=(Qu (Qp R)).trans l;have G:∀i,(cf y i).natAbs=(cf (Yu (tzl R)) i).natAbs:=λi=>by
  rcases Zrr (Xg (Qp R)) hy (λe=>o (aH (by grind [Yo]))) (Hs (Qp R) o) hp F with B|B
  all_goals grind
 exact Oc λi=>by rw [G];exact Ca Z.tzl i
def Zss(g e K:Nat):Prop:=∀l,l<=e->(l+1)*(K*(g+e-2*l+2)+1)<=65536
def Zuk{e g l:Nat}(h:l<=m):K*(e+g-2*m+2)<=K*(e+g-2*l+2):=bB _ O
theorem Zge{x:List Int}{C:Nat}(e:y≠[])(n:y.length<x.length)(g:Pb x<=C)(j:Pb y<=C)(h:(x.length+1)*(C+1)<=65536):Bc x y=0:=by have o:=aL.2 e;unfold Bc;have l:(x.length-y.length+1)*(Pb y+1)<=x.length*(C+1):=aS O O;grind
theorem Ycb{x:List Int}(n:Inv a b x y)(g:b.length<=a.length)(j:Tr x)(l:Tr y)(e:y≠[]):Inv a b y (Yu (Qr x y)):=by
 obtain⟨k,s,hs⟩:=Zav x e;have h:=Ii (l.mem e) k;generalize cf y _^k=L at hs h;have o:∀t,(L)*Zc x t=Zc s t*Zc y t+Zc (Qr x y) t:=λt=>by have:=Dt L (-1) x s y (Qr x y) (λt=>O4) t;grind
 exact n.next g j l e h o (Qu (Ip j)).symm (by simp_all [Yo,Pq])
theorem Zfs(h:Tr p):Yu p=[]\/Xs (Yu p)=1:=by
 by_cases e:p=[]
 .left;rw [e];rfl
 grind [Hs]
theorem Ba{x:List Int}(g:Tr x)(e:y≠[]):(Mj x y).length<y.length:=by simp_all [Zbn,Pq]
theorem Yca{x:List Int}(n:Inv a b x y)(j:b.length<=a.length)(g:Tr x)(h:Tr y)(e:y≠[]):Inv a b y (Mj x y)/\(Mj x y=[]\/Xs (Mj x y)=1):=by
 have B:=aL.2 e;have v:=n.yl;obtain⟨r1,r2,k,u,w⟩:=Zfi h e x.length x g O;have hs:=Zg0 x.length g h e O O;have l:Tr (Zg8 (Zbh x.length x y)):=Nq _ _;have o:Zcd y^k≠0:=Ii (by have:=Zfm h e;omega) _;constructor
 .refine n.next (z':=Zbh x.length x y) (q:=u) j g h e o (λt=>?_) ?_ (Ba g e)
  .have:=Dt (Zcd y^k) (-1) x u y (Zbh x.length x y) (λt=>O4) t;grind
  .rw [<-hs];exact Sim.trans ⟨1,-1,O,O,λi=>by grind [Zai]⟩ (Qu l).symm
 grind [Zfs]
theorem Zzt{a b:List Int}{n s K:Nat}(g:b.length<=a.length)(G:Tr a)(M:Sz n a)(N:Sz n b)(hs:a.length+b.length<=2^s)(D:s+1+n<=K)(F:Zss a.length b.length K) :
  ∀(f:Nat) (x y:List Int),Inv a b x y->Tr x->Tr y->(y=[]\/Xs y=1)->Pb x<=K*(a.length+b.length-2*x.length+2)->y.length<=f->eok f x y/\Pb (eu f x y)<=K*(a.length+b.length)
 | 0,x,y,e,v,w,H,o,R=>by have l:=e.yl;refine⟨aH O,aB o (bB _ (by have:=e.xl;omega))⟩
 | f+1,x,y,e,v,w,H,o,R=>by
  have B:=e.yl;have l:=e.xl;by_cases h:y=[]
  .subst h;refine⟨.inl rfl,?_⟩;exact aB o (bB _ O)
  .have P:=e.bound g G v w h (H.resolve_left h) M N (s:=s) O;have j:=aB P (aP _ D);have Q:=Zge h B o j (F _ l);have I:=Ip (q:=y) v;have S:=Zzt g G M N hs D F f y _ (Ycb e g v w h) w (Xg I) (Zfs I) (aB j (Zuk O)) (by rw [Yo];have:=Pq x h;omega);refine⟨.inr ⟨Q,S.1⟩,?_⟩;rw [show eu _ x y=eu f y (Yu (Qr x y)) by
     conv=>lhs;unfold eu
     grind]
   omega
theorem Yag{a b:List Int}{n s K:Nat}(j:b.length<=a.length)(H:Tr a)(N:Sz n a)(P:Sz n b)(hs:a.length+b.length<=2^s)(F:s+1+n<=K)(G:Zss a.length b.length K) :
  ∀(f:Nat) (x y:List Int),Inv a b x y->Tr x->Tr y->(y=[]\/Xs y=1)->Pb x<=K*(a.length+b.length-2*x.length+2)->y.length<=f->cok f x y/\∀p∈Mr f x y,Pb p<=K*(a.length+b.length)/\p.length<=a.length
 | 0,x,y,h,v,B,e,o,S=>by
  have w:=h.yl;have I:=h.xl;have g:y=[]:=aH O;refine⟨g,λp e=>?_⟩;have:p=x:=by unfold Mr at e;grind
  rw [this];exact⟨aB o (bB _ O),O⟩
 | f+1,x,y,h,v,B,e,o,S=>by
  have D:=h.yl;have w:=h.xl;by_cases g:y=[]
  .subst g;refine⟨.inl rfl,λp e=>?_⟩;rw [Bo]at e;have:p=x:=O4;rw [this];exact⟨aB o (bB _ O),O⟩
  .have Q:=h.bound j H v B g (e.resolve_left g) N P (s:=s) O;have l:=aB Q (aP _ F);have R:=Zge g D o l (G _ w);obtain⟨V,W⟩:=Yca h j v B g;have M:=Yag j H N P hs F G f y _ V B (Zb7 v) W (aB l (Zuk O)) (by have:=Ba v g;omega);refine⟨.inr ⟨R,O,M.1⟩,λp e=>?_⟩;unfold Mr at e;rw [aJ g]at e;rcases aU.1 e with rfl|e
   .exact⟨aB o (bB _ O),O⟩
   .exact M.2 p e
theorem Ym8{n s f:Nat}(j:b.length<a.length)(h:Tr a)(l:Tr b)(w:Sz n a)(B:Sz n b)(hs:a.length+b.length<=2^s)(F:s+1+n<=K)(H:Zss a.length b.length K)(I:(a.length+1)*(n+1)<=65536)(S:b.length<=f) :
  eok f a b/\Pb (eu f a b)<=K*(a.length+b.length):=by
 have Q:=Oc w;have R:=Oc B;have G:n<=K*(a.length+b.length):=aB (by omega:n<=K*1) (bB _ O);by_cases e:b=[]
 .subst e;cases f with
  | zero=>exact⟨rfl,by grind [Zlg]⟩
  | succ f=>exact⟨.inl rfl,by grind [Zlg]⟩
 .have V:=aL.2 e;obtain⟨g,rfl⟩:∃g,f=g+1:=⟨f-1,O⟩;have o:=Ip (q:=b) h;obtain⟨k,q,N⟩:=Zav a e;have v:=Ii (l.mem e) k;generalize cf b _^k=L at N v;have M:∀t,(L)*Zc a t=Zc q t*Zc b t+Zc (Qr a b) t:=λt=>by have:=Dt L (-1) a q b (Qr a b) (λt=>O4) t;grind
  have D:=Inv.first O h l e v M (Qu o).symm (by simp_all [Yo,Pq]);have P:=Zzt O h w B hs F H g b _ D l (Xg o) (Zfs o) (aB (by omega:Pb b<=K*1) (bB _ O7)) (by rw [Yo];have:=Pq a e;omega);refine⟨.inr ⟨Zge e j Q R I,P.1⟩,?_⟩;rw [show eu _ a b=eu g b (Yu (Qr a b)) by
    conv=>lhs;unfold eu
    grind]
  omega
theorem Yns{n s f:Nat}(w:b.length<a.length)(j:Tr a)(l:Tr b)(F:Sz n a)(G:Sz n b)(hs:a.length+b.length<=2^s)(I:s+1+n<=K)(N:Zss a.length b.length K)(P:(a.length+1)*(n+1)<=65536)(V:b.length<=f) :
  cok f a b/\∀p∈Mr f a b,Pb p<=K*(a.length+b.length)/\p.length<=a.length:=by
 have R:=Oc F;have S:=Oc G;have M:n<=K*(a.length+b.length):=aB (by omega:n<=K*1) (bB _ O);by_cases e:b=[]
 .subst e;have h:∀p∈Mr f a [],Pb p<=K*(a.length+([]:List Int).length)/\p.length<=a.length:=λp o=>by rw [Bo]at o;grind
  cases f with
  | zero=>exact⟨rfl,h⟩
  | succ f=>exact⟨.inl rfl,h⟩
 .have Z:=aL.2 e;obtain⟨g,rfl⟩:∃g,f=g+1:=⟨f-1,O⟩;obtain⟨r1,r2,k,u,W⟩:=Zfi l e a.length a j O;have B:=Zg0 a.length j l e O O;have D:Tr (Zg8 (Zbh a.length a b)):=Nq _ _;have v:Zcd b^k≠0:=Ii (by have:=Zfm l e;omega) _;have H:=by
   refine Inv.first (z':=Zbh a.length a b) (q:=u) O j l e v (λt=>?_) ?_ (Ba j e)
   .have:=Dt (Zcd b^k) (-1) a u b (Zbh a.length a b) (λt=>O4) t;grind
   .rw [<-B];exact Sim.trans ⟨1,-1,O,O,λi=>by grind [Zai]⟩ (Qu D).symm
  have o:Mj a b=[]\/Xs (Mj a b)=1:=by grind [Zfs]
  have Q:=Yag O j F G hs I N g b _ H l (Zb7 j) o (aB (by omega:Pb b<=K*1) (bB _ O7)) (by have:=Ba j e;omega);refine⟨.inr ⟨Zge e w R S P,O,Q.1⟩,λp o=>?_⟩;unfold Mr at o;grind
def al:List Int->List Int->List Int
 | [],g=>g
 | a::f,[]=>a::f
 | a::f,b::g=>(a+b)::al f g
def scl(c:Int)(f:List Int):List Int:=f.map (c*·)
def ddl(k:Nat):List Int->List Int
 | []=>[]
 | b::g=>(k:Int)*b::ddl (k+1) g
def dl(f:List Int):List Int:=ddl 1 f.tail
def xl:List Int->List Int
 | []=>[]
 | a::f=>0::a::f
def fc:Nat->Int
 | 0=>1
 | k+1=>((k:Int)+1)*fc k
def Gq:Nat->List Int->List Int->Int
 | k,a::f,b::g=>fc k*(a*b)+Gq (k+1) f g
 | _,_,_=>0
theorem Zpv(k:Nat)(f:List Int):Gq k f []=0:=by cases f<;>rfl
theorem Yjn(f:List Int):al f []=f:=by cases f<;>rfl
theorem Yaz:∀f g:List Int,al f g=al g f
 | [],g=>(Yjn g).symm
 | a::f,[]=>rfl
 | a::f,b::g=>by show(a+b)::al f g=(b+a)::al g f;rw [Yaz f g,kC]
theorem Zuw:∀f g h:List Int,al (al f g) h=al f (al g h)
 | [],g,h=>rfl
 | a::f,[],h=>rfl
 | a::f,b::g,[]=>rfl
 | a::f,b::g,c::h=>by show(a+b+c)::al _ h=(a+(b+c))::al f _;rw [Zuw f g h,Int.add_assoc]
instance:Std.Commutative al:=⟨Yaz⟩
instance:Std.Associative al:=⟨Zuw⟩
theorem Yeq(c:Int):∀f g,scl c (al f g)=al (scl c f) (scl c g)
 | [],g=>rfl
 | a::f,[]=>rfl
 | a::f,b::g=>by show c*(a+b)::scl c _=(c*a+c*b)::al (scl c f) (scl c g);rw [Yeq c f g,jW]
theorem Zx3(c d:Int):∀f,scl (c+d) f=al (scl c f) (scl d f)
 | []=>rfl
 | a::f=>by show(c+d)*a::scl _ f=(c*a+d*a)::al (scl c f) (scl d f);rw [Zx3 c d f,kY]
theorem Zin:∀f,scl 1 f=f
 | []=>rfl
 | a::f=>by show 1*a::scl 1 f=a::f;rw [Zin f,iG]
theorem Yia:∀k f g,ddl k (al f g)=al (ddl k f) (ddl k g)
 | k,[],g=>rfl
 | k,a::f,[]=>rfl
 | k,a::f,b::g=>by show(k)*(a+b)::ddl _ _=((k)*a+(k)*b)::al _ _;rw [Yia _ f g,jW]
theorem Zz6(c:Int):∀k f,ddl k (scl c f)=scl c (ddl k f)
 | k,[]=>rfl
 | k,a::f=>by show(k)*(c*a)::ddl _ (scl c f)=c*((k)*a)::scl c _;rw [Zz6 c _ f,Int.mul_left_comm]
theorem Zt6:∀k f,ddl (k+1) f=al f (ddl k f)
 | k,[]=>rfl
 | k,a::f=>by show((k+1))*a::ddl _ f=(a+(k)*a)::al f _;rw [Zt6 _ f];grind
def dl_al:∀f g,dl (al f g)=al (dl f) (dl g)
 | [],g=>rfl
 | a::f,[]=>(Yjn _).symm
 | a::f,b::g=>Yia 1 f g
def dl_scl(c:Int):∀f,dl (scl c f)=scl c (dl f)
 | []=>rfl
 | a::f=>Zz6 c 1 f
theorem dl_x:∀f,dl (xl f)=al f (xl (dl f))
 | []=>rfl
 | [a]=>by show(((1))*a::[])=[a];simp
 | a::b::f=>by show((1))*a::ddl _ _=(a+0)::al _ (ddl 1 (b::f));simp [Zt6,iG,bL]
def xl_al:∀f g,xl (al f g)=al (xl f) (xl g)
 | [],g=>rfl
 | a::f,[]=>rfl
 | a::f,b::g=>rfl
theorem xl_scl(c:Int):∀f,xl (scl c f)=scl c (xl f)
 | []=>rfl
 | a::f=>by show 0::c*a::scl c f=c*0::c*a::scl c f;simp
theorem Zcp:∀k f g,Gq k f g=Gq k g f
 | k,[],g=>(Zpv k g).symm
 | k,a::f,[]=>rfl
 | k,a::f,b::g=>by show fc k*(a*b)+Gq _ f g=fc k*(b*a)+Gq _ g f;rw [Zcp _ f g,iQ a b]
theorem Zlc:∀k f g h,Gq k (al f g) h=Gq k f h+Gq k g h
 | k,[],g,h=>by show Gq k g h=0+Gq k g h;omega
 | k,a::f,[],h=>(bL _).symm
 | k,a::f,b::g,[]=>rfl
 | k,a::f,b::g,c::h=>by show fc k*((a+b)*c)+Gq _ _ h=fc k*(a*c)+Gq _ f h+(fc k*(b*c)+Gq _ g h);rw [Zlc _ f g h];grind
theorem Zlb(k:Nat)(h f g:List Int):Gq k h (al f g)=Gq k h f+Gq k h g:=by grind [Zcp,Zlc]
theorem Zf7(c:Int):∀k f g,Gq k (scl c f) g=c*Gq k f g
 | k,[],g=>(dZ c).symm
 | k,a::f,[]=>(dZ c).symm
 | k,a::f,b::g=>by show fc k*(c*a*b)+Gq _ (scl c f) g=c*(fc k*(a*b)+Gq _ f g);rw [Zf7 c _ f g];grind
theorem Zpu(c:Int)(k:Nat)(f g:List Int):Gq k f (scl c g)=c*Gq k f g:=by grind [Zcp,Zf7]
theorem Yhh:∀k f g,Gq (k+1) f g=Gq k f (ddl (k+1) g)
 | k,[],g=>rfl
 | k,a::f,[]=>rfl
 | k,a::f,b::g=>by show((k)+1)*fc k*(a*b)+Gq _ f g=fc k*(a*(((k+1))*b))+Gq _ f _;rw [Yhh _ f g];grind
theorem fip_x:∀f g,Gq 0 (xl f) g=Gq 0 f (dl g)
 | [],g=>rfl
 | a::f,[]=>rfl
 | a::f,b::g=>by show fc 0*(0*b)+Gq 1 _ g=Gq 0 _ (ddl 1 g);simp [cP,dZ,mB,Yhh]
theorem Yhe(f g:List Int):Gq 0 f (xl g)=Gq 0 (dl f) g:=by grind [Zcp,fip_x]
def Mq:List Int->Nat->List Int->List Int
 | [],_,_=>[]
 | c::q,0,g=>al (scl c g) (xl (Mq q 0 g))
 | c::q,j+1,g=>al (xl (Mq q (j+1) g)) (Mq q j g)
def Hq:List Int->Nat->List Int->List Int
 | [],_,_=>[]
 | c::p,0,f=>al (scl c f) (Hq p 0 (dl f))
 | c::p,k+1,f=>al (Hq p (k+1) (dl f)) (Hq p k f)
theorem Zz3:∀q j g,dl (Mq q j g)=al (Mq q j (dl g)) (scl ((j:Int)+1) (Mq q (j+1) g))
 | [],j,g=>rfl
 | c::q,0,g=>by
  show dl (al _ _)=al (al _ _) (scl _ (al _ _));rw [dl_al,dl_scl,dl_x,Zz3 q 0 g,xl_al];rw [show((0:Nat):Int)+1=1 from rfl,Zin,Zin]
  ac_rfl
 | c::q,j+1,g=>by
  show dl (al _ _)=al (al _ _) (scl _ (al _ _));rw [dl_al,dl_x,Zz3 q _ g,Zz3 q j g,xl_al,xl_scl,Yeq];rw [show scl (((j+1:Nat))+1) (Mq q _ g)=al (scl ((j)+1) (Mq q (j+1) g)) (Mq q (j+1) g) by simp [Zx3,Zin]]
  grind
theorem Zi3:∀q j f g,Gq 0 f (Mq q j g)=Gq 0 (Hq q j f) g
 | [],j,f,g=>Zpv 0 f
 | c::q,0,f,g=>by show Gq 0 f (al _ _)=Gq 0 (al _ _) g;rw [Zlb,Zlc,Zpu,Zf7,Yhe,Zi3 q 0 _ g]
 | c::q,j+1,f,g=>by show Gq 0 f (al _ _)=Gq 0 (al _ _) g;rw [Zlb,Zlc,Yhe,Zi3 q _ _ g,Zi3 q j f g]
def wfa:Nat->Nat->Int
 | j,0=>1
 | j,k+1=>((j:Int)+1)*wfa (j+1) k
theorem Zn5:∀k j,0<wfa j k
 | 0,j=>by show(0)<1;omega
 | k+1,j=>fC O7 (Zn5 k _)
theorem Zla:∀(p q:List Int) (j:Nat) (f g:List Int) (K:Nat),p.length<=K->Gq 0 (Mq p 0 f) (Mq q j g)=Yf (λk=>wfa j k*Gq 0 (Hq q (j+k) f) (Hq p k g)) K
 | [],q,j,f,g,K,_=>by rw [Fu (λk h=>by show wfa j k*Gq 0 _ []=0;rw [Zpv,dZ])];rfl
 | c::p,q,j,f,g,K,hK=>by
  obtain⟨e,rfl⟩:∃e,K=e+1:=⟨K-1,O4⟩;have l:p.length<=e:=O4;have n:=Zla p q j f (dl g) (e+1) O;have w:=Zla p q (j+1) f g e l;show Gq 0 (al _ _) _=_;rw [Zlc,Zf7,fip_x,Zz3,Zlb,Zpu,n,Zi3];rw [La,La _];have o:Gq 0 (Hq q (j+0) f) (Hq (c::p) 0 g)=c*Gq 0 (Hq q j f) g+Gq 0 (Hq q j f) (Hq p 0 (dl g)):=by show Gq 0 (Hq q j f) (al _ _)=_;rw [Zlb,Zpu]
  have v:Yf (λk=>wfa j (k+1)*Gq 0 (Hq q (j+(k+1)) f) (Hq (c::p) (k+1) g)) e=Yf (λk=>wfa j (k+1)*Gq 0 (Hq q (j+(k+1)) f) (Hq p (k+1) (dl g))) e+((j)+1)*Yf (λk=>wfa (j+1) k*Gq 0 (Hq q (j+1+k) f) (Hq p k g)) e:=by rw [<-Mi,<-Db];refine Xj λk h=>?_;show _*Gq 0 _ (al _ _)=_;rw [Zlb];show((j)+1)*wfa _ k*_=((j)+1)*wfa _ k*_+_;grind
  show _=(1)*_+_;show _*_+((1)*_+_+_)=_;grind
theorem Zof(a:Int):0<=a*a:=by
 rcases Int.le_total 0 a with h|h
 .exact cZ h h
 .have:=cZ (show 0<=-a by omega) (show 0<=-a by omega);grind
theorem Zhl:∀k,1<=fc k
 | 0=>O3
 | k+1=>by have h:=Zhl k;show 1<=((k)+1)*fc k;have e:=jK (show(1:Int)<=(k)+1 by omega) h O3 O;omega
theorem Yhi(k:Nat)(f:List Int)(b:Int)(g:List Int):Gq k f (b::g)=fc k*(cf f 0*b)+Gq (k+1) f.tail g:=by
 cases f with
 | nil=>show(0)=fc k*(0*b)+Gq _ [] g;rw [cP,dZ];rfl
 | cons a f=>rfl
theorem Yix(f:List Int)(i:Nat):cf f.tail i=cf f (i+1):=by cases f<;>rfl
theorem Zpx:∀k (f e g:List Int),(∀i,cf f i=cf e i)->Gq k f g=Gq k e g
 | k,f,e,[],h=>by grind [Zpv]
 | k,f,e,b::g,h=>by rw [Yhi,Yhi,h 0,Zpx _ _ e.tail g λi=>by rw [Yix,Yix,h]]
theorem Zpw:∀k f,0<=Gq k f f
 | k,[]=>eV _
 | k,a::f=>by show 0<=fc k*(a*a)+Gq _ f f;have e:=Zpw (k+1) f;have g:=cZ (show 0<=fc k by have:=Zhl k;omega) (Zof a);omega
theorem Yhg:∀k f i,cf f i*cf f i<=Gq k f f
 | k,[],i=>by exact eV _
 | k,a::f,0=>by show a*a<=fc k*(a*a)+Gq _ f f;have e:=Zpw (k+1) f;have g:=eN (Zhl k) (Zof a);omega
 | k,a::f,i+1=>by show cf f i*cf f i<=fc k*(a*a)+Gq _ f f;have e:=Yhg (k+1) f i;have g:=cZ (show 0<=fc k by have:=Zhl k;omega) (Zof a);omega
def fcs:Nat->Nat->Int
 | k,0=>0
 | k,n+1=>fc k+fcs (k+1) n
theorem Yhp:∀n k,0<=fcs k n
 | 0,k=>eV _
 | n+1,k=>by have h:=Yhp n (k+1);have:=Zhl k;show 0<=fc k+fcs _ n;omega
theorem Yhf:∀n k (f:List Int) (A:Int),f.length<=n->(∀x∈f,x*x<=A)->0<=A->Gq k f f<=fcs k n*A
 | n,k,[],A,_,_,e=>cZ (Yhp n k) e
 | 0,k,a::f,A,h,_,_=>O4
 | n+1,k,a::f,A,h,hx,e=>by have j:=Yhf n (k+1) f A (by simpa using h) (λx g=>hx x (bN _ g)) e;have l:=fW (hx a (bX ..)) (show 0<=fc k by have:=Zhl k;omega);show fc k*(a*a)+Gq _ f f<=(fc k+fcs _ n)*A;rw [kY];omega
theorem Zxk:∀p k f,p.length<=k->Hq p k f=[]
 | [],k,f,_=>by all_goals rfl
 | c::p,0,f,h=>O4
 | c::p,k+1,f,h=>by
  show al _ _=[];have e:=by simpa using h
  rw [Zxk p _ _ O,Zxk p k _ e];rfl
theorem Yj0:∀p k f,p.length=k+1->Hq p k f=scl (cf p k) f
 | [],k,f,h=>O4
 | [c],0,f,h=>Yjn _
 | c::d::p,0,f,h=>O4
 | c::p,k+1,f,h=>by
  have e:=by simpa using h
  show al _ _=scl _ f;rw [Zxk p _ _ O,Yj0 p k f e];rfl
theorem Yi2:∀f g i,cf (al f g) i=cf f i+cf g i
 | [],g,i=>by rw [Yw (p:=[]) O7,mB];rfl
 | a::f,[],i=>by rw [Yw (p:=[]) O7,bL];rfl
 | a::f,b::g,0=>rfl
 | a::f,b::g,i+1=>Yi2 f g i
def Yi0(c:Int)(f:List Int)(i:Nat):cf (scl c f) i=c*cf f i:=Ze2 f _ (dZ c) i
theorem cf_xl0(f:List Int):cf (xl f) 0=0:=by cases f<;>rfl
theorem cf_xl(f:List Int)(i:Nat):cf (xl f) (i+1)=cf f i:=by cases f<;>rfl
theorem cf_Mq:∀p f i,cf (Mq p 0 f) i=(ps p*ps f).c i
 | [],f,i=>by rw [PS.mul_c,Fu (λk _=>by simp [Lh,Yw,cP])];rfl
 | c::p,f,0=>by show cf (al _ _) 0=_;rw [Yi2,Yi0,cf_xl0,PS.mul_c,La,bL];exact(bL _).symm
 | c::p,f,i+1=>by show cf (al _ _) _=_;rw [Yi2,Yi0,cf_xl,cf_Mq p f i,PS.mul_c,PS.mul_c,La _ (i+1)];refine aE _ (Xj λk e=>?_);show cf p k*cf f _=cf p k*cf f _;simp
theorem Yci{s v:List Int}{n L e:Nat}(hu:Tr u)(B:Tr v)(hs:Sz n s)(G:s≠[])(V:s.length<=L)(Q:fcs 0 L<=2^e*2^e)(h:s=Qx u v):Sz (n+e) u:=by
 have a0:v≠[]:=λe=>G (by grind [Zeq]);obtain⟨m,Z⟩:∃m,v.length=m+1:=⟨v.length-1,by grind [List.length_pos_iff]⟩;have w:cf v m≠0:=by
  rcases B with B|B
  all_goals grind
 have l:∀i,cf (Mq v 0 u) i=cf s i:=λi=>by rw [cf_Mq,h,Zax,Gj]
 have g:=Zla v v 0 u u (m+1) O;rw [Zpx 0 _ s _ l,Zcp,Zpx 0 _ s _ l,Yr,bT,Yj0 v m u Z,Zf7,Zpu]at g;have j:∀t,0<=Yf (λk=>wfa 0 k*Gq 0 (Hq v (0+k) u) (Hq v k u)) t:=λt=>by
  induction t with
  | zero=>exact eV _
  | succ t ih=>
   rw [Yr,bT];have:=cZ (show 0<=wfa 0 t by have:=Zn5 t 0;omega) (Zpw 0 (Hq v t u));omega
 have hr:=j m;have P:1<=cf v m*cf v m:=by have h1:=Zof (cf v m);grind [Int.mul_eq_zero]
 have R:=Zpw 0 u;have h3:Gq 0 u u<=cf v m*(cf v m*Gq 0 u u):=by have:=eN P R;grind
 have h4:=by have:=eN (show 1<=wfa 0 m from Zn5 m 0) (show 0<=cf v m*(cf v m*Gq 0 u u) by omega);omega
 intro i;rw [Qs];have h5:=Yhg 0 u i;have M:∀x∈s,x*x<=(2^n-1)*(2^n-1):=λx hx=>by
  have hb:x.natAbs<2^n:=(Qs n _).1 (hs.mem hx);have N:((2^n:Nat):Int)=2^n:=by rfl
  have p1:x<=2^n-1:=O;have p2:-(2^n-1)<=x:=O;generalize (2:Int)^n-1=y at *;have:=cZ (show 0<=y-x by omega) (show 0<=y+x by omega);grind
 have hp:(1:Int)<=2^n:=by exact_mod_cast bR (n:=n) (show 0<2 by omega)
 have F:(1:Int)<=2^e:=by exact_mod_cast bR (n:=e) (show 0<2 by omega)
 have h6:=Yhf L 0 s _ V M (cZ O O);have h7:=by have:=eN Q (show(0:Int)<=(2^n-1)*(2^n-1)from cZ O O);omega
 rcases aW (cf u i).natAbs (2^(n+e))with W|S
 .omega
 .exfalso;have D:(2^n*2^e:Int)<=((cf u i).natAbs:Int):=O4;have I:((cf u i).natAbs:Int)*((cf u i).natAbs:Int)=cf u i*cf u i:=Int.natAbs_mul_self;have o:=jK D D (cZ O O) O7;rw [I]at o;generalize (2:Int)^n=X at *;generalize (2:Int)^e=Y at *;have H:(Y*Y)*((X-1)*(X-1))<(Y*Y)*(X*X):=by have hy:=jK F F O O;refine Int.mul_lt_mul_of_pos_left ?_ O;grind
  grind
end Go.Sky

