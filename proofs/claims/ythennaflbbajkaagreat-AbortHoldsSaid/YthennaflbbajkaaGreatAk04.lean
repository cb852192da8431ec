/- Rules, arithmetic and contracts: part 5. No conditions but those that each theorem names. -/
import Derived.Test.YthennaflbbajkaaGreatAk03
set_option linter.all false
namespace Go.Sky
variable{s x η ε t δ:Rat}{a u b y q z xs p d:List Int}{f:Rat->Rat}{k Y c:Int}{fs r:List (Rat->Rat)}{ls:List (List Int)}{i K:Nat}
abbrev RWL:=List (Bool×ByteArray)
def smallR(r:RWL):Bool:=decide (r.length<=8) && r.all λc=>decide (c.2.size<=6)
noncomputable def dec (r:RWL):List Int:=if h:okP r=true then(okP_ex h).choose else []
noncomputable def bdE (r:RWL):Int:=if okP r=true then Zyc (dec r)else 2
noncomputable def bdZ (r:RWL):Int:=if bdE r=0 then sbound (dec r)else 0
def firstE(r:RWL)(x y e g:Int):Int:=if okP r=true then(if r.length=0\/0<x*g-e*y then 3 else 0)else 2
def chke:Nat->Nat->Nat->Nat->Nat->Bool
 | 0,e,_,A,_=>Nat.ble (A+e*64) 65500
 | f+1,e,g,A,B=>Nat.ble (A+e*64) 65500 && (Nat.beq g 0 || (List.range g).all λl=>chke f g l B (bif Nat.ble l 1 then 2 else A+(e-g+1)*B))
inductive SV:List Int->List Int->Prop
 | one (a:Int):SV [a] [a]
 | step (a:Int) (r t:List Int):SV r t->SV (a::r) (a::t)
 | skip (a u w:Int) (r t:List Int):(a=1\/a=-1)->(-1<=u/\u<=1)->(-1<=w/\w<=1)->SV (-a::r) (-a::t)->SV (a::u::-a::r) (a::w::-a::t)
theorem Zou{s:Int×Int}{a u:Int}(g:a=1\/a=-1)(h:-1<=u/\u<=1):Mo (Mo (Mo s a) u) (-a)=Mo (Mo s a) (-a):=by obtain⟨n,l⟩:=s;have e:u=-1\/u=0\/u=1:=O1;rcases g with rfl|rfl<;>rcases e with rfl|rfl|rfl<;>simp [Mo]
theorem SV.fold(h:SV a b):∀s,a.foldl Mo s=b.foldl Mo s:=by
 induction h with
 | one a=>intro s;rfl
 | step a r t _ e=>intro s;exact e (Mo s a)
 | skip a u w r t g j l _ e=>
  intro s;show(r.foldl Mo (Mo (Mo (Mo s a) u) (-a)))=(t.foldl Mo (Mo (Mo (Mo s a) w) (-a)));rw [Zou g j,Zou g l];exact e (Mo s a)
def SV.chg(h:SV a b):chg a=chg b:=aH Prod.fst (h.fold (0,0))
def Dk(x:Rat):Int:=if x<0 then -1 else if x=0 then 0 else 1
theorem Ygj:-1<=Dk x/\Dk x<=1:=by unfold Dk;split;decide;split<;>decide
theorem Zah(h:0<x):Dk x=1:=by unfold Dk;rw [aF O5,aF O5]
theorem Zai(h:x<0):Dk x=-1:=by unfold Dk;rw [aO h]
def Big(η x:Rat)(f:Rat->Rat):Prop:=η<f x\/f x < -η
def Tri(η x:Rat):(Rat->Rat)->List (Rat->Rat)->Prop
 | _,[]=>True
 | _,[g]=>Big η x g
 | f,g::k::r=>(Big η x g/\Tri η x g (k::r))\/(Big η x k/\f x*k x<0/\Tri η x k r)
def Near(η x y:Rat)(f:Rat->Rat):Prop:=f x-f y<=η/\f y-f x<=η
theorem Zsb{y:Rat}(g:0<=η)(h:Big η x f)(e:Near η x y f):Dk (f x)=Dk (f y)/\(Dk (f x)=1\/Dk (f x)=-1):=by
 obtain⟨j,l⟩:=e;rcases h with h|h
 .rw [Zah O5,Zah O5];exact⟨rfl,.inl rfl⟩
 .rw [Zai O5,Zai O5];exact⟨rfl,.inr rfl⟩
theorem opp_sg{a b:Rat}(h:a*b<0):Dk b=- Dk a:=by
 rcases(show a<0\/a=0\/0<a by grind)with g|g|g
 .rw [Zai g,Zah (by
   rcases(show b<=0\/0<b by grind)with e|e
   .have:=aD (a:=-a) (b:=-b) O5 O5;grind
   .exact e)];rfl
 .subst g;grind
 .rw [Zah g,Zai (by
   rcases(show 0<=b\/b<0 by grind)with e|e
   .have:=aD (a:=a) (b:=b) O5 e;grind
   .exact e)]
theorem Zo9{η x y:Rat}(m:0<=η):∀(n:Nat) (f:Rat->Rat) (fs:List (Rat->Rat)),fs.length<=n->Big η x f->(∀g∈f::fs,Near η x y g)->Tri η x f fs->
  SV ((f::fs).map λg=>Dk (g x)) ((f::fs).map λg=>Dk (g y))
 | _,f,[],_,B,e,_=>by have:=(Zsb m B (e f (bX ..))).1;simp only [cP,jG,this];exact SV.one _
 | 0,f,g::r,D,_,_,_=>absurd D O8
 | n+1,f,[g],D,B,e,o=>by have w:=(Zsb m B (e f (bX ..))).1;have h:=Zo9 m n g [] O8 o (λk v=>e k (bN _ v)) aA;rw [cP,cP,w];exact SV.step _ _ _ h
 | n+1,f,g::k::r,D,B,e,o=>by
  have w:=Zsb m B (e f (bX ..));rcases o with⟨H,o⟩|⟨v,M,o⟩
  .have h:=Zo9 m n g (k::r) (by simp at D ⊢;omega) H (λk v=>e k (bN _ v)) o;rw [cP (l:=g::k::r),cP (l:=g::k::r),w.1];exact SV.step _ _ _ h
  .have h:=Zo9 m n k r (by simp at D ⊢;omega) v (λj I=>e j (bN _ (bN _ I))) o;have F:=(Zsb m v (e k O8)).1;have G:=opp_sg M;rw [cP (l:=r),cP (l:=r)]at h;simp only [cP];rw [<-F]at h ⊢;rw [G]at h ⊢;rw [<-w.1];exact SV.skip _ _ _ _ _ w.2 Ygj Ygj h
structure Lnk (η x:Rat) (f g k:Rat->Rat):Prop where
 big:¬Big η x g->Big η x k
 opp:¬Big η x g->f x*k x<0
def Lnks(η x:Rat):(Rat->Rat)->List (Rat->Rat)->Prop
 | _,[]=>True
 | _,[g]=>Big η x g
 | f,g::k::r=>Lnk η x f g k/\Lnks η x g (k::r)
theorem Zl1{η x:Rat} : ∀(n:Nat) (f:Rat->Rat) (fs:List (Rat->Rat)),fs.length<=n->Lnks η x f fs->Tri η x f fs
 | _,f,[],_,_=>trivial
 | 0,f,g::r,l,_=>absurd l O8
 | n+1,f,[g],_,h=>h
 | n+1,f,[g,k],l,h=>by
  by_cases e:Big η x g
  .exact .inl ⟨e,h.2⟩
  .exact .inr ⟨h.1.big e,h.1.opp e,aA⟩
 | n+1,f,g::k::j::r,l,h=>by
  by_cases e:Big η x g
  .exact .inl ⟨e,Zl1 n g (k::j::r) (by simp at l ⊢;omega) h.2⟩
  .exact .inr ⟨h.1.big e,h.1.opp e,Zl1 n k (j::r) (by simp at l ⊢;omega) h.2.2⟩
def Rl3(s t:Rat)(f g k:Rat->Rat):Prop:=∃m n Q:Rat,0<m/\0<n/\0<Q/\∀x,s<=x->x<=t->∃q,-Q<=q/\q<=Q/\m*f x=q*g x-n*k x
def Rl2(s t:Rat)(f g:Rat->Rat):Prop:=∃m Q:Rat,0<m/\0<Q/\∀x,s<=x->x<=t->∃q,-Q<=q/\q<=Q/\m*f x=q*g x
def Rls(s t:Rat):(Rat->Rat)->List (Rat->Rat)->Prop
 | _,[]=>True
 | f,[g]=>Rl2 s t f g
 | f,g::k::r=>Rl3 s t f g k/\Rls s t g (k::r)
theorem Zcm{q Q g e:Rat}(h:-Q<=q)(j:q<=Q)(l:-e<=g)(m:g<=e)(n:0<=Q):q*g<=Q*e/\-(Q*e)<=q*g:=by
 have a:=aD (a:=Q-q) (b:=e+g) O5 O5;have b:=aD (a:=Q+q) (b:=e-g) O5 O5;have c:=aD (a:=Q-q) (b:=e-g) O5 O5;have d:=aD (a:=Q+q) (b:=e+g) O5 O5
 all_goals grind
theorem Zd8{g:Rat->Rat}(h:¬Big η x g):-η<=g x/\g x<=η:=by unfold Big at h;all_goals grind
theorem Zyn{g:Rat->Rat}(h:η<=ε)(e:Big ε x g):Big η x g:=by unfold Big at *;grind
theorem Gn{a b:Rat}(h:0<ε)(g:0<a)(j:0<b):∃e:Rat,0<e/\e<=ε/\e*a<=b:=by have l:=aT j (fP.2 g);have m:b*a⁻¹*a=b:=O5;grind [Rat.mul_le_mul_of_nonneg_right]
theorem pair3{g k:Rat->Rat}(h:Rl3 s t f g k)(H:0<ε)(R:∀x,s<=x->x<=t->Big ε x f\/Big ε x g) :
  ∃e,0<e/\(∀x,s<=x->x<=t->Big e x g\/Big e x k)/\∀η,0<η->η<=e->∀x,s<=x->x<=t->Lnk η x f g k:=by
 obtain⟨m,n,Q,G,hn,hQ,S⟩:=h;obtain⟨e,M,e2,e3⟩:=Gn H (show 0<Q+n by grind) (Rat.mul_pos G H);have o:∀η,0<η->η<=e->∀x,s<=x->x<=t->¬Big η x g->Big η x k/\f x*k x<0:=λη B v x hs l j=>by
  obtain⟨q,V,W,q3⟩:=S x hs l;obtain⟨N,P⟩:=Zd8 j;obtain⟨p1,p2⟩:=Zcm V W N P O5;have F:Big ε x f:=(R x hs l).resolve_right λh=>j (Zyn O5 h);have Z:η*(Q+n)<=m*ε:=by have:=dK v (show 0<=Q+n by grind);grind
  rcases F with F|F
  .have I:m*ε<m*f x:=by have:=aT G (show 0<f x-ε by grind);grind
   have w:k x < -η:=by
    rcases(show k x < -η\/-η<=k x by grind)with D|D
    .omega
    .have:=aD (a:=n) (b:=k x+η) O5 O5;grind
   refine⟨.inr w,?_⟩;have:=aT (a:=f x) (b:=- k x) O5 O5;grind
  .have I:m*f x < - (m*ε):=by have:=aT G (show 0 < -ε-f x by grind);grind
   have d2:n*η<n*k x:=O5;have w:η<k x:=by
    rcases(show η<k x\/k x<=η by grind)with D|D
    .omega
    .have:=aD (a:=n) (b:=η-k x) O5 O5;grind
   refine⟨.inl w,?_⟩;have:=aT (a:=- f x) (b:=k x) O5 O5;grind
 refine⟨e,M,λx hs l=>?_,λη B v x hs l=>⟨λj=>(o η B v x hs l j).1,λj=>(o η B v x hs l j).2⟩⟩;grind
theorem pair2{g:Rat->Rat}(h:Rl2 s t f g)(n:0<ε)(H:∀x,s<=x->x<=t->Big ε x f\/Big ε x g) :
  ∃e,0<e/\∀η,0<η->η<=e->∀x,s<=x->x<=t->Big η x g:=by
 obtain⟨m,Q,l,G,I⟩:=h;obtain⟨e,w,R,S⟩:=Gn n G (aT l n);refine⟨e,w,λη V F x hs v=>?_⟩;by_cases o:Big η x g
 .omega
 .obtain⟨q,M,N,q3⟩:=I x hs v;obtain⟨B,D⟩:=Zd8 o;obtain⟨W,Z⟩:=Zcm M N B D O5;have j:=(H x hs v).resolve_right λh=>o (Zyn O5 h);have P:η*Q<=m*ε:=by have:=dK F (show 0<=Q by grind);grind
  rcases j with j|j
  .have:=aT l (show 0<f x-ε by grind);grind
  .have:=aT l (show 0 < -ε-f x by grind);grind
theorem Zub{s t:Rat} : ∀(n:Nat) (f:Rat->Rat) (fs:List (Rat->Rat)) (ε:Rat),fs.length<=n->Rls s t f fs->0<ε->(∀g r,fs=g::r->∀x,s<=x->x<=t->Big ε x f\/Big ε x g)->
  ∃e,0<e/\∀η,0<η->η<=e->∀x,s<=x->x<=t->Lnks η x f fs
 | _,f,[],ε,_,_,m,_=>⟨ε,m,λ_ _ _ _ _ _=>trivial⟩
 | 0,f,g::r,ε,hl,_,_,_=>absurd hl O8
 | n+1,f,[g],ε,_,h,m,F=>pair2 h m (F g [] rfl)
 | n+1,f,g::k::r,ε,hl,h,m,F=>by
  obtain⟨e,G,I,H⟩:=pair3 h.1 m (F g _ rfl);obtain⟨w,B,l⟩:=Zub n g _ e (by simp at hl ⊢;omega) h.2 G (λN P D=>by injection D with j v;subst j;exact I)
  rcases(show e<=w\/w<=e by grind)with M|M
  .exact⟨e,G,λη j v x hs o=>⟨H η j v x hs o,l η j O5 x hs o⟩⟩
  .exact⟨w,B,λη j v x hs o=>⟨H η j O5 x hs o,l η j v x hs o⟩⟩
def Lip(s t L:Rat)(f:Rat->Rat):Prop:=∀x y,s<=x->x<=y->y<=t->f x-f y<=L*(y-x)/\f y-f x<=L*(y-x)
def vat(fs:List (Rat->Rat))(x:Rat):Int:=chg (fs.map λg=>Dk (g x))
theorem Ym9{L:Rat}(D:0<L)(H:∀g∈f::fs,Lip s t L g)(o:0<δ)(n:∀x,s<=x->x<=t->Big δ x f)(I:Rls s t f fs) :
  ∃h,0<h/\∀x y,s<=x->x<=y->y<=t->y-x<=h->vat (f::fs) x=vat (f::fs) y:=by
 obtain⟨e,v,w⟩:=Zub _ f fs δ (aI _) I o (λg r _ x hs M=> .inl (n x hs M));obtain⟨η,m,R,S⟩:=Gn o (show(0)<1 by rfl) v;obtain⟨h,B,P,Q⟩:=Gn m D m;refine⟨h,B,λx y j l N G=>SV.chg ?_⟩;refine Zo9 O5 _ f fs (aI _) (Zyn O5 (n x j O5)) (λg F=>?_) (Zl1 _ _ _ (aI _) (w η m O5 x j O5));obtain⟨a,b⟩:=H g F x y j l N;have:=dK G (show 0<=L by grind);exact⟨O5,O5⟩
theorem Ycn{L:Rat}(I:0<L)(P:∀g∈f::fs,Lip s t L g)(N:0<δ)(M:∀x,s<=x->x<=t->Big δ x f)(R:Rls s t f fs)(v:s<=t) :
  vat (f::fs) s=vat (f::fs) t:=by
 obtain⟨h,G,B⟩:=Ym9 I P N M R;have w:∀n:Nat,∀y,s<=y->y<=t->y-s<=(n:Rat)*h->vat (f::fs) s=vat (f::fs) y:=λn=>by
  induction n with
  | zero=>
    intro y e j l;have:y=s:=by simp at l;grind
    rw [this]
  | succ n F=>
   intro y e j l;have D:((n+1:Nat):Rat)*h=(n:Rat)*h+h:=by push_cast;grind
   rcases(show y-s<=(n:Rat)*h\/(n:Rat)*h<y-s by grind)with m|m
   .exact F y e j m
   .have H:(0:Rat)<=(n:Rat)*h:=aD (by exact_mod_cast bI n) O5;rcases(show s<=y-h\/y-h<s by grind)with o|o
    .rw [F (y-h) o O5 O5];exact B (y-h) y o O5 j O5
    .exact B s y O5 e j O5
 have e:∃n:Nat,t-s<=(n:Rat)*h:=by
  have j:0<h⁻¹:=fP.2 G;refine⟨((t-s)*h⁻¹).ceil.toNat,?_⟩;have l:=@nI ((t-s)*h⁻¹);have D:((((t-s)*h⁻¹).ceil:Int):Rat)<=((((t-s)*h⁻¹).ceil.toNat:Nat):Rat):=by have:((t-s)*h⁻¹).ceil<=((((t-s)*h⁻¹).ceil.toNat:Nat):Int):=kQ _;exact_mod_cast this
  have m:=dK (fJ l D) (show 0<=h by grind);have H:(t-s)*h⁻¹*h=t-s:=O5;grind
 obtain⟨n,Q⟩:=e;exact w n t v O5 Q
def Zc:List Int->Rat->Rat
 | [],_=>0
 | c::p,x=>(c:Rat)+x*Zc p x
theorem Ypo(s t:Rat):∃K:Rat,0<K/\∀x,s<=x->x<=t->-K<=x/\x<=K:=by
 rcases(show(0<=s\/s<0) by grind)with h|h<;>rcases(show(0<=t\/t<0) by grind)with e|e
 .exact⟨t+1,O5,λx _ _=>O5⟩
 .exact⟨1,O5,λx _ _=>O5⟩
 .exact⟨t-s+1,O5,λx _ _=>O5⟩
 .exact⟨-s+1,O5,λx _ _=>O5⟩
theorem Zto(s t:Rat):∀p:List Int,∃B:Rat,0<B/\∀x,s<=x->x<=t->-B<=Zc p x/\Zc p x<=B
 | []=>⟨1,O4,λx _ _=>by unfold Zc;grind⟩
 | c::p=>by obtain⟨B,g,h⟩:=Zto s t p;obtain⟨K,v,w⟩:=Ypo s t;obtain⟨C,D,j⟩:=Ypo (c:Rat) (c:Rat);have F:=j (c:Rat) O5 O5;refine⟨C+K*B,by have:=aT v g;grind,λx hs e=>?_⟩;obtain⟨l,m⟩:=h x hs e;obtain⟨n,o⟩:=w x hs e;obtain⟨f1,f2⟩:=Zcm n o l m O5;unfold Zc;constructor<;>grind
theorem Bo(s t:Rat):∀p:List Int,∃L:Rat,0<L/\Lip s t L (Zc p)
 | []=>⟨1,O4,λx y _ _ _=>by unfold Zc;constructor<;>grind⟩
 | c::p=>by obtain⟨L,w,D⟩:=Bo s t p;obtain⟨B,H,l⟩:=Zto s t p;obtain⟨K,o,v⟩:=Ypo s t;refine⟨K*L+B,by have:=aT o w;grind,λx y hs h j=>?_⟩;obtain⟨F,G⟩:=D x y hs h j;obtain⟨I,M⟩:=l y O5 j;obtain⟨m,n⟩:=v x hs O5;obtain⟨f1,f2⟩:=Zcm (q:=x) (g:=Zc p x-Zc p y) (e:=L*(y-x)) m n O5 O5 O5;have N:=aD (a:=B-Zc p y) (b:=y-x) O5 O5;have P:=aD (a:=B+Zc p y) (b:=y-x) O5 O5;unfold Zc;constructor<;>grind
theorem Zk7(x:Rat):∀q:List Int,(∀i,cf q i=0)->Zc q x=0
 | [],_=>rfl
 | c::q,h=>by have e:c=0:=h 0;have g:=Zk7 x q λi=>h (i+1);unfold Zc;rw [g,e];grind
theorem Ol(x:Rat):∀p q:List Int,(∀i,cf p i=cf q i)->Zc p x=Zc q x
 | [],q,h=>by rw [Zk7 x q λi=>(h i).symm.trans (Yx (bI _))];rfl
 | c::p,[],h=>by rw [Zk7 x (c::p) λi=>(h i).trans (Yx (bI _))];rfl
 | c::p,d::q,h=>by have e:c=d:=h 0;have g:=Ol x p q λi=>h (i+1);unfold Zc;rw [g,e]
def Mc:List Int->List Int->List Int
 | [],q=>q
 | p,[]=>p
 | a::p,b::q=>(a+b)::Mc p q
theorem Zun(p:List Int):Mc p []=p:=by cases p<;>rfl
theorem Xd(x:Rat):∀p q:List Int,Zc (Mc p q) x=Zc p x+Zc q x
 | [],q=>by unfold Mc;show Zc q x=0+Zc q x;grind
 | a::p,[]=>by rw [Zun];show Zc (a::p) x=Zc (a::p) x+0;grind
 | a::p,b::q=>by have h:=Xd x p q;unfold Mc Zc;rw [h];push_cast;grind
theorem Me:∀(p q:List Int) (i:Nat),cf (Mc p q) i=cf p i+cf q i
 | [],q,i=>by unfold Mc;rw [show cf [] i=0 from Yx (bI _)];omega
 | a::p,[],i=>by rw [Zun,show cf [] i=0 from Yx (bI _)];omega
 | a::p,b::q,0=>rfl
 | a::p,b::q,i+1=>Me p q i
theorem Zi(x:Rat)(c:Int):∀p:List Int,Zc (p.map λa=>c*a) x=(c:Rat)*Zc p x
 | []=>by show(0:Rat)=c*0;grind
 | a::p=>by have h:=Zi x c p;simp only [cP];unfold Zc;rw [h];push_cast;grind
theorem Qr(c:Int):∀(p:List Int) (i:Nat),cf (p.map λa=>c*a) i=c*cf p i
 | [],i=>by simp [cf]
 | a::p,0=>rfl
 | a::p,i+1=>Qr c p i
def lmul:List Int->List Int->List Int
 | [],_=>[]
 | c::p,q=>Mc (q.map λa=>c*a) (0::lmul p q)
theorem Yb(x:Rat):∀p q:List Int,Zc (lmul p q) x=Zc p x*Zc q x
 | [],q=>by show(0:Rat)=0*Zc q x;grind
 | c::p,q=>by have h:=Yb x p q;unfold lmul;rw [Xd,Zi];show(c:Rat)*Zc q x+(((0:Int):Rat)+x*Zc (lmul p q) x)=((c:Rat)+x*Zc p x)*Zc q x;rw [h];grind
theorem Di:∀(p q:List Int) (i:Nat),cf (lmul p q) i=Ye (λk=>cf p k*cf q (i-k)) (i+1)
 | [],q,i=>by rw [show cf (lmul [] q) i=0 from Yx (bI _)];exact(Es λk _=>by rw [show cf [] k=0 from Yx (bI _),cQ]).symm
 | c::p,q,0=>by unfold lmul;rw [Me,Qr,Yi,Kf];show c*cf q 0+0=0+c*cf q 0;omega
 | c::p,q,i+1=>by have h:=Di p q i;unfold lmul;rw [Me,Qr,Lh];show c*cf q (i+1)+cf (lmul p q) i=c*cf q (i+1)+_;rw [h];congr 1;refine Xl λk e=>?_;show cf p k*cf q (i-k)=cf p k*cf q (i+1-(k+1));rw [show i+1-(k+1)=i-k by omega]
theorem Ck (a:Int)(c:Int)(x:List Int)(s:List Int)(y:List Int)(z:List Int)(h:∀t,a*cf x t=(ps s*ps y).c t-c*cf z t)(q:Rat):(a:Rat)*Zc x q=Zc s q*Zc y q-(c:Rat)*Zc z q:=by
 have e:∀t,cf (Mc (x.map λb=>a*b) (z.map λb=>c*b)) t=cf (lmul s y) t:=λt=>by rw [Me,Qr,Qr,Di,h t,PS.mul_c];show Ye (λk=>cf s k*cf y (t-k)) (t+1)-c*cf z t+c*cf z t=_;omega
 have g:=Ol q _ _ e;rw [Xd,Zi,Zi,Yb]at g;grind
theorem Yc5{x:List Int}(H:Tr x)(w:Tr y)(j:y≠[])(Q:y.length<=x.length):Rl3 s t (Zc x) (Zc y) (Zc (Ms x y)):=by
 have V:=aN.2 j;obtain⟨r1,r2,k,u,P⟩:=Zge w j x.length x H O1;have hs:=Zhx x.length H w j Q O1;have v:Tr (Zh4 (Zb2 x.length x y)):=Nu _ _;obtain⟨m,n,R,S,G⟩:=Zfi v;rw [hs]at G;have N:0<Zc3 y^k:=iH (Zgl w j);obtain⟨B,I,D⟩:=Zto s t u;have o:(0:Rat)<(m:Rat):=by exact_mod_cast R
 have e:(0:Rat)<(n:Rat):=by exact_mod_cast S
 have l:(0:Rat)<((Zc3 y^k:Int):Rat):=by exact_mod_cast N
 refine⟨(n:Rat)*((Zc3 y^k:Int):Rat),(m:Rat),(n:Rat)*B,aT e l,o,aT e I,λq g h=>⟨(n:Rat)*Zc u q,?_,?_,?_⟩⟩
 .have:=aD (a:=(n:Rat)) (b:=Zc u q+B) O5 (by have:=D q g h;grind);grind
 .have:=aD (a:=(n:Rat)) (b:=B-Zc u q) O5 (by have:=D q g h;grind);grind
 .have M:=Ck (Zc3 y^k) (-1) x u y (Zb2 x.length x y) (λt=>by rw [P t];omega) q;have F:Zc ((Ms x y).map λb=>m*b) q=Zc ((Zb2 x.length x y).map λb=>(-n)*b) q:=Ol q _ _ λi=>by rw [Qr,Qr,G i,Zay,nH,iG]
  rw [Zi,Zi]at F;push_cast at M F ⊢;grind
theorem rl2_of{g:Rat->Rat}(h:Rl3 s t f g (Zc [])):Rl2 s t f g:=by obtain⟨m,n,Q,o,F,l,v⟩:=h;refine⟨m,Q,o,l,λx e j=>?_⟩;obtain⟨q,w,B,D⟩:=v x e j;refine⟨q,w,B,?_⟩;have:Zc [] x=0:=rfl;rw [this]at D;grind
theorem Zn2 (s:Rat)(t:Rat) : ∀(f:Nat) (a b:List Int),Tr a->Tr b->cok f a b->∃r,Mx f a b=a::r/\Rls s t (Zc a) (r.map Zc)/\(b=[]->r=[])/\(b≠[]->∃v,r=b::v):=λf=>by
 induction f with
 | zero=>
  intro a b l m h;have e:b=[]:=h;subst e;exact⟨[],rfl,aA,λ_=>rfl,λh=>absurd rfl h⟩
 | succ f H=>
  intro a b l m h;by_cases e:b=[]
  .subst e;exact⟨[],Am _ _,aA,λ_=>rfl,λh=>absurd rfl h⟩
  .obtain⟨g,M,I,n,G,hs⟩:=Zmx h e;obtain rfl:f=g:=O1;obtain⟨r,w,B,D,F⟩:=H b (Ms a b) m (Zcw l) G;have j:=Yc5 (s:=s) (t:=t) l m e n;refine⟨b::r,by rw [hs,w],?_,λh=>absurd h e,λ_=>⟨r,rfl⟩⟩;by_cases o:Ms a b=[]
   .rw [D o];rw [o]at j;exact rl2_of j
   .obtain⟨v,rfl⟩:=F o;exact⟨j,B⟩
theorem Zuc{L M:Rat}(h:L<=M)(l:Lip s t L f):Lip s t M f:=λx y e g j=>by obtain⟨a,b⟩:=l x y e g j;have:=dK h (show 0<=y-x by grind);constructor<;>grind
theorem Yam(s t:Rat):∀ls:List (List Int),∃L:Rat,0<L/\∀g∈ls.map Zc,Lip s t L g
 | []=>⟨1,O4,λg e=>by cases e⟩
 | p::ls=>by
  obtain⟨L,l,h⟩:=Yam s t ls;obtain⟨M,m,j⟩:=Bo s t p;refine⟨L+M,O5,λg e=>?_⟩;rw [cP]at e;rcases aW.1 e with rfl|e
  .exact Zuc O5 j
  .exact Zuc O5 (h g e)
theorem Zgc{f:Nat}(m:Tr a)(n:Tr b)(o:cok f a b)(e:s<=t)(v:0<δ)(l:∀x,s<=x->x<=t->Big δ x (Zc a)) :
  vat ((Mx f a b).map Zc) s=vat ((Mx f a b).map Zc) t:=by
 obtain⟨r,h,j,_,_⟩:=Zn2 s t f a b m n o;obtain⟨L,w,g⟩:=Yam s t (Mx f a b);rw [h]at g ⊢;exact Ycn w g v l j e
theorem Ztl(x:Rat)(l:Int):∀p:List Int,Zc (p ++ [l]) x=Zc p x+(l:Rat)*x^p.length
 | []=>by show(l:Rat)+x*0=0+l*x^0;rw [dV];grind
 | c::p=>by have h:=Ztl x l p;rw [iL,eF,dE];unfold Zc;rw [h];grind
def alt:List Int->List Int
 | []=>[]
 | c::p=>c::(alt p).map λa=>-1*a
theorem Yhc(c:Int)(p:List Int)(X Y:Int)(h:p≠[]):pev (c::p) X Y=c*Y^p.length+X*pev p X Y:=by
 have e:=aN.2 h;unfold pev;rw [eF,Lh,<-Mr];congr 1
 .show c*(X^0*Y^(p.length+1-1-0))=_;rw [eT,jC,show p.length+1-1-0=p.length by omega]
 .refine Xl λi hi=>?_;show cf p i*(X^(i+1)*Y^(p.length+1-1-(i+1)))=X*(cf p i*(X^i*Y^(p.length-1-i)));rw [show p.length+1-1-(i+1)=p.length-1-i by omega,eJ];grind
theorem Zz2{X Y:Int}(e:0<Y):∀p:List Int,((pev p X Y:Int):Rat)=Zc p ((X:Rat)/(Y:Rat))*(Y:Rat)^(p.length-1)
 | []=>by show(0:Rat)=0*_;grind
 | [c]=>by
  have:pev [c] X Y=c:=by unfold pev;show 0+c*(X^0*Y^0)=c;rw [eT,eT];omega
  rw [this];show(c:Rat)=(c+X/Y*0)*(Y:Rat)^0;rw [dV];grind
 | c::d::p=>by
  have h:=Zz2 (X:=X) e (d::p);rw [Yhc c (d::p) X Y O8];have g:(Y:Rat)≠0:=by
    have:(0:Rat)<(Y:Rat):=by exact_mod_cast e
    grind
  push_cast;rw [h];show(c:Rat)*(Y:Rat)^(p.length+1)+X*(Zc (d::p) (X/Y)*(Y:Rat)^(p.length+1-1))=((c:Rat)+X/Y*Zc (d::p) (X/Y))*(Y:Rat)^(p.length+1+1-1);rw [show p.length+1-1=p.length by omega,show p.length+1+1-1=p.length+1 by omega,dE];generalize Zc (d::p) (X/Y)=R;generalize (Y:Rat)^p.length=P;have:(X:Rat)/Y*Y=X:=O5;grind
theorem Yf3{z:Int}{r q:Rat}(l:0<q)(h:(z:Rat)=r*q):z.sign=Dk r:=by
 rcases(show r<0\/r=0\/0<r by grind)with e|e|e
 .rw [Zai e];have:=aT (a:=-r) (b:=q) O5 l;have g:(z:Rat)<0:=O5;have j:z<0:=by exact_mod_cast g
  exact iE j
 .subst e;have g:(z:Rat)=0:=O5;have j:z=0:=by exact_mod_cast g
  subst j;rfl
 .rw [Zah e];have:=aT e l;have g:(0:Rat)<z:=O5;have j:0<z:=by exact_mod_cast g
  exact lC j
theorem Zq6{X:Int}(e:0<Y)(p:List Int):fat X Y p=Dk (Zc p ((X:Rat)/(Y:Rat))):=by
 have:(0:Rat)<(Y:Rat):=by exact_mod_cast e
 exact Yf3 (Rat.pow_pos this) (Zz2 e p)
theorem Ynw{F:Nat}(n:Tr xs)(l:xs≠[])(j:eok F (gA (Xu xs) (Xg (Xu xs))) (gB (Xu xs) (Xg (Xu xs)))):∃g:List Int,∀x,Zc xs x=Zc (sqf F xs) x*Zc g x:=by
 obtain⟨f1,f2,f3,f4,f5,f6⟩:=Np F n l j;have h:∃k:Int,∀i,cf xs i=k*cf (Xu xs) i:=by
  unfold Xu Gl;split
  .refine⟨-Xq xs,λi=>?_⟩;rw [Qp,<-Gw xs i];grind
  .refine⟨Xq xs,λi=>?_⟩;rw [<-Gw xs i];grind
 obtain⟨k,h⟩:=h;refine⟨(Mz F (Xu xs) (Xg (Xu xs))).map λa=>k*a,λx=>?_⟩;have m:Zc (Xu xs) x=Zc (sqf F xs) x*Zc (Mz F (Xu xs) (Xg (Xu xs))) x:=by
  have:=Ck 1 0 (Xu xs) (sqf F xs) (Mz F (Xu xs) (Xg (Xu xs))) [] (λt=>by have e:=Gz (sqf F xs) (Mz F (Xu xs) (Xg (Xu xs))) t;rw [<-f4]at e;rw [e];omega) x
  push_cast at this;grind
 have e:Zc xs x=Zc ((Xu xs).map λa=>k*a) x:=Ol x _ _ λi=>by rw [Qr];exact h i
 rw [e,Zi,Zi,m];grind
theorem Ymx{f:List Int->Int}(h:∀p∈ls,Dk (Zc p x)=f p):vat (ls.map Zc) x=chg (ls.map f):=by unfold vat;rw [gO];exact aH chg (mH λp e=>h p e)
def Yqi{F:Nat}{X:Int}(e:0<Y):cnt F xs X Y=vat ((chn F xs).map Zc) ((X:Rat)/(Y:Rat)):=
 (Ymx λp _=>(Zq6 e p).symm).symm
theorem Ya8(t:Int):∀p:List Int,Zc p (t:Rat)=((ev1 p t:Int):Rat)
 | []=>rfl
 | c::p=>by have h:=Ya8 t p;rw [show Zc _ (t)=(c)+(t)*Zc p _ from rfl,show ev1 _ t=c+t*ev1 p t from rfl,h];push_cast;rfl
theorem Zps(h:∀x:Rat,Zc p x=0)(i:Nat):cf p i=0:=by
 by_cases l:cf p i=0
 .omega
 .have:=Ztk _ p ((List.range p.length).map λn:Nat=>(n)) rfl ⟨i,l⟩ (by
   refine List.Pairwise.map _ (λa b g=>?_) List.nodup_range;intro e;exact g (by exact_mod_cast e)) (λt m=>by
   have j:=Ya8 t p;rw [h]at j;exact_mod_cast j.symm)
  grind
theorem Mt(h:∀x:Rat,Zc p x=Zc q x)(i:Nat):cf p i=cf q i:=by have e:=Zps (p:=Mc p (q.map λa=>(-1)*a)) (λx=>by grind [Xd,Zi]) i;rw [Me,Qr]at e;omega
theorem Le(p:List Int)(x:Rat):Zc (tzl p) x=Zc p x:=Ol x _ _ λi=>Hm p i
theorem Xn(p q:List Int)(x:Rat):Zc (Pa p q) x=Zc p x*Zc q x:=by rw [<-Yb];exact Ol x _ _ λi=>by rw [Gz,Di];rfl
theorem Pw(c:Int)(x:Rat):Zc [c] x=(c:Rat):=by show(c)+x*0=c;grind
def ld:List Int->List Int
 | []=>[]
 | _::p=>Mc p (0::ld p)
theorem Zgj(c:Int)(p:List Int)(x:Rat):Zc (ld (c::p)) x=Zc p x+x*Zc (ld p) x:=by rw [show ld _=Mc p _ from rfl,Xd];show Zc p x+(((0))+x*Zc _ x)=_;grind
theorem Zm2:∀(p:List Int) (i:Nat),cf (ld p) i=cf p (i+1)*((i:Int)+1)
 | [],i=>by rw [Zdr,show ld []=[]from rfl,Zdr,cQ]
 | c::p,0=>by rw [show ld _=Mc p _ from rfl,Me];show cf p 0+0=cf p 0*_;simp
 | c::p,i+1=>by have h:=Zm2 p i;rw [show ld _=Mc p _ from rfl,Me];show cf p _+cf _ i=cf p _*_;grind
theorem Ks(p:List Int)(x:Rat):Zc (Xg p) x=Zc (ld p) x:=Ol x _ _ λi=>by rw [Zhj,Zm2]
theorem Cw (p:List Int)(q:List Int)(h:∀x,Zc p x=Zc q x)(x:Rat):Zc (ld p) x=Zc (ld q) x:=Ol x _ _ λi=>by grind [Zm2,Mt]
theorem Yn5(p q:List Int)(x:Rat):Zc (ld (Mc p q)) x=Zc (ld p) x+Zc (ld q) x:=by rw [<-Xd];exact Ol x _ _ λi=>by rw [Zm2,Me,Me,Zm2,Zm2];grind
theorem Zak(c:Int)(p:List Int)(x:Rat):Zc (ld (p.map λa=>c*a)) x=(c:Rat)*Zc (ld p) x:=by rw [<-Zi];grind [Ol,Zm2,Qr]
theorem Bp(x:Rat):∀p q:List Int,Zc (ld (lmul p q)) x=Zc (ld p) x*Zc q x+Zc p x*Zc (ld q) x
 | [],q=>by show(0)=0*Zc q x+0*Zc _ x;grind
 | c::p,q=>by have h:=Bp x p q;rw [show lmul _ q=Mc _ _ from rfl,Yn5,Zak,Zgj,Zgj,Yb,show Zc (c::p) x=(c)+x*Zc p x from rfl];grind
def Ed(g a:List Int):Prop:=∃(k:Int) (s:List Int),k≠0/\∀x:Rat,(k:Rat)*Zc a x=Zc s x*Zc g x
theorem Ed.refl(a:List Int):Ed a a:=⟨1,[1],O1,λx=>by rw [Pw]⟩
theorem Ed.nil(g:List Int):Ed g []:=⟨1,[],O1,λx=>by show(((1)))*0=0*Zc g x;simp⟩
theorem Ed.trans{c:List Int} : Ed a b->Ed b c->Ed a c:=λ⟨k,s,g,h⟩ ⟨m,u,j,e⟩=>
 ⟨k*m,lmul u s,bF g j,λx=>by grind [Yb]⟩
theorem Ed.congr{g:List Int}(h:Ed g a)(e:∀x,Zc a x=Zc b x):Ed g b:=by obtain⟨k,s,j,h⟩:=h;exact⟨k,s,j,λx=>O5⟩
theorem Ed.congr_l{g j:List Int}(h:Ed g a)(e:∀x,Zc g x=Zc j x):Ed j a:=by obtain⟨k,s,l,h⟩:=h;exact⟨k,s,l,λx=>O5⟩
theorem Ed.sim{g:List Int}(h:Ed g a)(e:Sim a b):Ed g b:=by
 obtain⟨k,s,j,h⟩:=h;obtain⟨m,n,v,l,e⟩:=e;refine⟨k*n,s.map λc=>m*c,bF j l,λx=>?_⟩;have o:Zc (a.map λc=>m*c) x=Zc (b.map λc=>n*c) x:=Ol x _ _ λi=>by grind [Qr]
 grind [Zi]
theorem Ed.lin{g c:List Int}(j:Ed g a)(l:Ed g b)(s:List Int)(L:Int)(e:L≠0)(h:∀x,(L:Rat)*Zc c x=Zc s x*Zc a x+Zc b x):Ed g c:=by obtain⟨k,u,n,w⟩:=j;obtain⟨m,v,o,B⟩:=l;refine⟨L*(k*m),Mc ((lmul s u).map λc=>m*c) (v.map λc=>k*c),bF e (bF n o),λx=>?_⟩;grind [Xd,Zi,Yb]
theorem Zxz{g s:List Int}(F:k≠0)(D:Tr g)(w:Tr a)(o:a≠[])(h:∀x:Rat,(k:Rat)*Zc a x=Zc s x*Zc g x):g≠[]/\tzl s≠[]/\(tzl s).length+g.length<=a.length+1:=by
 have B:∀i,k*cf a i=(ps _*ps g).c i:=λi=>by have j:=Mt (p:=a.map λc=>k*c) (q:=lmul (tzl s) g) (λx=>by grind [Zi,Yb,Le]) i;rw [Qr,Di]at j;rw [j];rfl
 have n:∀i,k*cf a i=0->cf a i=0:=λi hi=>(jW.1 hi).resolve_left F;have l:=w.mem o;have j:tzl s≠[]:=λe=>l (n _ (by simp_all [Ki,Yx,bI]));have m:g≠[]:=λe=>l (n _ (by simp_all [PS.mul_comm',Ki,Yx,bI]));refine⟨m,j,?_⟩;have H:=Av (p:=tzl s) (q:=g) (a:=(tzl s).length-1) (b:=g.length-1) (λi hi=>Yx O1) (λi hi=>Yx O1);rw [<-B]at H;have G:=bF ((Qt s).mem j) (D.mem m);rcases bA ((tzl s).length-1+(g.length-1)) a.length with v|v
 .omega
 simp_all [Yx,eI]
theorem Ed.len{g:List Int}(h:Ed g a)(l:Tr g)(j:Tr a)(e:a≠[]):g≠[]/\g.length<=a.length:=by obtain⟨k,s,m,h⟩:=h;obtain⟨n,o,v⟩:=Zxz m l j e h;grind [List.length_pos_iff]
theorem Ed.same{g:List Int}(h:Ed g a)(w:Tr g)(o:Tr a)(m:a≠[])(F:g.length=a.length):Ed a g:=by
 obtain⟨k,s,B,h⟩:=h;obtain⟨D,j,l⟩:=Zxz B w o m h;have e:=aN.2 j
 match hs:tzl s,e,l with
 | [c],_,_=>
  have v:=by have:=(Qt s).mem j;rw [hs]at this;exact this
  refine⟨c,[k],v,λx=>?_⟩;have n:=h x;rw [<-Le s]at n;grind [Pw]
 | c::d::r,_,h9=>grind
theorem Zm4:∀(n:Nat) (a b:List Int),Tr a->Tr b->b.length<=n->∃g A B:List Int,Tr g/\Ed g a/\Ed g b/\∀x,Zc g x=Zc A x*Zc a x+Zc B x*Zc b x
 | n,a,[],h,j,_=>⟨a,[1],[],h,Ed.refl a,Ed.nil a,λx=>by rw [Pw];show _=_+0*(0);grind⟩
 | 0,a,c::r,_,_,hl=>absurd hl O8
 | n+1,a,c::b',h,j,hl=>by
  have e:(c::b')≠[]:=O8;generalize c::b'=b at *;obtain⟨k,s,hs⟩:=Zbe a e;have m:=Iv (j.mem e) k;generalize cf b _^k=L at hs m;have D:=Ps a e;obtain⟨g,A,B,o,l,v,F⟩:=Zm4 n b (Qw a b) j (Hc h) O1;have w:∀x,(L)*Zc a x=Zc s x*Zc b x+Zc (Qw a b) x:=λx=>by have:=Ck L (-1) a s b (Qw a b) (λt=>O5) x;grind
  refine⟨g,B.map λc=>L*c,Mc A ((lmul B s).map λc=>(-1)*c),o,l.lin v s L m w,l,λx=>?_⟩;grind [Zi,Xd,Yb]
def Irr(q:List Int):Prop:=Tr q/\2<=q.length/\∀d,Tr d->Ed d q->d.length<=1\/d.length=q.length
def Zea(h:2<=q.length):q≠[]:=λe=>O5
theorem Yio:∀(n:Nat) (q:List Int),q.length<=n->Tr q->2<=q.length->∃p,Irr p/\Ed p q
 | 0,q,w,_,j=>O1
 | n+1,q,w,m,j=>by
  by_cases h:Irr q
  .grind [Ed.refl]
  .have:∃d,Tr d/\Ed d q/\¬(d.length<=1\/d.length=q.length):=by refine aZ λv=>h ⟨m,j,λd e g=>aZ λo=>v ⟨d,e,g,o⟩⟩
   obtain⟨d,e,g,F⟩:=this;have B:=(g.len e m (Zea j)).2;obtain⟨p,D,l⟩:=Yio n d O1 e O1;exact⟨p,D,l.trans g⟩
theorem Zef (f:List Int)(h:List Int)(m:List Int)(N:Irr q)(M:k≠0)(e:∀x:Rat,(k:Rat)*(Zc f x*Zc h x)=Zc m x*Zc q x):Ed q f\/Ed q h:=by
 obtain⟨j,n,w⟩:=N;obtain⟨g,A,B,l,o,F,D⟩:=Zm4 _ q _ j (Qt f) (aI _);have I:=(o.len l j (Zea n)).1;rcases w g l o with v|v
 .right
  match g,I,v,l,D with
  | [c],_,_,l,D=>
   have H:=l.mem O8;refine⟨c*k,Mc ((lmul A h).map λc=>k*c) (lmul B m),bF H M,λx=>?_⟩;grind [Pw,Le,Xd,Zi,Yb]
  | c::d::r,_,h9,_,_=>grind
 .left;have G:=o.same l j (Zea n) v;exact(G.trans F).congr λx=>Le f x
def Cx(q:List Int):Nat->List Int
 | 0=>[1]
 | n+1=>Pa q (Cx q n)
theorem Zc5{q:List Int}(j:Tr q)(g:2<=q.length):∀n,Tr (Cx q n)/\n+1<=(Cx q n).length
 | 0=>⟨.inr (show cf [1] 0≠0 by decide),aI _⟩
 | n+1=>by obtain⟨l,h⟩:=Zc5 j g n;refine⟨Qq _ _,?_⟩;show n+1+1<=(Pa q _).length;rw [Mj j l (Zea g) (λe=>by rw [e]at h;simp at h)];omega
theorem Cv(q:List Int)(n:Nat)(x:Rat):Zc (Cx q (n+1)) x=Zc q x*Zc (Cx q n) x:=Xn _ _ _
theorem Zpt(q:List Int):∀(n:Nat) (x:Rat),Zc (ld (Cx q (n+1))) x=((n:Rat)+1)*(Zc (Cx q n) x*Zc (ld q) x)
 | n,x=>by
  have e:Zc (ld (Cx q (n+1))) x=Zc (ld (lmul q (Cx q n))) x:=Cw _ _ (λy=>by rw [Cv,Yb]) x;rw [e,Bp]
  match n with
  | 0=>
   rw [show Zc (ld (Cx q 0)) x=0 from by rw [show Cx q 0=[1]from rfl,Zgj];show(0:Rat)+x*0=0;grind];simp;grind
  | n+1=>
   rw [Zpt q n x,Cv];push_cast;grind
theorem Yfp{s g u:List Int}{c:Int}{k:Nat}(Q:∀x:Rat,Zc p x=Zc s x*Zc g x)(w:∀d,Tr d->Ed d p->Ed d (ld p)->Ed d g)(R:Irr q)(F:Ed q s)(G:Ed q (ld s))(P:Ed (Cx q k) g):Ed (Cx q (k+1)) g:=by
 obtain⟨h,n,B⟩:=R;obtain⟨l,m,S,e1⟩:=F;obtain⟨D,s2,V,e2⟩:=G;have d1:∀x:Rat,(l:Rat)*Zc (ld s) x=Zc (ld m) x*Zc q x+Zc m x*Zc (ld q) x:=λx=>by have:=Cw (s.map λa=>l*a) (lmul m q) (λy=>by grind [Zi,Yb]) x;grind [Zak,Bp]
 have H:Ed q m:=by
  rcases Zef m (ld q) (Mc (s2.map λa=>l*a) ((ld m).map λa=>(-D)*a)) ⟨h,n,B⟩ V (λx=>by grind [Xd,Zi])with h9|h9
  .omega
  .exfalso;have I:Ed q (Xg q):=h9.congr λx=>(Ks q x).symm;have hl:=Nx q;have:=(I.len h (Mp h) (λe=>O5)).2;omega
 obtain⟨o,j,W,e3⟩:=H;obtain⟨c,u,Z,eu⟩:=P;have N:∀x:Rat,((l*o*c:Int):Rat)*Zc p x=Zc (lmul j u) x*Zc (Cx q (k+1+1)) x:=λx=>by grind [Yb,Cv]
 have v:l*o*c≠0:=bF (bF S W) Z;generalize l*o*c=C at N v;have M:∀x:Rat,(C:Rat)*Zc (ld p) x=Zc (ld (lmul j u)) x*Zc (Cx q (k+1+1)) x+Zc (lmul j u) x*((((k+1:Nat):Rat)+1)*(Zc (Cx q (k+1)) x*Zc (ld q) x)):=λx=>by have:=Cw (p.map λa=>C*a) (lmul (lmul j u) (Cx q (k+1+1))) (λy=>by grind [Zi,Yb]) x;grind [Zak,Bp,Zpt]
 refine w _ (Zc5 h n _).1 ⟨C,lmul (lmul j u) q,v,λx=>?_⟩ ⟨C,Mc (lmul (ld (lmul j u)) q) ((lmul (lmul j u) (ld q)).map λa=>((k+2:Nat):Int)*a),v,λx=>?_⟩
 .grind [Yb,Cv]
 .rw [M x,Xd,Zi,Yb _ (ld (lmul j u)),Yb _ (lmul j u),Cv q (k+1)];push_cast;grind
theorem Yfr{s g:List Int}(l:∀x:Rat,Zc p x=Zc s x*Zc g x)(D:Tr g)(v:g≠[])(j:∀d,Tr d->Ed d p->Ed d (ld p)->Ed d g)(F:Tr q)(w:Ed q s)(B:Ed q (ld s)):q.length<=1:=by
 refine aZ λh=>?_;obtain⟨r,m,e⟩:=Yio _ q (aI _) F O1;have n:∀k,Ed (Cx r k) g:=λk=>by
  induction k with
  | zero=>exact⟨1,g,O1,λx=>by rw [show Cx r 0=[1]from rfl,Pw];simp⟩
  | succ k G=>exact Yfp (u:=[]) (c:=0) l j m (e.trans w) (e.trans B) G
 obtain⟨o,H⟩:=Zc5 m.1 m.2.1 g.length;have:=((n _).len o D v).2;omega
theorem Ypx(n:Tr b)(g:b≠[])(h:Ed d a)(j:Ed d b):Ed d (Qw a b):=by
  obtain⟨k,s,hs⟩:=Zbe a g;have m:=Iv (n.mem g) k;generalize cf b (b.length-1)^k=L at hs m;have o:∀x,(L:Rat)*Zc a x=Zc s x*Zc b x+Zc (Qw a b) x:=λx=>by have:=Ck L (-1) a s b (Qw a b) (λt=>by rw [hs t];omega) x;push_cast at this;grind
  have l:Ed d (a.map λc=>L*c):=by obtain⟨k,u,v,e⟩:=h;exact⟨k,u.map λc=>L*c,v,λx=>by rw [Zi,Zi];have:=e x;grind⟩
  exact j.lin l (s.map λc=>(-1)*c) 1 O4 λx=>by rw [Zi,Zi];push_cast;have:=o x;grind
theorem Zu4{d:List Int} : ∀(f:Nat) {a b:List Int},Tr a->Tr b->Ed d a->Ed d b->Ed d (eu f a b)
  | 0,a,b,_,_,e,_=>e
  | f+1,a,b,l,j,e,h=>by
    by_cases g:b=[]
    . rw [g,Zmk];exact e
    . rw [show eu (f + 1) a b = eu f b (Yw (Qw a b)) by
          conv=>lhs;unfold eu
          rw [aF g]]
      have t1:=Hc (q:=b) l;exact Zu4 f j (Xj t1) h ((Ypx j g e h).sim (Qx t1).symm)
theorem Zli{F:Nat}(e:Tr p)(g:Tr q)(h:Ed d p)(j:Ed d q):Ed d (Mz F p q):=by
  have l:=h.sim (Qx e).symm;have m:=j.sim (Qx g).symm;unfold Mz;refine Ed.sim ?_ (Hj _).symm;refine Zu4 F (Zko e g) (Zkn e g) ?_ ?_
  . unfold gA;split<;>assumption
  . unfold gB;split<;>assumption
theorem Zf8{F:Nat}(j:Tr xs)(l:xs≠[])(e:eok F (gA (Xu xs) (Xg (Xu xs))) (gB (Xu xs) (Xg (Xu xs))))(o:Tr q)(m:Ed q (sqf F xs))(n:Ed q (Xg (sqf F xs))):q.length<=1:=by
  obtain⟨f1,f2,f3,f4,f5,f6⟩:=Np F j l e;have hs:Tr (Xu xs):=Mg (Xj j);have h:Tr (Xg (Xu xs)):=Mp hs;refine Yfr (p:=Xu xs) (s:=sqf F xs) (g:=Mz F (Xu xs) (Xg (Xu xs))) (λx=>?_) (Zf6 _ hs h) f5 (λd _ a b=>?_) o m (n.congr λx=>Ks _ x)
  . have:Zc (Xu xs) x=Zc (Pa (sqf F xs) (Mz F (Xu xs) (Xg (Xu xs)))) x:=by rw [<-f4]
    rw [this,Xn]
  . exact Zli hs h a (b.congr λx=>(Ks _ x).symm)
theorem Zbm:∀(l:List Int) (n z:Int),(l.foldl Mo (n,z)).1=n+(l.foldl Mo (0,z)).1
 | [],n,z=>O8
 | x::l,n,z=>by
  simp only [fX];by_cases h:x=0
  .have e:∀n,Mo (n,z) x=(n,z):=λn=>by unfold Mo;rw [aO h]
   rw [e,e];exact Zbm l n z
  .by_cases g:x=-z
   .have e:∀n,Mo (n,z) x=(n+1,x):=λn=>by unfold Mo;rw [aF h,aO (by dsimp only;exact g)]
    rw [e,e,Zbm l (n+1) x,Zbm l (0+1) x];omega
   .have e:∀n,Mo (n,z) x=(n,x):=λn=>by unfold Mo;rw [aF h,aF (by dsimp only;exact g)]
    rw [e,e];exact Zbm l n x
theorem Yqu{x y:Int}{l:List Int}(m:y≠0):chg (x::y::l)=chg (y::l)+(if x=-y then 1 else 0):=by
 unfold chg;simp only [fX];have g:Mo (0,0) y=(0,y):=by unfold Mo;rw [aF m,aF O12]
 rw [g];by_cases j:x=0
 .have e:Mo (0,0) x=(0,0):=by unfold Mo;rw [aO j]
  rw [e,g,aF O1];omega
 .have e:Mo (0,0) x=(0,x):=by unfold Mo;rw [aF j,aF O12]
  rw [e];have n:Mo (0,x) y=(if x=-y then 1 else 0,y):=by
   unfold Mo;rw [aF m];by_cases h:x=-y
   .rw [aO O12,aO h];rfl
   .rw [aF O12,aF h]
  rw [n,Zbm];omega
def crs(f:Rat->Rat)(u v:Rat):Int:=if f u≠0/\f u*f v<=0 then 1 else 0
theorem Zjp(s t:Rat):∀p:List Int,∃M:Rat,0<M/\∀x y,s<=x->x<=y->y<=t->
  -(M*(y-x)*(y-x))<=Zc p y-Zc p x-(y-x)*Zc (ld p) x/\Zc p y-Zc p x-(y-x)*Zc (ld p) x<=M*(y-x)*(y-x)
 | []=>⟨1,O4,λx y R S V=>by have:=aD (a:=y-x) (b:=y-x) O5 O5;show -(1*(y-x)*(y-x))<=(0:Rat)-0-(y-x)*0/\(0:Rat)-0-(y-x)*0<=1*(y-x)*(y-x);constructor<;>grind⟩
 | c::p=>by obtain⟨M,F,G⟩:=Zjp s t p;obtain⟨L,W,D⟩:=Bo s t p;obtain⟨K,w,B⟩:=Ypo s t;refine⟨L+K*M,by have:=aT w F;grind,λx y hs h l=>?_⟩;obtain⟨m,n⟩:=G x y hs h l;obtain⟨H,I⟩:=D x y hs h l;obtain⟨o,v⟩:=B x hs O5;have j:0<=y-x:=O5;obtain⟨f1,f2⟩:=Zcm (q:=x) (Q:=K) (g:=Zc p y-Zc p x-(y-x)*Zc (ld p) x) (e:=M*(y-x)*(y-x)) o v m n O5;have N:=aD (a:=y-x) (b:=L*(y-x)-(Zc p y-Zc p x)) j O5;have P:=aD (a:=y-x) (b:=L*(y-x)+(Zc p y-Zc p x)) j O5;rw [Zgj,show Zc (c::p) y=(c:Rat)+y*Zc p y from rfl,show Zc (c::p) x=(c:Rat)+x*Zc p x from rfl];constructor<;>grind
theorem Ybu(w:Tr a)(hb:Tr b)(Z:a≠[])(hc:∀q,Tr q->Ed q a->Ed q b->q.length<=1)(s t:Rat):∃ε:Rat,0<ε/\∀x,s<=x->x<=t->Big ε x (Zc a)\/Big ε x (Zc b):=by
 obtain⟨g,A,B,e,n,W,j⟩:=Zm4 _ a b w hb (aI _);have hl:=hc g e n W;have hg:=(n.len e w Z).1
 match g,hg,hl,e,j with
 | [c],_,_,e,j=>
  have m:c≠0:=e.mem O8;obtain⟨P,p1,p2⟩:=Zto s t A;obtain⟨Q,q1,q2⟩:=Zto s t B;obtain⟨ε,V,e2,e3⟩:=Gn (show(0:Rat)<1 by decide) (show 0<(P+Q)+(P+Q) by grind) (show(0:Rat)<1 by decide);refine⟨ε,V,λx hs D=>?_⟩;by_cases o:Big ε x (Zc a)
  .exact .inl o
  .by_cases v:Big ε x (Zc b)
   .exact .inr v
   .exfalso;obtain⟨F,G⟩:=Zd8 o;obtain⟨H,I⟩:=Zd8 v;obtain⟨M,N⟩:=p2 x hs D;obtain⟨R,S⟩:=q2 x hs D;obtain⟨u1,u2⟩:=Zcm M N F G O5;obtain⟨v1,v2⟩:=Zcm R S H I O5;have h4:=j x;rw [Pw]at h4;have l:(c:Rat)<=-1\/1<=(c:Rat):=by
     rcases mO m with h|h
     .left;have:((c:Int):Rat)<=((-1:Int):Rat):=by exact_mod_cast (show c<=-1 by omega)
      rwa [show(((-1:Int)):Rat)=-1 from rfl]at this
     .right;have:1<=c:=O1;exact_mod_cast this
    rcases l with l|l<;>grind
 | c::d::r,_,h9,_,_=>simp at h9
theorem Big.near{ε x y:Rat}{f:Rat->Rat}(h:Big ε x f)(e:f x-f y<=ε/2)(g:f y-f x<=ε/2):Big (ε/2) y f:=by unfold Big at *;grind
theorem Ztj(x:Rat):Dk x=-1↔x<0:=by unfold Dk;grind
theorem Ygk(x:Rat):Dk (-x)=- Dk x:=by unfold Dk;grind
theorem Znl{g:Rat->Rat}(h:Dk (g x)≠0):vat (f::g::r) x=vat (g::r) x+(if Dk (f x)=- Dk (g x)then 1 else 0):=by exact Yqu h
def Tay(s t M:Rat)(p:List Int):Prop:=∀x y,s<=x->x<=y->y<=t->-(M*(y-x)*(y-x))<=Zc p y-Zc p x-(y-x)*Zc (ld p) x/\Zc p y-Zc p x-(y-x)*Zc (ld p) x<=M*(y-x)*(y-x)
theorem Zis  {f:Nat}  (ha:Tr a) (hb:Tr b) (Q:cok f a b) {κ:Rat} (hκ:0<κ) (I:∀x,Zc (ld a) x=κ*Zc b x)
  {L L' M h:Rat} (e1:0<ε) (e2:∀x,s<=x->x<=t->Big ε x (Zc a)\/Big ε x (Zc b)) (l1:0<=L) (l2:Lip s t L (Zc a)) (b1:0<=L') (D:Lip s t L' (Zc b)) (m1:0<=M) (m2:Tay s t M a)
  (h5:0<h) (h3:h*(L+L')<=ε/2) (h7:h*M<=κ*ε/2) {u v:Rat} (hs:s<=u) (j:u<=v) (ht:v<=t) (hh:v-u<=h) :
  vat ((Mx f a b).map Zc) u-vat ((Mx f a b).map Zc) v=crs (Zc a) u v:=by
 have hL:∀w,u<=w->w<=v->L*(w-u)<=ε/2/\L'*(w-u)<=ε/2:=λw l n=>by
  have p1:=aD (a:=L) (b:=h-(w-u)) O5 O5;have p2:=aD (a:=L') (b:=h-(w-u)) O5 O5;have p3:=aD (a:=L) (b:=h) O5 O5;have p4:=aD (a:=L') (b:=h) O5 O5
  all_goals grind
 by_cases o:Big ε u (Zc a)
 .have R:∀w,u<=w->w<=v->Big (ε/2) w (Zc a):=λw l n=>by obtain⟨W,Z⟩:=l2 u w hs l O5;have:=hL w l n;exact o.near O5 O5
  rw [Zgc ha hb Q j (show 0<ε/2 by grind) R];have hv:=R v j O8;have:crs (Zc a) u v=0:=by
   unfold crs;refine aF λ⟨_,h9⟩=>?_;obtain⟨W,Z⟩:=l2 u v hs j ht;have a7:=hL v j O8;unfold Big at o hv;rcases o with S|S
   .have:0<Zc a v:=O5;have:=aT (show 0<Zc a u by grind) this;grind
   .have:0 < - Zc a v:=O5;have:=aT (show 0 < - Zc a u by grind) this;grind
  omega
 .have m:Big ε u (Zc b):=(e2 u hs O5).resolve_left o;have R:∀w,u<=w->w<=v->Big (ε/2) w (Zc b):=λw l n=>by obtain⟨W,Z⟩:=D u w hs l O5;have:=hL w l n;exact m.near O5 O5
  have a0:b≠[]:=λe=>by rw [e]at m;unfold Big at m;have:Zc [] u=0:=rfl;grind
  obtain⟨g,hg,hd,b0,H,a2⟩:=Zmx Q a0;have hT:=Zgc hb (Zcw ha) H j (show 0<ε/2 by grind) R;obtain⟨r,hr,_,_,_⟩:=Zn2 u v g b (Ms a b) hb (Zcw ha) H;rw [a2,hr];rw [hr]at hT;simp only [cP]at hT ⊢;have a3:∃σ:Rat,(σ=1\/σ=-1)/\ε<σ*Zc b u/\∀w,u<=w->w<=v->0<σ*Zc b w:=by
   unfold Big at m;rcases m with S|S
   .refine⟨1,.inl rfl,O5,λw l n=>?_⟩;obtain⟨W,Z⟩:=D u w hs l O5;grind
   .refine⟨-1,.inr rfl,O5,λw l n=>?_⟩;obtain⟨W,Z⟩:=D u w hs l O5;grind
  obtain⟨σ,V,a8,G⟩:=a3;have B:u<v->σ*Zc a u<σ*Zc a v:=λN=>by
   obtain⟨y1,y2⟩:=m2 u v hs j ht;rw [I u]at y1 y2;have hd:0<v-u:=O5;have z1:M*(v-u)<=κ*ε/2:=by have:=aD (a:=M) (b:=h-(v-u)) O5 O5;grind
   have z2:0<κ*(σ*Zc b u)-M*(v-u):=by have:=aT hκ (show 0<σ*Zc b u-ε by grind);have:=aT hκ e1;grind
   have z3:=aT hd z2;rcases V with rfl|rfl<;>grind
  have P:∀w,u<=w->w<=v->Dk (Zc b w)≠0:=λw l n=>by
   have:=G w l n;rcases V with rfl|rfl
   all_goals grind [Zah,Zai]
  rw [Znl (P u O8 j),Znl (P v j O8),hT];have a6:∀w,u<=w->w<=v->(Dk (Zc a w)=- Dk (Zc b w)↔σ*Zc a w<0):=λw l n=>by
   have:=G w l n;rcases V with rfl|rfl
   all_goals grind [Zah,Ztj,Zai,Ygk]
  rw [show(if Dk (Zc a u)=- Dk (Zc b u)then(1:Int)else 0)=if σ*Zc a u<0 then 1 else 0 from by grind];rw [show(if Dk (Zc a v)=- Dk (Zc b v)then(1:Int)else 0)=if σ*Zc a v<0 then 1 else 0 from by grind];have a4:crs (Zc a) u v=if σ*Zc a u<0/\¬σ*Zc a v<0 then 1 else 0:=by
   unfold crs;have a1:Zc a u*Zc a v=(σ*Zc a u)*(σ*Zc a v):=by all_goals grind
   have hz:Zc a u≠0↔σ*Zc a u≠0:=by rcases V with rfl|rfl<;>constructor<;>intro h9 h8<;>exact h9 O5
   have a5:(Zc a u≠0/\Zc a u*Zc a v<=0)↔(σ*Zc a u<0/\¬σ*Zc a v<0):=by
    rw [a1,hz];generalize S:σ*Zc a u=p at *;generalize hq:σ*Zc a v=q at *;constructor
    .intro ⟨n1,n2⟩;rcases(show u<v\/u=v by grind)with N|a9
     .have:=B N;rcases(show p<0\/0<p by grind)with F|F
      .refine⟨F,λn4=>?_⟩;have:=aT (show 0 < -p by grind) (show 0 < -q by grind);grind
      .have:=aT F (show 0<q by grind);grind
     .exfalso;have:q=p:=O5;rw [this]at n2;rcases(show p<0\/0<p by grind)with F|F
      .have:=aT (show 0 < -p by grind) (show 0 < -p by grind);grind
      .have:=aT F F;grind
    .intro ⟨n1,n2⟩;refine⟨O5,?_⟩;have:=aD (show 0<=-p by grind) (show 0<=q by grind);grind
   grind
  grind
theorem Zks (κ:Rat){f:Nat}(o:Tr a)(w:Tr b)(F:a≠[])(g:cok f a b)(R:0<κ)(e:∀x,Zc (ld a) x=κ*Zc b x)(N:∀q,Tr q->Ed q a->Ed q b->q.length<=1) :
  ∃h:Rat,0<h/\∀u v,s<=u->u<=v->v<=t->v-u<=h->vat ((Mx f a b).map Zc) u-vat ((Mx f a b).map Zc) v=crs (Zc a) u v:=by
 obtain⟨ε,B,D⟩:=Ybu o w F N s t;obtain⟨L,l1,V⟩:=Bo s t a;obtain⟨m,S,l⟩:=Bo s t b;obtain⟨M,W,Z⟩:=Zjp s t a;obtain⟨G,H,h3,h4⟩:=Gn (show(0)<1 by rfl) (show 0<L+m by grind) (show 0<ε/2 by grind);obtain⟨h,n,h6,I⟩:=Gn H W (show 0<κ*ε/2 by grind [Rat.mul_pos]);refine⟨h,n,λu v hs j Q P=>Zis o w g R e B D O5 V O5 l O5 Z n ?_ I hs j Q P⟩;have:=aD (a:=L+m) (b:=G-h) O5 O5;grind
theorem Yir:∀(n m:Nat) (f:Nat->Nat),(∀k,k<n->f k<m)->(∀a b,a<n->b<n->f a=f b->a=b)->n<=m
 | 0,_,_,_,_=>bI _
 | n+1,m,f,g,hi=>by
  have h:=g n O8;have:=Yir n (m-1) (λk=>if f n<f k then f k-1 else f k) (λk o=>by
   grind) (λa b j l e=>by
   grind)
  omega
theorem php{n m:Nat}{f:Nat->Nat}(h:m<n)(v:∀k,k<n->f k<m):∃a b,a<n/\b<n/\a≠b/\f a=f b:=by refine aZ λj=>?_;have:=Yir n m f v λa b l o e=>aZ λg=>j ⟨a,b,l,o,g,e⟩;omega
def enc(B:Nat)(d:Nat->Nat):Nat->Nat
 | 0=>0
 | n+1=>enc B d n+d n*B^n
theorem Zrg{B:Nat}{d:Nat->Nat} : ∀n,(∀i,i<n->d i<B)->enc B d n<B^n
 | 0,_=>by simp [enc]
 | n+1,h=>by have j:=Zrg n λi hi=>h i O1;have e:=h n O8;have g:(d n+1)*B^n<=B*B^n:=aQ _ e;rw [dO]at g;rw [dH,cI _ B];show enc B d n+d n*B^n<_;omega
theorem Ybb{B:Nat}{d e:Nat->Nat} : ∀n,(∀i,i<n->d i<B)->(∀i,i<n->e i<B)->enc B d n=enc B e n->∀i,i<n->d i=e i
 | 0,_,_,_,i,hi=>absurd hi (bJ i)
 | n+1,g,j,h,i,hi=>by
  have o:=Zrg n λi hi=>g i O1;have w:=Zrg n λi hi=>j i O1;have h:enc B d n+d n*B^n=enc B e n+e n*B^n:=h;have v:0<B^n:=O1;have m:d n=e n:=by
   have D:(enc B d n+d n*B^n)/B^n=d n:=by rw [lT _ _ v,dZ o,bZ]
   simp_all [lT,dZ,bZ]
  rcases bA i n with l|l
  .exact Ybb n (λi hi=>g i O1) (λi hi=>j i O1) (by rw [m]at h;omega) i l
  .rw [show i=n by omega];exact m
def dig(B k j:Nat):Nat:=k/B^j%B
theorem Zrh(B k:Nat):∀n,enc B (dig B k) n=k%B^n
 | 0=>by simp [enc,lY]
 | n+1=>by show enc B _ n+dig B k n*B^n=_;rw [Zrh B k n,dH,nG];unfold dig;rw [cI]
theorem Zkr (C:Int){f:Nat->Int} : ∀n,(∀i,i<n->-C<=f i/\f i<=C)->-((n:Int)*C)<=Ye f n/\Ye f n<=(n:Int)*C
 | 0,_=>by simp [Kf]
 | n+1,h=>by have e:=Zkr _ n λi hi=>h i O1;grind [Yi]
theorem Znu(f g:Nat->Int):∀n,Ye (λi=>f i-g i) n=Ye f n-Ye g n
 | 0=>by rfl
 | n+1=>by rw [Yi,Yi,Yi,Znu f g n];omega
theorem siegel{N M A:Nat}(Q:M<N)(hA:0<A)(c:Nat->Nat->Int)(Z:∀i j,i<M->j<N->(c i j).natAbs<=A) :
  ∃x:Nat->Int,(∃j,j<N/\x j≠0)/\(∀j,j<N->(x j).natAbs<=(2*N*A)^M)/\∀i,i<M->Ye (λj=>c i j*x j) N=0:=by
 generalize R:(2*N*A)^M=X;generalize hW:N*(A*X)=W;let d:=λk j=>dig (X+1) k j;have hd:∀k j,d k j<=X:=λk j=>mY (bK _ (nB X));let y:=λk i=>Ye (λj=>c i j*(d k j:Int)) N;have w:∀k i,i<M->-(W:Int)<=y k i/\y k i<=(W:Int):=λk i hi=>by
  have g:=Zkr ((A*X:Nat):Int) (f:=λj=>c i j*(d k j:Int)) N λj o=>by
   have h:=Z i j hi o;have D:(c i j*(d k j:Int)).natAbs<=A*X:=by simp_all [bR,eP,aU]
   omega
  grind
 let e:=λk=>enc (2*W+1) (λi=>(y k i+(W:Int)).toNat) M;have m:∀k i,i<M->(y k i+(W:Int)).toNat<2*W+1:=λk i hi=>by have:=w k i hi;omega
 have v:(2*W+1)^M<(X+1)^N:=by
  have g:2*W+1<=(2*N*A)*(X+1):=by grind [Nat.mul_pos]
  have h:=gF g M;rw [Nat.mul_pow,R]at h;have D:(X+1)^(M+1)<=(X+1)^N:=dC O8 O1;grind
 obtain⟨a,b,S,V,l,hf⟩:=php (f:=e) v (λk _=>Zrg M (m k));have B:=Ybb M (m a) (m b) hf;refine⟨λj=>(d a j:Int)-(d b j:Int),?_,λj _=>?_,λi hi=>?_⟩
 .refine aZ λP=>l ?_;have I:∀j,j<N->d a j=d b j:=λj o=>aZ λF=>P ⟨j,o,λh6=>F O5⟩;have G:=Zrh (X+1) a N;have H:=Zrh (X+1) b N;rw [bE S]at G;rw [bE V]at H;have e3:∀n,n<=N->enc (X+1) (dig (X+1) a) n=enc (X+1) (dig (X+1) b) n:=λn=>by
   induction n with
   | zero=>intro _;rfl
   | succ n ih=>
    intro hn;have F:dig (X+1) a n=dig (X+1) b n:=I n O1;show enc _ _ n+dig (X+1) a n*_=enc _ _ n+dig (X+1) b n*_;grind
  grind
 .grind
 .have g:Ye (λj=>c i j*((d a j:Int)-(d b j:Int))) N=y a i-y b i:=by rw [<-Znu];grind
  rw [g];have h:=B i hi;have D:=w a i hi;have h4:=w b i hi;omega
theorem Ziq(f:Nat->Int)(p:Nat):∀q,Ye f (p+q)=Ye f p+Ye (λk=>f (p+k)) q
 | 0=>by simp [Kf]
 | q+1=>by rw [<-iX,Yi,Yi,Ziq f p q];omega
def sft(a:List Int)(t k:Nat):Int:=if k<=t then cf a (t-k)else 0
theorem Zmv{U:List Int}{p:Nat}(h:U.length=p)(t:Nat):(ps U*ps a).c t=Ye (λk=>sft a t k*cf U k) p:=by rw [<-Zwd,<-h];refine Xl λk _=>?_;unfold sft;split<;>grind
theorem Zei{U:List Int}{p t:Nat}(h:U.length<=p)(j:p+a.length<=t+1):(ps U*ps a).c t=0:=by
 rw [PS.mul_c];refine Es λk g=>?_;rw [Lo,Lo];rcases bA k U.length with e|e
 .rw [Yx (p:=a) O1,eI]
 .rw [Yx e,cQ]
theorem Ziu (a:List Int)(b:List Int)(e:Nat){p q A:Nat}(w:0<A)(B:∀i,(cf a i).natAbs<=A)(D:∀i,(cf b i).natAbs<=A)(G:0<p+q)(H:p+a.length<=p+q+e)(I:q+b.length<=p+q+e) :
  ∃U V:List Int,U.length=p/\V.length=q/\((∃i,cf U i≠0)\/∃i,cf V i≠0)/\(∀i,(cf U i).natAbs<=(2*(p+q)*A)^(p+q-1))/\(∀i,(cf V i).natAbs<=(2*(p+q)*A)^(p+q-1))/\
   ∀t,e<=t->(ps U*ps a).c t+(ps V*ps b).c t=0:=by
 obtain⟨x,⟨j,P,g⟩,v,F⟩:=siegel (N:=p+q) (M:=p+q-1) (A:=A) O1 w (λi j=>if j<p then sft a (e+i) j else sft b (e+i) (j-p)) (λi j _ _=>by
  split<;>unfold sft<;>split
  .exact B _
  .simp
  .exact D _
  .simp)
 have m:∀i,cf (mk p x) i=if i<p then x i else 0:=λi=>Ih _ _ _
 have n:∀i,cf (mk q λk=>x (p+k)) i=if i<q then x (p+i)else 0:=λi=>Ih _ _ _
 refine⟨mk p x,mk q λk=>x (p+k),Yz _ _,Yz _ _,?_,λi=>?_,λi=>?_,λt Q=>?_⟩
 .rcases bA j p with h|h
  .exact .inl ⟨j,by rw [m,aO h];exact g⟩
  .exact .inr ⟨j-p,by rw [n,aO O1,show p+(j-p)=j by omega];exact g⟩
 .rw [m];split
  .exact v i O1
  .exact bI _
 .rw [n];split
  .exact v _ O1
  .exact bI _
 .rcases bA (t-e) (p+q-1)with h|h
  .have o:=F (t-e) h;rw [show e+(t-e)=t by omega,Ziq]at o;rw [Zmv (Yz _ _),Zmv (Yz _ _),<-o];congr 1
   .exact Xl λk l=>by rw [aO l,m,aO l]
   .exact Xl λk l=>by rw [aF O1,n,aO l,show p+k-p=k by omega]
  .rw [Zei (nC (Yz _ _)) O1,Zei (nC (Yz _ _)) O1];rfl
theorem Ybv (t:Nat){U:List Int}{p X A:Nat}(h:U.length=p)(j:∀i,(cf U i).natAbs<=X)(l:∀i,(cf a i).natAbs<=A):((ps U*ps a).c t).natAbs<=p*(X*A):=by
 rw [Zmv h];have e:=Zkr ((X*A:Nat):Int) (f:=λk=>sft a t k*cf U k) p λk _=>by
  have:(sft a t k*cf U k).natAbs<=X*A:=by
   rw [bR,cI];refine aU (j k) ?_;unfold sft;split
   .exact l _
   .simp
  omega
 have g:((p:Int)*((X*A:Nat):Int))=((p*(X*A):Nat):Int):=by push_cast;rfl
 rw [g]at e;omega
theorem Zgm (w:List Int)(q:List Int)(n:Nat)(h:∀x,Zc w x=Zc q x*Zc y x)(l:Tr y)(e:y≠[])(o:∀i,n<=i->cf w i=0):tzl q=[]\/(tzl q).length+y.length<=n+1:=by
 by_cases j:tzl q=[]
 .grind
 .have m:∀i,cf w i=(ps _*ps y).c i:=λi=>by rw [Mt (q:=lmul (tzl q) y) (λx=>by grind [Yb,Le]) i,Di];rfl
  have v:=Av (p:=tzl q) (q:=y) (a:=(tzl q).length-1) (b:=y.length-1) (λi hi=>Yx O1) (λi hi=>Yx O1);have g:=bF ((Qt q).mem j) (l.mem e);grind
theorem Da (v:List Int){f:List Int}(j:tzl v≠[])(h:∀x,Zc v x*Zc f x=0)(x:Rat):Zc f x=0:=by
 by_cases e:tzl f=[]
 .rw [<-Le,e];rfl
 .rcases Zgm _ v 0 (λx=>by rw [Le,h x];rfl) (Qt f) e (λi _=>Zdr i)with g|g
  all_goals grind [List.length_pos_iff]
structure Inv (a b x y:List Int):Prop where
 ex:∃(α β γ:Int) (u' v' u v:List Int),α≠0/\β≠0/\γ≠0/\
  (∀t:Rat,(α:Rat)*Zc x t=Zc u' t*Zc a t+Zc v' t*Zc b t)/\(∀t:Rat,(β:Rat)*Zc y t=Zc u t*Zc a t+Zc v t*Zc b t)/\
  (∀t:Rat,Zc u' t*Zc v t-Zc u t*Zc v' t=(γ:Rat))/\(tzl v).length<=a.length-x.length+1/\(tzl v').length<=a.length-x.length+1
 xl:x.length<=b.length
 yl:y.length<x.length
theorem Zzw{x:List Int}{L:Int}(g:Tr y)(e:y≠[])(j:z.length<=x.length)(h:∀t:Rat,(L:Rat)*Zc x t=Zc q t*Zc y t+(c:Rat)*Zc z t):tzl q=[]\/(tzl q).length+y.length<=x.length+1:=
 Zgm (Mc (x.map λa=>L*a) (z.map λa=>(-c)*a)) _ _ (λt=>by grind [Xd,Zi]) g e λi hi=>by rw [Me,Qr,Qr,Yx hi,Yx O1];simp
theorem Zap{m n:Nat}(g:(tzl p).length<=m)(j:(tzl q).length<=n)(i:Nat)(hi:m+n<=i+1):cf (lmul p q) i=0:=by have e:cf (lmul p q) i=cf (lmul (tzl p) (tzl q)) i:=Mt (λx=>by grind [Yb,Le]) i;rw [e,Di];have h:=Zei (a:=tzl q) (t:=i) g O1;assumption
def Zo6{n:Nat}(h:∀i,n<=i->cf p i=0):(tzl p).length<=n:=Zby h
theorem Yb3{n:Nat}(h:(tzl p).length<=n)(hi:n<=i):cf p i=0:=by rw [<-Hm];grind [Yx]
theorem Inv.next{x z':List Int}{L:Int}(F:Inv a b x y)(G:b.length<=a.length)(hx:Tr x)(N:Tr y)(B:y≠[])(hL:L≠0)(h:∀t:Rat,(L:Rat)*Zc x t=Zc q t*Zc y t+Zc z' t)(P:Sim z' z)(g:z.length<y.length):Inv a b y z:=by
 obtain⟨⟨α,β,γ,W,o,u,v,R,l,hγ,Z,w,e3,S,V⟩,xl,yl⟩:=F;obtain⟨m,n,hm,H,hs⟩:=P;have M:∀t:Rat,(m:Rat)*Zc z' t=(n:Rat)*Zc z t:=λt=>by
  have:=Ol t (z'.map λa=>m*a) (z.map λa=>n*a) λi=>by grind [Qr]
  grind [Zi]
 have D:∀t:Rat,((L*m:Int):Rat)*Zc x t=Zc (q.map λa=>m*a) t*Zc y t+(n:Rat)*Zc z t:=λt=>by grind [Zi]
 have I:=Zzw N B O1 D;have e:(tzl (q.map λa=>m*a)).length<=x.length-y.length+1:=by grind
 generalize hQ:(q.map λa=>m*a)=Q at *;have j:∀t:Rat,((n*(α*β):Int))*Zc z t=Zc (Mc (W.map λc=>(L*m*β)*c) ((lmul Q u).map λc=>(-α)*c)) t*Zc a t+Zc (Mc (o.map λc=>(L*m*β)*c) ((lmul Q v).map λc=>(-α)*c)) t*Zc b t:=λt=>by rw [Xd,Xd,Zi,Zi,Zi,Zi,Yb,Yb];grind
 refine⟨⟨β,n*(α*β),-(L*m*β*γ),u,v,_,_,l,bF H (bF R l),?_,w,j,λt=>?_,?_,?_⟩,O1,g⟩
 .simp_all
 .rw [Xd,Xd,Zi,Zi,Zi,Zi,Yb,Yb];grind
 .refine Zo6 λi hi=>?_;rw [Me,Qr,Qr,Yb3 (p:=o) V O1,Zap e S i O1];simp
 omega
theorem Inv.first{z':List Int}{L:Int}(l:b.length<=a.length)(I:Tr a)(o:Tr b)(g:b≠[])(G:L≠0)(h:∀t:Rat,(L:Rat)*Zc a t=Zc q t*Zc b t+Zc z' t)(F:Sim z' z)(e:z.length<b.length):Inv a b b z:=by
 obtain⟨m,n,M,v,hs⟩:=F;have D:∀t:Rat,(m:Rat)*Zc z' t=(n:Rat)*Zc z t:=λt=>by
  have:=Ol t (z'.map λa=>m*a) (z.map λa=>n*a) λi=>by grind [Qr]
  grind [Zi]
 have j:∀t:Rat,((L*m:Int):Rat)*Zc a t=Zc (q.map λa=>m*a) t*Zc b t+(n:Rat)*Zc z t:=λt=>by grind [Zi]
 have w:=Zzw o g O1 j;have B:(tzl (q.map λa=>m*a)).length<=a.length-b.length+1:=by grind
 generalize H:(q.map λa=>m*a)=Q at *;refine⟨⟨1,n,-(L*m),[],[1],[L*m],Q.map λc=>(-1)*c,O1,v,?_,λt=>?_,λt=>?_,λt=>?_,?_,?_⟩,aI _,e⟩
 .simp_all
 .rw [Pw];show _=(0:Rat)*_+_;grind
 .grind [Pw,Zi]
 .rw [Pw,Pw];show(0:Rat)*_-_=_;grind
 .refine Zo6 λi hi=>?_;grind [Qr,Yb3]
 grind [Nat.le_trans,Ge]
def Zhv{n:Nat}(h:Sz n a)(i:Nat):(cf a i).natAbs<=2^n:=eD ((Qs n _).1 (h i))
theorem Zaj(h:tzl p=[])(x:Rat):Zc p x=0:=by rw [<-Le,h];rfl
theorem tzl_ne(h:cf p i≠0):tzl p≠[]:=λe=>h ((Ik p).1 e i)
def nn_eq{x a b:Nat}(e:x<=b)(g:b<=a):b-x+1+(a-x+1)=a+b-2*x+2:=O1
theorem Inv.bound{x:List Int}{n s:Nat}(hI:Inv a b x y)(I:b.length<=a.length)(ha:Tr a)(hx:Tr x)(hy:Tr y)(h0:y≠[])(hp:Xq y=1)(na:Sz n a)(nb:Sz n b)(hs:a.length+b.length-2*x.length+2<=2^s) :
  Pd y<=(s+1+n)*(a.length+b.length-2*x.length+2):=by
 obtain⟨⟨α,β,γ,u',v',u,v,hα,hβ,hγ,e1,e2,e3,l1,l2⟩,xl,yl⟩:=hI;have a6:=aN.2 h0;have a5:x≠[]:=λe=>O5;have D:a≠[]:=λe=>by grind
 obtain⟨U,V,lU,lV,W,bU,bV,hz⟩:=Ziu a b (x.length-1) (p:=b.length-x.length+1) (q:=a.length-x.length+1) (A:=2^n) (cD O1) (Zhv na) (Zhv nb) O1 O1 O1;have hv:a.length+1<=(tzl v).length+x.length:=by
  refine aZ λB=>?_;have Q:∀i,cf (Mc (a.map λc=>γ*c) ((lmul y v').map λc=>β*c)) i=cf (lmul (tzl v) (x.map λc=>α*c)) i:=λi=>Mt (λt=>by grind [Xd,Zi,Yb,Le]) i
  have o:=Q (a.length-1);rw [Me,Qr,Qr,Zap (m:=y.length) (n:=a.length-x.length+1) (Ge _) l2 _ O1,Di]at o;have F:=Zei (U:=tzl v) (a:=x.map λc=>α*c) (p:=(tzl v).length) (t:=a.length-1) (aI _) O5;rw [PS.mul_c]at F;have G:Ye (λk=>cf (tzl v) k*cf (x.map λc=>α*c) (a.length-1-k)) (a.length-1+1)=0:=F;rw [G]at o;have:=bF hγ (ha.mem D);omega
 have g:tzl v≠[]:=λe=>O5;have cR:∀i,cf (Mc (lmul U a) (lmul V b)) i=(ps U*ps a).c i+(ps V*ps b).c i:=λi=>by rw [Me,Di,Di,PS.mul_c,PS.mul_c];rfl
 generalize hR:Mc (lmul U a) (lmul V b)=R at cR;have rR:∀t,Zc R t=Zc U t*Zc a t+Zc V t*Zc b t:=λt=>by grind [Xd,Yb]
 have lR:(tzl R).length<=x.length-1:=Zo6 λi hi=>O5;have hf:tzl (Mc (lmul U v) ((lmul u V).map λc=>(-1)*c))=[]:=by
  rcases Zgm (Mc (lmul R v) ((lmul y V).map λc=>(-β)*c)) (Mc (lmul U v) ((lmul u V).map λc=>(-1)*c)) (a.length-1) (y:=a) (λt=>by
   grind [Xd,Zi,Yb]) ha D (λi hi=>by
   rw [Me,Qr,Zap lR l1 i O1,Zap (m:=y.length) (n:=a.length-x.length+1) (Ge _) (aB (Ge _) (nC lV)) i O1];simp)with B|B
  .omega
  .refine aZ λh8=>?_;grind [List.length_pos_iff]
 have a4:∀t,Zc U t*Zc v t=Zc u t*Zc V t:=λt=>by have:=Zaj hf t;grind [Xd,Zi,Yb]
 have a1:∀t,Zc R t*Zc v t=β*Zc y t*Zc V t:=λt=>by grind
 have hw:∀t,(γ:Rat)*Zc V t=Zc v t*Zc (Mc (lmul u' V) ((lmul v' U).map λc=>(-1)*c)) t:=λt=>by rw [Xd,Zi,Yb,Yb,<-e3 t];grind
 generalize Mc (lmul u' V) ((lmul v' U).map λc=>(-1)*c)=w at hw;have hV:tzl V≠[]:=λe=>by
  rcases W with⟨i,hi⟩|⟨i,hi⟩
  .refine hi (Mt (p:=U) (q:=[]) (λt=>?_) i▸Zdr i);exact Da v (f:=U) g (λt=>by grind [Zaj]) t
  grind [tzl_ne]
 have a0:∃c:Int,c≠0/\∀t,Zc w t=(c:Rat):=by
  have j:tzl w≠[]:=λe=>hV ((Ik V).2 λi=>by have:=Mt (p:=V.map λc=>γ*c) (q:=[]) (λt=>by rw [Zi,hw t,Zaj e];show _=(0:Rat);simp) i;grind [Qr,Zdr,Int.mul_eq_zero])
  rcases Zgm (V.map λc=>γ*c) w (a.length-x.length+1) (y:=tzl v) (λt=>by grind [Zi,Le]) (Qt v) g (λi hi=>by grind [Qr,Yx])with B|B
  .grind
  .have h8:=aN.2 j;have h7:(tzl w).length=1:=O1
   match M:tzl w,h7 with
   | [c],_=>
    refine⟨c,?_,λt=>by rw [<-Le,M,Pw]⟩;have:=(Qt w).mem j;rw [M]at this;exact this
 obtain⟨c,P,M⟩:=a0;have h:Sim R y:=by
  refine⟨γ,β*c,hγ,bF hβ P,λi=>?_⟩;have:=Mt (p:=R.map λd=>γ*d) (q:=y.map λd=>(β*c)*d) (λt=>by
   rw [Zi,Zi];push_cast;have o:Zc (Mc (R.map λd=>γ*d) (y.map λd=>(-(β*c))*d)) t=0:=Da v g (λt=>by grind [Xd,Zi]) t
   grind [Xd,Zi]) i
  grind [Qr]
 have Z:Sz ((s+1+n)*(a.length+b.length-2*x.length+2)) R:=λi=>by
  rw [cR];have c1:=Ybv i lU bU (Zhv na);have c2:=Ybv i lV bV (Zhv nb);have H:b.length-x.length+1+(a.length-x.length+1)=a.length+b.length-2*x.length+2:=nn_eq xl I;rw [<-H]at hs ⊢;generalize hN:b.length-x.length+1+(a.length-x.length+1)=N at *;generalize a3:(2*N*2^n)^(N-1)=X at *;have c3:((ps U*ps a).c i+(ps V*ps b).c i).natAbs<=N*(X*2^n):=by rw [<-hN,dO];omega
  refine(Qs _ _).2 (aY c3 ?_);have a2:0<X:=O5;have c4:N*(X*2^n)<(2*N*2^n)^N:=by
   have e:(2*N*2^n)^N=X*(2*N*2^n):=by grind [Nat.pow_succ,Nat.succ_eq_add_one]
   grind [Nat.mul_pos,Nat.pow_pos]
  have c5:2*N*2^n<=2^(s+1+n):=by rw [bQ,dH];exact aQ _ O1
  grind [Nat.pow_le_pow_left,Nat.pow_mul,Nat.lt_of_lt_of_le]
 have o:tzl R≠[]:=λe=>by obtain⟨m,k,hm,S,e9⟩:=h;have:=e9 (y.length-1);rw [(Ik R).1 e,eI]at this;exact bF S (hy.mem h0) this.symm
 have l:Sim (tzl R) y:=by obtain⟨m,k,hm,S,e9⟩:=h;exact⟨m,k,hm,S,λi=>by grind [Hm]⟩
 have F:=(Qx (Qt R)).trans l;have G:∀i,(cf y i).natAbs=(cf (Yw (tzl R)) i).natAbs:=λi=>by
  rcases Zs7 (Xj (Qt R)) hy (λe=>o (aK (by grind [Yp]))) (Gh (Qt R) o) hp F with B|B
  all_goals grind
 exact Og λi=>by rw [G];exact Cq Z.tzl i
def Zt6(g e K:Nat):Prop:=∀l,l<=e->(l+1)*(K*(g+e-2*l+2)+1)<=65536
def Zv0{e g l m:Nat}(h:l<=m):K*(e+g-2*m+2)<=K*(e+g-2*l+2):=bD _ O1
theorem Zhf{x:List Int}{C:Nat}(e:y≠[])(m:y.length<x.length)(g:Pd x<=C)(j:Pd y<=C)(h:(x.length+1)*(C+1)<=65536):Bv x y=0:=by have n:=aN.2 e;unfold Bv;have l:(x.length-y.length+1)*(Pd y+1)<=x.length*(C+1):=aU O1 O1;grind
theorem Ydv{x:List Int}(m:Inv a b x y)(g:b.length<=a.length)(j:Tr x)(l:Tr y)(e:y≠[]):Inv a b y (Yw (Qw x y)):=by
 obtain⟨k,s,hs⟩:=Zbe x e;have h:=Iv (l.mem e) k;generalize cf y _^k=L at hs h;have n:∀t,(L)*Zc x t=Zc s t*Zc y t+Zc (Qw x y) t:=λt=>by have:=Ck L (-1) x s y (Qw x y) (λt=>O5) t;grind
 exact m.next g j l e h n (Qx (Hc j)).symm (by simp_all [Yp,Ps])
theorem Zgr(h:Tr p):Yw p=[]\/Xq (Yw p)=1:=by
 by_cases e:p=[]
 .left;rw [e];rfl
 grind [Gh]
theorem Bs{x:List Int}(g:Tr x)(e:y≠[]):(Ms x y).length<y.length:=by simp_all [Zb7,Ps]
theorem Ydu{x:List Int}(m:Inv a b x y)(j:b.length<=a.length)(g:Tr x)(h:Tr y)(e:y≠[]):Inv a b y (Ms x y)/\(Ms x y=[]\/Xq (Ms x y)=1):=by
 have w:=aN.2 e;have o:=m.yl;obtain⟨r1,r2,k,u,v⟩:=Zge h e x.length x g O1;have hs:=Zhx x.length g h e O1 O1;have l:Tr (Zh4 (Zb2 x.length x y)):=Nu _ _;have n:Zc3 y^k≠0:=Iv (by have:=Zgl h e;omega) _;constructor
 .refine m.next (z':=Zb2 x.length x y) (q:=u) j g h e n (λt=>?_) ?_ (Bs g e)
  .have:=Ck (Zc3 y^k) (-1) x u y (Zb2 x.length x y) (λt=>O5) t;grind
  .rw [<-hs];exact Sim.trans ⟨1,-1,O1,O1,λi=>by grind [Zay]⟩ (Qx l).symm
 grind [Zgr]
theorem Yba{a b:List Int}{n s K:Nat}(g:b.length<=a.length)(F:Tr a)(I:Sz n a)(M:Sz n b)(hs:a.length+b.length<=2^s)(B:s+1+n<=K)(D:Zt6 a.length b.length K) :
  ∀(f:Nat) (x y:List Int),Inv a b x y->Tr x->Tr y->(y=[]\/Xq y=1)->Pd x<=K*(a.length+b.length-2*x.length+2)->y.length<=f->eok f x y/\Pd (eu f x y)<=K*(a.length+b.length)
 | 0,x,y,e,o,v,G,m,Q=>by have l:=e.yl;refine⟨aK O1,aB m (bD _ (by have:=e.xl;omega))⟩
 | f+1,x,y,e,o,v,G,m,Q=>by
  have w:=e.yl;have l:=e.xl;by_cases h:y=[]
  .subst h;refine⟨.inl rfl,?_⟩;exact aB m (bD _ O1)
  .have N:=e.bound g F o v h (G.resolve_left h) I M (s:=s) O1;have j:=aB N (aQ _ B);have P:=Zhf h w m j (D _ l);have H:=Hc (q:=y) o;have R:=Yba g F I M hs B D f y _ (Ydv e g o v h) v (Xj H) (Zgr H) (aB j (Zv0 O1)) (by rw [Yp];have:=Ps x h;omega);refine⟨.inr ⟨P,R.1⟩,?_⟩;rw [show eu _ x y=eu f y (Yw (Qw x y)) by
     conv=>lhs;unfold eu
     grind]
   omega
theorem Ybw{a b:List Int}{n s K:Nat}(j:b.length<=a.length)(G:Tr a)(M:Sz n a)(N:Sz n b)(hs:a.length+b.length<=2^s)(D:s+1+n<=K)(F:Zt6 a.length b.length K) :
  ∀(f:Nat) (x y:List Int),Inv a b x y->Tr x->Tr y->(y=[]\/Xq y=1)->Pd x<=K*(a.length+b.length-2*x.length+2)->y.length<=f->cok f x y/\∀p∈Mx f x y,Pd p<=K*(a.length+b.length)/\p.length<=a.length
 | 0,x,y,h,o,w,e,m,R=>by
  have v:=h.yl;have H:=h.xl;have g:y=[]:=aK O1;refine⟨g,λp e=>?_⟩;have:p=x:=by unfold Mx at e;grind
  rw [this];exact⟨aB m (bD _ O1),O1⟩
 | f+1,x,y,h,o,w,e,m,R=>by
  have B:=h.yl;have v:=h.xl;by_cases g:y=[]
  .subst g;refine⟨.inl rfl,λp e=>?_⟩;rw [Am]at e;have:p=x:=O5;rw [this];exact⟨aB m (bD _ O1),O1⟩
  .have P:=h.bound j G o w g (e.resolve_left g) M N (s:=s) O1;have l:=aB P (aQ _ D);have Q:=Zhf g B m l (F _ v);obtain⟨S,V⟩:=Ydu h j o w g;have I:=Ybw j G M N hs D F f y _ S w (Zcw o) V (aB l (Zv0 O1)) (by have:=Bs o g;omega);refine⟨.inr ⟨Q,O1,I.1⟩,λp e=>?_⟩;unfold Mx at e;rw [aF g]at e;rcases aW.1 e with rfl|e
   .exact⟨aB m (bD _ O1),O1⟩
   .exact I.2 p e
theorem Ypt{n s f:Nat}(j:b.length<a.length)(h:Tr a)(l:Tr b)(v:Sz n a)(w:Sz n b)(hs:a.length+b.length<=2^s)(D:s+1+n<=K)(G:Zt6 a.length b.length K)(H:(a.length+1)*(n+1)<=65536)(R:b.length<=f) :
  eok f a b/\Pd (eu f a b)<=K*(a.length+b.length):=by
 have P:=Og v;have Q:=Og w;have F:n<=K*(a.length+b.length):=aB (by omega:n<=K*1) (bD _ O1);by_cases e:b=[]
 .subst e;cases f with
  | zero=>exact⟨rfl,by grind [Zmk]⟩
  | succ f=>exact⟨.inl rfl,by grind [Zmk]⟩
 .have S:=aN.2 e;obtain⟨g,rfl⟩:∃g,f=g+1:=⟨f-1,O1⟩;have m:=Hc (q:=b) h;obtain⟨k,q,M⟩:=Zbe a e;have o:=Iv (l.mem e) k;generalize cf b _^k=L at M o;have I:∀t,(L)*Zc a t=Zc q t*Zc b t+Zc (Qw a b) t:=λt=>by have:=Ck L (-1) a q b (Qw a b) (λt=>O5) t;grind
  have B:=Inv.first O1 h l e o I (Qx m).symm (by simp_all [Yp,Ps]);have N:=Yba O1 h v w hs D G g b _ B l (Xj m) (Zgr m) (aB (by omega:Pd b<=K*1) (bD _ O8)) (by rw [Yp];have:=Ps a e;omega);refine⟨.inr ⟨Zhf e j P Q H,N.1⟩,?_⟩;rw [show eu _ a b=eu g b (Yw (Qw a b)) by
    conv=>lhs;unfold eu
    grind]
  omega
theorem Yqf{n s f:Nat}(v:b.length<a.length)(j:Tr a)(l:Tr b)(D:Sz n a)(F:Sz n b)(hs:a.length+b.length<=2^s)(H:s+1+n<=K)(M:Zt6 a.length b.length K)(N:(a.length+1)*(n+1)<=65536)(S:b.length<=f) :
  cok f a b/\∀p∈Mx f a b,Pd p<=K*(a.length+b.length)/\p.length<=a.length:=by
 have Q:=Og D;have R:=Og F;have I:n<=K*(a.length+b.length):=aB (by omega:n<=K*1) (bD _ O1);by_cases e:b=[]
 .subst e;have h:∀p∈Mx f a [],Pd p<=K*(a.length+([]:List Int).length)/\p.length<=a.length:=λp m=>by rw [Am]at m;grind
  cases f with
  | zero=>exact⟨rfl,h⟩
  | succ f=>exact⟨.inl rfl,h⟩
 .have W:=aN.2 e;obtain⟨g,rfl⟩:∃g,f=g+1:=⟨f-1,O1⟩;obtain⟨r1,r2,k,u,V⟩:=Zge l e a.length a j O1;have w:=Zhx a.length j l e O1 O1;have B:Tr (Zh4 (Zb2 a.length a b)):=Nu _ _;have o:Zc3 b^k≠0:=Iv (by have:=Zgl l e;omega) _;have G:=by
   refine Inv.first (z':=Zb2 a.length a b) (q:=u) O1 j l e o (λt=>?_) ?_ (Bs j e)
   .have:=Ck (Zc3 b^k) (-1) a u b (Zb2 a.length a b) (λt=>O5) t;grind
   .rw [<-w];exact Sim.trans ⟨1,-1,O1,O1,λi=>by grind [Zay]⟩ (Qx B).symm
  have m:Ms a b=[]\/Xq (Ms a b)=1:=by grind [Zgr]
  have P:=Ybw O1 j D F hs H M g b _ G l (Zcw j) m (aB (by omega:Pd b<=K*1) (bD _ O8)) (by have:=Bs j e;omega);refine⟨.inr ⟨Zhf e v Q R N,O1,P.1⟩,λp m=>?_⟩;unfold Mx at m;grind
def al:List Int->List Int->List Int
 | [],g=>g
 | a::f,[]=>a::f
 | a::f,b::g=>(a+b)::al f g
def scl(c:Int)(f:List Int):List Int:=f.map (c*·)
def ddl(k:Nat):List Int->List Int
 | []=>[]
 | b::g=>(k:Int)*b::ddl (k+1) g
def dl(f:List Int):List Int:=ddl 1 f.tail
def xl:List Int->List Int
 | []=>[]
 | a::f=>0::a::f
def fc:Nat->Int
 | 0=>1
 | k+1=>((k:Int)+1)*fc k
def Ff:Nat->List Int->List Int->Int
 | k,a::f,b::g=>fc k*(a*b)+Ff (k+1) f g
 | _,_,_=>0
theorem Zq3(k:Nat)(f:List Int):Ff k f []=0:=by cases f<;>rfl
theorem Ylz(f:List Int):al f []=f:=by cases f<;>rfl
theorem Ycg:∀f g:List Int,al f g=al g f
 | [],g=>(Ylz g).symm
 | a::f,[]=>rfl
 | a::f,b::g=>by show(a+b)::al f g=(b+a)::al g f;rw [Ycg f g,lA]
theorem Zwc:∀f g h:List Int,al (al f g) h=al f (al g h)
 | [],g,h=>rfl
 | a::f,[],h=>rfl
 | a::f,b::g,[]=>rfl
 | a::f,b::g,c::h=>by show(a+b+c)::al _ h=(a+(b+c))::al f _;rw [Zwc f g h,Int.add_assoc]
instance:Std.Commutative al:=⟨Ycg⟩
instance:Std.Associative al:=⟨Zwc⟩
theorem Ygf(c:Int):∀f g,scl c (al f g)=al (scl c f) (scl c g)
 | [],g=>rfl
 | a::f,[]=>rfl
 | a::f,b::g=>by show c*(a+b)::scl c _=(c*a+c*b)::al (scl c f) (scl c g);rw [Ygf c f g,kR]
theorem Zzl(c d:Int):∀f,scl (c+d) f=al (scl c f) (scl d f)
 | []=>rfl
 | a::f=>by show(c+d)*a::scl _ f=(c*a+d*a)::al (scl c f) (scl d f);rw [Zzl c d f,mD]
theorem Zjn:∀f,scl 1 f=f
 | []=>rfl
 | a::f=>by show 1*a::scl 1 f=a::f;rw [Zjn f,jC]
theorem Ykg:∀k f g,ddl k (al f g)=al (ddl k f) (ddl k g)
 | k,[],g=>rfl
 | k,a::f,[]=>rfl
 | k,a::f,b::g=>by show(k)*(a+b)::ddl _ _=((k)*a+(k)*b)::al _ _;rw [Ykg _ f g,kR]
theorem Ybn(c:Int):∀k f,ddl k (scl c f)=scl c (ddl k f)
 | k,[]=>rfl
 | k,a::f=>by show(k)*(c*a)::ddl _ (scl c f)=c*((k)*a)::scl c _;rw [Ybn c _ f,Int.mul_left_comm]
theorem Zvg:∀k f,ddl (k+1) f=al f (ddl k f)
 | k,[]=>rfl
 | k,a::f=>by show((k+1))*a::ddl _ f=(a+(k)*a)::al f _;rw [Zvg _ f];grind
def dl_al:∀f g,dl (al f g)=al (dl f) (dl g)
 | [],g=>rfl
 | a::f,[]=>(Ylz _).symm
 | a::f,b::g=>Ykg 1 f g
def dl_scl(c:Int):∀f,dl (scl c f)=scl c (dl f)
 | []=>rfl
 | a::f=>Ybn c 1 f
theorem dl_x:∀f,dl (xl f)=al f (xl (dl f))
 | []=>rfl
 | [a]=>by show(((1))*a::[])=[a];simp
 | a::b::f=>by show((1))*a::ddl _ _=(a+0)::al _ (ddl 1 (b::f));simp [Zvg,jC,bP]
def xl_al:∀f g,xl (al f g)=al (xl f) (xl g)
 | [],g=>rfl
 | a::f,[]=>rfl
 | a::f,b::g=>rfl
theorem xl_scl(c:Int):∀f,xl (scl c f)=scl c (xl f)
 | []=>rfl
 | a::f=>by show 0::c*a::scl c f=c*0::c*a::scl c f;simp
theorem Zdg:∀k f g,Ff k f g=Ff k g f
 | k,[],g=>(Zq3 k g).symm
 | k,a::f,[]=>rfl
 | k,a::f,b::g=>by show fc k*(a*b)+Ff _ f g=fc k*(b*a)+Ff _ g f;rw [Zdg _ f g,jI a b]
theorem Zmg:∀k f g h,Ff k (al f g) h=Ff k f h+Ff k g h
 | k,[],g,h=>by show Ff k g h=0+Ff k g h;omega
 | k,a::f,[],h=>(bP _).symm
 | k,a::f,b::g,[]=>rfl
 | k,a::f,b::g,c::h=>by show fc k*((a+b)*c)+Ff _ _ h=fc k*(a*c)+Ff _ f h+(fc k*(b*c)+Ff _ g h);rw [Zmg _ f g h];grind
theorem Zmf(k:Nat)(h f g:List Int):Ff k h (al f g)=Ff k h f+Ff k h g:=by grind [Zdg,Zmg]
theorem Zg8(c:Int):∀k f g,Ff k (scl c f) g=c*Ff k f g
 | k,[],g=>(eI c).symm
 | k,a::f,[]=>(eI c).symm
 | k,a::f,b::g=>by show fc k*(c*a*b)+Ff _ (scl c f) g=c*(fc k*(a*b)+Ff _ f g);rw [Zg8 c _ f g];grind
theorem Zq2(c:Int)(k:Nat)(f g:List Int):Ff k f (scl c g)=c*Ff k f g:=by grind [Zdg,Zg8]
theorem Yjj:∀k f g,Ff (k+1) f g=Ff k f (ddl (k+1) g)
 | k,[],g=>rfl
 | k,a::f,[]=>rfl
 | k,a::f,b::g=>by show((k)+1)*fc k*(a*b)+Ff _ f g=fc k*(a*(((k+1))*b))+Ff _ f _;rw [Yjj _ f g];grind
theorem fip_x:∀f g,Ff 0 (xl f) g=Ff 0 f (dl g)
 | [],g=>rfl
 | a::f,[]=>rfl
 | a::f,b::g=>by show fc 0*(0*b)+Ff 1 _ g=Ff 0 _ (ddl 1 g);simp [cQ,eI,mZ,Yjj]
theorem Yjg(f g:List Int):Ff 0 f (xl g)=Ff 0 (dl f) g:=by grind [Zdg,fip_x]
def Mq:List Int->Nat->List Int->List Int
 | [],_,_=>[]
 | c::q,0,g=>al (scl c g) (xl (Mq q 0 g))
 | c::q,j+1,g=>al (xl (Mq q (j+1) g)) (Mq q j g)
def Hq:List Int->Nat->List Int->List Int
 | [],_,_=>[]
 | c::p,0,f=>al (scl c f) (Hq p 0 (dl f))
 | c::p,k+1,f=>al (Hq p (k+1) (dl f)) (Hq p k f)
theorem Ybk:∀q j g,dl (Mq q j g)=al (Mq q j (dl g)) (scl ((j:Int)+1) (Mq q (j+1) g))
 | [],j,g=>rfl
 | c::q,0,g=>by
  show dl (al _ _)=al (al _ _) (scl _ (al _ _));rw [dl_al,dl_scl,dl_x,Ybk q 0 g,xl_al];rw [show((0:Nat):Int)+1=1 from rfl,Zjn,Zjn]
  ac_rfl
 | c::q,j+1,g=>by
  show dl (al _ _)=al (al _ _) (scl _ (al _ _));rw [dl_al,dl_x,Ybk q _ g,Ybk q j g,xl_al,xl_scl,Ygf];rw [show scl (((j+1:Nat))+1) (Mq q _ g)=al (scl ((j)+1) (Mq q (j+1) g)) (Mq q (j+1) g) by simp [Zzl,Zjn]]
  grind
theorem Zjz:∀q j f g,Ff 0 f (Mq q j g)=Ff 0 (Hq q j f) g
 | [],j,f,g=>Zq3 0 f
 | c::q,0,f,g=>by show Ff 0 f (al _ _)=Ff 0 (al _ _) g;rw [Zmf,Zmg,Zq2,Zg8,Yjg,Zjz q 0 _ g]
 | c::q,j+1,f,g=>by show Ff 0 f (al _ _)=Ff 0 (al _ _) g;rw [Zmf,Zmg,Yjg,Zjz q _ _ g,Zjz q j f g]
def wfa:Nat->Nat->Int
 | j,0=>1
 | j,k+1=>((j:Int)+1)*wfa (j+1) k
theorem Zo3:∀k j,0<wfa j k
 | 0,j=>by show(0)<1;omega
 | k+1,j=>dU O8 (Zo3 k _)
theorem Zme:∀(p q:List Int) (j:Nat) (f g:List Int) (K:Nat),p.length<=K->Ff 0 (Mq p 0 f) (Mq q j g)=Ye (λk=>wfa j k*Ff 0 (Hq q (j+k) f) (Hq p k g)) K
 | [],q,j,f,g,K,_=>by rw [Es (λk h=>by show wfa j k*Ff 0 _ []=0;rw [Zq3,eI])];rfl
 | c::p,q,j,f,g,K,hK=>by
  obtain⟨e,rfl⟩:∃e,K=e+1:=⟨K-1,O5⟩;have l:p.length<=e:=O5;have m:=Zme p q j f (dl g) (e+1) O1;have v:=Zme p q (j+1) f g e l;show Ff 0 (al _ _) _=_;rw [Zmg,Zg8,fip_x,Ybk,Zmf,Zq2,m,Zjz];rw [Lh,Lh _];have n:Ff 0 (Hq q (j+0) f) (Hq (c::p) 0 g)=c*Ff 0 (Hq q j f) g+Ff 0 (Hq q j f) (Hq p 0 (dl g)):=by show Ff 0 (Hq q j f) (al _ _)=_;rw [Zmf,Zq2]
  have o:Ye (λk=>wfa j (k+1)*Ff 0 (Hq q (j+(k+1)) f) (Hq (c::p) (k+1) g)) e=Ye (λk=>wfa j (k+1)*Ff 0 (Hq q (j+(k+1)) f) (Hq p (k+1) (dl g))) e+((j)+1)*Ye (λk=>wfa (j+1) k*Ff 0 (Hq q (j+1+k) f) (Hq p k g)) e:=by rw [<-Mr,<-Dz];refine Xl λk h=>?_;show _*Ff 0 _ (al _ _)=_;rw [Zmf];show((j)+1)*wfa _ k*_=((j)+1)*wfa _ k*_+_;grind
  show _=(1)*_+_;show _*_+((1)*_+_+_)=_;grind
theorem Zpe(a:Int):0<=a*a:=by
 rcases lD 0 a with h|h
 .exact aS h h
 .have:=aS (show 0<=-a by omega) (show 0<=-a by omega);grind
theorem Zii:∀k,1<=fc k
 | 0=>O4
 | k+1=>by have h:=Zii k;show 1<=((k)+1)*fc k;have e:=jJ (show(1:Int)<=(k)+1 by omega) h O4 O1;omega
theorem Yjk(k:Nat)(f:List Int)(b:Int)(g:List Int):Ff k f (b::g)=fc k*(cf f 0*b)+Ff (k+1) f.tail g:=by
 cases f with
 | nil=>show(0)=fc k*(0*b)+Ff _ [] g;rw [cQ,eI];rfl
 | cons a f=>rfl
theorem Yk7(f:List Int)(i:Nat):cf f.tail i=cf f (i+1):=by cases f<;>rfl
theorem Zq5:∀k (f e g:List Int),(∀i,cf f i=cf e i)->Ff k f g=Ff k e g
 | k,f,e,[],h=>by grind [Zq3]
 | k,f,e,b::g,h=>by rw [Yjk,Yjk,h 0,Zq5 _ _ e.tail g λi=>by rw [Yk7,Yk7,h]]
theorem Zq4:∀k f,0<=Ff k f f
 | k,[]=>eA _
 | k,a::f=>by show 0<=fc k*(a*a)+Ff _ f f;have e:=Zq4 (k+1) f;have g:=aS (show 0<=fc k by have:=Zii k;omega) (Zpe a);omega
theorem Yji:∀k f i,cf f i*cf f i<=Ff k f f
 | k,[],i=>by exact eA _
 | k,a::f,0=>by show a*a<=fc k*(a*a)+Ff _ f f;have e:=Zq4 (k+1) f;have g:=cC (Zii k) (Zpe a);omega
 | k,a::f,i+1=>by show cf f i*cf f i<=fc k*(a*a)+Ff _ f f;have e:=Yji (k+1) f i;have g:=aS (show 0<=fc k by have:=Zii k;omega) (Zpe a);omega
def fcs:Nat->Nat->Int
 | k,0=>0
 | k,n+1=>fc k+fcs (k+1) n
theorem Yjs:∀n k,0<=fcs k n
 | 0,k=>eA _
 | n+1,k=>by have h:=Yjs n (k+1);have:=Zii k;show 0<=fc k+fcs _ n;omega
theorem Yjh:∀n k (f:List Int) (A:Int),f.length<=n->(∀x∈f,x*x<=A)->0<=A->Ff k f f<=fcs k n*A
 | n,k,[],A,_,_,e=>aS (Yjs n k) e
 | 0,k,a::f,A,h,_,_=>O5
 | n+1,k,a::f,A,h,hx,e=>by have j:=Yjh n (k+1) f A (by simpa using h) (λx g=>hx x (bN _ g)) e;have l:=fK (hx a (bX ..)) (show 0<=fc k by have:=Zii k;omega);show fc k*(a*a)+Ff _ f f<=(fc k+fcs _ n)*A;rw [mD];omega
theorem Zy1:∀p k f,p.length<=k->Hq p k f=[]
 | [],k,f,_=>by all_goals rfl
 | c::p,0,f,h=>O5
 | c::p,k+1,f,h=>by
  show al _ _=[];have e:=by simpa using h
  rw [Zy1 p _ _ O1,Zy1 p k _ e];rfl
theorem Ymc:∀p k f,p.length=k+1->Hq p k f=scl (cf p k) f
 | [],k,f,h=>O5
 | [c],0,f,h=>Ylz _
 | c::d::p,0,f,h=>O5
 | c::p,k+1,f,h=>by
  have e:=by simpa using h
  show al _ _=scl _ f;rw [Zy1 p _ _ O1,Ymc p k f e];rfl
theorem Ylc:∀f g i,cf (al f g) i=cf f i+cf g i
 | [],g,i=>by rw [Yx (p:=[]) O8,mZ];rfl
 | a::f,[],i=>by rw [Yx (p:=[]) O8,bP];rfl
 | a::f,b::g,0=>rfl
 | a::f,b::g,i+1=>Ylc f g i
def Yla(c:Int)(f:List Int)(i:Nat):cf (scl c f) i=c*cf f i:=Zfy f _ (eI c) i
theorem cf_xl0(f:List Int):cf (xl f) 0=0:=by cases f<;>rfl
theorem cf_xl(f:List Int)(i:Nat):cf (xl f) (i+1)=cf f i:=by cases f<;>rfl
theorem cf_Mq:∀p f i,cf (Mq p 0 f) i=(ps p*ps f).c i
 | [],f,i=>by rw [PS.mul_c,Es (λk _=>by simp [Lo,Yx,cQ])];rfl
 | c::p,f,0=>by show cf (al _ _) 0=_;rw [Ylc,Yla,cf_xl0,PS.mul_c,Lh,bP];exact(bP _).symm
 | c::p,f,i+1=>by show cf (al _ _) _=_;rw [Ylc,Yla,cf_xl,cf_Mq p f i,PS.mul_c,PS.mul_c,Lh _ (i+1)];refine aH _ (Xl λk e=>?_);show cf p k*cf f _=cf p k*cf f _;simp
theorem Yd3{s v:List Int}{n L e:Nat}(hu:Tr u)(B:Tr v)(hs:Sz n s)(G:s≠[])(V:s.length<=L)(Q:fcs 0 L<=2^e*2^e)(h:s=Pa u v):Sz (n+e) u:=by
 have a0:v≠[]:=λe=>G (by grind [Zfl]);obtain⟨m,Z⟩:∃m,v.length=m+1:=⟨v.length-1,by grind [List.length_pos_iff]⟩;have w:cf v m≠0:=by
  rcases B with B|B
  all_goals grind
 have l:∀i,cf (Mq v 0 u) i=cf s i:=λi=>by rw [cf_Mq,h,Zbg,Gz]
 have g:=Zme v v 0 u u (m+1) O1;rw [Zq5 0 _ s _ l,Zdg,Zq5 0 _ s _ l,Yi,bZ,Ymc v m u Z,Zg8,Zq2]at g;have j:∀t,0<=Ye (λk=>wfa 0 k*Ff 0 (Hq v (0+k) u) (Hq v k u)) t:=λt=>by
  induction t with
  | zero=>exact eA _
  | succ t ih=>
   rw [Yi,bZ];have:=aS (show 0<=wfa 0 t by have:=Zo3 t 0;omega) (Zq4 0 (Hq v t u));omega
 have hr:=j m;have P:1<=cf v m*cf v m:=by have h1:=Zpe (cf v m);grind [Int.mul_eq_zero]
 have R:=Zq4 0 u;have h3:Ff 0 u u<=cf v m*(cf v m*Ff 0 u u):=by have:=cC P R;grind
 have h4:=by have:=cC (show 1<=wfa 0 m from Zo3 m 0) (show 0<=cf v m*(cf v m*Ff 0 u u) by omega);omega
 intro i;rw [Qs];have h5:=Yji 0 u i;have M:∀x∈s,x*x<=(2^n-1)*(2^n-1):=λx hx=>by
  have hb:x.natAbs<2^n:=(Qs n _).1 (hs.mem hx);have N:((2^n:Nat):Int)=2^n:=by rfl
  have p1:x<=2^n-1:=O1;have p2:-(2^n-1)<=x:=O1;generalize (2:Int)^n-1=y at *;have:=aS (show 0<=y-x by omega) (show 0<=y+x by omega);grind
 have hp:(1:Int)<=2^n:=by exact_mod_cast cD (n:=n) (show 0<2 by omega)
 have F:(1:Int)<=2^e:=by exact_mod_cast cD (n:=e) (show 0<2 by omega)
 have h6:=Yjh L 0 s _ V M (aS O1 O1);have h7:=by have:=cC Q (show(0:Int)<=(2^n-1)*(2^n-1)from aS O1 O1);omega
 rcases bA (cf u i).natAbs (2^(n+e))with W|S
 .omega
 .exfalso;have D:(2^n*2^e:Int)<=((cf u i).natAbs:Int):=O5;have I:((cf u i).natAbs:Int)*((cf u i).natAbs:Int)=cf u i*cf u i:=Int.natAbs_mul_self;have o:=jJ D D (aS O1 O1) O8;rw [I]at o;generalize (2:Int)^n=X at *;generalize (2:Int)^e=Y at *;have H:(Y*Y)*((X-1)*(X-1))<(Y*Y)*(X*X):=by have hy:=jJ F F O1 O1;refine Int.mul_lt_mul_of_pos_left ?_ O1;grind
  grind
end Go.Sky

