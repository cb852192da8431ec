/- Rules, arithmetic and contracts: part 5. No conditions but those that each theorem names. -/
import Derived.Test.YtlnoheikolgejaaGreatLc03
set_option linter.all false
namespace Go.Sky
variable{y x d p q a u b xs v:List Int}{c Y:Int}{m i K:Nat}{s η ε t δ:Rat}{f:Rat->Rat}{z:List (SL×List (Int×SL))}{fs r:List (Rat->Rat)}{ls:List (List Int)}
theorem Yje{n:Nat}(g:y.length=n)(e:c=cf y (n-1))(h:c.sign<0):Eu y=-c:=by subst g;unfold Eu;rw [<-e,aP (Zd8.1 h)]
theorem Yjd{n:Nat}(j:y.length=n)(g:c=cf y (n-1))(h:¬c.sign<0):Eu y=c:=by subst j;unfold Eu;rw [<-g,aJ (λe=>h (Zd8.2 e))]
theorem rb_n{d:Int}{n:Nat}(k:y.length=n)(j:x.length=m)(e:c=cf y (n-1))(g:d=cf x (m-1))(h:c.sign<0):rb x y=-d:=by subst k j;unfold rb;rw [<-e,aP (Zd8.1 h),g]
theorem rb_p{d:Int}{n:Nat}(l:y.length=n)(k:x.length=m)(g:c=cf y (n-1))(j:d=cf x (m-1))(h:¬c.sign<0):rb x y=d:=by subst l k;unfold rb;rw [<-g,aJ (λe=>h (Zd8.2 e)),j]
theorem Ydz(y:List Int):bl (Eu y).natAbs<=Xx y:=by
 have:=Pg y (y.length-1);unfold Eu;split
 .rwa [dV]
 .exact this
theorem bl_rb(x y:List Int):bl (rb x y).natAbs<=Xx x:=by
 have:=Pg x (x.length-1);unfold rb;split
 .rwa [dV]
 .exact this
theorem Zb1{n:Nat}(e:Sz n p)(j:bl c.natAbs<=m):Sz (n+m) (Zw p c):=λi=>by rw [Ym];have g:=Yu (cf p i) c;have h:=e i;omega
theorem Yhh{n:Nat}(e:Sz n p)(g:Sz n q):Sz (n+1) (Bf p q):=λi=>by rw [Hd];have h:=Ad (cf p i) (cf q i);have j:=e i;have k:=g i;omega
theorem sz_shm'{s:Nat} : Sz (Xx x+Xx y) (shm y (rb x y) s i):=Zqr λt=>by have e:=Yu (rb x y) (cf y t);have g:=bl_rb x y;have h:=Pg y t;omega
theorem Zpt(x y:List Int):Xx (Dn x y)<=Xx x+Xx y+1:=by refine Qu ?_;unfold Dn;exact Yhh (Zb1 (Pg x) (Ydz y)) sz_shm'
theorem Ye1{f S:Nat}(h:0<y.length)(e:y.length<=x.length)(o:x.length<y.length+f)(l:Tr x)(k:Xx x+f*(Xx y+1)<=S) :
  ∃g,f=g+1/\Ff f x y=Ff g (Dn x y) y/\(Dn x y).length<y.length+g/\Tr (Dn x y)/\Xx (Dn x y)+g*(Xx y+1)<=S/\(Dn x y).length<x.length:=by
 obtain⟨g,rfl⟩:∃g,f=g+1:=⟨f-1,O⟩;have j:=Zhe l h e;have n:=Zpt x y;refine⟨g,rfl,?_,O,Zad _ _,?_,j⟩
 .rw [Ff,aJ O]
 .rw [dR]at k;omega
theorem Yiw{f:Nat}(h:x.length<y.length):Ff f x y=x:=by
 cases f with
 | zero=>rfl
 | succ f=>rw [Ff,aP h]
theorem Zvo(y:List Int):∀(f:Nat) (x:List Int),Xx (Ff f x y)<=Xx x+f*(Xx y+1)
 | 0,x=>by rw [Ff];omega
 | f+1,x=>by
  rw [Ff];split
  .omega
  .have e:=Zvo y f (Dn x y);have g:=Zpt x y;rw [dR];omega
theorem Yf1{L:List (List Int)}(h:Bo z=L):z.length=L.length:=by rw [<-h];simp
theorem Zs3{n l x:Int}(e:-1<=l)(g:l<=1)(h:-1<=x)(j:x<=1):Nk (n,l) x=(if x*l<0 then n+1 else n,if x≠0 then x else l):=by
 obtain rfl|rfl|rfl:l=-1\/l=0\/l=1:=O
 all_goals obtain rfl|rfl|rfl:x=-1\/x=0\/x=1:=O
 all_goals simp [Nk]
theorem Ya8{n l x:Int}(e:-1<=l)(g:l<=1)(h:-1<=x)(j:x<=1)(k:x*l<0)(o:x≠0):Nk (n,l) x=(n+1,x):=by rw [Zs3 e g h j,aP k,aP o]
theorem Ya7{n l x:Int}(e:-1<=l)(g:l<=1)(h:-1<=x)(j:x<=1)(k:x*l<0)(o:¬x≠0):Nk (n,l) x=(n+1,l):=by rw [Zs3 e g h j,aP k,aJ o]
theorem Ya6{n l x:Int}(e:-1<=l)(g:l<=1)(h:-1<=x)(j:x<=1)(k:¬x*l<0)(o:x≠0):Nk (n,l) x=(n,x):=by rw [Zs3 e g h j,aJ k,aP o]
theorem Ya5{n l x:Int}(e:-1<=l)(g:l<=1)(h:-1<=x)(j:x<=1)(k:¬x*l<0)(o:¬x≠0):Nk (n,l) x=(n,l):=by rw [Zs3 e g h j,aJ k,aJ o]
theorem Zd5 (l:List Int)(i:Nat){n m:Int}(hi:i<l.length)(h:(n,m)=(l.take i).foldl Nk (0,0)):(l.take (i+1)).foldl Nk (0,0)=Nk (n,m) (l.getD i 0):=by rw [Qz 0 l i hi,Zci,h]
theorem mul_r{x m:Int}(h:-1<=x)(j:x<=1)(e:-1<=m)(g:m<=1):-9223372036854775808<=x*m/\x*m<=9223372036854775807:=by
 obtain rfl|rfl|rfl:m=-1\/m=0\/m=1:=O
 all_goals obtain rfl|rfl|rfl:x=-1\/x=0\/x=1:=O
 all_goals decide
def ev_b{x y:Int}(hs:Sz 1000000 p)(e:p.length<=30)(g:bl x.natAbs<=1000000)(h:bl y.natAbs<=1000000):bl (pev p x y).natAbs<=100000010:=
 Zs8 (λt _=>ev_tb hs (λk=>Zaf g k) (λk=>Zaf h k) e t) O
theorem Yf0{L:List (List Int)}(h:Bo z=L)(f:List Int->Int)(hi:i<z.length):(L.map f).getD i 0=f (Zb (z.getD i T0).2):=by subst h;simp only [aK,fG,aL hi];rfl
inductive SV:List Int->List Int->Prop
 | one (a:Int):SV [a] [a]
 | step (a:Int) (r t:List Int):SV r t->SV (a::r) (a::t)
 | skip (a u w:Int) (r t:List Int):(a=1\/a=-1)->(-1<=u/\u<=1)->(-1<=w/\w<=1)->SV (-a::r) (-a::t)->SV (a::u::-a::r) (a::w::-a::t)
theorem Zp9{s:Int×Int}{a u:Int}(g:a=1\/a=-1)(h:-1<=u/\u<=1):Nk (Nk (Nk s a) u) (-a)=Nk (Nk s a) (-a):=by obtain⟨n,l⟩:=s;have e:u=-1\/u=0\/u=1:=O;rcases g with rfl|rfl<;>rcases e with rfl|rfl|rfl<;>simp [Nk]
theorem SV.fold(h:SV a b):∀s,a.foldl Nk s=b.foldl Nk s:=by
 induction h with
 | one a=>intro s;rfl
 | step a r t _ e=>intro s;exact e (Nk s a)
 | skip a u w r t g j k _ e=>
  intro s;show(r.foldl Nk (Nk (Nk (Nk s a) u) (-a)))=(t.foldl Nk (Nk (Nk (Nk s a) w) (-a)));rw [Zp9 g j,Zp9 g k];exact e (Nk s a)
def SV.chg(h:SV a b):chg a=chg b:=aD Prod.fst (h.fold (0,0))
def Es(x:Rat):Int:=if x<0 then -1 else if x=0 then 0 else 1
theorem Yis{x:Rat}:-1<=Es x/\Es x<=1:=by unfold Es;split;decide;split<;>decide
theorem Zag{x:Rat}(h:0<x):Es x=1:=by unfold Es;rw [aJ O4,aJ O4]
theorem Zah{x:Rat}(h:x<0):Es x=-1:=by unfold Es;rw [aP h]
def Big(η x:Rat)(f:Rat->Rat):Prop:=η<f x\/f x < -η
def Tri(η x:Rat):(Rat->Rat)->List (Rat->Rat)->Prop
 | _,[]=>True
 | _,[g]=>Big η x g
 | f,g::k::r=>(Big η x g/\Tri η x g (k::r))\/(Big η x k/\f x*k x<0/\Tri η x k r)
def Near(η x y:Rat)(f:Rat->Rat):Prop:=f x-f y<=η/\f y-f x<=η
theorem Ztf{x y:Rat}(g:0<=η)(h:Big η x f)(e:Near η x y f):Es (f x)=Es (f y)/\(Es (f x)=1\/Es (f x)=-1):=by
 obtain⟨j,k⟩:=e;rcases h with h|h
 .rw [Zag O4,Zag O4];exact⟨rfl,.inl rfl⟩
 .rw [Zah O4,Zah O4];exact⟨rfl,.inr rfl⟩
theorem opp_sg{a b:Rat}(h:a*b<0):Es b=- Es a:=by
 rcases(show a<0\/a=0\/0<a by grind)with g|g|g
 .rw [Zah g,Zag (by
   rcases(show b<=0\/0<b by grind)with e|e
   .have:=aG (a:=-a) (b:=-b) O4 O4;grind
   .exact e)];rfl
 .subst g;grind
 .rw [Zag g,Zah (by
   rcases(show 0<=b\/b<0 by grind)with e|e
   .have:=aG (a:=a) (b:=b) O4 e;grind
   .exact e)]
theorem Zqj{η x y:Rat}(o:0<=η):∀(n:Nat) (f:Rat->Rat) (fs:List (Rat->Rat)),fs.length<=n->Big η x f->(∀g∈f::fs,Near η x y g)->Tri η x f fs->
  SV ((f::fs).map λg=>Es (g x)) ((f::fs).map λg=>Es (g y))
 | _,f,[],_,F,e,_=>by have:=(Ztf o F (e f (cC ..))).1;simp only [bQ,iF,this];exact SV.one _
 | 0,f,g::r,G,_,_,_=>absurd G O5
 | n+1,f,[g],G,F,e,w=>by have D:=(Ztf o F (e f (cC ..))).1;have h:=Zqj o n g [] O5 w (λk B=>e k (bT _ B)) aA;rw [bQ,bQ,D];exact SV.step _ _ _ h
 | n+1,f,g::k::r,G,F,e,w=>by
  have D:=Ztf o F (e f (cC ..));rcases w with⟨M,w⟩|⟨B,P,w⟩
  .have h:=Zqj o n g (k::r) (by simp at G ⊢;omega) M (λk B=>e k (bT _ B)) w;rw [bQ (l:=g::k::r),bQ (l:=g::k::r),D.1];exact SV.step _ _ _ h
  .have h:=Zqj o n k r (by simp at G ⊢;omega) B (λj N=>e j (bT _ (bT _ N))) w;have H:=(Ztf o B (e k O5)).1;have I:=opp_sg P;rw [bQ (l:=r),bQ (l:=r)]at h;simp only [bQ];rw [<-H]at h ⊢;rw [I]at h ⊢;rw [<-D.1];exact SV.skip _ _ _ _ _ D.2 Yis Yis h
structure Lnk (η x:Rat) (f g k:Rat->Rat):Prop where
 big:¬Big η x g->Big η x k
 opp:¬Big η x g->f x*k x<0
def Lnks(η x:Rat):(Rat->Rat)->List (Rat->Rat)->Prop
 | _,[]=>True
 | _,[g]=>Big η x g
 | f,g::k::r=>Lnk η x f g k/\Lnks η x g (k::r)
theorem Zm3{η x:Rat} : ∀(n:Nat) (f:Rat->Rat) (fs:List (Rat->Rat)),fs.length<=n->Lnks η x f fs->Tri η x f fs
 | _,f,[],_,_=>trivial
 | 0,f,g::r,l,_=>absurd l O5
 | n+1,f,[g],_,h=>h
 | n+1,f,[g,k],l,h=>by
  by_cases e:Big η x g
  .exact .inl ⟨e,h.2⟩
  .exact .inr ⟨h.1.big e,h.1.opp e,aA⟩
 | n+1,f,g::k::j::r,l,h=>by
  by_cases e:Big η x g
  .exact .inl ⟨e,Zm3 n g (k::j::r) (by simp at l ⊢;omega) h.2⟩
  .exact .inr ⟨h.1.big e,h.1.opp e,Zm3 n k (j::r) (by simp at l ⊢;omega) h.2.2⟩
def Rl3(s t:Rat)(f g k:Rat->Rat):Prop:=∃m n Q:Rat,0<m/\0<n/\0<Q/\∀x,s<=x->x<=t->∃q,-Q<=q/\q<=Q/\m*f x=q*g x-n*k x
def Rl2(s t:Rat)(f g:Rat->Rat):Prop:=∃m Q:Rat,0<m/\0<Q/\∀x,s<=x->x<=t->∃q,-Q<=q/\q<=Q/\m*f x=q*g x
def Rls(s t:Rat):(Rat->Rat)->List (Rat->Rat)->Prop
 | _,[]=>True
 | f,[g]=>Rl2 s t f g
 | f,g::k::r=>Rl3 s t f g k/\Rls s t g (k::r)
theorem Zcp{q Q g e:Rat}(h:-Q<=q)(j:q<=Q)(k:-e<=g)(l:g<=e)(n:0<=Q):q*g<=Q*e/\-(Q*e)<=q*g:=by
 have a:=aG (a:=Q-q) (b:=e+g) O4 O4;have b:=aG (a:=Q+q) (b:=e-g) O4 O4;have c:=aG (a:=Q-q) (b:=e-g) O4 O4;have d:=aG (a:=Q+q) (b:=e+g) O4 O4
 all_goals grind
theorem Zeh{x:Rat}{g:Rat->Rat}(h:¬Big η x g):-η<=g x/\g x<=η:=by unfold Big at h;all_goals grind
theorem Zzy{x:Rat}{g:Rat->Rat}(h:η<=ε)(e:Big ε x g):Big η x g:=by unfold Big at *;grind
theorem Gh{a b:Rat}(h:0<ε)(g:0<a)(j:0<b):∃e:Rat,0<e/\e<=ε/\e*a<=b:=by have k:=bC j (eW.2 g);have l:b*a⁻¹*a=b:=O4;grind [Rat.mul_le_mul_of_nonneg_right]
theorem pair3{g k:Rat->Rat}(h:Rl3 s t f g k)(I:0<ε)(S:∀x,s<=x->x<=t->Big ε x f\/Big ε x g) :
  ∃e,0<e/\(∀x,s<=x->x<=t->Big e x g\/Big e x k)/\∀η,0<η->η<=e->∀x,s<=x->x<=t->Lnk η x f g k:=by
 obtain⟨m,n,Q,H,hn,hQ,V⟩:=h;obtain⟨e,N,e2,e3⟩:=Gh I (show 0<Q+n by grind) (Rat.mul_pos H I);have o:∀η,0<η->η<=e->∀x,s<=x->x<=t->¬Big η x g->Big η x k/\f x*k x<0:=λη D w x hs l j=>by
  obtain⟨q,W,Z,q3⟩:=V x hs l;obtain⟨P,R⟩:=Zeh j;obtain⟨p1,p2⟩:=Zcp W Z P R O4;have G:Big ε x f:=(S x hs l).resolve_right λh=>j (Zzy O4 h);have c1:η*(Q+n)<=m*ε:=by have:=dB w (show 0<=Q+n by grind);grind
  rcases G with G|G
  .have M:m*ε<m*f x:=by have:=bC H (show 0<f x-ε by grind);grind
   have B:k x < -η:=by
    rcases(show k x < -η\/-η<=k x by grind)with F|F
    .omega
    .have:=aG (a:=n) (b:=k x+η) O4 O4;grind
   refine⟨.inr B,?_⟩;have:=bC (a:=f x) (b:=- k x) O4 O4;grind
  .have M:m*f x < - (m*ε):=by have:=bC H (show 0 < -ε-f x by grind);grind
   have d2:n*η<n*k x:=O4;have B:η<k x:=by
    rcases(show η<k x\/k x<=η by grind)with F|F
    .omega
    .have:=aG (a:=n) (b:=η-k x) O4 O4;grind
   refine⟨.inl B,?_⟩;have:=bC (a:=- f x) (b:=k x) O4 O4;grind
 refine⟨e,N,λx hs l=>?_,λη D w x hs l=>⟨λj=>(o η D w x hs l j).1,λj=>(o η D w x hs l j).2⟩⟩;grind
theorem pair2{g:Rat->Rat}(h:Rl2 s t f g)(l:0<ε)(H:∀x,s<=x->x<=t->Big ε x f\/Big ε x g) :
  ∃e,0<e/\∀η,0<η->η<=e->∀x,s<=x->x<=t->Big η x g:=by
 obtain⟨m,Q,k,G,I⟩:=h;obtain⟨e,w,R,S⟩:=Gh l G (bC k l);refine⟨e,w,λη V F x hs o=>?_⟩;by_cases n:Big η x g
 .omega
 .obtain⟨q,M,N,q3⟩:=I x hs o;obtain⟨B,D⟩:=Zeh n;obtain⟨W,Z⟩:=Zcp M N B D O4;have j:=(H x hs o).resolve_right λh=>n (Zzy O4 h);have P:η*Q<=m*ε:=by have:=dB F (show 0<=Q by grind);grind
  rcases j with j|j
  .have:=bC k (show 0<f x-ε by grind);grind
  .have:=bC k (show 0 < -ε-f x by grind);grind
theorem Zvq{s t:Rat} : ∀(n:Nat) (f:Rat->Rat) (fs:List (Rat->Rat)) (ε:Rat),fs.length<=n->Rls s t f fs->0<ε->(∀g r,fs=g::r->∀x,s<=x->x<=t->Big ε x f\/Big ε x g)->
  ∃e,0<e/\∀η,0<η->η<=e->∀x,s<=x->x<=t->Lnks η x f fs
 | _,f,[],ε,_,_,o,_=>⟨ε,o,λ_ _ _ _ _ _=>trivial⟩
 | 0,f,g::r,ε,hl,_,_,_=>absurd hl O5
 | n+1,f,[g],ε,_,h,o,H=>pair2 h o (H g [] rfl)
 | n+1,f,g::k::r,ε,hl,h,o,H=>by
  obtain⟨e,I,N,M⟩:=pair3 h.1 o (H g _ rfl);obtain⟨D,F,l⟩:=Zvq n g _ e (by simp at hl ⊢;omega) h.2 I (λQ R G=>by injection G with j B;subst j;exact N)
  rcases(show e<=D\/D<=e by grind)with P|P
  .exact⟨e,I,λη j B x hs w=>⟨M η j B x hs w,l η j O4 x hs w⟩⟩
  .exact⟨D,F,λη j B x hs w=>⟨M η j O4 x hs w,l η j B x hs w⟩⟩
def Lip(s t L:Rat)(f:Rat->Rat):Prop:=∀x y,s<=x->x<=y->y<=t->f x-f y<=L*(y-x)/\f y-f x<=L*(y-x)
def vat(fs:List (Rat->Rat))(x:Rat):Int:=chg (fs.map λg=>Es (g x))
theorem Ypp{L:Rat}(F:0<L)(I:∀g∈f::fs,Lip s t L g)(o:0<δ)(n:∀x,s<=x->x<=t->Big δ x f)(M:Rls s t f fs) :
  ∃h,0<h/\∀x y,s<=x->x<=y->y<=t->y-x<=h->vat (f::fs) x=vat (f::fs) y:=by
 obtain⟨e,w,B⟩:=Zvq _ f fs δ (aF _) M o (λg r _ x hs N=> .inl (n x hs N));obtain⟨η,l,S,n3⟩:=Gh o (show(0)<1 by rfl) w;obtain⟨h,D,Q,R⟩:=Gh l F l;refine⟨h,D,λx y j k P H=>SV.chg ?_⟩;refine Zqj O4 _ f fs (aF _) (Zzy O4 (n x j O4)) (λg G=>?_) (Zm3 _ _ _ (aF _) (B η l O4 x j O4));obtain⟨a,b⟩:=I g G x y j k P;have:=dB H (show 0<=L by grind);exact⟨O4,O4⟩
theorem Yej{L:Rat}(M:0<L)(Q:∀g∈f::fs,Lip s t L g)(P:0<δ)(N:∀x,s<=x->x<=t->Big δ x f)(S:Rls s t f fs)(w:s<=t) :
  vat (f::fs) s=vat (f::fs) t:=by
 obtain⟨h,H,D⟩:=Ypp M Q P N S;have B:∀n:Nat,∀y,s<=y->y<=t->y-s<=(n:Rat)*h->vat (f::fs) s=vat (f::fs) y:=λn=>by
  induction n with
  | zero=>
    intro y e j k;have:y=s:=by simp at k;grind
    rw [this]
  | succ n G=>
   intro y e j k;have F:((n+1:Nat):Rat)*h=(n:Rat)*h+h:=by push_cast;grind
   rcases(show y-s<=(n:Rat)*h\/(n:Rat)*h<y-s by grind)with l|l
   .exact G y e j l
   .have I:(0:Rat)<=(n:Rat)*h:=aG (by exact_mod_cast aX n) O4;rcases(show s<=y-h\/y-h<s by grind)with o|o
    .rw [G (y-h) o O4 O4];exact D (y-h) y o O4 j O4
    .exact D s y O4 e j O4
 have e:∃n:Nat,t-s<=(n:Rat)*h:=by
  have j:0<h⁻¹:=eW.2 H;refine⟨((t-s)*h⁻¹).ceil.toNat,?_⟩;have k:=@mP ((t-s)*h⁻¹);have F:((((t-s)*h⁻¹).ceil:Int):Rat)<=((((t-s)*h⁻¹).ceil.toNat:Nat):Rat):=by have:((t-s)*h⁻¹).ceil<=((((t-s)*h⁻¹).ceil.toNat:Nat):Int):=jX _;exact_mod_cast this
  have l:=dB (mJ k F) (show 0<=h by grind);have I:(t-s)*h⁻¹*h=t-s:=O4;grind
 obtain⟨n,R⟩:=e;exact B n t w O4 R
def Zj:List Int->Rat->Rat
 | [],_=>0
 | c::p,x=>(c:Rat)+x*Zj p x
theorem Ysf(s t:Rat):∃K:Rat,0<K/\∀x,s<=x->x<=t->-K<=x/\x<=K:=by
 rcases(show(0<=s\/s<0) by grind)with h|h<;>rcases(show(0<=t\/t<0) by grind)with e|e
 .exact⟨t+1,O4,λx _ _=>O4⟩
 .exact⟨1,O4,λx _ _=>O4⟩
 .exact⟨t-s+1,O4,λx _ _=>O4⟩
 .exact⟨-s+1,O4,λx _ _=>O4⟩
theorem Zuv(s t:Rat):∀p:List Int,∃B:Rat,0<B/\∀x,s<=x->x<=t->-B<=Zj p x/\Zj p x<=B
 | []=>⟨1,O3,λx _ _=>by unfold Zj;grind⟩
 | c::p=>by obtain⟨B,g,h⟩:=Zuv s t p;obtain⟨K,w,D⟩:=Ysf s t;obtain⟨C,F,j⟩:=Ysf (c:Rat) (c:Rat);have G:=j (c:Rat) O4 O4;refine⟨C+K*B,by have:=bC w g;grind,λx hs e=>?_⟩;obtain⟨k,l⟩:=h x hs e;obtain⟨n,o⟩:=D x hs e;obtain⟨f1,f2⟩:=Zcp n o k l O4;unfold Zj;constructor<;>grind
theorem Br(s t:Rat):∀p:List Int,∃L:Rat,0<L/\Lip s t L (Zj p)
 | []=>⟨1,O3,λx y _ _ _=>by unfold Zj;constructor<;>grind⟩
 | c::p=>by obtain⟨L,D,F⟩:=Br s t p;obtain⟨B,I,k⟩:=Zuv s t p;obtain⟨K,o,w⟩:=Ysf s t;refine⟨K*L+B,by have:=bC o D;grind,λx y hs h j=>?_⟩;obtain⟨G,H⟩:=F x y hs h j;obtain⟨M,N⟩:=k y O4 j;obtain⟨l,n⟩:=w x hs O4;obtain⟨f1,f2⟩:=Zcp (q:=x) (g:=Zj p x-Zj p y) (e:=L*(y-x)) l n O4 O4 O4;have P:=aG (a:=B-Zj p y) (b:=y-x) O4 O4;have Q:=aG (a:=B+Zj p y) (b:=y-x) O4 O4;unfold Zj;constructor<;>grind
theorem Zl6(x:Rat):∀q:List Int,(∀i,cf q i=0)->Zj q x=0
 | [],_=>rfl
 | c::q,h=>by have e:c=0:=h 0;have g:=Zl6 x q λi=>h (i+1);unfold Zj;rw [g,e];grind
theorem Mb(x:Rat):∀p q:List Int,(∀i,cf p i=cf q i)->Zj p x=Zj q x
 | [],q,h=>by rw [Zl6 x q λi=>(h i).symm.trans (Yt (aX _))];rfl
 | c::p,[],h=>by rw [Zl6 x (c::p) λi=>(h i).trans (Yt (aX _))];rfl
 | c::p,d::q,h=>by have e:c=d:=h 0;have g:=Mb x p q λi=>h (i+1);unfold Zj;rw [g,e]
def Mv:List Int->List Int->List Int
 | [],q=>q
 | p,[]=>p
 | a::p,b::q=>(a+b)::Mv p q
theorem Zv3(p:List Int):Mv p []=p:=by cases p<;>rfl
theorem Xs(x:Rat):∀p q:List Int,Zj (Mv p q) x=Zj p x+Zj q x
 | [],q=>by unfold Mv;show Zj q x=0+Zj q x;grind
 | a::p,[]=>by rw [Zv3];show Zj (a::p) x=Zj (a::p) x+0;grind
 | a::p,b::q=>by have h:=Xs x p q;unfold Mv Zj;rw [h];push_cast;grind
theorem Ll:∀(p q:List Int) (i:Nat),cf (Mv p q) i=cf p i+cf q i
 | [],q,i=>by unfold Mv;rw [show cf [] i=0 from Yt (aX _)];omega
 | a::p,[],i=>by rw [Zv3,show cf [] i=0 from Yt (aX _)];omega
 | a::p,b::q,0=>rfl
 | a::p,b::q,i+1=>Ll p q i
theorem Zx(x:Rat)(c:Int):∀p:List Int,Zj (p.map λa=>c*a) x=(c:Rat)*Zj p x
 | []=>by show(0:Rat)=c*0;grind
 | a::p=>by have h:=Zx x c p;simp only [bQ];unfold Zj;rw [h];push_cast;grind
theorem Ps(c:Int):∀(p:List Int) (i:Nat),cf (p.map λa=>c*a) i=c*cf p i
 | [],i=>by simp [cf]
 | a::p,0=>rfl
 | a::p,i+1=>Ps c p i
def lmul:List Int->List Int->List Int
 | [],_=>[]
 | c::p,q=>Mv (q.map λa=>c*a) (0::lmul p q)
theorem Yn(x:Rat):∀p q:List Int,Zj (lmul p q) x=Zj p x*Zj q x
 | [],q=>by show(0:Rat)=0*Zj q x;grind
 | c::p,q=>by have h:=Yn x p q;unfold lmul;rw [Xs,Zx];show(c:Rat)*Zj q x+(((0:Int):Rat)+x*Zj (lmul p q) x)=((c:Rat)+x*Zj p x)*Zj q x;rw [h];grind
theorem Dc:∀(p q:List Int) (i:Nat),cf (lmul p q) i=Yo (λk=>cf p k*cf q (i-k)) (i+1)
 | [],q,i=>by rw [show cf (lmul [] q) i=0 from Yt (aX _)];exact(Gl λk _=>by rw [show cf [] k=0 from Yt (aX _),cJ]).symm
 | c::p,q,0=>by unfold lmul;rw [Ll,Ps,Ys,Ds];show c*cf q 0+0=0+c*cf q 0;omega
 | c::p,q,i+1=>by have h:=Dc p q i;unfold lmul;rw [Ll,Ps,Ms];show c*cf q (i+1)+cf (lmul p q) i=c*cf q (i+1)+_;rw [h];congr 1;refine Xl λk e=>?_;show cf p k*cf q (i-k)=cf p k*cf q (i+1-(k+1));rw [show i+1-(k+1)=i-k by omega]
theorem Ch (a:Int)(c:Int)(x:List Int)(s:List Int)(y:List Int)(z:List Int)(h:∀t,a*cf x t=(ps s*ps y).c t-c*cf z t)(q:Rat):(a:Rat)*Zj x q=Zj s q*Zj y q-(c:Rat)*Zj z q:=by
 have e:∀t,cf (Mv (x.map λb=>a*b) (z.map λb=>c*b)) t=cf (lmul s y) t:=λt=>by rw [Ll,Ps,Ps,Dc,h t,PS.mul_c];show Yo (λk=>cf s k*cf y (t-k)) (t+1)-c*cf z t+c*cf z t=_;omega
 have g:=Mb q _ _ e;rw [Xs,Zx,Zx,Yn]at g;grind
theorem Ye3(I:Tr x)(D:Tr y)(j:y≠[])(R:y.length<=x.length):Rl3 s t (Zj x) (Zj y) (Zj (Mt x y)):=by
 have W:=aI.2 j;obtain⟨r1,r2,k,u,Q⟩:=Zb3 D j x.length x I O;have hs:=Zd6 x.length I D j R O;have w:Tr (Zir (Ff x.length x y)):=Ql _ _;obtain⟨m,n,S,V,H⟩:=Zfr w;rw [hs]at H;have P:0<Eu y^k:=jC (Zgx D j);obtain⟨B,M,F⟩:=Zuv s t u;have o:(0:Rat)<(m:Rat):=by exact_mod_cast S
 have e:(0:Rat)<(n:Rat):=by exact_mod_cast V
 have l:(0:Rat)<((Eu y^k:Int):Rat):=by exact_mod_cast P
 refine⟨(n:Rat)*((Eu y^k:Int):Rat),(m:Rat),(n:Rat)*B,bC e l,o,bC e M,λq g h=>⟨(n:Rat)*Zj u q,?_,?_,?_⟩⟩
 .have:=aG (a:=(n:Rat)) (b:=Zj u q+B) O4 (by have:=F q g h;grind);grind
 .have:=aG (a:=(n:Rat)) (b:=B-Zj u q) O4 (by have:=F q g h;grind);grind
 .have N:=Ch (Eu y^k) (-1) x u y (Ff x.length x y) (λt=>by rw [Q t];omega) q;have G:Zj ((Mt x y).map λb=>m*b) q=Zj ((Ff x.length x y).map λb=>(-n)*b) q:=Mb q _ _ λi=>by rw [Ps,Ps,H i,Zaw,lF,Int.neg_mul]
  rw [Zx,Zx]at G;push_cast at N G ⊢;grind
theorem rl2_of{g:Rat->Rat}(h:Rl3 s t f g (Zj [])):Rl2 s t f g:=by obtain⟨m,n,Q,l,F,k,o⟩:=h;refine⟨m,Q,l,k,λx e j=>?_⟩;obtain⟨q,w,B,D⟩:=o x e j;refine⟨q,w,B,?_⟩;have:Zj [] x=0:=rfl;rw [this]at D;grind
theorem Zpg (s:Rat)(t:Rat) : ∀(f:Nat) (a b:List Int),Tr a->Tr b->cok f a b->∃r,Ma f a b=a::r/\Rls s t (Zj a) (r.map Zj)/\(b=[]->r=[])/\(b≠[]->∃w,r=b::w):=λf=>by
 induction f with
 | zero=>
  intro a b k l h;have e:b=[]:=h;subst e;exact⟨[],rfl,aA,λ_=>rfl,λh=>absurd rfl h⟩
 | succ f I=>
  intro a b k l h;by_cases e:b=[]
  .subst e;exact⟨[],Dt _ _,aA,λ_=>rfl,λh=>absurd rfl h⟩
  .obtain⟨g,N,M,n,H,hs⟩:=Zhx h e;obtain rfl:f=g:=O;obtain⟨r,B,D,F,G⟩:=I b (Mt a b) l (Zcz k) H;have j:=Ye3 (s:=s) (t:=t) k l e n;refine⟨b::r,by rw [hs,B],?_,λh=>absurd h e,λ_=>⟨r,rfl⟩⟩;by_cases o:Mt a b=[]
   .rw [F o];rw [o]at j;exact rl2_of j
   .obtain⟨w,rfl⟩:=G o;exact⟨j,D⟩
theorem Zvs{L M:Rat}(h:L<=M)(k:Lip s t L f):Lip s t M f:=λx y e g j=>by obtain⟨a,b⟩:=k x y e g j;have:=dB h (show 0<=y-x by grind);constructor<;>grind
theorem Yb2(s t:Rat):∀ls:List (List Int),∃L:Rat,0<L/\∀g∈ls.map Zj,Lip s t L g
 | []=>⟨1,O3,λg e=>by cases e⟩
 | p::ls=>by
  obtain⟨L,k,h⟩:=Yb2 s t ls;obtain⟨M,l,j⟩:=Br s t p;refine⟨L+M,O4,λg e=>?_⟩;rw [bQ]at e;rcases bI.1 e with rfl|e
  .exact Zvs O4 j
  .exact Zvs O4 (h g e)
theorem Zgq{f:Nat}(l:Tr a)(n:Tr b)(o:cok f a b)(e:s<=t)(w:0<δ)(k:∀x,s<=x->x<=t->Big δ x (Zj a)) :
  vat ((Ma f a b).map Zj) s=vat ((Ma f a b).map Zj) t:=by
 obtain⟨r,h,j,_,_⟩:=Zpg s t f a b l n o;obtain⟨L,B,g⟩:=Yb2 s t (Ma f a b);rw [h]at g ⊢;exact Yej B g w k j e
theorem Zus(x:Rat)(l:Int):∀p:List Int,Zj (p ++ [l]) x=Zj p x+(l:Rat)*x^p.length
 | []=>by show(l:Rat)+x*0=0+l*x^0;rw [iT];grind
 | c::p=>by have h:=Zus x l p;rw [iD,bX,eG];unfold Zj;rw [h];grind
theorem Yke(c:Int)(p:List Int)(X Y:Int)(h:p≠[]):pev (c::p) X Y=c*Y^p.length+X*pev p X Y:=by
 have e:=aI.2 h;unfold pev;rw [bX,Ms,<-Mh];congr 1
 .show c*(X^0*Y^(p.length+1-1-0))=_;rw [dD,fR,show p.length+1-1-0=p.length by omega]
 .refine Xl λi hi=>?_;show cf p i*(X^(i+1)*Y^(p.length+1-1-(i+1)))=X*(cf p i*(X^i*Y^(p.length-1-i)));rw [show p.length+1-1-(i+1)=p.length-1-i by omega,dE];grind
theorem Ybm{X Y:Int}(e:0<Y):∀p:List Int,((pev p X Y:Int):Rat)=Zj p ((X:Rat)/(Y:Rat))*(Y:Rat)^(p.length-1)
 | []=>by show(0:Rat)=0*_;grind
 | [c]=>by
  have:pev [c] X Y=c:=by unfold pev;show 0+c*(X^0*Y^0)=c;rw [dD,dD];omega
  rw [this];show(c:Rat)=(c+X/Y*0)*(Y:Rat)^0;rw [iT];grind
 | c::d::p=>by
  have h:=Ybm (X:=X) e (d::p);rw [Yke c (d::p) X Y O5];have g:(Y:Rat)≠0:=by
    have:(0:Rat)<(Y:Rat):=by exact_mod_cast e
    grind
  push_cast;rw [h];show(c:Rat)*(Y:Rat)^(p.length+1)+X*(Zj (d::p) (X/Y)*(Y:Rat)^(p.length+1-1))=((c:Rat)+X/Y*Zj (d::p) (X/Y))*(Y:Rat)^(p.length+1+1-1);rw [show p.length+1-1=p.length by omega,show p.length+1+1-1=p.length+1 by omega,eG];generalize Zj (d::p) (X/Y)=R;generalize (Y:Rat)^p.length=P;have:(X:Rat)/Y*Y=X:=O4;grind
theorem Yh7{z:Int}{r q:Rat}(k:0<q)(h:(z:Rat)=r*q):z.sign=Es r:=by
 rcases(show r<0\/r=0\/0<r by grind)with e|e|e
 .rw [Zah e];have:=bC (a:=-r) (b:=q) O4 k;have g:(z:Rat)<0:=O4;have j:z<0:=by exact_mod_cast g
  exact jN j
 .subst e;have g:(z:Rat)=0:=O4;have j:z=0:=by exact_mod_cast g
  subst j;rfl
 .rw [Zag e];have:=bC e k;have g:(0:Rat)<z:=O4;have j:0<z:=by exact_mod_cast g
  exact kL j
theorem Zeo{X:Int}(e:0<Y)(p:List Int):Bb X Y p=Es (Zj p ((X:Rat)/(Y:Rat))):=by
 have:(0:Rat)<(Y:Rat):=by exact_mod_cast e
 exact Yh7 (Rat.pow_pos this) (Ybm e p)
theorem Yql{F:Nat}(o:Tr xs)(l:xs≠[])(j:eok F (gA (Xg xs) (Xh (Xg xs))) (gB (Xg xs) (Xh (Xg xs)))):∃g:List Int,∀x,Zj xs x=Zj (sqf F xs) x*Zj g x:=by
 obtain⟨f1,f2,f3,f4,f5,f6⟩:=Ox F o l j;have h:∃k:Int,∀i,cf xs i=k*cf (Xg xs) i:=by
  unfold Xg Lp;split
  .refine⟨-Yx xs,λi=>?_⟩;rw [Ym,<-Eb xs i];grind
  .refine⟨Yx xs,λi=>?_⟩;rw [<-Eb xs i];grind
 obtain⟨k,h⟩:=h;refine⟨(Nv F (Xg xs) (Xh (Xg xs))).map λa=>k*a,λx=>?_⟩;have n:Zj (Xg xs) x=Zj (sqf F xs) x*Zj (Nv F (Xg xs) (Xh (Xg xs))) x:=by
  have:=Ch 1 0 (Xg xs) (sqf F xs) (Nv F (Xg xs) (Xh (Xg xs))) [] (λt=>by have e:=Gw (sqf F xs) (Nv F (Xg xs) (Xh (Xg xs))) t;rw [<-f4]at e;rw [e];omega) x
  push_cast at this;grind
 have e:Zj xs x=Zj ((Xg xs).map λa=>k*a) x:=Mb x _ _ λi=>by rw [Ps];exact h i
 rw [e,Zx,Zx,n];grind
theorem Ypc{x:Rat}{f:List Int->Int}(h:∀p∈ls,Es (Zj p x)=f p):vat (ls.map Zj) x=chg (ls.map f):=by unfold vat;rw [kJ];exact aD chg (lL λp e=>h p e)
def Ys8{F:Nat}{X:Int}(e:0<Y):cnt F xs X Y=vat ((chn F xs).map Zj) ((X:Rat)/(Y:Rat)):=
 (Ypc λp _=>(Zeo e p).symm).symm
theorem Yco(t:Int):∀p:List Int,Zj p (t:Rat)=((ev1 p t:Int):Rat)
 | []=>rfl
 | c::p=>by have h:=Yco t p;rw [show Zj _ (t)=(c)+(t)*Zj p _ from rfl,show ev1 _ t=c+t*ev1 p t from rfl,h];push_cast;rfl
theorem Zqz(h:∀x:Rat,Zj p x=0)(i:Nat):cf p i=0:=by
 by_cases k:cf p i=0
 .omega
 .have:=Zur _ p ((List.range p.length).map λn:Nat=>(n)) rfl ⟨i,k⟩ (by
   refine List.Pairwise.map _ (λa b g=>?_) List.nodup_range;intro e;exact g (by exact_mod_cast e)) (λt l=>by
   have j:=Yco t p;rw [h]at j;exact_mod_cast j.symm)
  grind
theorem Nq(h:∀x:Rat,Zj p x=Zj q x)(i:Nat):cf p i=cf q i:=by have e:=Zqz (p:=Mv p (q.map λa=>(-1)*a)) (λx=>by grind [Xs,Zx]) i;rw [Ll,Ps]at e;omega
theorem Kc(p:List Int)(x:Rat):Zj (tzl p) x=Zj p x:=Mb x _ _ λi=>Lg p i
theorem Xi(p q:List Int)(x:Rat):Zj (Pf p q) x=Zj p x*Zj q x:=by rw [<-Yn];exact Mb x _ _ λi=>by rw [Gw,Dc];rfl
theorem Og(c:Int)(x:Rat):Zj [c] x=(c:Rat):=by show(c)+x*0=c;grind
def ld:List Int->List Int
 | []=>[]
 | _::p=>Mv p (0::ld p)
theorem Zgw(c:Int)(p:List Int)(x:Rat):Zj (ld (c::p)) x=Zj p x+x*Zj (ld p) x:=by rw [show ld _=Mv p _ from rfl,Xs];show Zj p x+(((0))+x*Zj _ x)=_;grind
theorem Zn0:∀(p:List Int) (i:Nat),cf (ld p) i=cf p (i+1)*((i:Int)+1)
 | [],i=>by rw [Zds,show ld []=[]from rfl,Zds,cJ]
 | c::p,0=>by rw [show ld _=Mv p _ from rfl,Ll];show cf p 0+0=cf p 0*_;simp
 | c::p,i+1=>by have h:=Zn0 p i;rw [show ld _=Mv p _ from rfl,Ll];show cf p _+cf _ i=cf p _*_;grind
theorem Kw(p:List Int)(x:Rat):Zj (Xh p) x=Zj (ld p) x:=Mb x _ _ λi=>by rw [Zh0,Zn0]
theorem Cq (p:List Int)(q:List Int)(h:∀x,Zj p x=Zj q x)(x:Rat):Zj (ld p) x=Zj (ld q) x:=Mb x _ _ λi=>by grind [Zn0,Nq]
theorem Yqr(p q:List Int)(x:Rat):Zj (ld (Mv p q)) x=Zj (ld p) x+Zj (ld q) x:=by rw [<-Xs];exact Mb x _ _ λi=>by rw [Zn0,Ll,Ll,Zn0,Zn0];grind
theorem Zaj(c:Int)(p:List Int)(x:Rat):Zj (ld (p.map λa=>c*a)) x=(c:Rat)*Zj (ld p) x:=by rw [<-Zx];grind [Mb,Zn0,Ps]
theorem Bs(x:Rat):∀p q:List Int,Zj (ld (lmul p q)) x=Zj (ld p) x*Zj q x+Zj p x*Zj (ld q) x
 | [],q=>by show(0)=0*Zj q x+0*Zj _ x;grind
 | c::p,q=>by have h:=Bs x p q;rw [show lmul _ q=Mv _ _ from rfl,Yqr,Zaj,Zgw,Zgw,Yn,show Zj (c::p) x=(c)+x*Zj p x from rfl];grind
def Ed(g a:List Int):Prop:=∃(k:Int) (s:List Int),k≠0/\∀x:Rat,(k:Rat)*Zj a x=Zj s x*Zj g x
theorem Ed.refl(a:List Int):Ed a a:=⟨1,[1],O,λx=>by rw [Og]⟩
theorem Ed.nil(g:List Int):Ed g []:=⟨1,[],O,λx=>by show(((1)))*0=0*Zj g x;simp⟩
theorem Ed.trans{c:List Int} : Ed a b->Ed b c->Ed a c:=λ⟨k,s,g,h⟩ ⟨m,u,j,e⟩=>
 ⟨k*m,lmul u s,bE g j,λx=>by grind [Yn]⟩
theorem Ed.congr{g:List Int}(h:Ed g a)(e:∀x,Zj a x=Zj b x):Ed g b:=by obtain⟨k,s,j,h⟩:=h;exact⟨k,s,j,λx=>O4⟩
theorem Ed.congr_l{g j:List Int}(h:Ed g a)(e:∀x,Zj g x=Zj j x):Ed j a:=by obtain⟨k,s,l,h⟩:=h;exact⟨k,s,l,λx=>O4⟩
theorem Ed.sim{g:List Int}(h:Ed g a)(e:Sim a b):Ed g b:=by
 obtain⟨k,s,j,h⟩:=h;obtain⟨m,n,w,l,e⟩:=e;refine⟨k*n,s.map λc=>m*c,bE j l,λx=>?_⟩;have o:Zj (a.map λc=>m*c) x=Zj (b.map λc=>n*c) x:=Mb x _ _ λi=>by grind [Ps]
 grind [Zx]
theorem Ed.lin{g c:List Int}(j:Ed g a)(l:Ed g b)(s:List Int)(L:Int)(e:L≠0)(h:∀x,(L:Rat)*Zj c x=Zj s x*Zj a x+Zj b x):Ed g c:=by obtain⟨k,u,n,w⟩:=j;obtain⟨m,v,o,B⟩:=l;refine⟨L*(k*m),Mv ((lmul s u).map λc=>m*c) (v.map λc=>k*c),bE e (bE n o),λx=>?_⟩;grind [Xs,Zx,Yn]
theorem Zza{g s:List Int}{k:Int}(H:k≠0)(G:Tr g)(D:Tr a)(w:a≠[])(h:∀x:Rat,(k:Rat)*Zj a x=Zj s x*Zj g x):g≠[]/\tzl s≠[]/\(tzl s).length+g.length<=a.length+1:=by
 have F:∀i,k*cf a i=(ps _*ps g).c i:=λi=>by have j:=Nq (p:=a.map λc=>k*c) (q:=lmul (tzl s) g) (λx=>by grind [Zx,Yn,Kc]) i;rw [Ps,Dc]at j;rw [j];rfl
 have o:∀i,k*cf a i=0->cf a i=0:=λi hi=>(Int.mul_eq_zero.1 hi).resolve_left H;have l:=D.mem w;have j:tzl s≠[]:=λe=>l (o _ (by simp_all [Lx,Yt,aX]));have n:g≠[]:=λe=>l (o _ (by simp_all [PS.mul_comm',Lx,Yt,aX]));refine⟨n,j,?_⟩;have M:=Az (p:=tzl s) (q:=g) (a:=(tzl s).length-1) (b:=g.length-1) (λi hi=>Yt O) (λi hi=>Yt O);rw [<-F]at M;have I:=bE ((Xy s).mem j) (G.mem n);rcases bA ((tzl s).length-1+(g.length-1)) a.length with B|B
 .omega
 simp_all [Yt,dX]
theorem Ed.len{g:List Int}(h:Ed g a)(l:Tr g)(j:Tr a)(e:a≠[]):g≠[]/\g.length<=a.length:=by obtain⟨k,s,n,h⟩:=h;obtain⟨o,w,B⟩:=Zza n l j e h;grind [List.length_pos_iff]
theorem Ed.same{g:List Int}(h:Ed g a)(D:Tr g)(w:Tr a)(n:a≠[])(H:g.length=a.length):Ed a g:=by
 obtain⟨k,s,F,h⟩:=h;obtain⟨G,j,l⟩:=Zza F D w n h;have e:=aI.2 j
 match hs:tzl s,e,l with
 | [c],_,_=>
  have B:=by have:=(Xy s).mem j;rw [hs]at this;exact this
  refine⟨c,[k],B,λx=>?_⟩;have o:=h x;rw [<-Kc s]at o;grind [Og]
 | c::d::r,_,h9=>grind
theorem Zn8:∀(n:Nat) (a b:List Int),Tr a->Tr b->b.length<=n->∃g A B:List Int,Tr g/\Ed g a/\Ed g b/\∀x,Zj g x=Zj A x*Zj a x+Zj B x*Zj b x
 | n,a,[],h,j,_=>⟨a,[1],[],h,Ed.refl a,Ed.nil a,λx=>by rw [Og];show _=_+0*(0);grind⟩
 | 0,a,c::r,_,_,hl=>absurd hl O5
 | n+1,a,c::b',h,j,hl=>by
  have e:(c::b')≠[]:=O5;generalize c::b'=b at *;obtain⟨k,s,hs⟩:=Cr a e;have o:=Ml (j.mem e) k;generalize cf b _^k=L at hs o;have G:=Pi a e;obtain⟨g,A,B,w,l,D,H⟩:=Zn8 n b (Qq a b) j (Kj h) O;have F:∀x,(L)*Zj a x=Zj s x*Zj b x+Zj (Qq a b) x:=λx=>by have:=Ch L (-1) a s b (Qq a b) (λt=>O4) x;grind
  refine⟨g,B.map λc=>L*c,Mv A ((lmul B s).map λc=>(-1)*c),w,l.lin D s L o F,l,λx=>?_⟩;grind [Zx,Xs,Yn]
def Irr(q:List Int):Prop:=Tr q/\2<=q.length/\∀d,Tr d->Ed d q->d.length<=1\/d.length=q.length
def Zei(h:2<=q.length):q≠[]:=λe=>O4
theorem Yls:∀(n:Nat) (q:List Int),q.length<=n->Tr q->2<=q.length->∃p,Irr p/\Ed p q
 | 0,q,B,_,j=>O
 | n+1,q,B,l,j=>by
  by_cases h:Irr q
  .grind [Ed.refl]
  .have:∃d,Tr d/\Ed d q/\¬(d.length<=1\/d.length=q.length):=by refine bF λw=>h ⟨l,j,λd e g=>bF λo=>w ⟨d,e,g,o⟩⟩
   obtain⟨d,e,g,G⟩:=this;have D:=(g.len e l (Zei j)).2;obtain⟨p,F,k⟩:=Yls n d O e O;exact⟨p,F,k.trans g⟩
theorem Zem (f:List Int)(h:List Int)(m:List Int){k:Int}(P:Irr q)(N:k≠0)(e:∀x:Rat,(k:Rat)*(Zj f x*Zj h x)=Zj m x*Zj q x):Ed q f\/Ed q h:=by
 obtain⟨j,n,D⟩:=P;obtain⟨g,A,B,l,o,G,F⟩:=Zn8 _ q _ j (Xy f) (aF _);have M:=(o.len l j (Zei n)).1;rcases D g l o with w|w
 .right
  match g,M,w,l,F with
  | [c],_,_,l,F=>
   have I:=l.mem O5;refine⟨c*k,Mv ((lmul A h).map λc=>k*c) (lmul B m),bE I N,λx=>?_⟩;grind [Og,Kc,Xs,Zx,Yn]
  | c::d::r,_,h9,_,_=>grind
 .left;have H:=o.same l j (Zei n) w;exact(H.trans G).congr λx=>Kc f x
def Cs(q:List Int):Nat->List Int
 | 0=>[1]
 | n+1=>Pf q (Cs q n)
theorem Zc9{q:List Int}(j:Tr q)(g:2<=q.length):∀n,Tr (Cs q n)/\n+1<=(Cs q n).length
 | 0=>⟨.inr (show cf [1] 0≠0 by decide),aF _⟩
 | n+1=>by obtain⟨k,h⟩:=Zc9 j g n;refine⟨Qk _ _,?_⟩;show n+1+1<=(Pf q _).length;rw [Oz j k (Zei g) (λe=>by rw [e]at h;simp at h)];omega
theorem Cp(q:List Int)(n:Nat)(x:Rat):Zj (Cs q (n+1)) x=Zj q x*Zj (Cs q n) x:=Xi _ _ _
theorem Zq3(q:List Int):∀(n:Nat) (x:Rat),Zj (ld (Cs q (n+1))) x=((n:Rat)+1)*(Zj (Cs q n) x*Zj (ld q) x)
 | n,x=>by
  have e:Zj (ld (Cs q (n+1))) x=Zj (ld (lmul q (Cs q n))) x:=Cq _ _ (λy=>by rw [Cp,Yn]) x;rw [e,Bs]
  match n with
  | 0=>
   rw [show Zj (ld (Cs q 0)) x=0 from by rw [show Cs q 0=[1]from rfl,Zgw];show(0:Rat)+x*0=0;grind];simp;grind
  | n+1=>
   rw [Zq3 q n x,Cp];push_cast;grind
theorem Yhv{s g u:List Int}{c:Int}{k:Nat}(S:∀x:Rat,Zj p x=Zj s x*Zj g x)(D:∀d,Tr d->Ed d p->Ed d (ld p)->Ed d g)(V:Irr q)(H:Ed q s)(I:Ed q (ld s))(R:Ed (Cs q k) g):Ed (Cs q (k+1)) g:=by
 obtain⟨h,o,F⟩:=V;obtain⟨l,n,W,e1⟩:=H;obtain⟨G,s2,Z,e2⟩:=I;have d1:∀x:Rat,(l:Rat)*Zj (ld s) x=Zj (ld n) x*Zj q x+Zj n x*Zj (ld q) x:=λx=>by have:=Cq (s.map λa=>l*a) (lmul n q) (λy=>by grind [Zx,Yn]) x;grind [Zaj,Bs]
 have M:Ed q n:=by
  rcases Zem n (ld q) (Mv (s2.map λa=>l*a) ((ld n).map λa=>(-G)*a)) ⟨h,o,F⟩ Z (λx=>by grind [Xs,Zx])with h9|h9
  .omega
  .exfalso;have N:Ed q (Xh q):=h9.congr λx=>(Kw q x).symm;have hl:=Of q;have:=(N.len h (Np h) (λe=>O4)).2;omega
 obtain⟨w,j,k3,e3⟩:=M;obtain⟨c,u,kc,eu⟩:=R;have Q:∀x:Rat,((l*w*c:Int):Rat)*Zj p x=Zj (lmul j u) x*Zj (Cs q (k+1+1)) x:=λx=>by grind [Yn,Cp]
 have B:l*w*c≠0:=bE (bE W k3) kc;generalize l*w*c=C at Q B;have P:∀x:Rat,(C:Rat)*Zj (ld p) x=Zj (ld (lmul j u)) x*Zj (Cs q (k+1+1)) x+Zj (lmul j u) x*((((k+1:Nat):Rat)+1)*(Zj (Cs q (k+1)) x*Zj (ld q) x)):=λx=>by have:=Cq (p.map λa=>C*a) (lmul (lmul j u) (Cs q (k+1+1))) (λy=>by grind [Zx,Yn]) x;grind [Zaj,Bs,Zq3]
 refine D _ (Zc9 h o _).1 ⟨C,lmul (lmul j u) q,B,λx=>?_⟩ ⟨C,Mv (lmul (ld (lmul j u)) q) ((lmul (lmul j u) (ld q)).map λa=>((k+2:Nat):Int)*a),B,λx=>?_⟩
 .grind [Yn,Cp]
 .rw [P x,Xs,Zx,Yn _ (ld (lmul j u)),Yn _ (lmul j u),Cp q (k+1)];push_cast;grind
theorem Yhx{s g:List Int}(l:∀x:Rat,Zj p x=Zj s x*Zj g x)(G:Tr g)(B:g≠[])(j:∀d,Tr d->Ed d p->Ed d (ld p)->Ed d g)(H:Tr q)(D:Ed q s)(F:Ed q (ld s)):q.length<=1:=by
 refine bF λh=>?_;obtain⟨r,n,e⟩:=Yls _ q (aF _) H O;have o:∀k,Ed (Cs r k) g:=λk=>by
  induction k with
  | zero=>exact⟨1,g,O,λx=>by rw [show Cs r 0=[1]from rfl,Og];simp⟩
  | succ k I=>exact Yhv (u:=[]) (c:=0) l j n (e.trans D) (e.trans F) I
 obtain⟨w,M⟩:=Zc9 n.1 n.2.1 g.length;have:=((o _).len w G B).2;omega
theorem Ysi(o:Tr b)(g:b≠[])(h:Ed d a)(j:Ed d b):Ed d (Qq a b):=by
  obtain⟨k,s,hs⟩:=Cr a g;have n:=Ml (o.mem g) k;generalize cf b (b.length-1)^k=L at hs n;have w:∀x,(L:Rat)*Zj a x=Zj s x*Zj b x+Zj (Qq a b) x:=λx=>by have:=Ch L (-1) a s b (Qq a b) (λt=>by rw [hs t];omega) x;push_cast at this;grind
  have l:Ed d (a.map λc=>L*c):=by obtain⟨k,u,B,e⟩:=h;exact⟨k,u.map λc=>L*c,B,λx=>by rw [Zx,Zx];have:=e x;grind⟩
  exact j.lin l (s.map λc=>(-1)*c) 1 O3 λx=>by rw [Zx,Zx];push_cast;have:=w x;grind
theorem Zwi{d:List Int} : ∀(f:Nat) {a b:List Int},Tr a->Tr b->Ed d a->Ed d b->Ed d (eu f a b)
  | 0,a,b,_,_,e,_=>e
  | f+1,a,b,k,j,e,h=>by
    by_cases g:b=[]
    . rw [g,Bj];exact e
    . rw [show eu (f + 1) a b = eu f b (Yf (Qq a b)) by
          conv=>lhs;unfold eu
          rw [aJ g]]
      have t1:=Kj (q:=b) k;exact Zwi f j (Yw t1) h ((Ysi j g e h).sim (Qm t1).symm)
theorem Zmm{F:Nat}(e:Tr p)(g:Tr q)(h:Ed d p)(j:Ed d q):Ed d (Nv F p q):=by
  have k:=h.sim (Qm e).symm;have l:=j.sim (Qm g).symm;unfold Nv;refine Ed.sim ?_ (Hk _).symm;refine Zwi F (Zjh e g) (Zjg e g) ?_ ?_
  . unfold gA;split<;>assumption
  . unfold gB;split<;>assumption
theorem Zgl{F:Nat}(j:Tr xs)(k:xs≠[])(e:eok F (gA (Xg xs) (Xh (Xg xs))) (gB (Xg xs) (Xh (Xg xs))))(o:Tr q)(l:Ed q (sqf F xs))(n:Ed q (Xh (sqf F xs))):q.length<=1:=by
  obtain⟨f1,f2,f3,f4,f5,f6⟩:=Ox F j k e;have hs:Tr (Xg xs):=Ng (Yw j);have h:Tr (Xh (Xg xs)):=Np hs;refine Yhx (p:=Xg xs) (s:=sqf F xs) (g:=Nv F (Xg xs) (Xh (Xg xs))) (λx=>?_) (Zd4 _ hs h) f5 (λd _ a b=>?_) o l (n.congr λx=>Kw _ x)
  . have:Zj (Xg xs) x=Zj (Pf (sqf F xs) (Nv F (Xg xs) (Xh (Xg xs)))) x:=by rw [<-f4]
    rw [this,Xi]
  . exact Zmm hs h a (b.congr λx=>(Kw _ x).symm)
theorem Zbs:∀(l:List Int) (n z:Int),(l.foldl Nk (n,z)).1=n+(l.foldl Nk (0,z)).1
 | [],n,z=>O5
 | x::l,n,z=>by
  simp only [gG];by_cases h:x=0
  .have e:∀n,Nk (n,z) x=(n,z):=λn=>by unfold Nk;rw [aP h]
   rw [e,e];exact Zbs l n z
  .by_cases g:x=-z
   .have e:∀n,Nk (n,z) x=(n+1,x):=λn=>by unfold Nk;rw [aJ h,aP (by dsimp only;exact g)]
    rw [e,e,Zbs l (n+1) x,Zbs l (0+1) x];omega
   .have e:∀n,Nk (n,z) x=(n,x):=λn=>by unfold Nk;rw [aJ h,aJ (by dsimp only;exact g)]
    rw [e,e];exact Zbs l n x
theorem Ytl{x y:Int}{l:List Int}(k:y≠0):chg (x::y::l)=chg (y::l)+(if x=-y then 1 else 0):=by
 unfold chg;simp only [gG];have g:Nk (0,0) y=(0,y):=by unfold Nk;rw [aJ k,aJ O9]
 rw [g];by_cases j:x=0
 .have e:Nk (0,0) x=(0,0):=by unfold Nk;rw [aP j]
  rw [e,g,aJ O];omega
 .have e:Nk (0,0) x=(0,x):=by unfold Nk;rw [aJ j,aJ O9]
  rw [e];have n:Nk (0,x) y=(if x=-y then 1 else 0,y):=by
   unfold Nk;rw [aJ k];by_cases h:x=-y
   .rw [aP O9,aP h];rfl
   .rw [aJ O9,aJ h]
  rw [n,Zbs];omega
def crs(f:Rat->Rat)(u v:Rat):Int:=if f u≠0/\f u*f v<=0 then 1 else 0
theorem Zkn(s t:Rat):∀p:List Int,∃M:Rat,0<M/\∀x y,s<=x->x<=y->y<=t->
  -(M*(y-x)*(y-x))<=Zj p y-Zj p x-(y-x)*Zj (ld p) x/\Zj p y-Zj p x-(y-x)*Zj (ld p) x<=M*(y-x)*(y-x)
 | []=>⟨1,O3,λx y S V W=>by have:=aG (a:=y-x) (b:=y-x) O4 O4;show -(1*(y-x)*(y-x))<=(0:Rat)-0-(y-x)*0/\(0:Rat)-0-(y-x)*0<=1*(y-x)*(y-x);constructor<;>grind⟩
 | c::p=>by obtain⟨M,G,H⟩:=Zkn s t p;obtain⟨L,Z,F⟩:=Br s t p;obtain⟨K,B,D⟩:=Ysf s t;refine⟨L+K*M,by have:=bC B G;grind,λx y hs h k=>?_⟩;obtain⟨l,n⟩:=H x y hs h k;obtain⟨I,N⟩:=F x y hs h k;obtain⟨o,w⟩:=D x hs O4;have j:0<=y-x:=O4;obtain⟨f1,f2⟩:=Zcp (q:=x) (Q:=K) (g:=Zj p y-Zj p x-(y-x)*Zj (ld p) x) (e:=M*(y-x)*(y-x)) o w l n O4;have P:=aG (a:=y-x) (b:=L*(y-x)-(Zj p y-Zj p x)) j O4;have R:=aG (a:=y-x) (b:=L*(y-x)+(Zj p y-Zj p x)) j O4;rw [Zgw,show Zj (c::p) y=(c:Rat)+y*Zj p y from rfl,show Zj (c::p) x=(c:Rat)+x*Zj p x from rfl];constructor<;>grind
theorem Ydb(D:Tr a)(hb:Tr b)(h0:a≠[])(hc:∀q,Tr q->Ed q a->Ed q b->q.length<=1)(s t:Rat):∃ε:Rat,0<ε/\∀x,s<=x->x<=t->Big ε x (Zj a)\/Big ε x (Zj b):=by
 obtain⟨g,A,B,e,n,Z,j⟩:=Zn8 _ a b D hb (aF _);have hl:=hc g e n Z;have hg:=(n.len e D h0).1
 match g,hg,hl,e,j with
 | [c],_,_,e,j=>
  have l:c≠0:=e.mem O5;obtain⟨P,p1,p2⟩:=Zuv s t A;obtain⟨Q,q1,q2⟩:=Zuv s t B;obtain⟨ε,W,e2,e3⟩:=Gh (show(0:Rat)<1 by decide) (show 0<(P+Q)+(P+Q) by grind) (show(0:Rat)<1 by decide);refine⟨ε,W,λx hs F=>?_⟩;by_cases o:Big ε x (Zj a)
  .exact .inl o
  .by_cases w:Big ε x (Zj b)
   .exact .inr w
   .exfalso;obtain⟨G,H⟩:=Zeh o;obtain⟨I,M⟩:=Zeh w;obtain⟨N,R⟩:=p2 x hs F;obtain⟨S,V⟩:=q2 x hs F;obtain⟨u1,u2⟩:=Zcp N R G H O4;obtain⟨v1,v2⟩:=Zcp S V I M O4;have h4:=j x;rw [Og]at h4;have k:(c:Rat)<=-1\/1<=(c:Rat):=by
     rcases mA l with h|h
     .left;have:((c:Int):Rat)<=((-1:Int):Rat):=by exact_mod_cast (show c<=-1 by omega)
      rwa [show(((-1:Int)):Rat)=-1 from rfl]at this
     .right;have:1<=c:=O;exact_mod_cast this
    rcases k with k|k<;>grind
 | c::d::r,_,h9,_,_=>simp at h9
theorem Big.near{ε x y:Rat}{f:Rat->Rat}(h:Big ε x f)(e:f x-f y<=ε/2)(g:f y-f x<=ε/2):Big (ε/2) y f:=by unfold Big at *;grind
theorem Zup(x:Rat):Es x=-1↔x<0:=by unfold Es;grind
theorem Yit(x:Rat):Es (-x)=- Es x:=by unfold Es;grind
theorem Zot{g:Rat->Rat}{x:Rat}(h:Es (g x)≠0):vat (f::g::r) x=vat (g::r) x+(if Es (f x)=- Es (g x)then 1 else 0):=by exact Ytl h
def Tay(s t M:Rat)(p:List Int):Prop:=∀x y,s<=x->x<=y->y<=t->-(M*(y-x)*(y-x))<=Zj p y-Zj p x-(y-x)*Zj (ld p) x/\Zj p y-Zj p x-(y-x)*Zj (ld p) x<=M*(y-x)*(y-x)
theorem Zjl  {f:Nat}  (ha:Tr a) (hb:Tr b) (P:cok f a b) {κ:Rat} (hκ:0<κ) (H:∀x,Zj (ld a) x=κ*Zj b x)
  {L L' M h:Rat} (e1:0<ε) (e2:∀x,s<=x->x<=t->Big ε x (Zj a)\/Big ε x (Zj b)) (l1:0<=L) (l2:Lip s t L (Zj a)) (b1:0<=L') (D:Lip s t L' (Zj b)) (m1:0<=M) (m2:Tay s t M a)
  (h5:0<h) (h3:h*(L+L')<=ε/2) (h7:h*M<=κ*ε/2) {u v:Rat} (hs:s<=u) (j:u<=v) (ht:v<=t) (hh:v-u<=h) :
  vat ((Ma f a b).map Zj) u-vat ((Ma f a b).map Zj) v=crs (Zj a) u v:=by
 have Z:∀w,u<=w->w<=v->L*(w-u)<=ε/2/\L'*(w-u)<=ε/2:=λw k n=>by
  have p1:=aG (a:=L) (b:=h-(w-u)) O4 O4;have p2:=aG (a:=L') (b:=h-(w-u)) O4 O4;have p3:=aG (a:=L) (b:=h) O4 O4;have p4:=aG (a:=L') (b:=h) O4 O4
  all_goals grind
 by_cases o:Big ε u (Zj a)
 .have Q:∀w,u<=w->w<=v->Big (ε/2) w (Zj a):=λw k n=>by obtain⟨V,W⟩:=l2 u w hs k O4;have:=Z w k n;exact o.near O4 O4
  rw [Zgq ha hb P j (show 0<ε/2 by grind) Q];have hv:=Q v j O5;have:crs (Zj a) u v=0:=by
   unfold crs;refine aJ λ⟨_,h9⟩=>?_;obtain⟨V,W⟩:=l2 u v hs j ht;have a7:=Z v j O5;unfold Big at o hv;rcases o with R|R
   .have:0<Zj a v:=O4;have:=bC (show 0<Zj a u by grind) this;grind
   .have:0 < - Zj a v:=O4;have:=bC (show 0 < - Zj a u by grind) this;grind
  omega
 .have l:Big ε u (Zj b):=(e2 u hs O4).resolve_left o;have Q:∀w,u<=w->w<=v->Big (ε/2) w (Zj b):=λw k n=>by obtain⟨V,W⟩:=D u w hs k O4;have:=Z w k n;exact l.near O4 O4
  have a0:b≠[]:=λe=>by rw [e]at l;unfold Big at l;have:Zj [] u=0:=rfl;grind
  obtain⟨g,hg,hd,b0,G,a2⟩:=Zhx P a0;have hT:=Zgq hb (Zcz ha) G j (show 0<ε/2 by grind) Q;obtain⟨r,hr,_,_,_⟩:=Zpg u v g b (Mt a b) hb (Zcz ha) G;rw [a2,hr];rw [hr]at hT;simp only [bQ]at hT ⊢;have a3:∃σ:Rat,(σ=1\/σ=-1)/\ε<σ*Zj b u/\∀w,u<=w->w<=v->0<σ*Zj b w:=by
   unfold Big at l;rcases l with R|R
   .refine⟨1,.inl rfl,O4,λw k n=>?_⟩;obtain⟨V,W⟩:=D u w hs k O4;grind
   .refine⟨-1,.inr rfl,O4,λw k n=>?_⟩;obtain⟨V,W⟩:=D u w hs k O4;grind
  obtain⟨σ,S,a8,F⟩:=a3;have B:u<v->σ*Zj a u<σ*Zj a v:=λI=>by
   obtain⟨y1,y2⟩:=m2 u v hs j ht;rw [H u]at y1 y2;have hd:0<v-u:=O4;have z1:M*(v-u)<=κ*ε/2:=by have:=aG (a:=M) (b:=h-(v-u)) O4 O4;grind
   have z2:0<κ*(σ*Zj b u)-M*(v-u):=by have:=bC hκ (show 0<σ*Zj b u-ε by grind);have:=bC hκ e1;grind
   have z3:=bC hd z2;rcases S with rfl|rfl<;>grind
  have N:∀w,u<=w->w<=v->Es (Zj b w)≠0:=λw k n=>by
   have:=F w k n;rcases S with rfl|rfl
   all_goals grind [Zag,Zah]
  rw [Zot (N u O5 j),Zot (N v j O5),hT];have a6:∀w,u<=w->w<=v->(Es (Zj a w)=- Es (Zj b w)↔σ*Zj a w<0):=λw k n=>by
   have:=F w k n;rcases S with rfl|rfl
   all_goals grind [Zag,Zup,Zah,Yit]
  rw [show(if Es (Zj a u)=- Es (Zj b u)then(1:Int)else 0)=if σ*Zj a u<0 then 1 else 0 from by grind];rw [show(if Es (Zj a v)=- Es (Zj b v)then(1:Int)else 0)=if σ*Zj a v<0 then 1 else 0 from by grind];have a4:crs (Zj a) u v=if σ*Zj a u<0/\¬σ*Zj a v<0 then 1 else 0:=by
   unfold crs;have a1:Zj a u*Zj a v=(σ*Zj a u)*(σ*Zj a v):=by all_goals grind
   have hz:Zj a u≠0↔σ*Zj a u≠0:=by rcases S with rfl|rfl<;>constructor<;>intro h9 h8<;>exact h9 O4
   have a5:(Zj a u≠0/\Zj a u*Zj a v<=0)↔(σ*Zj a u<0/\¬σ*Zj a v<0):=by
    rw [a1,hz];generalize R:σ*Zj a u=p at *;generalize hq:σ*Zj a v=q at *;constructor
    .intro ⟨n1,n2⟩;rcases(show u<v\/u=v by grind)with I|a9
     .have:=B I;rcases(show p<0\/0<p by grind)with n3|n3
      .refine⟨n3,λn4=>?_⟩;have:=bC (show 0 < -p by grind) (show 0 < -q by grind);grind
      .have:=bC n3 (show 0<q by grind);grind
     .exfalso;have:q=p:=O4;rw [this]at n2;rcases(show p<0\/0<p by grind)with n3|n3
      .have:=bC (show 0 < -p by grind) (show 0 < -p by grind);grind
      .have:=bC n3 n3;grind
    .intro ⟨n1,n2⟩;refine⟨O4,?_⟩;have:=aG (show 0<=-p by grind) (show 0<=q by grind);grind
   grind
  grind
theorem Zlt (κ:Rat){f:Nat}(o:Tr a)(w:Tr b)(F:a≠[])(g:cok f a b)(R:0<κ)(e:∀x,Zj (ld a) x=κ*Zj b x)(N:∀q,Tr q->Ed q a->Ed q b->q.length<=1) :
  ∃h:Rat,0<h/\∀u v,s<=u->u<=v->v<=t->v-u<=h->vat ((Ma f a b).map Zj) u-vat ((Ma f a b).map Zj) v=crs (Zj a) u v:=by
 obtain⟨ε,B,D⟩:=Ydb o w F N s t;obtain⟨L,l1,V⟩:=Br s t a;obtain⟨l,S,k⟩:=Br s t b;obtain⟨M,W,Z⟩:=Zkn s t a;obtain⟨G,H,h3,h4⟩:=Gh (show(0)<1 by rfl) (show 0<L+l by grind) (show 0<ε/2 by grind);obtain⟨h,n,h6,I⟩:=Gh H W (show 0<κ*ε/2 by grind [Rat.mul_pos]);refine⟨h,n,λu v hs j Q P=>Zjl o w g R e B D O4 V O4 k O4 Z n ?_ I hs j Q P⟩;have:=aG (a:=L+l) (b:=G-h) O4 O4;grind
theorem Ylw:∀(n m:Nat) (f:Nat->Nat),(∀k,k<n->f k<m)->(∀a b,a<n->b<n->f a=f b->a=b)->n<=m
 | 0,_,_,_,_=>aX _
 | n+1,m,f,g,hi=>by
  have h:=g n O5;have:=Ylw n (m-1) (λk=>if f n<f k then f k-1 else f k) (λk o=>by
   grind) (λa b j l e=>by
   grind)
  omega
theorem php{n:Nat}{f:Nat->Nat}(h:m<n)(w:∀k,k<n->f k<m):∃a b,a<n/\b<n/\a≠b/\f a=f b:=by refine bF λj=>?_;have:=Ylw n m f w λa b l o e=>bF λg=>j ⟨a,b,l,o,g,e⟩;omega
def enc(B:Nat)(d:Nat->Nat):Nat->Nat
 | 0=>0
 | n+1=>enc B d n+d n*B^n
theorem Zsp{B:Nat}{d:Nat->Nat} : ∀n,(∀i,i<n->d i<B)->enc B d n<B^n
 | 0,_=>by simp [enc]
 | n+1,h=>by have j:=Zsp n λi hi=>h i O;have e:=h n O5;have g:(d n+1)*B^n<=B*B^n:=aM _ e;rw [cL]at g;rw [cH,bO _ B];show enc B d n+d n*B^n<_;omega
theorem Ycu{B:Nat}{d e:Nat->Nat} : ∀n,(∀i,i<n->d i<B)->(∀i,i<n->e i<B)->enc B d n=enc B e n->∀i,i<n->d i=e i
 | 0,_,_,_,i,hi=>absurd hi (aR i)
 | n+1,g,j,h,i,hi=>by
  have o:=Zsp n λi hi=>g i O;have D:=Zsp n λi hi=>j i O;have h:enc B d n+d n*B^n=enc B e n+e n*B^n:=h;have w:0<B^n:=O;have l:d n=e n:=by
   have F:(enc B d n+d n*B^n)/B^n=d n:=by rw [kW _ _ w,cS o,cD]
   simp_all [kW,cS,cD]
  rcases bA i n with k|k
  .exact Ycu n (λi hi=>g i O) (λi hi=>j i O) (by rw [l]at h;omega) i k
  .rw [show i=n by omega];exact l
def dig(B k j:Nat):Nat:=k/B^j%B
theorem Zsq(B k:Nat):∀n,enc B (dig B k) n=k%B^n
 | 0=>by simp [enc,lB]
 | n+1=>by show enc B _ n+dig B k n*B^n=_;rw [Zsq B k n,cH,mM];unfold dig;rw [bO]
theorem Zls (C:Int){f:Nat->Int} : ∀n,(∀i,i<n->-C<=f i/\f i<=C)->-((n:Int)*C)<=Yo f n/\Yo f n<=(n:Int)*C
 | 0,_=>by simp [Ds]
 | n+1,h=>by have e:=Zls _ n λi hi=>h i O;grind [Ys]
theorem Zo4(f g:Nat->Int):∀n,Yo (λi=>f i-g i) n=Yo f n-Yo g n
 | 0=>by rfl
 | n+1=>by rw [Ys,Ys,Ys,Zo4 f g n];omega
theorem siegel{N M A:Nat}(S:M<N)(hA:0<A)(c:Nat->Nat->Int)(hc:∀i j,i<M->j<N->(c i j).natAbs<=A) :
  ∃x:Nat->Int,(∃j,j<N/\x j≠0)/\(∀j,j<N->(x j).natAbs<=(2*N*A)^M)/\∀i,i<M->Yo (λj=>c i j*x j) N=0:=by
 generalize V:(2*N*A)^M=X;generalize hW:N*(A*X)=W;let d:=λk j=>dig (X+1) k j;have hd:∀k j,d k j<=X:=λk j=>mI (bG _ (jI X));let y:=λk i=>Yo (λj=>c i j*(d k j:Int)) N;have D:∀k i,i<M->-(W:Int)<=y k i/\y k i<=(W:Int):=λk i hi=>by
  have g:=Zls ((A*X:Nat):Int) (f:=λj=>c i j*(d k j:Int)) N λj w=>by
   have h:=hc i j hi w;have G:(c i j*(d k j:Int)).natAbs<=A*X:=by simp_all [cE,dS,aQ]
   omega
  grind
 let e:=λk=>enc (2*W+1) (λi=>(y k i+(W:Int)).toNat) M;have o:∀k i,i<M->(y k i+(W:Int)).toNat<2*W+1:=λk i hi=>by have:=D k i hi;omega
 have B:(2*W+1)^M<(X+1)^N:=by
  have g:2*W+1<=(2*N*A)*(X+1):=by grind [Nat.mul_pos]
  have h:=fK g M;rw [Nat.mul_pow,V]at h;have G:(X+1)^(M+1)<=(X+1)^N:=cY O5 O;grind
 obtain⟨a,b,Z,hb,l,hf⟩:=php (f:=e) B (λk _=>Zsp M (o k));have F:=Ycu M (o a) (o b) hf;refine⟨λj=>(d a j:Int)-(d b j:Int),?_,λj _=>?_,λi hi=>?_⟩
 .refine bF λR=>l ?_;have Q:∀j,j<N->d a j=d b j:=λj w=>bF λH=>R ⟨j,w,λh6=>H O4⟩;have I:=Zsq (X+1) a N;have P:=Zsq (X+1) b N;rw [bH Z]at I;rw [bH hb]at P;have e3:∀n,n<=N->enc (X+1) (dig (X+1) a) n=enc (X+1) (dig (X+1) b) n:=λn=>by
   induction n with
   | zero=>intro _;rfl
   | succ n ih=>
    intro hn;have H:dig (X+1) a n=dig (X+1) b n:=Q n O;show enc _ _ n+dig (X+1) a n*_=enc _ _ n+dig (X+1) b n*_;grind
  grind
 .grind
 .have g:Yo (λj=>c i j*((d a j:Int)-(d b j:Int))) N=y a i-y b i:=by rw [<-Zo4];grind
  rw [g];have h:=F i hi;have G:=D a i hi;have h4:=D b i hi;omega
theorem Zjj(f:Nat->Int)(p:Nat):∀q,Yo f (p+q)=Yo f p+Yo (λk=>f (p+k)) q
 | 0=>by simp [Ds]
 | q+1=>by rw [<-gM,Ys,Ys,Zjj f p q];omega
def sft(a:List Int)(t k:Nat):Int:=if k<=t then cf a (t-k)else 0
theorem Znt{U:List Int}{p:Nat}(h:U.length=p)(t:Nat):(ps U*ps a).c t=Yo (λk=>sft a t k*cf U k) p:=by rw [<-Zxl,<-h];refine Xl λk _=>?_;unfold sft;split<;>grind
theorem Zet{U:List Int}{p t:Nat}(h:U.length<=p)(j:p+a.length<=t+1):(ps U*ps a).c t=0:=by
 rw [PS.mul_c];refine Gl λk g=>?_;rw [Nu,Nu];rcases bA k U.length with e|e
 .rw [Yt (p:=a) O,dX]
 .rw [Yt e,cJ]
theorem Zjn (a:List Int)(b:List Int)(e:Nat){p q A:Nat}(D:0<A)(F:∀i,(cf a i).natAbs<=A)(G:∀i,(cf b i).natAbs<=A)(I:0<p+q)(P:p+a.length<=p+q+e)(Q:q+b.length<=p+q+e) :
  ∃U V:List Int,U.length=p/\V.length=q/\((∃i,cf U i≠0)\/∃i,cf V i≠0)/\(∀i,(cf U i).natAbs<=(2*(p+q)*A)^(p+q-1))/\(∀i,(cf V i).natAbs<=(2*(p+q)*A)^(p+q-1))/\
   ∀t,e<=t->(ps U*ps a).c t+(ps V*ps b).c t=0:=by
 obtain⟨x,⟨j,R,g⟩,B,H⟩:=siegel (N:=p+q) (M:=p+q-1) (A:=A) O D (λi j=>if j<p then sft a (e+i) j else sft b (e+i) (j-p)) (λi j _ _=>by
  split<;>unfold sft<;>split
  .exact F _
  .simp
  .exact G _
  .simp)
 have n:∀i,cf (mk p x) i=if i<p then x i else 0:=λi=>Md _ _ _
 have o:∀i,cf (mk q λk=>x (p+k)) i=if i<q then x (p+i)else 0:=λi=>Md _ _ _
 refine⟨mk p x,mk q λk=>x (p+k),Yy _ _,Yy _ _,?_,λi=>?_,λi=>?_,λt S=>?_⟩
 .rcases bA j p with h|h
  .exact .inl ⟨j,by rw [n,aP h];exact g⟩
  .exact .inr ⟨j-p,by rw [o,aP O,show p+(j-p)=j by omega];exact g⟩
 .rw [n];split
  .exact B i O
  .exact aX _
 .rw [o];split
  .exact B _ O
  .exact aX _
 .rcases bA (t-e) (p+q-1)with h|h
  .have w:=H (t-e) h;rw [show e+(t-e)=t by omega,Zjj]at w;rw [Znt (Yy _ _),Znt (Yy _ _),<-w];congr 1
   .exact Xl λk l=>by rw [aP l,n,aP l]
   .exact Xl λk l=>by rw [aJ O,o,aP l,show p+k-p=k by omega]
  .rw [Zet (mK (Yy _ _)) O,Zet (mK (Yy _ _)) O];rfl
theorem Ydc (t:Nat){U:List Int}{p X A:Nat}(h:U.length=p)(j:∀i,(cf U i).natAbs<=X)(l:∀i,(cf a i).natAbs<=A):((ps U*ps a).c t).natAbs<=p*(X*A):=by
 rw [Znt h];have e:=Zls ((X*A:Nat):Int) (f:=λk=>sft a t k*cf U k) p λk _=>by
  have:(sft a t k*cf U k).natAbs<=X*A:=by
   rw [cE,bO];refine aQ (j k) ?_;unfold sft;split
   .exact l _
   .simp
  omega
 have g:((p:Int)*((X*A:Nat):Int))=((p*(X*A):Nat):Int):=by push_cast;rfl
 rw [g]at e;omega
theorem Zgy (w:List Int)(q:List Int)(n:Nat)(h:∀x,Zj w x=Zj q x*Zj y x)(k:Tr y)(e:y≠[])(o:∀i,n<=i->cf w i=0):tzl q=[]\/(tzl q).length+y.length<=n+1:=by
 by_cases j:tzl q=[]
 .grind
 .have l:∀i,cf w i=(ps _*ps y).c i:=λi=>by rw [Nq (q:=lmul (tzl q) y) (λx=>by grind [Yn,Kc]) i,Dc];rfl
  have B:=Az (p:=tzl q) (q:=y) (a:=(tzl q).length-1) (b:=y.length-1) (λi hi=>Yt O) (λi hi=>Yt O);have g:=bE ((Xy q).mem j) (k.mem e);grind
theorem Ey (v:List Int){f:List Int}(j:tzl v≠[])(h:∀x,Zj v x*Zj f x=0)(x:Rat):Zj f x=0:=by
 by_cases e:tzl f=[]
 .rw [<-Kc,e];rfl
 .rcases Zgy _ v 0 (λx=>by rw [Kc,h x];rfl) (Xy f) e (λi _=>Zds i)with g|g
  all_goals grind [List.length_pos_iff]
structure Inv (a b x y:List Int):Prop where
 ex:∃(α β γ:Int) (u' v' u v:List Int),α≠0/\β≠0/\γ≠0/\
  (∀t:Rat,(α:Rat)*Zj x t=Zj u' t*Zj a t+Zj v' t*Zj b t)/\(∀t:Rat,(β:Rat)*Zj y t=Zj u t*Zj a t+Zj v t*Zj b t)/\
  (∀t:Rat,Zj u' t*Zj v t-Zj u t*Zj v' t=(γ:Rat))/\(tzl v).length<=a.length-x.length+1/\(tzl v').length<=a.length-x.length+1
 xl:x.length<=b.length
 yl:y.length<x.length
theorem Ybf{z:List Int}{L:Int}(g:Tr y)(e:y≠[])(j:z.length<=x.length)(h:∀t:Rat,(L:Rat)*Zj x t=Zj q t*Zj y t+(c:Rat)*Zj z t):tzl q=[]\/(tzl q).length+y.length<=x.length+1:=
 Zgy (Mv (x.map λa=>L*a) (z.map λa=>(-c)*a)) _ _ (λt=>by grind [Xs,Zx]) g e λi hi=>by rw [Ll,Ps,Ps,Yt hi,Yt O];simp
theorem Zap{n:Nat}(g:(tzl p).length<=m)(j:(tzl q).length<=n)(i:Nat)(hi:m+n<=i+1):cf (lmul p q) i=0:=by have e:cf (lmul p q) i=cf (lmul (tzl p) (tzl q)) i:=Nq (λx=>by grind [Yn,Kc]) i;rw [e,Dc];have h:=Zet (a:=tzl q) (t:=i) g O;assumption
def Zqh{n:Nat}(h:∀i,n<=i->cf p i=0):(tzl p).length<=n:=Zb0 h
theorem Ydq{n:Nat}(h:(tzl p).length<=n)(hi:n<=i):cf p i=0:=by rw [<-Lg];grind [Yt]
theorem Inv.next{z z':List Int}{L:Int}(D:Inv a b x y)(F:b.length<=a.length)(hx:Tr x)(M:Tr y)(w:y≠[])(hL:L≠0)(h:∀t:Rat,(L:Rat)*Zj x t=Zj q t*Zj y t+Zj z' t)(N:Sim z' z)(g:z.length<y.length):Inv a b y z:=by
 obtain⟨⟨α,β,γ,V,l,u,v,P,k,hγ,W,o,Z,R,S⟩,xl,yl⟩:=D;obtain⟨m,n,hm,G,hs⟩:=N;have I:∀t:Rat,(m:Rat)*Zj z' t=(n:Rat)*Zj z t:=λt=>by
  have:=Mb t (z'.map λa=>m*a) (z.map λa=>n*a) λi=>by grind [Ps]
  grind [Zx]
 have B:∀t:Rat,((L*m:Int):Rat)*Zj x t=Zj (q.map λa=>m*a) t*Zj y t+(n:Rat)*Zj z t:=λt=>by grind [Zx]
 have H:=Ybf M w O B;have e:(tzl (q.map λa=>m*a)).length<=x.length-y.length+1:=by grind
 generalize hQ:(q.map λa=>m*a)=Q at *;have j:∀t:Rat,((n*(α*β):Int))*Zj z t=Zj (Mv (V.map λc=>(L*m*β)*c) ((lmul Q u).map λc=>(-α)*c)) t*Zj a t+Zj (Mv (l.map λc=>(L*m*β)*c) ((lmul Q v).map λc=>(-α)*c)) t*Zj b t:=λt=>by rw [Xs,Xs,Zx,Zx,Zx,Zx,Yn,Yn];grind
 refine⟨⟨β,n*(α*β),-(L*m*β*γ),u,v,_,_,k,bE G (bE P k),?_,o,j,λt=>?_,?_,?_⟩,O,g⟩
 .simp_all
 .rw [Xs,Xs,Zx,Zx,Zx,Zx,Yn,Yn];grind
 .refine Zqh λi hi=>?_;rw [Ll,Ps,Ps,Ydq (p:=l) S O,Zap e R i O];simp
 omega
theorem Inv.first{z z':List Int}{L:Int}(k:b.length<=a.length)(I:Tr a)(l:Tr b)(g:b≠[])(G:L≠0)(h:∀t:Rat,(L:Rat)*Zj a t=Zj q t*Zj b t+Zj z' t)(F:Sim z' z)(e:z.length<b.length):Inv a b b z:=by
 obtain⟨m,n,M,o,hs⟩:=F;have D:∀t:Rat,(m:Rat)*Zj z' t=(n:Rat)*Zj z t:=λt=>by
  have:=Mb t (z'.map λa=>m*a) (z.map λa=>n*a) λi=>by grind [Ps]
  grind [Zx]
 have j:∀t:Rat,((L*m:Int):Rat)*Zj a t=Zj (q.map λa=>m*a) t*Zj b t+(n:Rat)*Zj z t:=λt=>by grind [Zx]
 have w:=Ybf l g O j;have B:(tzl (q.map λa=>m*a)).length<=a.length-b.length+1:=by grind
 generalize H:(q.map λa=>m*a)=Q at *;refine⟨⟨1,n,-(L*m),[],[1],[L*m],Q.map λc=>(-1)*c,O,o,?_,λt=>?_,λt=>?_,λt=>?_,?_,?_⟩,aF _,e⟩
 .simp_all
 .rw [Og];show _=(0:Rat)*_+_;grind
 .grind [Og,Zx]
 .rw [Og,Og];show(0:Rat)*_-_=_;grind
 .refine Zqh λi hi=>?_;grind [Ps,Ydq]
 grind [Nat.le_trans,Mg]
def Zif{n:Nat}(h:Sz n a)(i:Nat):(cf a i).natAbs<=2^n:=dC ((Qo n _).1 (h i))
theorem Zai(h:tzl p=[])(x:Rat):Zj p x=0:=by rw [<-Kc,h];rfl
theorem tzl_ne(h:cf p i≠0):tzl p≠[]:=λe=>h ((Ik p).1 e i)
def nn_eq{x a b:Nat}(e:x<=b)(g:b<=a):b-x+1+(a-x+1)=a+b-2*x+2:=O
theorem Inv.bound{n s:Nat}(hI:Inv a b x y)(I:b.length<=a.length)(ha:Tr a)(hx:Tr x)(hy:Tr y)(h0:y≠[])(hp:Yx y=1)(na:Sz n a)(nb:Sz n b)(hs:a.length+b.length-2*x.length+2<=2^s) :
  Xx y<=(s+1+n)*(a.length+b.length-2*x.length+2):=by
 obtain⟨⟨α,β,γ,u',v',u,v,hα,hβ,hγ,e1,e2,e3,l1,l2⟩,xl,yl⟩:=hI;have a6:=aI.2 h0;have a5:x≠[]:=λe=>O4;have D:a≠[]:=λe=>by grind
 obtain⟨U,V,lU,lV,W,bU,bV,hz⟩:=Zjn a b (x.length-1) (p:=b.length-x.length+1) (q:=a.length-x.length+1) (A:=2^n) (bZ O) (Zif na) (Zif nb) O O O;have hv:a.length+1<=(tzl v).length+x.length:=by
  refine bF λB=>?_;have Q:∀i,cf (Mv (a.map λc=>γ*c) ((lmul y v').map λc=>β*c)) i=cf (lmul (tzl v) (x.map λc=>α*c)) i:=λi=>Nq (λt=>by grind [Xs,Zx,Yn,Kc]) i
  have o:=Q (a.length-1);rw [Ll,Ps,Ps,Zap (m:=y.length) (n:=a.length-x.length+1) (Mg _) l2 _ O,Dc]at o;have F:=Zet (U:=tzl v) (a:=x.map λc=>α*c) (p:=(tzl v).length) (t:=a.length-1) (aF _) O4;rw [PS.mul_c]at F;have G:Yo (λk=>cf (tzl v) k*cf (x.map λc=>α*c) (a.length-1-k)) (a.length-1+1)=0:=F;rw [G]at o;have:=bE hγ (ha.mem D);omega
 have g:tzl v≠[]:=λe=>O4;have cR:∀i,cf (Mv (lmul U a) (lmul V b)) i=(ps U*ps a).c i+(ps V*ps b).c i:=λi=>by rw [Ll,Dc,Dc,PS.mul_c,PS.mul_c];rfl
 generalize hR:Mv (lmul U a) (lmul V b)=R at cR;have rR:∀t,Zj R t=Zj U t*Zj a t+Zj V t*Zj b t:=λt=>by grind [Xs,Yn]
 have lR:(tzl R).length<=x.length-1:=Zqh λi hi=>O4;have hf:tzl (Mv (lmul U v) ((lmul u V).map λc=>(-1)*c))=[]:=by
  rcases Zgy (Mv (lmul R v) ((lmul y V).map λc=>(-β)*c)) (Mv (lmul U v) ((lmul u V).map λc=>(-1)*c)) (a.length-1) (y:=a) (λt=>by
   grind [Xs,Zx,Yn]) ha D (λi hi=>by
   rw [Ll,Ps,Zap lR l1 i O,Zap (m:=y.length) (n:=a.length-x.length+1) (Mg _) (aB (Mg _) (mK lV)) i O];simp)with B|B
  .omega
  .refine bF λh8=>?_;grind [List.length_pos_iff]
 have a4:∀t,Zj U t*Zj v t=Zj u t*Zj V t:=λt=>by have:=Zai hf t;grind [Xs,Zx,Yn]
 have a1:∀t,Zj R t*Zj v t=β*Zj y t*Zj V t:=λt=>by grind
 have hw:∀t,(γ:Rat)*Zj V t=Zj v t*Zj (Mv (lmul u' V) ((lmul v' U).map λc=>(-1)*c)) t:=λt=>by rw [Xs,Zx,Yn,Yn,<-e3 t];grind
 generalize Mv (lmul u' V) ((lmul v' U).map λc=>(-1)*c)=w at hw;have hV:tzl V≠[]:=λe=>by
  rcases W with⟨i,hi⟩|⟨i,hi⟩
  .refine hi (Nq (p:=U) (q:=[]) (λt=>?_) i▸Zds i);exact Ey v (f:=U) g (λt=>by grind [Zai]) t
  grind [tzl_ne]
 have a0:∃c:Int,c≠0/\∀t,Zj w t=(c:Rat):=by
  have j:tzl w≠[]:=λe=>hV ((Ik V).2 λi=>by have:=Nq (p:=V.map λc=>γ*c) (q:=[]) (λt=>by rw [Zx,hw t,Zai e];show _=(0:Rat);simp) i;grind [Ps,Zds,Int.mul_eq_zero])
  rcases Zgy (V.map λc=>γ*c) w (a.length-x.length+1) (y:=tzl v) (λt=>by grind [Zx,Kc]) (Xy v) g (λi hi=>by grind [Ps,Yt])with B|B
  .grind
  .have h8:=aI.2 j;have h7:(tzl w).length=1:=O
   match M:tzl w,h7 with
   | [c],_=>
    refine⟨c,?_,λt=>by rw [<-Kc,M,Og]⟩;have:=(Xy w).mem j;rw [M]at this;exact this
 obtain⟨c,P,M⟩:=a0;have h:Sim R y:=by
  refine⟨γ,β*c,hγ,bE hβ P,λi=>?_⟩;have:=Nq (p:=R.map λd=>γ*d) (q:=y.map λd=>(β*c)*d) (λt=>by
   rw [Zx,Zx];push_cast;have o:Zj (Mv (R.map λd=>γ*d) (y.map λd=>(-(β*c))*d)) t=0:=Ey v g (λt=>by grind [Xs,Zx]) t
   grind [Xs,Zx]) i
  grind [Ps]
 have Z:Sz ((s+1+n)*(a.length+b.length-2*x.length+2)) R:=λi=>by
  rw [cR];have c1:=Ydc i lU bU (Zif na);have c2:=Ydc i lV bV (Zif nb);have H:b.length-x.length+1+(a.length-x.length+1)=a.length+b.length-2*x.length+2:=nn_eq xl I;rw [<-H]at hs ⊢;generalize hN:b.length-x.length+1+(a.length-x.length+1)=N at *;generalize a3:(2*N*2^n)^(N-1)=X at *;have c3:((ps U*ps a).c i+(ps V*ps b).c i).natAbs<=N*(X*2^n):=by rw [<-hN,cL];omega
  refine(Qo _ _).2 (aV c3 ?_);have a2:0<X:=O4;have c4:N*(X*2^n)<(2*N*2^n)^N:=by
   have e:(2*N*2^n)^N=X*(2*N*2^n):=by grind [Nat.pow_succ,Nat.succ_eq_add_one]
   grind [Nat.mul_pos,Nat.pow_pos]
  have c5:2*N*2^n<=2^(s+1+n):=by rw [bP,cH];exact aM _ O
  grind [Nat.pow_le_pow_left,Nat.pow_mul,Nat.lt_of_lt_of_le]
 have o:tzl R≠[]:=λe=>by obtain⟨m,k,hm,S,e9⟩:=h;have:=e9 (y.length-1);rw [(Ik R).1 e,dX]at this;exact bE S (hy.mem h0) this.symm
 have l:Sim (tzl R) y:=by obtain⟨m,k,hm,S,e9⟩:=h;exact⟨m,k,hm,S,λi=>by grind [Lg]⟩
 have F:=(Qm (Xy R)).trans l;have G:∀i,(cf y i).natAbs=(cf (Yf (tzl R)) i).natAbs:=λi=>by
  rcases Zlw (Yw (Xy R)) hy (λe=>o (aC (by grind [Yi]))) (Kk (Xy R) o) hp F with B|B
  all_goals grind
 exact Qu λi=>by rw [G];exact Hz Z.tzl i
def Zvk(g e K:Nat):Prop:=∀l,l<=e->(l+1)*(K*(g+e-2*l+2)+1)<=65536
def Zxc{e g l:Nat}(h:l<=m):K*(e+g-2*m+2)<=K*(e+g-2*l+2):=aZ _ O
theorem Zhu{C:Nat}(e:y≠[])(l:y.length<x.length)(g:Xx x<=C)(j:Xx y<=C)(h:(x.length+1)*(C+1)<=65536):Bx x y=0:=by have n:=aI.2 e;unfold Bx;have k:(x.length-y.length+1)*(Xx y+1)<=x.length*(C+1):=aQ O O;grind
theorem Yfz(n:Inv a b x y)(g:b.length<=a.length)(j:Tr x)(l:Tr y)(e:y≠[]):Inv a b y (Yf (Qq x y)):=by
 obtain⟨k,s,hs⟩:=Cr x e;have h:=Ml (l.mem e) k;generalize cf y _^k=L at hs h;have o:∀t,(L)*Zj x t=Zj s t*Zj y t+Zj (Qq x y) t:=λt=>by have:=Ch L (-1) x s y (Qq x y) (λt=>O4) t;grind
 exact n.next g j l e h o (Qm (Kj j)).symm (by simp_all [Yi,Pi])
theorem Zg1(h:Tr p):Yf p=[]\/Yx (Yf p)=1:=by
 by_cases e:p=[]
 .left;rw [e];rfl
 grind [Kk]
theorem Bv(g:Tr x)(e:y≠[]):(Mt x y).length<y.length:=by simp_all [Bu,Pi]
theorem Yfy(n:Inv a b x y)(j:b.length<=a.length)(g:Tr x)(h:Tr y)(e:y≠[]):Inv a b y (Mt x y)/\(Mt x y=[]\/Yx (Mt x y)=1):=by
 have D:=aI.2 e;have w:=n.yl;obtain⟨r1,r2,k,u,B⟩:=Zb3 h e x.length x g O;have hs:=Zd6 x.length g h e O O;have l:Tr (Zir (Ff x.length x y)):=Ql _ _;have o:Eu y^k≠0:=Ml (by have:=Zgx h e;omega) _;constructor
 .refine n.next (z':=Ff x.length x y) (q:=u) j g h e o (λt=>?_) ?_ (Bv g e)
  .have:=Ch (Eu y^k) (-1) x u y (Ff x.length x y) (λt=>O4) t;grind
  .rw [<-hs];exact Sim.trans ⟨1,-1,O,O,λi=>by grind [Zaw]⟩ (Qm l).symm
 grind [Zg1]
theorem Ycs{a b:List Int}{n s K:Nat}(g:b.length<=a.length)(G:Tr a)(M:Sz n a)(N:Sz n b)(hs:a.length+b.length<=2^s)(D:s+1+n<=K)(F:Zvk a.length b.length K) :
  ∀(f:Nat) (x y:List Int),Inv a b x y->Tr x->Tr y->(y=[]\/Yx y=1)->Xx x<=K*(a.length+b.length-2*x.length+2)->y.length<=f->eok f x y/\Xx (eu f x y)<=K*(a.length+b.length)
 | 0,x,y,e,o,w,H,l,R=>by have k:=e.yl;refine⟨aC O,aB l (aZ _ (by have:=e.xl;omega))⟩
 | f+1,x,y,e,o,w,H,l,R=>by
  have B:=e.yl;have k:=e.xl;by_cases h:y=[]
  .subst h;refine⟨.inl rfl,?_⟩;exact aB l (aZ _ O)
  .have P:=e.bound g G o w h (H.resolve_left h) M N (s:=s) O;have j:=aB P (aM _ D);have Q:=Zhu h B l j (F _ k);have I:=Kj (q:=y) o;have S:=Ycs g G M N hs D F f y _ (Yfz e g o w h) w (Yw I) (Zg1 I) (aB j (Zxc O)) (by rw [Yi];have:=Pi x h;omega);refine⟨.inr ⟨Q,S.1⟩,?_⟩;rw [show eu _ x y=eu f y (Yf (Qq x y)) by
     conv=>lhs;unfold eu
     grind]
   omega
theorem Yde{a b:List Int}{n s K:Nat}(j:b.length<=a.length)(H:Tr a)(N:Sz n a)(P:Sz n b)(hs:a.length+b.length<=2^s)(F:s+1+n<=K)(G:Zvk a.length b.length K) :
  ∀(f:Nat) (x y:List Int),Inv a b x y->Tr x->Tr y->(y=[]\/Yx y=1)->Xx x<=K*(a.length+b.length-2*x.length+2)->y.length<=f->cok f x y/\∀p∈Ma f x y,Xx p<=K*(a.length+b.length)/\p.length<=a.length
 | 0,x,y,h,o,B,e,l,S=>by
  have w:=h.yl;have I:=h.xl;have g:y=[]:=aC O;refine⟨g,λp e=>?_⟩;have:p=x:=by unfold Ma at e;grind
  rw [this];exact⟨aB l (aZ _ O),O⟩
 | f+1,x,y,h,o,B,e,l,S=>by
  have D:=h.yl;have w:=h.xl;by_cases g:y=[]
  .subst g;refine⟨.inl rfl,λp e=>?_⟩;rw [Dt]at e;have:p=x:=O4;rw [this];exact⟨aB l (aZ _ O),O⟩
  .have Q:=h.bound j H o B g (e.resolve_left g) N P (s:=s) O;have k:=aB Q (aM _ F);have R:=Zhu g D l k (G _ w);obtain⟨V,W⟩:=Yfy h j o B g;have M:=Yde j H N P hs F G f y _ V B (Zcz o) W (aB k (Zxc O)) (by have:=Bv o g;omega);refine⟨.inr ⟨R,O,M.1⟩,λp e=>?_⟩;unfold Ma at e;rw [aJ g]at e;rcases bI.1 e with rfl|e
   .exact⟨aB l (aZ _ O),O⟩
   .exact M.2 p e
theorem Yct (s:Nat)(K:Nat){n f:Nat}(j:b.length<a.length)(h:Tr a)(l:Tr b)(B:Sz n a)(D:Sz n b)(hs:a.length+b.length<=2^s)(G:s+1+n<=K)(I:Zvk a.length b.length K)(M:(a.length+1)*(n+1)<=65536)(V:b.length<=f) :
  eok f a b/\Xx (eu f a b)<=K*(a.length+b.length):=by
 have R:=Qu B;have S:=Qu D;have H:n<=K*(a.length+b.length):=aB (by omega:n<=K*1) (aZ _ O);by_cases e:b=[]
 .subst e;cases f with
  | zero=>exact⟨rfl,by grind [Bj]⟩
  | succ f=>exact⟨.inl rfl,by grind [Bj]⟩
 .have W:=aI.2 e;obtain⟨g,rfl⟩:∃g,f=g+1:=⟨f-1,O⟩;have o:=Kj (q:=b) h;obtain⟨k,q,P⟩:=Cr a e;have w:=Ml (l.mem e) k;generalize cf b _^k=L at P w;have N:∀t,(L)*Zj a t=Zj q t*Zj b t+Zj (Qq a b) t:=λt=>by have:=Ch L (-1) a q b (Qq a b) (λt=>O4) t;grind
  have F:=Inv.first O h l e w N (Qm o).symm (by simp_all [Yi,Pi]);have Q:=Ycs O h B D hs G I g b _ F l (Yw o) (Zg1 o) (aB (by omega:Xx b<=K*1) (aZ _ O5)) (by rw [Yi];have:=Pi a e;omega);refine⟨.inr ⟨Zhu e j R S M,Q.1⟩,?_⟩;rw [show eu _ a b=eu g b (Yf (Qq a b)) by
    conv=>lhs;unfold eu
    grind]
  omega
theorem Ys5{n s f:Nat}(B:b.length<a.length)(j:Tr a)(l:Tr b)(G:Sz n a)(H:Sz n b)(hs:a.length+b.length<=2^s)(M:s+1+n<=K)(P:Zvk a.length b.length K)(Q:(a.length+1)*(n+1)<=65536)(W:b.length<=f) :
  cok f a b/\∀p∈Ma f a b,Xx p<=K*(a.length+b.length)/\p.length<=a.length:=by
 have S:=Qu G;have V:=Qu H;have N:n<=K*(a.length+b.length):=aB (by omega:n<=K*1) (aZ _ O);by_cases e:b=[]
 .subst e;have h:∀p∈Ma f a [],Xx p<=K*(a.length+([]:List Int).length)/\p.length<=a.length:=λp o=>by rw [Dt]at o;grind
  cases f with
  | zero=>exact⟨rfl,h⟩
  | succ f=>exact⟨.inl rfl,h⟩
 .have l0:=aI.2 e;obtain⟨g,rfl⟩:∃g,f=g+1:=⟨f-1,O⟩;obtain⟨r1,r2,k,u,Z⟩:=Zb3 l e a.length a j O;have D:=Zd6 a.length j l e O O;have F:Tr (Zir (Ff a.length a b)):=Ql _ _;have w:Eu b^k≠0:=Ml (by have:=Zgx l e;omega) _;have I:=by
   refine Inv.first (z':=Ff a.length a b) (q:=u) O j l e w (λt=>?_) ?_ (Bv j e)
   .have:=Ch (Eu b^k) (-1) a u b (Ff a.length a b) (λt=>O4) t;grind
   .rw [<-D];exact Sim.trans ⟨1,-1,O,O,λi=>by grind [Zaw]⟩ (Qm F).symm
  have o:Mt a b=[]\/Yx (Mt a b)=1:=by grind [Zg1]
  have R:=Yde O j G H hs M P g b _ I l (Zcz j) o (aB (by omega:Xx b<=K*1) (aZ _ O5)) (by have:=Bv j e;omega);refine⟨.inr ⟨Zhu e B S V Q,O,R.1⟩,λp o=>?_⟩;unfold Ma at o;grind
def al:List Int->List Int->List Int
 | [],g=>g
 | a::f,[]=>a::f
 | a::f,b::g=>(a+b)::al f g
def scl(c:Int)(f:List Int):List Int:=f.map (c*·)
def ddl(k:Nat):List Int->List Int
 | []=>[]
 | b::g=>(k:Int)*b::ddl (k+1) g
def dl(f:List Int):List Int:=ddl 1 f.tail
def xl:List Int->List Int
 | []=>[]
 | a::f=>0::a::f
def fc:Nat->Int
 | 0=>1
 | k+1=>((k:Int)+1)*fc k
def Gz:Nat->List Int->List Int->Int
 | k,a::f,b::g=>fc k*(a*b)+Gz (k+1) f g
 | _,_,_=>0
theorem Zsg(k:Nat)(f:List Int):Gz k f []=0:=by cases f<;>rfl
theorem Yol(f:List Int):al f []=f:=by cases f<;>rfl
theorem Yeb:∀f g:List Int,al f g=al g f
 | [],g=>(Yol g).symm
 | a::f,[]=>rfl
 | a::f,b::g=>by show(a+b)::al f g=(b+a)::al g f;rw [Yeb f g,iC]
theorem Zxj:∀f g h:List Int,al (al f g) h=al f (al g h)
 | [],g,h=>rfl
 | a::f,[],h=>rfl
 | a::f,b::g,[]=>rfl
 | a::f,b::g,c::h=>by show(a+b+c)::al _ h=(a+(b+c))::al f _;rw [Zxj f g h,Int.add_assoc]
instance:Std.Commutative al:=⟨Yeb⟩
instance:Std.Associative al:=⟨Zxj⟩
theorem Yin(c:Int):∀f g,scl c (al f g)=al (scl c f) (scl c g)
 | [],g=>rfl
 | a::f,[]=>rfl
 | a::f,b::g=>by show c*(a+b)::scl c _=(c*a+c*b)::al (scl c f) (scl c g);rw [Yin c f g,jT]
theorem Yas(c d:Int):∀f,scl (c+d) f=al (scl c f) (scl d f)
 | []=>rfl
 | a::f=>by show(c+d)*a::scl _ f=(c*a+d*a)::al (scl c f) (scl d f);rw [Yas c d f,mQ]
theorem Zkg:∀f,scl 1 f=f
 | []=>rfl
 | a::f=>by show 1*a::scl 1 f=a::f;rw [Zkg f,fR]
theorem Ym3:∀k f g,ddl k (al f g)=al (ddl k f) (ddl k g)
 | k,[],g=>rfl
 | k,a::f,[]=>rfl
 | k,a::f,b::g=>by show(k)*(a+b)::ddl _ _=((k)*a+(k)*b)::al _ _;rw [Ym3 _ f g,jT]
theorem Yc1(c:Int):∀k f,ddl k (scl c f)=scl c (ddl k f)
 | k,[]=>rfl
 | k,a::f=>by show(k)*(c*a)::ddl _ (scl c f)=c*((k)*a)::scl c _;rw [Yc1 c _ f,Int.mul_left_comm]
theorem Zww:∀k f,ddl (k+1) f=al f (ddl k f)
 | k,[]=>rfl
 | k,a::f=>by show((k+1))*a::ddl _ f=(a+(k)*a)::al f _;rw [Zww _ f];grind
def dl_al:∀f g,dl (al f g)=al (dl f) (dl g)
 | [],g=>rfl
 | a::f,[]=>(Yol _).symm
 | a::f,b::g=>Ym3 1 f g
def dl_scl(c:Int):∀f,dl (scl c f)=scl c (dl f)
 | []=>rfl
 | a::f=>Yc1 c 1 f
theorem dl_x:∀f,dl (xl f)=al f (xl (dl f))
 | []=>rfl
 | [a]=>by show(((1))*a::[])=[a];simp
 | a::b::f=>by show((1))*a::ddl _ _=(a+0)::al _ (ddl 1 (b::f));simp [Zww,fR,gC]
def xl_al:∀f g,xl (al f g)=al (xl f) (xl g)
 | [],g=>rfl
 | a::f,[]=>rfl
 | a::f,b::g=>rfl
theorem xl_scl(c:Int):∀f,xl (scl c f)=scl c (xl f)
 | []=>rfl
 | a::f=>by show 0::c*a::scl c f=c*0::c*a::scl c f;simp
theorem Zdg:∀k f g,Gz k f g=Gz k g f
 | k,[],g=>(Zsg k g).symm
 | k,a::f,[]=>rfl
 | k,a::f,b::g=>by show fc k*(a*b)+Gz _ f g=fc k*(b*a)+Gz _ g f;rw [Zdg _ f g,fD a b]
theorem Znm:∀k f g h,Gz k (al f g) h=Gz k f h+Gz k g h
 | k,[],g,h=>by show Gz k g h=0+Gz k g h;omega
 | k,a::f,[],h=>(gC _).symm
 | k,a::f,b::g,[]=>rfl
 | k,a::f,b::g,c::h=>by show fc k*((a+b)*c)+Gz _ _ h=fc k*(a*c)+Gz _ f h+(fc k*(b*c)+Gz _ g h);rw [Znm _ f g h];grind
theorem Znl(k:Nat)(h f g:List Int):Gz k h (al f g)=Gz k h f+Gz k h g:=by grind [Zdg,Znm]
theorem Zhk(c:Int):∀k f g,Gz k (scl c f) g=c*Gz k f g
 | k,[],g=>(dX c).symm
 | k,a::f,[]=>(dX c).symm
 | k,a::f,b::g=>by show fc k*(c*a*b)+Gz _ (scl c f) g=c*(fc k*(a*b)+Gz _ f g);rw [Zhk c _ f g];grind
theorem Zsf(c:Int)(k:Nat)(f g:List Int):Gz k f (scl c g)=c*Gz k f g:=by grind [Zdg,Zhk]
theorem Yme:∀k f g,Gz (k+1) f g=Gz k f (ddl (k+1) g)
 | k,[],g=>rfl
 | k,a::f,[]=>rfl
 | k,a::f,b::g=>by show((k)+1)*fc k*(a*b)+Gz _ f g=fc k*(a*(((k+1))*b))+Gz _ f _;rw [Yme _ f g];grind
theorem fip_x:∀f g,Gz 0 (xl f) g=Gz 0 f (dl g)
 | [],g=>rfl
 | a::f,[]=>rfl
 | a::f,b::g=>by show fc 0*(0*b)+Gz 1 _ g=Gz 0 _ (ddl 1 g);simp [cJ,dX,kH,Yme]
theorem Ymb(f g:List Int):Gz 0 f (xl g)=Gz 0 (dl f) g:=by grind [Zdg,fip_x]
def Mq:List Int->Nat->List Int->List Int
 | [],_,_=>[]
 | c::q,0,g=>al (scl c g) (xl (Mq q 0 g))
 | c::q,j+1,g=>al (xl (Mq q (j+1) g)) (Mq q j g)
def Hq:List Int->Nat->List Int->List Int
 | [],_,_=>[]
 | c::p,0,f=>al (scl c f) (Hq p 0 (dl f))
 | c::p,k+1,f=>al (Hq p (k+1) (dl f)) (Hq p k f)
theorem Ycz:∀q j g,dl (Mq q j g)=al (Mq q j (dl g)) (scl ((j:Int)+1) (Mq q (j+1) g))
 | [],j,g=>rfl
 | c::q,0,g=>by
  show dl (al _ _)=al (al _ _) (scl _ (al _ _));rw [dl_al,dl_scl,dl_x,Ycz q 0 g,xl_al];rw [show((0:Nat):Int)+1=1 from rfl,Zkg,Zkg]
  ac_rfl
 | c::q,j+1,g=>by
  show dl (al _ _)=al (al _ _) (scl _ (al _ _));rw [dl_al,dl_x,Ycz q _ g,Ycz q j g,xl_al,xl_scl,Yin];rw [show scl (((j+1:Nat))+1) (Mq q _ g)=al (scl ((j)+1) (Mq q (j+1) g)) (Mq q (j+1) g) by simp [Yas,Zkg]]
  grind
theorem Zk2:∀q j f g,Gz 0 f (Mq q j g)=Gz 0 (Hq q j f) g
 | [],j,f,g=>Zsg 0 f
 | c::q,0,f,g=>by show Gz 0 f (al _ _)=Gz 0 (al _ _) g;rw [Znl,Znm,Zsf,Zhk,Ymb,Zk2 q 0 _ g]
 | c::q,j+1,f,g=>by show Gz 0 f (al _ _)=Gz 0 (al _ _) g;rw [Znl,Znm,Ymb,Zk2 q _ _ g,Zk2 q j f g]
def wfa:Nat->Nat->Int
 | j,0=>1
 | j,k+1=>((j:Int)+1)*wfa (j+1) k
theorem Zqg:∀k j,0<wfa j k
 | 0,j=>by show(0)<1;omega
 | k+1,j=>fH O5 (Zqg k _)
theorem Znk:∀(p q:List Int) (j:Nat) (f g:List Int) (K:Nat),p.length<=K->Gz 0 (Mq p 0 f) (Mq q j g)=Yo (λk=>wfa j k*Gz 0 (Hq q (j+k) f) (Hq p k g)) K
 | [],q,j,f,g,K,_=>by rw [Gl (λk h=>by show wfa j k*Gz 0 _ []=0;rw [Zsg,dX])];rfl
 | c::p,q,j,f,g,K,hK=>by
  obtain⟨e,rfl⟩:∃e,K=e+1:=⟨K-1,O4⟩;have l:p.length<=e:=O4;have n:=Znk p q j f (dl g) (e+1) O;have B:=Znk p q (j+1) f g e l;show Gz 0 (al _ _) _=_;rw [Znm,Zhk,fip_x,Ycz,Znl,Zsf,n,Zk2];rw [Ms,Ms _];have o:Gz 0 (Hq q (j+0) f) (Hq (c::p) 0 g)=c*Gz 0 (Hq q j f) g+Gz 0 (Hq q j f) (Hq p 0 (dl g)):=by show Gz 0 (Hq q j f) (al _ _)=_;rw [Znl,Zsf]
  have w:Yo (λk=>wfa j (k+1)*Gz 0 (Hq q (j+(k+1)) f) (Hq (c::p) (k+1) g)) e=Yo (λk=>wfa j (k+1)*Gz 0 (Hq q (j+(k+1)) f) (Hq p (k+1) (dl g))) e+((j)+1)*Yo (λk=>wfa (j+1) k*Gz 0 (Hq q (j+1+k) f) (Hq p k g)) e:=by rw [<-Mh,<-Fy];refine Xl λk h=>?_;show _*Gz 0 _ (al _ _)=_;rw [Znl];show((j)+1)*wfa _ k*_=((j)+1)*wfa _ k*_+_;grind
  show _=(1)*_+_;show _*_+((1)*_+_+_)=_;grind
theorem Zqo(a:Int):0<=a*a:=by
 rcases Int.le_total 0 a with h|h
 .exact cP h h
 .have:=cP (show 0<=-a by omega) (show 0<=-a by omega);grind
theorem Zi5:∀k,1<=fc k
 | 0=>O3
 | k+1=>by have h:=Zi5 k;show 1<=((k)+1)*fc k;have e:=iA (show(1:Int)<=(k)+1 by omega) h O3 O;omega
theorem Ymf(k:Nat)(f:List Int)(b:Int)(g:List Int):Gz k f (b::g)=fc k*(cf f 0*b)+Gz (k+1) f.tail g:=by
 cases f with
 | nil=>show(0)=fc k*(0*b)+Gz _ [] g;rw [cJ,dX];rfl
 | cons a f=>rfl
theorem Ynx(f:List Int)(i:Nat):cf f.tail i=cf f (i+1):=by cases f<;>rfl
theorem Zsi:∀k (f e g:List Int),(∀i,cf f i=cf e i)->Gz k f g=Gz k e g
 | k,f,e,[],h=>by grind [Zsg]
 | k,f,e,b::g,h=>by rw [Ymf,Ymf,h 0,Zsi _ _ e.tail g λi=>by rw [Ynx,Ynx,h]]
theorem Zsh:∀k f,0<=Gz k f f
 | k,[]=>eQ _
 | k,a::f=>by show 0<=fc k*(a*a)+Gz _ f f;have e:=Zsh (k+1) f;have g:=cP (show 0<=fc k by have:=Zi5 k;omega) (Zqo a);omega
theorem Ymd:∀k f i,cf f i*cf f i<=Gz k f f
 | k,[],i=>by exact eQ _
 | k,a::f,0=>by show a*a<=fc k*(a*a)+Gz _ f f;have e:=Zsh (k+1) f;have g:=dM (Zi5 k) (Zqo a);omega
 | k,a::f,i+1=>by show cf f i*cf f i<=fc k*(a*a)+Gz _ f f;have e:=Ymd (k+1) f i;have g:=cP (show 0<=fc k by have:=Zi5 k;omega) (Zqo a);omega
def fcs:Nat->Nat->Int
 | k,0=>0
 | k,n+1=>fc k+fcs (k+1) n
theorem Ymj:∀n k,0<=fcs k n
 | 0,k=>eQ _
 | n+1,k=>by have h:=Ymj n (k+1);have:=Zi5 k;show 0<=fc k+fcs _ n;omega
theorem Ymc:∀n k (f:List Int) (A:Int),f.length<=n->(∀x∈f,x*x<=A)->0<=A->Gz k f f<=fcs k n*A
 | n,k,[],A,_,_,e=>cP (Ymj n k) e
 | 0,k,a::f,A,h,_,_=>O4
 | n+1,k,a::f,A,h,hx,e=>by have j:=Ymc n (k+1) f A (by simpa using h) (λx g=>hx x (bT _ g)) e;have l:=fT (hx a (cC ..)) (show 0<=fc k by have:=Zi5 k;omega);show fc k*(a*a)+Gz _ f f<=(fc k+fcs _ n)*A;rw [mQ];omega
theorem Zz3:∀p k f,p.length<=k->Hq p k f=[]
 | [],k,f,_=>by all_goals rfl
 | c::p,0,f,h=>O4
 | c::p,k+1,f,h=>by
  show al _ _=[];have e:=by simpa using h
  rw [Zz3 p _ _ O,Zz3 p k _ e];rfl
theorem Yov:∀p k f,p.length=k+1->Hq p k f=scl (cf p k) f
 | [],k,f,h=>O4
 | [c],0,f,h=>Yol _
 | c::d::p,0,f,h=>O4
 | c::p,k+1,f,h=>by
  have e:=by simpa using h
  show al _ _=scl _ f;rw [Zz3 p _ _ O,Yov p k f e];rfl
theorem Yn1:∀f g i,cf (al f g) i=cf f i+cf g i
 | [],g,i=>by rw [Yt (p:=[]) O5,kH];rfl
 | a::f,[],i=>by rw [Yt (p:=[]) O5,gC];rfl
 | a::f,b::g,0=>rfl
 | a::f,b::g,i+1=>Yn1 f g i
def Ynz(c:Int)(f:List Int)(i:Nat):cf (scl c f) i=c*cf f i:=Zf2 f _ (dX c) i
theorem cf_xl0(f:List Int):cf (xl f) 0=0:=by cases f<;>rfl
theorem cf_xl(f:List Int)(i:Nat):cf (xl f) (i+1)=cf f i:=by cases f<;>rfl
theorem cf_Mq:∀p f i,cf (Mq p 0 f) i=(ps p*ps f).c i
 | [],f,i=>by rw [PS.mul_c,Gl (λk _=>by simp [Nu,Yt,cJ])];rfl
 | c::p,f,0=>by show cf (al _ _) 0=_;rw [Yn1,Ynz,cf_xl0,PS.mul_c,Ms,gC];exact(gC _).symm
 | c::p,f,i+1=>by show cf (al _ _) _=_;rw [Yn1,Ynz,cf_xl,cf_Mq p f i,PS.mul_c,PS.mul_c,Ms _ (i+1)];refine aD _ (Xl λk e=>?_);show cf p k*cf f _=cf p k*cf f _;simp
theorem Yf7{s:List Int}{n L e:Nat}(hu:Tr u)(B:Tr v)(hs:Sz n s)(G:s≠[])(V:s.length<=L)(Q:fcs 0 L<=2^e*2^e)(h:s=Pf u v):Sz (n+e) u:=by
 have a0:v≠[]:=λe=>G (by grind [Zca]);obtain⟨m,Z⟩:∃m,v.length=m+1:=⟨v.length-1,by grind [List.length_pos_iff]⟩;have w:cf v m≠0:=by
  rcases B with B|B
  all_goals grind
 have l:∀i,cf (Mq v 0 u) i=cf s i:=λi=>by rw [cf_Mq,h,Dz,Gw]
 have g:=Znk v v 0 u u (m+1) O;rw [Zsi 0 _ s _ l,Zdg,Zsi 0 _ s _ l,Ys,cD,Yov v m u Z,Zhk,Zsf]at g;have j:∀t,0<=Yo (λk=>wfa 0 k*Gz 0 (Hq v (0+k) u) (Hq v k u)) t:=λt=>by
  induction t with
  | zero=>exact eQ _
  | succ t ih=>
   rw [Ys,cD];have:=cP (show 0<=wfa 0 t by have:=Zqg t 0;omega) (Zsh 0 (Hq v t u));omega
 have hr:=j m;have P:1<=cf v m*cf v m:=by have h1:=Zqo (cf v m);grind [Int.mul_eq_zero]
 have R:=Zsh 0 u;have h3:Gz 0 u u<=cf v m*(cf v m*Gz 0 u u):=by have:=dM P R;grind
 have h4:=by have:=dM (show 1<=wfa 0 m from Zqg m 0) (show 0<=cf v m*(cf v m*Gz 0 u u) by omega);omega
 intro i;rw [Qo];have h5:=Ymd 0 u i;have M:∀x∈s,x*x<=(2^n-1)*(2^n-1):=λx hx=>by
  have hb:x.natAbs<2^n:=(Qo n _).1 (hs.mem hx);have N:((2^n:Nat):Int)=2^n:=by rfl
  have p1:x<=2^n-1:=O;have p2:-(2^n-1)<=x:=O;generalize (2:Int)^n-1=y at *;have:=cP (show 0<=y-x by omega) (show 0<=y+x by omega);grind
 have hp:(1:Int)<=2^n:=by exact_mod_cast bZ (n:=n) (show 0<2 by omega)
 have F:(1:Int)<=2^e:=by exact_mod_cast bZ (n:=e) (show 0<2 by omega)
 have h6:=Ymc L 0 s _ V M (cP O O);have h7:=by have:=dM Q (show(0:Int)<=(2^n-1)*(2^n-1)from cP O O);omega
 rcases bA (cf u i).natAbs (2^(n+e))with W|S
 .omega
 .exfalso;have D:(2^n*2^e:Int)<=((cf u i).natAbs:Int):=O4;have I:((cf u i).natAbs:Int)*((cf u i).natAbs:Int)=cf u i*cf u i:=Int.natAbs_mul_self;have o:=iA D D (cP O O) O5;rw [I]at o;generalize (2:Int)^n=X at *;generalize (2:Int)^e=Y at *;have H:(Y*Y)*((X-1)*(X-1))<(Y*Y)*(X*X):=by have hy:=iA F F O O;refine Int.mul_lt_mul_of_pos_left ?_ O;grind
  grind
def Fw (L:Nat)(R:Nat){s:List Int}{n e:Nat}(o:Tr u)(w:Tr v)(hs:Sz n s)(g:s≠[])(l:Tr s)(k:s.length<=L)(B:2*L<=R+2)(j:fcs 0 L<=2^e*2^e)(h:s=Pf u v):Sz (n+e) u:=Yf7 o w hs g k j h
theorem Ykv{e g:Nat}(k:e<=13)(n:g+1=e)(j:K<=600):Zvk e g K:=λl o=>by have h:∀l,l<=12->(l+1)*(600*(27-2*l)+1)<=65536:=O3;refine aB (aZ _ (Nat.succ_le_succ (aQ j O))) (h l O)
theorem chH{n:Nat}(F:Nat)(w:Tr xs)(B:xs≠[])(hs:Sz n xs)(hn:n<=350)(hl:xs.length<=13)(hb:(xs.length+2)*(xs.length+2)*(n+13)<=65536)(hF:xs.length<=F+1) :
  Za5 F xs/\Sz (n+15) (sqf F xs)/\(sqf F xs).length<=xs.length/\∀p∈chn F xs,Xx p<=(n+26)*25/\p.length<=xs.length:=by
 have e:=Zql hs;have a0:=Pt w;have k:Tr (Xg xs):=Ng (Yw w);have S:=Fe e O;have Z:=Of (Xg xs);have l:Tr (Xh (Xg xs)):=Np k;have m1:=Qu e;have m2:=Qu S;have l0:=aI.2 B;have G:gA (Xg xs) (Xh (Xg xs))=Yf (Xg xs):=aJ O;have H:gB (Xg xs) (Xh (Xg xs))=Yf (Xh (Xg xs)):=aJ O;have j:eok F (gA (Xg xs) (Xh (Xg xs))) (gB (Xg xs) (Xh (Xg xs))):=by
  rw [G,H];refine(Yct 5 (n+11) (n:=n+5) (by grind [Yi]) (Yw k) (Yw l) (Hz (e.mono O5)) (Hz S) ?_ O ?_ ?_ ?_).1
  all_goals grind [Yi,Ykv,Nat.le_trans,Nat.mul_le_mul]
 obtain⟨f1,f2,f3,f4,f5,f6⟩:=Ox F w B j;have D:=Zd4 F k l;have g:=Ziv w B;have Q:fcs 0 13<=2^15*2^15:=O3;have o:=Fw 13 24 f2 D e g k O O Q f4;have I:=Fw 13 24 D f2 e g k O O Q (by grind [Dz]);have M:=Oz f2 D f3 f5;rw [<-f4]at M;have lg:=aI.2 f5;have lq:=aI.2 f3;have mg:=Qu I;have P:(sqf F xs).length<=xs.length:=O;have N:=Fe o O;have V:=Of (sqf F xs);have R:=Ys5 (a:=sqf F xs) (b:=Yf (Xh (sqf F xs))) (n:=n+15+5) (s:=5) (K:=n+26) (f:=F) (by grind [Yi]) f2 (Yw (Np f2)) (o.mono O5) (Hz N) (by grind [Yi]) O (by grind [Yi,Ykv]) (Nat.le_trans (Nat.mul_le_mul (show(sqf F xs).length+1<=14 by omega) (show n+15+5+1<=500 by omega)) O5) (by grind [Yi]);refine⟨⟨⟨λi _=>aB (Zzd e O i) O,?_,j,?_,f1⟩,λi _=>aB (Zzd o O i) O,R.1⟩,o,P,λp hp=>?_⟩
 .intro h;have h3:(max (Xg xs).length (Xh (Xg xs)).length+2)*(max (Xg xs).length (Xh (Xg xs)).length+2)*(max (Xx (Xg xs)) (Xx (Xh (Xg xs)))+8)<=(xs.length+2)*(xs.length+2)*(n+13):=aQ (aQ O O) O;have:=h.2.2;omega
 .unfold Bx;rw [aJ O];split
  .rfl
  .have:((Xg xs).length-(Nv F (Xg xs) (Xh (Xg xs))).length+1)*(Xx (Nv F (Xg xs) (Xh (Xg xs)))+1)<=14*500:=aQ O O;omega
 .obtain⟨W,a2⟩:=R.2 p hp;refine⟨aB W (aZ _ ?_),O⟩;grind [Yi]
theorem chG{n:Nat}(F:Nat)(j:Tr xs)(e:xs≠[])(hs:Sz n xs)(h:n<=350)(k:xs.length<=11)(g:xs.length<=F+1) :
  Za5 F xs/\Sz (n+15) (sqf F xs)/\(sqf F xs).length<=xs.length/\∀p∈chn F xs,Xx p<=(n+26)*25/\p.length<=xs.length:=
 chH F j e hs h O (aB (aQ (aQ (show _<=13 by omega) (show _<=13 by omega)) (show _<=363 by omega)) O) g
end Go.Sky

