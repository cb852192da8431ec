/- Rules, arithmetic and contracts: part 5. No conditions but those that each theorem names. -/
import Derived.Test.YteikicbnfbgpnaaGreatEa203
set_option linter.all false
namespace Go.Sky
variable{c k Y:Int}{y x d p q a u b xs:List Int}{m i:Nat}{s η ε t δ:Rat}{f:Rat->Rat}{z:List (SL×List (Int×SL))}{fs r:List (Rat->Rat)}{ls:List (List Int)}
def Zeh : c.sign<0↔c<0:=sign_neg_iff c
abbrev RWL:=List (Bool×ByteArray)
def smallR(r:RWL):Bool:=decide (r.length<=8) && r.all λc=>decide (c.2.size<=6)
noncomputable def dec (r:RWL):List Int:=if h:okP r=true then(okP_ex h).choose else []
noncomputable def bdE (r:RWL):Int:=if okP r=true then Yar (dec r)else 2
noncomputable def bdZ (r:RWL):Int:=if bdE r=0 then sbound (dec r)else 0
theorem Yj4{n:Nat}(g:y.length=n)(e:c=cf y (n-1))(h:c.sign<0):Ev y=-c:=by subst g;unfold Ev;rw [<-e,aM (Zeh.1 h)]
theorem Yj3{n:Nat}(j:y.length=n)(g:c=cf y (n-1))(h:¬c.sign<0):Ev y=c:=by subst j;unfold Ev;rw [<-g,aK (λe=>h (Zeh.2 e))]
theorem rb_n{d:Int}{n:Nat}(l:y.length=n)(j:x.length=m)(e:c=cf y (n-1))(g:d=cf x (m-1))(h:c.sign<0):rb x y=-d:=by subst l j;unfold rb;rw [<-e,aM (Zeh.1 h),g]
theorem rb_p{d:Int}{n:Nat}(o:y.length=n)(l:x.length=m)(g:c=cf y (n-1))(j:d=cf x (m-1))(h:¬c.sign<0):rb x y=d:=by subst o l;unfold rb;rw [<-g,aK (λe=>h (Zeh.2 e)),j]
theorem Ye0(y:List Int):bl (Ev y).natAbs<=Qc y:=by
 have:=Pd y (y.length-1);unfold Ev;split
 .rwa [dL]
 .exact this
theorem bl_rb(x y:List Int):bl (rb x y).natAbs<=Qc x:=by
 have:=Pd x (x.length-1);unfold rb;split
 .rwa [dL]
 .exact this
theorem Zce{n:Nat}(e:Sz n p)(j:bl c.natAbs<=m):Sz (n+m) (Zt p c):=λi=>by rw [Yo];have g:=Zy (cf p i) c;have h:=e i;omega
theorem Yib{n:Nat}(e:Sz n p)(g:Sz n q):Sz (n+1) (Ek p q):=λi=>by rw [Im];have h:=Cn (cf p i) (cf q i);have j:=e i;have l:=g i;omega
theorem sz_shm'{s:Nat} : Sz (Qc x+Qc y) (shm y (rb x y) s i):=Zqz λt=>by have e:=Zy (rb x y) (cf y t);have g:=bl_rb x y;have h:=Pd y t;omega
theorem Zp1(x y:List Int):Qc (Ds x y)<=Qc x+Qc y+1:=by refine Qy ?_;unfold Ds;exact Yib (Zce (Pd x) (Ye0 y)) sz_shm'
theorem Yf4{f S:Nat}(h:0<y.length)(e:y.length<=x.length)(v:x.length<y.length+f)(n:Tr x)(l:Qc x+f*(Qc y+1)<=S) :
  ∃g,f=g+1/\Fa f x y=Fa g (Ds x y) y/\(Ds x y).length<y.length+g/\Tr (Ds x y)/\Qc (Ds x y)+g*(Qc y+1)<=S/\(Ds x y).length<x.length:=by
 obtain⟨g,rfl⟩:∃g,f=g+1:=⟨f-1,O1⟩;have j:=Zho n h e;have o:=Zp1 x y;refine⟨g,rfl,?_,O1,Zaj _ _,?_,j⟩
 .rw [Fa,aK O1]
 .rw [dG]at l;omega
theorem Yjo{f:Nat}(h:x.length<y.length):Fa f x y=x:=by
 cases f with
 | zero=>rfl
 | succ f=>rw [Fa,aM h]
theorem Zwh(y:List Int):∀(f:Nat) (x:List Int),Qc (Fa f x y)<=Qc x+f*(Qc y+1)
 | 0,x=>by rw [Fa];omega
 | f+1,x=>by
  rw [Fa];split
  .omega
  .have e:=Zwh y f (Ds x y);have g:=Zp1 x y;rw [dG];omega
def firstE(r:RWL)(x y e g:Int):Int:=if okP r=true then(if r.length=0\/0<x*g-e*y then 3 else 0)else 2
theorem Ygx{L:List (List Int)}(h:Bo z=L):z.length=L.length:=by rw [<-h];simp
theorem Ztu{n l x:Int}(e:-1<=l)(g:l<=1)(h:-1<=x)(j:x<=1):Nk (n,l) x=(if x*l<0 then n+1 else n,if x≠0 then x else l):=by
 obtain rfl|rfl|rfl:l=-1\/l=0\/l=1:=O1
 all_goals obtain rfl|rfl|rfl:x=-1\/x=0\/x=1:=O1
 all_goals simp [Nk]
theorem Yce{n l x:Int}(e:-1<=l)(g:l<=1)(h:-1<=x)(j:x<=1)(o:x*l<0)(v:x≠0):Nk (n,l) x=(n+1,x):=by rw [Ztu e g h j,aM o,aM v]
theorem Ycd{n l x:Int}(e:-1<=l)(g:l<=1)(h:-1<=x)(j:x<=1)(o:x*l<0)(v:¬x≠0):Nk (n,l) x=(n+1,l):=by rw [Ztu e g h j,aM o,aK v]
theorem Ycc{n l x:Int}(e:-1<=l)(g:l<=1)(h:-1<=x)(j:x<=1)(o:¬x*l<0)(v:x≠0):Nk (n,l) x=(n,x):=by rw [Ztu e g h j,aK o,aM v]
theorem Ycb{n l x:Int}(e:-1<=l)(g:l<=1)(h:-1<=x)(j:x<=1)(o:¬x*l<0)(v:¬x≠0):Nk (n,l) x=(n,l):=by rw [Ztu e g h j,aK o,aK v]
theorem Zee (l:List Int)(i:Nat){n m:Int}(hi:i<l.length)(h:(n,m)=(l.take i).foldl Nk (0,0)):(l.take (i+1)).foldl Nk (0,0)=Nk (n,m) (l.getD i 0):=by rw [Ps 0 l i hi,Zct,h]
theorem mul_r{x m:Int}(h:-1<=x)(j:x<=1)(e:-1<=m)(g:m<=1):-9223372036854775808<=x*m/\x*m<=9223372036854775807:=by
 obtain rfl|rfl|rfl:m=-1\/m=0\/m=1:=O1
 all_goals obtain rfl|rfl|rfl:x=-1\/x=0\/x=1:=O1
 all_goals decide
def ev_b{x y:Int}(hs:Sz 1000000 p)(e:p.length<=30)(g:bl x.natAbs<=1000000)(h:bl y.natAbs<=1000000):bl (pev p x y).natAbs<=100000010:=
 Zib (λt _=>Ym8 hs (λk=>Fh g k) (λk=>Fh h k) e t) O1
theorem Ygw{L:List (List Int)}(h:Bo z=L)(f:List Int->Int)(hi:i<z.length):(L.map f).getD i 0=f (Zb (z.getD i T0).2):=by subst h;simp only [aL,iJ,aO hi];rfl
def chke:Nat->Nat->Nat->Nat->Nat->Bool
 | 0,e,_,A,_=>Nat.ble (A+e*64) 65500
 | f+1,e,g,A,B=>Nat.ble (A+e*64) 65500 && (Nat.beq g 0 || (List.range g).all λl=>chke f g l B (bif Nat.ble l 1 then 2 else A+(e-g+1)*B))
inductive SV:List Int->List Int->Prop
 | one (a:Int):SV [a] [a]
 | step (a:Int) (r t:List Int):SV r t->SV (a::r) (a::t)
 | skip (a u w:Int) (r t:List Int):(a=1\/a=-1)->(-1<=u/\u<=1)->(-1<=w/\w<=1)->SV (-a::r) (-a::t)->SV (a::u::-a::r) (a::w::-a::t)
theorem Zqi{s:Int×Int}{a u:Int}(g:a=1\/a=-1)(h:-1<=u/\u<=1):Nk (Nk (Nk s a) u) (-a)=Nk (Nk s a) (-a):=by obtain⟨n,l⟩:=s;have e:u=-1\/u=0\/u=1:=O1;rcases g with rfl|rfl<;>rcases e with rfl|rfl|rfl<;>simp [Nk]
theorem SV.fold(h:SV a b):∀s,a.foldl Nk s=b.foldl Nk s:=by
 induction h with
 | one a=>intro s;rfl
 | step a r t _ e=>intro s;exact e (Nk s a)
 | skip a u w r t g j l _ e=>
  intro s;show(r.foldl Nk (Nk (Nk (Nk s a) u) (-a)))=(t.foldl Nk (Nk (Nk (Nk s a) w) (-a)));rw [Zqi g j,Zqi g l];exact e (Nk s a)
def SV.chg(h:SV a b):chg a=chg b:=aD Prod.fst (h.fold (0,0))
def Er(x:Rat):Int:=if x<0 then -1 else if x=0 then 0 else 1
theorem Yjm{x:Rat}:-1<=Er x/\Er x<=1:=by unfold Er;split;decide;split<;>decide
theorem Zal{x:Rat}(h:0<x):Er x=1:=by unfold Er;rw [aK O5,aK O5]
theorem Zam{x:Rat}(h:x<0):Er x=-1:=by unfold Er;rw [aM h]
def Big(η x:Rat)(f:Rat->Rat):Prop:=η<f x\/f x < -η
def Tri(η x:Rat):(Rat->Rat)->List (Rat->Rat)->Prop
 | _,[]=>True
 | _,[g]=>Big η x g
 | f,g::k::r=>(Big η x g/\Tri η x g (k::r))\/(Big η x k/\f x*k x<0/\Tri η x k r)
def Near(η x y:Rat)(f:Rat->Rat):Prop:=f x-f y<=η/\f y-f x<=η
theorem Zt7{x y:Rat}(g:0<=η)(h:Big η x f)(e:Near η x y f):Er (f x)=Er (f y)/\(Er (f x)=1\/Er (f x)=-1):=by
 obtain⟨j,l⟩:=e;rcases h with h|h
 .rw [Zal O5,Zal O5];exact⟨rfl,.inl rfl⟩
 .rw [Zam O5,Zam O5];exact⟨rfl,.inr rfl⟩
theorem opp_sg{a b:Rat}(h:a*b<0):Er b=- Er a:=by
 rcases(show a<0\/a=0\/0<a by grind)with g|g|g
 .rw [Zam g,Zal (by
   rcases(show b<=0\/0<b by grind)with e|e
   .have:=aE (a:=-a) (b:=-b) O5 O5;grind
   .exact e)];rfl
 .subst g;grind
 .rw [Zal g,Zam (by
   rcases(show 0<=b\/b<0 by grind)with e|e
   .have:=aE (a:=a) (b:=b) O5 e;grind
   .exact e)]
theorem Zqt{η x y:Rat}(o:0<=η):∀(n:Nat) (f:Rat->Rat) (fs:List (Rat->Rat)),fs.length<=n->Big η x f->(∀g∈f::fs,Near η x y g)->Tri η x f fs->
  SV ((f::fs).map λg=>Er (g x)) ((f::fs).map λg=>Er (g y))
 | _,f,[],_,D,e,_=>by have:=(Zt7 o D (e f (bR ..))).1;simp only [bZ,gV,this];exact SV.one _
 | 0,f,g::r,F,_,_,_=>absurd F O6
 | n+1,f,[g],F,D,e,v=>by have B:=(Zt7 o D (e f (bR ..))).1;have h:=Zqt o n g [] O6 v (λk w=>e k (bH _ w)) aA;rw [bZ,bZ,B];exact SV.step _ _ _ h
 | n+1,f,g::k::r,F,D,e,v=>by
  have B:=Zt7 o D (e f (bR ..));rcases v with⟨I,v⟩|⟨w,N,v⟩
  .have h:=Zqt o n g (k::r) (by simp at F ⊢;omega) I (λk w=>e k (bH _ w)) v;rw [bZ (l:=g::k::r),bZ (l:=g::k::r),B.1];exact SV.step _ _ _ h
  .have h:=Zqt o n k r (by simp at F ⊢;omega) w (λj M=>e j (bH _ (bH _ M))) v;have G:=(Zt7 o w (e k O6)).1;have H:=opp_sg N;rw [bZ (l:=r),bZ (l:=r)]at h;simp only [bZ];rw [<-G]at h ⊢;rw [H]at h ⊢;rw [<-B.1];exact SV.skip _ _ _ _ _ B.2 Yjm Yjm h
structure Lnk (η x:Rat) (f g k:Rat->Rat):Prop where
 big:¬Big η x g->Big η x k
 opp:¬Big η x g->f x*k x<0
def Lnks(η x:Rat):(Rat->Rat)->List (Rat->Rat)->Prop
 | _,[]=>True
 | _,[g]=>Big η x g
 | f,g::k::r=>Lnk η x f g k/\Lnks η x g (k::r)
theorem Znc{η x:Rat} : ∀(n:Nat) (f:Rat->Rat) (fs:List (Rat->Rat)),fs.length<=n->Lnks η x f fs->Tri η x f fs
 | _,f,[],_,_=>trivial
 | 0,f,g::r,l,_=>absurd l O6
 | n+1,f,[g],_,h=>h
 | n+1,f,[g,k],l,h=>by
  by_cases e:Big η x g
  .exact .inl ⟨e,h.2⟩
  .exact .inr ⟨h.1.big e,h.1.opp e,aA⟩
 | n+1,f,g::k::j::r,l,h=>by
  by_cases e:Big η x g
  .exact .inl ⟨e,Znc n g (k::j::r) (by simp at l ⊢;omega) h.2⟩
  .exact .inr ⟨h.1.big e,h.1.opp e,Znc n k (j::r) (by simp at l ⊢;omega) h.2.2⟩
def Rl3(s t:Rat)(f g k:Rat->Rat):Prop:=∃m n Q:Rat,0<m/\0<n/\0<Q/\∀x,s<=x->x<=t->∃q,-Q<=q/\q<=Q/\m*f x=q*g x-n*k x
def Rl2(s t:Rat)(f g:Rat->Rat):Prop:=∃m Q:Rat,0<m/\0<Q/\∀x,s<=x->x<=t->∃q,-Q<=q/\q<=Q/\m*f x=q*g x
def Rls(s t:Rat):(Rat->Rat)->List (Rat->Rat)->Prop
 | _,[]=>True
 | f,[g]=>Rl2 s t f g
 | f,g::k::r=>Rl3 s t f g k/\Rls s t g (k::r)
theorem Zc0{q Q g e:Rat}(h:-Q<=q)(j:q<=Q)(l:-e<=g)(n:g<=e)(o:0<=Q):q*g<=Q*e/\-(Q*e)<=q*g:=by
 have a:=aE (a:=Q-q) (b:=e+g) O5 O5;have b:=aE (a:=Q+q) (b:=e-g) O5 O5;have c:=aE (a:=Q-q) (b:=e-g) O5 O5;have d:=aE (a:=Q+q) (b:=e+g) O5 O5
 all_goals grind
theorem Zeq{x:Rat}{g:Rat->Rat}(h:¬Big η x g):-η<=g x/\g x<=η:=by unfold Big at h;all_goals grind
theorem Ya2{x:Rat}{g:Rat->Rat}(h:η<=ε)(e:Big ε x g):Big η x g:=by unfold Big at *;grind
theorem Gj{a b:Rat}(h:0<ε)(g:0<a)(j:0<b):∃e:Rat,0<e/\e<=ε/\e*a<=b:=by have l:=aT j (fR.2 g);have n:b*a⁻¹*a=b:=O5;grind [Rat.mul_le_mul_of_nonneg_right]
theorem pair3{g k:Rat->Rat}(h:Rl3 s t f g k)(H:0<ε)(R:∀x,s<=x->x<=t->Big ε x f\/Big ε x g) :
  ∃e,0<e/\(∀x,s<=x->x<=t->Big e x g\/Big e x k)/\∀η,0<η->η<=e->∀x,s<=x->x<=t->Lnk η x f g k:=by
 obtain⟨m,n,Q,G,hn,hQ,S⟩:=h;obtain⟨e,M,e2,e3⟩:=Gj H (show 0<Q+n by grind) (Rat.mul_pos G H);have o:∀η,0<η->η<=e->∀x,s<=x->x<=t->¬Big η x g->Big η x k/\f x*k x<0:=λη B v x hs l j=>by
  obtain⟨q,V,W,q3⟩:=S x hs l;obtain⟨N,P⟩:=Zeq j;obtain⟨p1,p2⟩:=Zc0 V W N P O5;have F:Big ε x f:=(R x hs l).resolve_right λh=>j (Ya2 O5 h);have Z:η*(Q+n)<=m*ε:=by have:=dE v (show 0<=Q+n by grind);grind
  rcases F with F|F
  .have I:m*ε<m*f x:=by have:=aT G (show 0<f x-ε by grind);grind
   have w:k x < -η:=by
    rcases(show k x < -η\/-η<=k x by grind)with D|D
    .omega
    .have:=aE (a:=n) (b:=k x+η) O5 O5;grind
   refine⟨.inr w,?_⟩;have:=aT (a:=f x) (b:=- k x) O5 O5;grind
  .have I:m*f x < - (m*ε):=by have:=aT G (show 0 < -ε-f x by grind);grind
   have d2:n*η<n*k x:=O5;have w:η<k x:=by
    rcases(show η<k x\/k x<=η by grind)with D|D
    .omega
    .have:=aE (a:=n) (b:=η-k x) O5 O5;grind
   refine⟨.inl w,?_⟩;have:=aT (a:=- f x) (b:=k x) O5 O5;grind
 refine⟨e,M,λx hs l=>?_,λη B v x hs l=>⟨λj=>(o η B v x hs l j).1,λj=>(o η B v x hs l j).2⟩⟩;grind
theorem pair2{g:Rat->Rat}(h:Rl2 s t f g)(n:0<ε)(H:∀x,s<=x->x<=t->Big ε x f\/Big ε x g) :
  ∃e,0<e/\∀η,0<η->η<=e->∀x,s<=x->x<=t->Big η x g:=by
 obtain⟨m,Q,l,G,I⟩:=h;obtain⟨e,w,R,S⟩:=Gj n G (aT l n);refine⟨e,w,λη V F x hs v=>?_⟩;by_cases o:Big η x g
 .omega
 .obtain⟨q,M,N,q3⟩:=I x hs v;obtain⟨B,D⟩:=Zeq o;obtain⟨W,Z⟩:=Zc0 M N B D O5;have j:=(H x hs v).resolve_right λh=>o (Ya2 O5 h);have P:η*Q<=m*ε:=by have:=dE F (show 0<=Q by grind);grind
  rcases j with j|j
  .have:=aT l (show 0<f x-ε by grind);grind
  .have:=aT l (show 0 < -ε-f x by grind);grind
theorem Zwj{s t:Rat} : ∀(n:Nat) (f:Rat->Rat) (fs:List (Rat->Rat)) (ε:Rat),fs.length<=n->Rls s t f fs->0<ε->(∀g r,fs=g::r->∀x,s<=x->x<=t->Big ε x f\/Big ε x g)->
  ∃e,0<e/\∀η,0<η->η<=e->∀x,s<=x->x<=t->Lnks η x f fs
 | _,f,[],ε,_,_,o,_=>⟨ε,o,λ_ _ _ _ _ _=>trivial⟩
 | 0,f,g::r,ε,hl,_,_,_=>absurd hl O6
 | n+1,f,[g],ε,_,h,o,G=>pair2 h o (G g [] rfl)
 | n+1,f,g::k::r,ε,hl,h,o,G=>by
  obtain⟨e,H,M,I⟩:=pair3 h.1 o (G g _ rfl);obtain⟨B,D,l⟩:=Zwj n g _ e (by simp at hl ⊢;omega) h.2 H (λP Q F=>by injection F with j w;subst j;exact M)
  rcases(show e<=B\/B<=e by grind)with N|N
  .exact⟨e,H,λη j w x hs v=>⟨I η j w x hs v,l η j O5 x hs v⟩⟩
  .exact⟨B,D,λη j w x hs v=>⟨I η j O5 x hs v,l η j w x hs v⟩⟩
def Lip(s t L:Rat)(f:Rat->Rat):Prop:=∀x y,s<=x->x<=y->y<=t->f x-f y<=L*(y-x)/\f y-f x<=L*(y-x)
def vat(fs:List (Rat->Rat))(x:Rat):Int:=chg (fs.map λg=>Er (g x))
theorem Yp6{L:Rat}(F:0<L)(I:∀g∈f::fs,Lip s t L g)(v:0<δ)(o:∀x,s<=x->x<=t->Big δ x f)(M:Rls s t f fs) :
  ∃h,0<h/\∀x y,s<=x->x<=y->y<=t->y-x<=h->vat (f::fs) x=vat (f::fs) y:=by
 obtain⟨e,w,B⟩:=Zwj _ f fs δ (aF _) M v (λg r _ x hs N=> .inl (o x hs N));obtain⟨η,n,S,V⟩:=Gj v (show(0)<1 by rfl) w;obtain⟨h,D,Q,R⟩:=Gj n F n;refine⟨h,D,λx y j l P H=>SV.chg ?_⟩;refine Zqt O5 _ f fs (aF _) (Ya2 O5 (o x j O5)) (λg G=>?_) (Znc _ _ _ (aF _) (B η n O5 x j O5));obtain⟨a,b⟩:=I g G x y j l P;have:=dE H (show 0<=L by grind);exact⟨O5,O5⟩
theorem Yfj{L:Rat}(M:0<L)(Q:∀g∈f::fs,Lip s t L g)(P:0<δ)(N:∀x,s<=x->x<=t->Big δ x f)(S:Rls s t f fs)(w:s<=t) :
  vat (f::fs) s=vat (f::fs) t:=by
 obtain⟨h,H,D⟩:=Yp6 M Q P N S;have B:∀n:Nat,∀y,s<=y->y<=t->y-s<=(n:Rat)*h->vat (f::fs) s=vat (f::fs) y:=λn=>by
  induction n with
  | zero=>
    intro y e j l;have:y=s:=by simp at l;grind
    rw [this]
  | succ n G=>
   intro y e j l;have F:((n+1:Nat):Rat)*h=(n:Rat)*h+h:=by push_cast;grind
   rcases(show y-s<=(n:Rat)*h\/(n:Rat)*h<y-s by grind)with o|o
   .exact G y e j o
   .have I:(0:Rat)<=(n:Rat)*h:=aE (by exact_mod_cast bE n) O5;rcases(show s<=y-h\/y-h<s by grind)with v|v
    .rw [G (y-h) v O5 O5];exact D (y-h) y v O5 j O5
    .exact D s y O5 e j O5
 have e:∃n:Nat,t-s<=(n:Rat)*h:=by
  have j:0<h⁻¹:=fR.2 H;refine⟨((t-s)*h⁻¹).ceil.toNat,?_⟩;have l:=@nB ((t-s)*h⁻¹);have F:((((t-s)*h⁻¹).ceil:Int):Rat)<=((((t-s)*h⁻¹).ceil.toNat:Nat):Rat):=by have:((t-s)*h⁻¹).ceil<=((((t-s)*h⁻¹).ceil.toNat:Nat):Int):=kP _;exact_mod_cast this
  have o:=dE (eD l F) (show 0<=h by grind);have I:(t-s)*h⁻¹*h=t-s:=O5;grind
 obtain⟨n,R⟩:=e;exact B n t w O5 R
def Zi:List Int->Rat->Rat
 | [],_=>0
 | c::p,x=>(c:Rat)+x*Zi p x
theorem Ysp(s t:Rat):∃K:Rat,0<K/\∀x,s<=x->x<=t->-K<=x/\x<=K:=by
 rcases(show(0<=s\/s<0) by grind)with h|h<;>rcases(show(0<=t\/t<0) by grind)with e|e
 .exact⟨t+1,O5,λx _ _=>O5⟩
 .exact⟨1,O5,λx _ _=>O5⟩
 .exact⟨t-s+1,O5,λx _ _=>O5⟩
 .exact⟨-s+1,O5,λx _ _=>O5⟩
theorem Zvo(s t:Rat):∀p:List Int,∃B:Rat,0<B/\∀x,s<=x->x<=t->-B<=Zi p x/\Zi p x<=B
 | []=>⟨1,O4,λx _ _=>by unfold Zi;grind⟩
 | c::p=>by obtain⟨B,g,h⟩:=Zvo s t p;obtain⟨K,w,D⟩:=Ysp s t;obtain⟨C,F,j⟩:=Ysp (c:Rat) (c:Rat);have G:=j (c:Rat) O5 O5;refine⟨C+K*B,by have:=aT w g;grind,λx hs e=>?_⟩;obtain⟨l,n⟩:=h x hs e;obtain⟨o,v⟩:=D x hs e;obtain⟨f1,f2⟩:=Zc0 o v l n O5;unfold Zi;constructor<;>grind
theorem Bs(s t:Rat):∀p:List Int,∃L:Rat,0<L/\Lip s t L (Zi p)
 | []=>⟨1,O4,λx y _ _ _=>by unfold Zi;constructor<;>grind⟩
 | c::p=>by obtain⟨L,D,F⟩:=Bs s t p;obtain⟨B,I,l⟩:=Zvo s t p;obtain⟨K,v,w⟩:=Ysp s t;refine⟨K*L+B,by have:=aT v D;grind,λx y hs h j=>?_⟩;obtain⟨G,H⟩:=F x y hs h j;obtain⟨M,N⟩:=l y O5 j;obtain⟨n,o⟩:=w x hs O5;obtain⟨f1,f2⟩:=Zc0 (q:=x) (g:=Zi p x-Zi p y) (e:=L*(y-x)) n o O5 O5 O5;have P:=aE (a:=B-Zi p y) (b:=y-x) O5 O5;have Q:=aE (a:=B+Zi p y) (b:=y-x) O5 O5;unfold Zi;constructor<;>grind
theorem Zmn(x:Rat):∀q:List Int,(∀i,cf q i=0)->Zi q x=0
 | [],_=>rfl
 | c::q,h=>by have e:c=0:=h 0;have g:=Zmn x q λi=>h (i+1);unfold Zi;rw [g,e];grind
theorem Nb(x:Rat):∀p q:List Int,(∀i,cf p i=cf q i)->Zi p x=Zi q x
 | [],q,h=>by rw [Zmn x q λi=>(h i).symm.trans (Yr (bE _))];rfl
 | c::p,[],h=>by rw [Zmn x (c::p) λi=>(h i).trans (Yr (bE _))];rfl
 | c::p,d::q,h=>by have e:c=d:=h 0;have g:=Nb x p q λi=>h (i+1);unfold Zi;rw [g,e]
def Mw:List Int->List Int->List Int
 | [],q=>q
 | p,[]=>p
 | a::p,b::q=>(a+b)::Mw p q
theorem Zwx(p:List Int):Mw p []=p:=by cases p<;>rfl
theorem Xt(x:Rat):∀p q:List Int,Zi (Mw p q) x=Zi p x+Zi q x
 | [],q=>by unfold Mw;show Zi q x=0+Zi q x;grind
 | a::p,[]=>by rw [Zwx];show Zi (a::p) x=Zi (a::p) x+0;grind
 | a::p,b::q=>by have h:=Xt x p q;unfold Mw Zi;rw [h];push_cast;grind
theorem Lb:∀(p q:List Int) (i:Nat),cf (Mw p q) i=cf p i+cf q i
 | [],q,i=>by unfold Mw;rw [show cf [] i=0 from Yr (bE _)];omega
 | a::p,[],i=>by rw [Zwx,show cf [] i=0 from Yr (bE _)];omega
 | a::p,b::q,0=>rfl
 | a::p,b::q,i+1=>Lb p q i
theorem Zu(x:Rat)(c:Int):∀p:List Int,Zi (p.map λa=>c*a) x=(c:Rat)*Zi p x
 | []=>by show(0:Rat)=c*0;grind
 | a::p=>by have h:=Zu x c p;simp only [bZ];unfold Zi;rw [h];push_cast;grind
theorem Pk(c:Int):∀(p:List Int) (i:Nat),cf (p.map λa=>c*a) i=c*cf p i
 | [],i=>by simp [cf]
 | a::p,0=>rfl
 | a::p,i+1=>Pk c p i
def lmul:List Int->List Int->List Int
 | [],_=>[]
 | c::p,q=>Mw (q.map λa=>c*a) (0::lmul p q)
theorem Ym(x:Rat):∀p q:List Int,Zi (lmul p q) x=Zi p x*Zi q x
 | [],q=>by show(0:Rat)=0*Zi q x;grind
 | c::p,q=>by have h:=Ym x p q;unfold lmul;rw [Xt,Zu];show(c:Rat)*Zi q x+(((0:Int):Rat)+x*Zi (lmul p q) x)=((c:Rat)+x*Zi p x)*Zi q x;rw [h];grind
theorem Di:∀(p q:List Int) (i:Nat),cf (lmul p q) i=Yl (λk=>cf p k*cf q (i-k)) (i+1)
 | [],q,i=>by rw [show cf (lmul [] q) i=0 from Yr (bE _)];exact(Gl λk _=>by rw [show cf [] k=0 from Yr (bE _),cK]).symm
 | c::p,q,0=>by unfold lmul;rw [Lb,Pk,Yp,Fo];show c*cf q 0+0=0+c*cf q 0;omega
 | c::p,q,i+1=>by have h:=Di p q i;unfold lmul;rw [Lb,Pk,Ld];show c*cf q (i+1)+cf (lmul p q) i=c*cf q (i+1)+_;rw [h];congr 1;refine Xr λk e=>?_;show cf p k*cf q (i-k)=cf p k*cf q (i+1-(k+1));rw [show i+1-(k+1)=i-k by omega]
theorem Cj (a:Int)(c:Int)(x:List Int)(s:List Int)(y:List Int)(z:List Int)(h:∀t,a*cf x t=(ps s*ps y).c t-c*cf z t)(q:Rat):(a:Rat)*Zi x q=Zi s q*Zi y q-(c:Rat)*Zi z q:=by
 have e:∀t,cf (Mw (x.map λb=>a*b) (z.map λb=>c*b)) t=cf (lmul s y) t:=λt=>by rw [Lb,Pk,Pk,Di,h t,PS.mul_c];show Yl (λk=>cf s k*cf y (t-k)) (t+1)-c*cf z t+c*cf z t=_;omega
 have g:=Nb q _ _ e;rw [Xt,Zu,Zu,Ym]at g;grind
theorem Yf6(H:Tr x)(w:Tr y)(j:y≠[])(Q:y.length<=x.length):Rl3 s t (Zi x) (Zi y) (Zi (Le x y)):=by
 have V:=aH.2 j;obtain⟨r1,r2,k,u,P⟩:=Zci w j x.length x H O1;have hs:=Zef x.length H w j Q O1;have v:Tr (Zi5 (Fa x.length x y)):=Ql _ _;obtain⟨m,n,R,S,G⟩:=Zfv v;rw [hs]at G;have N:0<Ev y^k:=jD (Zg2 w j);obtain⟨B,I,D⟩:=Zvo s t u;have o:(0:Rat)<(m:Rat):=by exact_mod_cast R
 have e:(0:Rat)<(n:Rat):=by exact_mod_cast S
 have l:(0:Rat)<((Ev y^k:Int):Rat):=by exact_mod_cast N
 refine⟨(n:Rat)*((Ev y^k:Int):Rat),(m:Rat),(n:Rat)*B,aT e l,o,aT e I,λq g h=>⟨(n:Rat)*Zi u q,?_,?_,?_⟩⟩
 .have:=aE (a:=(n:Rat)) (b:=Zi u q+B) O5 (by have:=D q g h;grind);grind
 .have:=aE (a:=(n:Rat)) (b:=B-Zi u q) O5 (by have:=D q g h;grind);grind
 .have M:=Cj (Ev y^k) (-1) x u y (Fa x.length x y) (λt=>by rw [P t];omega) q;have F:Zi ((Le x y).map λb=>m*b) q=Zi ((Fa x.length x y).map λb=>(-n)*b) q:=Nb q _ _ λi=>by rw [Pk,Pk,G i,Za1,lT,Int.neg_mul]
  rw [Zu,Zu]at F;push_cast at M F ⊢;grind
theorem rl2_of{g:Rat->Rat}(h:Rl3 s t f g (Zi [])):Rl2 s t f g:=by obtain⟨m,n,Q,o,F,l,v⟩:=h;refine⟨m,Q,o,l,λx e j=>?_⟩;obtain⟨q,w,B,D⟩:=v x e j;refine⟨q,w,B,?_⟩;have:Zi [] x=0:=rfl;rw [this]at D;grind
theorem Zpm (s:Rat)(t:Rat) : ∀(f:Nat) (a b:List Int),Tr a->Tr b->cok f a b->∃r,Mg f a b=a::r/\Rls s t (Zi a) (r.map Zi)/\(b=[]->r=[])/\(b≠[]->∃w,r=b::w):=λf=>by
 induction f with
 | zero=>
  intro a b l n h;have e:b=[]:=h;subst e;exact⟨[],rfl,aA,λ_=>rfl,λh=>absurd rfl h⟩
 | succ f I=>
  intro a b l n h;by_cases e:b=[]
  .subst e;exact⟨[],Du _ _,aA,λ_=>rfl,λh=>absurd rfl h⟩
  .obtain⟨g,N,M,o,H,hs⟩:=Zh5 h e;obtain rfl:f=g:=O1;obtain⟨r,B,D,F,G⟩:=I b (Le a b) n (Zc9 l) H;have j:=Yf6 (s:=s) (t:=t) l n e o;refine⟨b::r,by rw [hs,B],?_,λh=>absurd h e,λ_=>⟨r,rfl⟩⟩;by_cases v:Le a b=[]
   .rw [F v];rw [v]at j;exact rl2_of j
   .obtain⟨w,rfl⟩:=G v;exact⟨j,D⟩
theorem Zwk{L M:Rat}(h:L<=M)(l:Lip s t L f):Lip s t M f:=λx y e g j=>by obtain⟨a,b⟩:=l x y e g j;have:=dE h (show 0<=y-x by grind);constructor<;>grind
theorem Yc8(s t:Rat):∀ls:List (List Int),∃L:Rat,0<L/\∀g∈ls.map Zi,Lip s t L g
 | []=>⟨1,O4,λg e=>by cases e⟩
 | p::ls=>by
  obtain⟨L,l,h⟩:=Yc8 s t ls;obtain⟨M,n,j⟩:=Bs s t p;refine⟨L+M,O5,λg e=>?_⟩;rw [bZ]at e;rcases aX.1 e with rfl|e
  .exact Zwk O5 j
  .exact Zwk O5 (h g e)
theorem Zgv{f:Nat}(n:Tr a)(o:Tr b)(v:cok f a b)(e:s<=t)(w:0<δ)(l:∀x,s<=x->x<=t->Big δ x (Zi a)) :
  vat ((Mg f a b).map Zi) s=vat ((Mg f a b).map Zi) t:=by
 obtain⟨r,h,j,_,_⟩:=Zpm s t f a b n o v;obtain⟨L,B,g⟩:=Yc8 s t (Mg f a b);rw [h]at g ⊢;exact Yfj B g w l j e
theorem Zvl(x:Rat)(l:Int):∀p:List Int,Zi (p ++ [l]) x=Zi p x+(l:Rat)*x^p.length
 | []=>by show(l:Rat)+x*0=0+l*x^0;rw [dO];grind
 | c::p=>by have h:=Zvl x l p;rw [iQ,eI,cZ];unfold Zi;rw [h];grind
def alt:List Int->List Int
 | []=>[]
 | c::p=>c::(alt p).map λa=>-1*a
theorem Yk4(c:Int)(p:List Int)(X Y:Int)(h:p≠[]):pev (c::p) X Y=c*Y^p.length+X*pev p X Y:=by
 have e:=aH.2 h;unfold pev;rw [eI,Ld,<-Mn];congr 1
 .show c*(X^0*Y^(p.length+1-1-0))=_;rw [dC,gQ,show p.length+1-1-0=p.length by omega]
 .refine Xr λi hi=>?_;show cf p i*(X^(i+1)*Y^(p.length+1-1-(i+1)))=X*(cf p i*(X^i*Y^(p.length-1-i)));rw [show p.length+1-1-(i+1)=p.length-1-i by omega,dD];grind
theorem Zrz{X Y:Int}(e:0<Y):∀p:List Int,((pev p X Y:Int):Rat)=Zi p ((X:Rat)/(Y:Rat))*(Y:Rat)^(p.length-1)
 | []=>by show(0:Rat)=0*_;grind
 | [c]=>by
  have:pev [c] X Y=c:=by unfold pev;show 0+c*(X^0*Y^0)=c;rw [dC,dC];omega
  rw [this];show(c:Rat)=(c+X/Y*0)*(Y:Rat)^0;rw [dO];grind
 | c::d::p=>by
  have h:=Zrz (X:=X) e (d::p);rw [Yk4 c (d::p) X Y O6];have g:(Y:Rat)≠0:=by
    have:(0:Rat)<(Y:Rat):=by exact_mod_cast e
    grind
  push_cast;rw [h];show(c:Rat)*(Y:Rat)^(p.length+1)+X*(Zi (d::p) (X/Y)*(Y:Rat)^(p.length+1-1))=((c:Rat)+X/Y*Zi (d::p) (X/Y))*(Y:Rat)^(p.length+1+1-1);rw [show p.length+1-1=p.length by omega,show p.length+1+1-1=p.length+1 by omega,cZ];generalize Zi (d::p) (X/Y)=R;generalize (Y:Rat)^p.length=P;have:(X:Rat)/Y*Y=X:=O5;grind
theorem Yiz{z:Int}{r q:Rat}(l:0<q)(h:(z:Rat)=r*q):z.sign=Er r:=by
 rcases(show r<0\/r=0\/0<r by grind)with e|e|e
 .rw [Zam e];have:=aT (a:=-r) (b:=q) O5 l;have g:(z:Rat)<0:=O5;have j:z<0:=by exact_mod_cast g
  exact iO j
 .subst e;have g:(z:Rat)=0:=O5;have j:z=0:=by exact_mod_cast g
  subst j;rfl
 .rw [Zal e];have:=aT e l;have g:(0:Rat)<z:=O5;have j:0<z:=by exact_mod_cast g
  exact jI j
theorem Zez{X:Int}(e:0<Y)(p:List Int):Ck X Y p=Er (Zi p ((X:Rat)/(Y:Rat))):=by
 have:(0:Rat)<(Y:Rat):=by exact_mod_cast e
 exact Yiz (Rat.pow_pos this) (Zrz e p)
theorem Yq2{F:Nat}(o:Tr xs)(l:xs≠[])(j:eok F (gA (Xj xs) (Xi (Xj xs))) (gB (Xj xs) (Xi (Xj xs)))):∃g:List Int,∀x,Zi xs x=Zi (sqf F xs) x*Zi g x:=by
 obtain⟨f1,f2,f3,f4,f5,f6⟩:=Ow F o l j;have h:∃k:Int,∀i,cf xs i=k*cf (Xj xs) i:=by
  unfold Xj Kd;split
  .refine⟨-Yv xs,λi=>?_⟩;rw [Yo,<-Gr xs i];grind
  .refine⟨Yv xs,λi=>?_⟩;rw [<-Gr xs i];grind
 obtain⟨k,h⟩:=h;refine⟨(Nq F (Xj xs) (Xi (Xj xs))).map λa=>k*a,λx=>?_⟩;have n:Zi (Xj xs) x=Zi (sqf F xs) x*Zi (Nq F (Xj xs) (Xi (Xj xs))) x:=by
  have:=Cj 1 0 (Xj xs) (sqf F xs) (Nq F (Xj xs) (Xi (Xj xs))) [] (λt=>by have e:=Gv (sqf F xs) (Nq F (Xj xs) (Xi (Xj xs))) t;rw [<-f4]at e;rw [e];omega) x
  push_cast at this;grind
 have e:Zi xs x=Zi ((Xj xs).map λa=>k*a) x:=Nb x _ _ λi=>by rw [Pk];exact h i
 rw [e,Zu,Zu,n];grind
theorem Ypq{x:Rat}{f:List Int->Int}(h:∀p∈ls,Er (Zi p x)=f p):vat (ls.map Zi) x=chg (ls.map f):=by unfold vat;rw [kW];exact aD chg (mC λp e=>h p e)
def Yti{F:Nat}{X:Int}(e:0<Y):cnt F xs X Y=vat ((chn F xs).map Zi) ((X:Rat)/(Y:Rat)):=
 (Ypq λp _=>(Zez e p).symm).symm
theorem Ydw(t:Int):∀p:List Int,Zi p (t:Rat)=((ev1 p t:Int):Rat)
 | []=>rfl
 | c::p=>by have h:=Ydw t p;rw [show Zi _ (t)=(c)+(t)*Zi p _ from rfl,show ev1 _ t=c+t*ev1 p t from rfl,h];push_cast;rfl
theorem Zrg(h:∀x:Rat,Zi p x=0)(i:Nat):cf p i=0:=by
 by_cases l:cf p i=0
 .omega
 .have:=Zvk _ p ((List.range p.length).map λn:Nat=>(n)) rfl ⟨i,l⟩ (by
   refine List.Pairwise.map _ (λa b g=>?_) List.nodup_range;intro e;exact g (by exact_mod_cast e)) (λt o=>by
   have j:=Ydw t p;rw [h]at j;exact_mod_cast j.symm)
  grind
theorem Nv(h:∀x:Rat,Zi p x=Zi q x)(i:Nat):cf p i=cf q i:=by have e:=Zrg (p:=Mw p (q.map λa=>(-1)*a)) (λx=>by grind [Xt,Zu]) i;rw [Lb,Pk]at e;omega
theorem Ll(p:List Int)(x:Rat):Zi (tzl p) x=Zi p x:=Nb x _ _ λi=>Ly p i
theorem Xb(p q:List Int)(x:Rat):Zi (Qx p q) x=Zi p x*Zi q x:=by rw [<-Ym];exact Nb x _ _ λi=>by rw [Gv,Di];rfl
theorem Oh(c:Int)(x:Rat):Zi [c] x=(c:Rat):=by show(c)+x*0=c;grind
def ld:List Int->List Int
 | []=>[]
 | _::p=>Mw p (0::ld p)
theorem Zg1(c:Int)(p:List Int)(x:Rat):Zi (ld (c::p)) x=Zi p x+x*Zi (ld p) x:=by rw [show ld _=Mw p _ from rfl,Xt];show Zi p x+(((0))+x*Zi _ x)=_;grind
theorem Zn9:∀(p:List Int) (i:Nat),cf (ld p) i=cf p (i+1)*((i:Int)+1)
 | [],i=>by rw [Zd3,show ld []=[]from rfl,Zd3,cK]
 | c::p,0=>by rw [show ld _=Mw p _ from rfl,Lb];show cf p 0+0=cf p 0*_;simp
 | c::p,i+1=>by have h:=Zn9 p i;rw [show ld _=Mw p _ from rfl,Lb];show cf p _+cf _ i=cf p _*_;grind
theorem Ik(p:List Int)(x:Rat):Zi (Xi p) x=Zi (ld p) x:=Nb x _ _ λi=>by rw [Zh9,Zn9]
theorem Cv (p:List Int)(q:List Int)(h:∀x,Zi p x=Zi q x)(x:Rat):Zi (ld p) x=Zi (ld q) x:=Nb x _ _ λi=>by grind [Zn9,Nv]
theorem Yra(p q:List Int)(x:Rat):Zi (ld (Mw p q)) x=Zi (ld p) x+Zi (ld q) x:=by rw [<-Xt];exact Nb x _ _ λi=>by rw [Zn9,Lb,Lb,Zn9,Zn9];grind
theorem Zao(c:Int)(p:List Int)(x:Rat):Zi (ld (p.map λa=>c*a)) x=(c:Rat)*Zi (ld p) x:=by rw [<-Zu];grind [Nb,Zn9,Pk]
theorem Bt(x:Rat):∀p q:List Int,Zi (ld (lmul p q)) x=Zi (ld p) x*Zi q x+Zi p x*Zi (ld q) x
 | [],q=>by show(0)=0*Zi q x+0*Zi _ x;grind
 | c::p,q=>by have h:=Bt x p q;rw [show lmul _ q=Mw _ _ from rfl,Yra,Zao,Zg1,Zg1,Ym,show Zi (c::p) x=(c)+x*Zi p x from rfl];grind
def Ed(g a:List Int):Prop:=∃(k:Int) (s:List Int),k≠0/\∀x:Rat,(k:Rat)*Zi a x=Zi s x*Zi g x
theorem Ed.refl(a:List Int):Ed a a:=⟨1,[1],O1,λx=>by rw [Oh]⟩
theorem Ed.nil(g:List Int):Ed g []:=⟨1,[],O1,λx=>by show(((1)))*0=0*Zi g x;simp⟩
theorem Ed.trans{c:List Int} : Ed a b->Ed b c->Ed a c:=λ⟨k,s,g,h⟩ ⟨m,u,j,e⟩=>
 ⟨k*m,lmul u s,bB g j,λx=>by grind [Ym]⟩
theorem Ed.congr{g:List Int}(h:Ed g a)(e:∀x,Zi a x=Zi b x):Ed g b:=by obtain⟨k,s,j,h⟩:=h;exact⟨k,s,j,λx=>O5⟩
theorem Ed.congr_l{g j:List Int}(h:Ed g a)(e:∀x,Zi g x=Zi j x):Ed j a:=by obtain⟨k,s,l,h⟩:=h;exact⟨k,s,l,λx=>O5⟩
theorem Ed.sim{g:List Int}(h:Ed g a)(e:Sim a b):Ed g b:=by
 obtain⟨k,s,j,h⟩:=h;obtain⟨m,n,v,l,e⟩:=e;refine⟨k*n,s.map λc=>m*c,bB j l,λx=>?_⟩;have o:Zi (a.map λc=>m*c) x=Zi (b.map λc=>n*c) x:=Nb x _ _ λi=>by grind [Pk]
 grind [Zu]
theorem Ed.lin{g c:List Int}(j:Ed g a)(l:Ed g b)(s:List Int)(L:Int)(e:L≠0)(h:∀x,(L:Rat)*Zi c x=Zi s x*Zi a x+Zi b x):Ed g c:=by obtain⟨k,u,n,w⟩:=j;obtain⟨m,v,o,B⟩:=l;refine⟨L*(k*m),Mw ((lmul s u).map λc=>m*c) (v.map λc=>k*c),bB e (bB n o),λx=>?_⟩;grind [Xt,Zu,Ym]
theorem Yaf{g s:List Int}(G:k≠0)(F:Tr g)(B:Tr a)(v:a≠[])(h:∀x:Rat,(k:Rat)*Zi a x=Zi s x*Zi g x):g≠[]/\tzl s≠[]/\(tzl s).length+g.length<=a.length+1:=by
 have D:∀i,k*cf a i=(ps _*ps g).c i:=λi=>by have j:=Nv (p:=a.map λc=>k*c) (q:=lmul (tzl s) g) (λx=>by grind [Zu,Ym,Ll]) i;rw [Pk,Di]at j;rw [j];rfl
 have o:∀i,k*cf a i=0->cf a i=0:=λi hi=>(Int.mul_eq_zero.1 hi).resolve_left G;have l:=B.mem v;have j:tzl s≠[]:=λe=>l (o _ (by simp_all [Kh,Yr,bE]));have n:g≠[]:=λe=>l (o _ (by simp_all [PS.mul_comm',Kh,Yr,bE]));refine⟨n,j,?_⟩;have I:=Zab (p:=tzl s) (q:=g) (a:=(tzl s).length-1) (b:=g.length-1) (λi hi=>Yr O1) (λi hi=>Yr O1);rw [<-D]at I;have H:=bB ((Qn s).mem j) (F.mem n);rcases aW ((tzl s).length-1+(g.length-1)) a.length with w|w
 .omega
 simp_all [Yr,eA]
theorem Ed.len{g:List Int}(h:Ed g a)(l:Tr g)(j:Tr a)(e:a≠[]):g≠[]/\g.length<=a.length:=by obtain⟨k,s,n,h⟩:=h;obtain⟨o,v,w⟩:=Yaf n l j e h;grind [List.length_pos_iff]
theorem Ed.same{g:List Int}(h:Ed g a)(B:Tr g)(v:Tr a)(n:a≠[])(G:g.length=a.length):Ed a g:=by
 obtain⟨k,s,D,h⟩:=h;obtain⟨F,j,l⟩:=Yaf D B v n h;have e:=aH.2 j
 match hs:tzl s,e,l with
 | [c],_,_=>
  have w:=by have:=(Qn s).mem j;rw [hs]at this;exact this
  refine⟨c,[k],w,λx=>?_⟩;have o:=h x;rw [<-Ll s]at o;grind [Oh]
 | c::d::r,_,h9=>grind
theorem Zoh:∀(n:Nat) (a b:List Int),Tr a->Tr b->b.length<=n->∃g A B:List Int,Tr g/\Ed g a/\Ed g b/\∀x,Zi g x=Zi A x*Zi a x+Zi B x*Zi b x
 | n,a,[],h,j,_=>⟨a,[1],[],h,Ed.refl a,Ed.nil a,λx=>by rw [Oh];show _=_+0*(0);grind⟩
 | 0,a,c::r,_,_,hl=>absurd hl O6
 | n+1,a,c::b',h,j,hl=>by
  have e:(c::b')≠[]:=O6;generalize c::b'=b at *;obtain⟨k,s,hs⟩:=Cw a e;have o:=Nz (j.mem e) k;generalize cf b _^k=L at hs o;have F:=Pg a e;obtain⟨g,A,B,v,l,w,G⟩:=Zoh n b (Qu a b) j (Kt h) O1;have D:∀x,(L)*Zi a x=Zi s x*Zi b x+Zi (Qu a b) x:=λx=>by have:=Cj L (-1) a s b (Qu a b) (λt=>O5) x;grind
  refine⟨g,B.map λc=>L*c,Mw A ((lmul B s).map λc=>(-1)*c),v,l.lin w s L o D,l,λx=>?_⟩;grind [Zu,Xt,Ym]
def Irr(q:List Int):Prop:=Tr q/\2<=q.length/\∀d,Tr d->Ed d q->d.length<=1\/d.length=q.length
def Zet(h:2<=q.length):q≠[]:=λe=>O5
theorem Ymd:∀(n:Nat) (q:List Int),q.length<=n->Tr q->2<=q.length->∃p,Irr p/\Ed p q
 | 0,q,B,_,j=>O1
 | n+1,q,B,o,j=>by
  by_cases h:Irr q
  .grind [Ed.refl]
  .have:∃d,Tr d/\Ed d q/\¬(d.length<=1\/d.length=q.length):=by refine aZ λw=>h ⟨o,j,λd e g=>aZ λv=>w ⟨d,e,g,v⟩⟩
   obtain⟨d,e,g,G⟩:=this;have D:=(g.len e o (Zet j)).2;obtain⟨p,F,l⟩:=Ymd n d O1 e O1;exact⟨p,F,l.trans g⟩
theorem Zex (f:List Int)(h:List Int)(m:List Int)(N:Irr q)(M:k≠0)(e:∀x:Rat,(k:Rat)*(Zi f x*Zi h x)=Zi m x*Zi q x):Ed q f\/Ed q h:=by
 obtain⟨j,n,w⟩:=N;obtain⟨g,A,B,l,o,F,D⟩:=Zoh _ q _ j (Qn f) (aF _);have I:=(o.len l j (Zet n)).1;rcases w g l o with v|v
 .right
  match g,I,v,l,D with
  | [c],_,_,l,D=>
   have H:=l.mem O6;refine⟨c*k,Mw ((lmul A h).map λc=>k*c) (lmul B m),bB H M,λx=>?_⟩;grind [Oh,Ll,Xt,Zu,Ym]
  | c::d::r,_,h9,_,_=>grind
 .left;have G:=o.same l j (Zet n) v;exact(G.trans F).congr λx=>Ll f x
def Cx(q:List Int):Nat->List Int
 | 0=>[1]
 | n+1=>Qx q (Cx q n)
theorem Zdj{q:List Int}(j:Tr q)(g:2<=q.length):∀n,Tr (Cx q n)/\n+1<=(Cx q n).length
 | 0=>⟨.inr (show cf [1] 0≠0 by decide),aF _⟩
 | n+1=>by obtain⟨l,h⟩:=Zdj j g n;refine⟨Qo _ _,?_⟩;show n+1+1<=(Qx q _).length;rw [Ox j l (Zet g) (λe=>by rw [e]at h;simp at h)];omega
theorem Cu(q:List Int)(n:Nat)(x:Rat):Zi (Cx q (n+1)) x=Zi q x*Zi (Cx q n) x:=Xb _ _ _
theorem Zrk(q:List Int):∀(n:Nat) (x:Rat),Zi (ld (Cx q (n+1))) x=((n:Rat)+1)*(Zi (Cx q n) x*Zi (ld q) x)
 | n,x=>by
  have e:Zi (ld (Cx q (n+1))) x=Zi (ld (lmul q (Cx q n))) x:=Cv _ _ (λy=>by rw [Cu,Ym]) x;rw [e,Bt]
  match n with
  | 0=>
   rw [show Zi (ld (Cx q 0)) x=0 from by rw [show Cx q 0=[1]from rfl,Zg1];show(0:Rat)+x*0=0;grind];simp;grind
  | n+1=>
   rw [Zrk q n x,Cu];push_cast;grind
theorem Yim{s g u:List Int}{c:Int}{k:Nat}(R:∀x:Rat,Zi p x=Zi s x*Zi g x)(B:∀d,Tr d->Ed d p->Ed d (ld p)->Ed d g)(S:Irr q)(G:Ed q s)(H:Ed q (ld s))(Q:Ed (Cx q k) g):Ed (Cx q (k+1)) g:=by
 obtain⟨h,o,D⟩:=S;obtain⟨l,n,V,e1⟩:=G;obtain⟨F,s2,W,e2⟩:=H;have d1:∀x:Rat,(l:Rat)*Zi (ld s) x=Zi (ld n) x*Zi q x+Zi n x*Zi (ld q) x:=λx=>by have:=Cv (s.map λa=>l*a) (lmul n q) (λy=>by grind [Zu,Ym]) x;grind [Zao,Bt]
 have I:Ed q n:=by
  rcases Zex n (ld q) (Mw (s2.map λa=>l*a) ((ld n).map λa=>(-F)*a)) ⟨h,o,D⟩ W (λx=>by grind [Xt,Zu])with h9|h9
  .omega
  .exfalso;have M:Ed q (Xi q):=h9.congr λx=>(Ik q x).symm;have hl:=Og q;have:=(M.len h (Nt h) (λe=>O5)).2;omega
 obtain⟨v,j,Z,e3⟩:=I;obtain⟨c,u,kc,eu⟩:=Q;have P:∀x:Rat,((l*v*c:Int):Rat)*Zi p x=Zi (lmul j u) x*Zi (Cx q (k+1+1)) x:=λx=>by grind [Ym,Cu]
 have w:l*v*c≠0:=bB (bB V Z) kc;generalize l*v*c=C at P w;have N:∀x:Rat,(C:Rat)*Zi (ld p) x=Zi (ld (lmul j u)) x*Zi (Cx q (k+1+1)) x+Zi (lmul j u) x*((((k+1:Nat):Rat)+1)*(Zi (Cx q (k+1)) x*Zi (ld q) x)):=λx=>by have:=Cv (p.map λa=>C*a) (lmul (lmul j u) (Cx q (k+1+1))) (λy=>by grind [Zu,Ym]) x;grind [Zao,Bt,Zrk]
 refine B _ (Zdj h o _).1 ⟨C,lmul (lmul j u) q,w,λx=>?_⟩ ⟨C,Mw (lmul (ld (lmul j u)) q) ((lmul (lmul j u) (ld q)).map λa=>((k+2:Nat):Int)*a),w,λx=>?_⟩
 .grind [Ym,Cu]
 .rw [N x,Xt,Zu,Ym _ (ld (lmul j u)),Ym _ (lmul j u),Cu q (k+1)];push_cast;grind
theorem Yio{s g:List Int}(l:∀x:Rat,Zi p x=Zi s x*Zi g x)(F:Tr g)(w:g≠[])(j:∀d,Tr d->Ed d p->Ed d (ld p)->Ed d g)(G:Tr q)(B:Ed q s)(D:Ed q (ld s)):q.length<=1:=by
 refine aZ λh=>?_;obtain⟨r,n,e⟩:=Ymd _ q (aF _) G O1;have o:∀k,Ed (Cx r k) g:=λk=>by
  induction k with
  | zero=>exact⟨1,g,O1,λx=>by rw [show Cx r 0=[1]from rfl,Oh];simp⟩
  | succ k H=>exact Yim (u:=[]) (c:=0) l j n (e.trans B) (e.trans D) H
 obtain⟨v,I⟩:=Zdj n.1 n.2.1 g.length;have:=((o _).len v F w).2;omega
theorem Yst(o:Tr b)(g:b≠[])(h:Ed d a)(j:Ed d b):Ed d (Qu a b):=by
  obtain⟨k,s,hs⟩:=Cw a g;have n:=Nz (o.mem g) k;generalize cf b (b.length-1)^k=L at hs n;have v:∀x,(L:Rat)*Zi a x=Zi s x*Zi b x+Zi (Qu a b) x:=λx=>by have:=Cj L (-1) a s b (Qu a b) (λt=>by rw [hs t];omega) x;push_cast at this;grind
  have l:Ed d (a.map λc=>L*c):=by obtain⟨k,u,w,e⟩:=h;exact⟨k,u.map λc=>L*c,w,λx=>by rw [Zu,Zu];have:=e x;grind⟩
  exact j.lin l (s.map λc=>(-1)*c) 1 O4 λx=>by rw [Zu,Zu];push_cast;have:=v x;grind
theorem Zw9{d:List Int} : ∀(f:Nat) {a b:List Int},Tr a->Tr b->Ed d a->Ed d b->Ed d (eu f a b)
  | 0,a,b,_,_,e,_=>e
  | f+1,a,b,l,j,e,h=>by
    by_cases g:b=[]
    . rw [g,Bj];exact e
    . rw [show eu (f + 1) a b = eu f b (Yb (Qu a b)) by
          conv=>lhs;unfold eu
          rw [aK g]]
      have t1:=Kt (q:=b) l;exact Zw9 f j (Yu t1) h ((Yst j g e h).sim (Qm t1).symm)
theorem Zmy{F:Nat}(e:Tr p)(g:Tr q)(h:Ed d p)(j:Ed d q):Ed d (Nq F p q):=by
  have l:=h.sim (Qm e).symm;have n:=j.sim (Qm g).symm;unfold Nq;refine Ed.sim ?_ (Ht _).symm;refine Zw9 F (Zjs e g) (Zjr e g) ?_ ?_
  . unfold gA;split<;>assumption
  . unfold gB;split<;>assumption
theorem Zgn{F:Nat}(j:Tr xs)(l:xs≠[])(e:eok F (gA (Xj xs) (Xi (Xj xs))) (gB (Xj xs) (Xi (Xj xs))))(v:Tr q)(n:Ed q (sqf F xs))(o:Ed q (Xi (sqf F xs))):q.length<=1:=by
  obtain⟨f1,f2,f3,f4,f5,f6⟩:=Ow F j l e;have hs:Tr (Xj xs):=Ng (Yu j);have h:Tr (Xi (Xj xs)):=Nt hs;refine Yio (p:=Xj xs) (s:=sqf F xs) (g:=Nq F (Xj xs) (Xi (Xj xs))) (λx=>?_) (Zed _ hs h) f5 (λd _ a b=>?_) v n (o.congr λx=>Ik _ x)
  . have:Zi (Xj xs) x=Zi (Qx (sqf F xs) (Nq F (Xj xs) (Xi (Xj xs)))) x:=by rw [<-f4]
    rw [this,Xb]
  . exact Zmy hs h a (b.congr λx=>(Ik _ x).symm)
theorem Zb3:∀(l:List Int) (n z:Int),(l.foldl Nk (n,z)).1=n+(l.foldl Nk (0,z)).1
 | [],n,z=>O6
 | x::l,n,z=>by
  simp only [iA];by_cases h:x=0
  .have e:∀n,Nk (n,z) x=(n,z):=λn=>by unfold Nk;rw [aM h]
   rw [e,e];exact Zb3 l n z
  .by_cases g:x=-z
   .have e:∀n,Nk (n,z) x=(n+1,x):=λn=>by unfold Nk;rw [aK h,aM (by dsimp only;exact g)]
    rw [e,e,Zb3 l (n+1) x,Zb3 l (0+1) x];omega
   .have e:∀n,Nk (n,z) x=(n,x):=λn=>by unfold Nk;rw [aK h,aK (by dsimp only;exact g)]
    rw [e,e];exact Zb3 l n x
theorem Ytv{x y:Int}{l:List Int}(n:y≠0):chg (x::y::l)=chg (y::l)+(if x=-y then 1 else 0):=by
 unfold chg;simp only [iA];have g:Nk (0,0) y=(0,y):=by unfold Nk;rw [aK n,aK O10]
 rw [g];by_cases j:x=0
 .have e:Nk (0,0) x=(0,0):=by unfold Nk;rw [aM j]
  rw [e,g,aK O1];omega
 .have e:Nk (0,0) x=(0,x):=by unfold Nk;rw [aK j,aK O10]
  rw [e];have o:Nk (0,x) y=(if x=-y then 1 else 0,y):=by
   unfold Nk;rw [aK n];by_cases h:x=-y
   .rw [aM O10,aM h];rfl
   .rw [aK O10,aK h]
  rw [o,Zb3];omega
def crs(f:Rat->Rat)(u v:Rat):Int:=if f u≠0/\f u*f v<=0 then 1 else 0
theorem Zk6(s t:Rat):∀p:List Int,∃M:Rat,0<M/\∀x y,s<=x->x<=y->y<=t->
  -(M*(y-x)*(y-x))<=Zi p y-Zi p x-(y-x)*Zi (ld p) x/\Zi p y-Zi p x-(y-x)*Zi (ld p) x<=M*(y-x)*(y-x)
 | []=>⟨1,O4,λx y S V W=>by have:=aE (a:=y-x) (b:=y-x) O5 O5;show -(1*(y-x)*(y-x))<=(0:Rat)-0-(y-x)*0/\(0:Rat)-0-(y-x)*0<=1*(y-x)*(y-x);constructor<;>grind⟩
 | c::p=>by obtain⟨M,G,H⟩:=Zk6 s t p;obtain⟨L,Z,F⟩:=Bs s t p;obtain⟨K,B,D⟩:=Ysp s t;refine⟨L+K*M,by have:=aT B G;grind,λx y hs h l=>?_⟩;obtain⟨n,o⟩:=H x y hs h l;obtain⟨I,N⟩:=F x y hs h l;obtain⟨v,w⟩:=D x hs O5;have j:0<=y-x:=O5;obtain⟨f1,f2⟩:=Zc0 (q:=x) (Q:=K) (g:=Zi p y-Zi p x-(y-x)*Zi (ld p) x) (e:=M*(y-x)*(y-x)) v w n o O5;have P:=aE (a:=y-x) (b:=L*(y-x)-(Zi p y-Zi p x)) j O5;have R:=aE (a:=y-x) (b:=L*(y-x)+(Zi p y-Zi p x)) j O5;rw [Zg1,show Zi (c::p) y=(c:Rat)+y*Zi p y from rfl,show Zi (c::p) x=(c:Rat)+x*Zi p x from rfl];constructor<;>grind
theorem Yed(D:Tr a)(hb:Tr b)(h0:a≠[])(hc:∀q,Tr q->Ed q a->Ed q b->q.length<=1)(s t:Rat):∃ε:Rat,0<ε/\∀x,s<=x->x<=t->Big ε x (Zi a)\/Big ε x (Zi b):=by
 obtain⟨g,A,B,e,o,Z,j⟩:=Zoh _ a b D hb (aF _);have hl:=hc g e o Z;have hg:=(o.len e D h0).1
 match g,hg,hl,e,j with
 | [c],_,_,e,j=>
  have n:c≠0:=e.mem O6;obtain⟨P,p1,p2⟩:=Zvo s t A;obtain⟨Q,q1,q2⟩:=Zvo s t B;obtain⟨ε,W,e2,e3⟩:=Gj (show(0:Rat)<1 by decide) (show 0<(P+Q)+(P+Q) by grind) (show(0:Rat)<1 by decide);refine⟨ε,W,λx hs F=>?_⟩;by_cases v:Big ε x (Zi a)
  .exact .inl v
  .by_cases w:Big ε x (Zi b)
   .exact .inr w
   .exfalso;obtain⟨G,H⟩:=Zeq v;obtain⟨I,M⟩:=Zeq w;obtain⟨N,R⟩:=p2 x hs F;obtain⟨S,V⟩:=q2 x hs F;obtain⟨u1,u2⟩:=Zc0 N R G H O5;obtain⟨v1,v2⟩:=Zc0 S V I M O5;have h4:=j x;rw [Oh]at h4;have l:(c:Rat)<=-1\/1<=(c:Rat):=by
     rcases mM n with h|h
     .left;have:((c:Int):Rat)<=((-1:Int):Rat):=by exact_mod_cast (show c<=-1 by omega)
      rwa [show(((-1:Int)):Rat)=-1 from rfl]at this
     .right;have:1<=c:=O1;exact_mod_cast this
    rcases l with l|l<;>grind
 | c::d::r,_,h9,_,_=>simp at h9
theorem Big.near{ε x y:Rat}{f:Rat->Rat}(h:Big ε x f)(e:f x-f y<=ε/2)(g:f y-f x<=ε/2):Big (ε/2) y f:=by unfold Big at *;grind
theorem Zvi(x:Rat):Er x=-1↔x<0:=by unfold Er;grind
theorem Yjn(x:Rat):Er (-x)=- Er x:=by unfold Er;grind
theorem Zo1{g:Rat->Rat}{x:Rat}(h:Er (g x)≠0):vat (f::g::r) x=vat (g::r) x+(if Er (f x)=- Er (g x)then 1 else 0):=by exact Ytv h
def Tay(s t M:Rat)(p:List Int):Prop:=∀x y,s<=x->x<=y->y<=t->-(M*(y-x)*(y-x))<=Zi p y-Zi p x-(y-x)*Zi (ld p) x/\Zi p y-Zi p x-(y-x)*Zi (ld p) x<=M*(y-x)*(y-x)
theorem Zjw  {f:Nat}  (ha:Tr a) (hb:Tr b) (R:cok f a b) {κ:Rat} (hκ:0<κ) (N:∀x,Zi (ld a) x=κ*Zi b x)
  {L L' M h:Rat} (e1:0<ε) (e2:∀x,s<=x->x<=t->Big ε x (Zi a)\/Big ε x (Zi b)) (l1:0<=L) (l2:Lip s t L (Zi a)) (b1:0<=L') (F:Lip s t L' (Zi b)) (m1:0<=M) (m2:Tay s t M a)
  (h5:0<h) (h3:h*(L+L')<=ε/2) (h7:h*M<=κ*ε/2) {u v:Rat} (hs:s<=u) (j:u<=v) (ht:v<=t) (hh:v-u<=h) :
  vat ((Mg f a b).map Zi) u-vat ((Mg f a b).map Zi) v=crs (Zi a) u v:=by
 have hL:∀w,u<=w->w<=v->L*(w-u)<=ε/2/\L'*(w-u)<=ε/2:=λw l o=>by
  have p1:=aE (a:=L) (b:=h-(w-u)) O5 O5;have p2:=aE (a:=L') (b:=h-(w-u)) O5 O5;have p3:=aE (a:=L) (b:=h) O5 O5;have p4:=aE (a:=L') (b:=h) O5 O5
  all_goals grind
 by_cases B:Big ε u (Zi a)
 .have S:∀w,u<=w->w<=v->Big (ε/2) w (Zi a):=λw l o=>by obtain⟨Z,x2⟩:=l2 u w hs l O5;have:=hL w l o;exact B.near O5 O5
  rw [Zgv ha hb R j (show 0<ε/2 by grind) S];have hv:=S v j O6;have:crs (Zi a) u v=0:=by
   unfold crs;refine aK λ⟨_,h9⟩=>?_;obtain⟨Z,x2⟩:=l2 u v hs j ht;have a7:=hL v j O6;unfold Big at B hv;rcases B with V|V
   .have:0<Zi a v:=O5;have:=aT (show 0<Zi a u by grind) this;grind
   .have:0 < - Zi a v:=O5;have:=aT (show 0 < - Zi a u by grind) this;grind
  omega
 .have n:Big ε u (Zi b):=(e2 u hs O5).resolve_left B;have S:∀w,u<=w->w<=v->Big (ε/2) w (Zi b):=λw l o=>by obtain⟨Z,x2⟩:=F u w hs l O5;have:=hL w l o;exact n.near O5 O5
  have a0:b≠[]:=λe=>by rw [e]at n;unfold Big at n;have:Zi [] u=0:=rfl;grind
  obtain⟨g,hg,hd,b0,I,a2⟩:=Zh5 R a0;have hT:=Zgv hb (Zc9 ha) I j (show 0<ε/2 by grind) S;obtain⟨r,hr,_,_,_⟩:=Zpm u v g b (Le a b) hb (Zc9 ha) I;rw [a2,hr];rw [hr]at hT;simp only [bZ]at hT ⊢;have a3:∃σ:Rat,(σ=1\/σ=-1)/\ε<σ*Zi b u/\∀w,u<=w->w<=v->0<σ*Zi b w:=by
   unfold Big at n;rcases n with V|V
   .refine⟨1,.inl rfl,O5,λw l o=>?_⟩;obtain⟨Z,x2⟩:=F u w hs l O5;grind
   .refine⟨-1,.inr rfl,O5,λw l o=>?_⟩;obtain⟨Z,x2⟩:=F u w hs l O5;grind
  obtain⟨σ,W,a8,H⟩:=a3;have D:u<v->σ*Zi a u<σ*Zi a v:=λP=>by
   obtain⟨y1,y2⟩:=m2 u v hs j ht;rw [N u]at y1 y2;have hd:0<v-u:=O5;have z1:M*(v-u)<=κ*ε/2:=by have:=aE (a:=M) (b:=h-(v-u)) O5 O5;grind
   have z2:0<κ*(σ*Zi b u)-M*(v-u):=by have:=aT hκ (show 0<σ*Zi b u-ε by grind);have:=aT hκ e1;grind
   have z3:=aT hd z2;rcases W with rfl|rfl<;>grind
  have Q:∀w,u<=w->w<=v->Er (Zi b w)≠0:=λw l o=>by
   have:=H w l o;rcases W with rfl|rfl
   all_goals grind [Zal,Zam]
  rw [Zo1 (Q u O6 j),Zo1 (Q v j O6),hT];have a6:∀w,u<=w->w<=v->(Er (Zi a w)=- Er (Zi b w)↔σ*Zi a w<0):=λw l o=>by
   have:=H w l o;rcases W with rfl|rfl
   all_goals grind [Zal,Zvi,Zam,Yjn]
  rw [show(if Er (Zi a u)=- Er (Zi b u)then(1:Int)else 0)=if σ*Zi a u<0 then 1 else 0 from by grind];rw [show(if Er (Zi a v)=- Er (Zi b v)then(1:Int)else 0)=if σ*Zi a v<0 then 1 else 0 from by grind];have a4:crs (Zi a) u v=if σ*Zi a u<0/\¬σ*Zi a v<0 then 1 else 0:=by
   unfold crs;have a1:Zi a u*Zi a v=(σ*Zi a u)*(σ*Zi a v):=by all_goals grind
   have hz:Zi a u≠0↔σ*Zi a u≠0:=by rcases W with rfl|rfl<;>constructor<;>intro h9 h8<;>exact h9 O5
   have a5:(Zi a u≠0/\Zi a u*Zi a v<=0)↔(σ*Zi a u<0/\¬σ*Zi a v<0):=by
    rw [a1,hz];generalize V:σ*Zi a u=p at *;generalize hq:σ*Zi a v=q at *;constructor
    .intro ⟨n1,n2⟩;rcases(show u<v\/u=v by grind)with P|a9
     .have:=D P;rcases(show p<0\/0<p by grind)with G|G
      .refine⟨G,λn4=>?_⟩;have:=aT (show 0 < -p by grind) (show 0 < -q by grind);grind
      .have:=aT G (show 0<q by grind);grind
     .exfalso;have:q=p:=O5;rw [this]at n2;rcases(show p<0\/0<p by grind)with G|G
      .have:=aT (show 0 < -p by grind) (show 0 < -p by grind);grind
      .have:=aT G G;grind
    .intro ⟨n1,n2⟩;refine⟨O5,?_⟩;have:=aE (show 0<=-p by grind) (show 0<=q by grind);grind
   grind
  grind
theorem Zmb (κ:Rat){f:Nat}(w:Tr a)(B:Tr b)(G:a≠[])(g:cok f a b)(S:0<κ)(e:∀x,Zi (ld a) x=κ*Zi b x)(P:∀q,Tr q->Ed q a->Ed q b->q.length<=1) :
  ∃h:Rat,0<h/\∀u v,s<=u->u<=v->v<=t->v-u<=h->vat ((Mg f a b).map Zi) u-vat ((Mg f a b).map Zi) v=crs (Zi a) u v:=by
 obtain⟨ε,D,F⟩:=Yed w B G P s t;obtain⟨L,l1,W⟩:=Bs s t a;obtain⟨n,V,l⟩:=Bs s t b;obtain⟨M,Z,m2⟩:=Zk6 s t a;obtain⟨H,I,h3,h4⟩:=Gj (show(0)<1 by rfl) (show 0<L+n by grind) (show 0<ε/2 by grind);obtain⟨h,o,h6,N⟩:=Gj I Z (show 0<κ*ε/2 by grind [Rat.mul_pos]);refine⟨h,o,λu v hs j R Q=>Zjw w B g S e D F O5 W O5 l O5 m2 o ?_ N hs j R Q⟩;have:=aE (a:=L+n) (b:=H-h) O5 O5;grind
theorem Ymg:∀(n m:Nat) (f:Nat->Nat),(∀k,k<n->f k<m)->(∀a b,a<n->b<n->f a=f b->a=b)->n<=m
 | 0,_,_,_,_=>bE _
 | n+1,m,f,g,hi=>by
  have h:=g n O6;have:=Ymg n (m-1) (λk=>if f n<f k then f k-1 else f k) (λk o=>by
   grind) (λa b j l e=>by
   grind)
  omega
theorem php{n:Nat}{f:Nat->Nat}(h:m<n)(v:∀k,k<n->f k<m):∃a b,a<n/\b<n/\a≠b/\f a=f b:=by refine aZ λj=>?_;have:=Ymg n m f v λa b l o e=>aZ λg=>j ⟨a,b,l,o,g,e⟩;omega
def enc(B:Nat)(d:Nat->Nat):Nat->Nat
 | 0=>0
 | n+1=>enc B d n+d n*B^n
theorem Ztb{B:Nat}{d:Nat->Nat} : ∀n,(∀i,i<n->d i<B)->enc B d n<B^n
 | 0,_=>by simp [enc]
 | n+1,h=>by have j:=Ztb n λi hi=>h i O1;have e:=h n O6;have g:(d n+1)*B^n<=B*B^n:=aJ _ e;rw [cN]at g;rw [cJ,bQ _ B];show enc B d n+d n*B^n<_;omega
theorem Yd0{B:Nat}{d e:Nat->Nat} : ∀n,(∀i,i<n->d i<B)->(∀i,i<n->e i<B)->enc B d n=enc B e n->∀i,i<n->d i=e i
 | 0,_,_,_,i,hi=>absurd hi (bD i)
 | n+1,g,j,h,i,hi=>by
  have v:=Ztb n λi hi=>g i O1;have D:=Ztb n λi hi=>j i O1;have h:enc B d n+d n*B^n=enc B e n+e n*B^n:=h;have w:0<B^n:=O1;have o:d n=e n:=by
   have F:(enc B d n+d n*B^n)/B^n=d n:=by rw [lM _ _ w,cT v,cH]
   simp_all [lM,cT,cH]
  rcases aW i n with l|l
  .exact Yd0 n (λi hi=>g i O1) (λi hi=>j i O1) (by rw [o]at h;omega) i l
  .rw [show i=n by omega];exact o
def dig(B k j:Nat):Nat:=k/B^j%B
theorem Ztc(B k:Nat):∀n,enc B (dig B k) n=k%B^n
 | 0=>by simp [enc,lO]
 | n+1=>by show enc B _ n+dig B k n*B^n=_;rw [Ztc B k n,cJ,mY];unfold dig;rw [bQ]
theorem Zma (C:Int){f:Nat->Int} : ∀n,(∀i,i<n->-C<=f i/\f i<=C)->-((n:Int)*C)<=Yl f n/\Yl f n<=(n:Int)*C
 | 0,_=>by simp [Fo]
 | n+1,h=>by have e:=Zma _ n λi hi=>h i O1;grind [Yp]
theorem Zpb(f g:Nat->Int):∀n,Yl (λi=>f i-g i) n=Yl f n-Yl g n
 | 0=>by rfl
 | n+1=>by rw [Yp,Yp,Yp,Zpb f g n];omega
theorem siegel{N M A:Nat}(R:M<N)(hA:0<A)(c:Nat->Nat->Int)(hc:∀i j,i<M->j<N->(c i j).natAbs<=A) :
  ∃x:Nat->Int,(∃j,j<N/\x j≠0)/\(∀j,j<N->(x j).natAbs<=(2*N*A)^M)/\∀i,i<M->Yl (λj=>c i j*x j) N=0:=by
 generalize S:(2*N*A)^M=X;generalize hW:N*(A*X)=W;let d:=λk j=>dig (X+1) k j;have hd:∀k j,d k j<=X:=λk j=>mT (bI _ (jZ X));let y:=λk i=>Yl (λj=>c i j*(d k j:Int)) N;have B:∀k i,i<M->-(W:Int)<=y k i/\y k i<=(W:Int):=λk i hi=>by
  have g:=Zma ((A*X:Nat):Int) (f:=λj=>c i j*(d k j:Int)) N λj v=>by
   have h:=hc i j hi v;have F:(c i j*(d k j:Int)).natAbs<=A*X:=by simp_all [bT,dA,aP]
   omega
  grind
 let e:=λk=>enc (2*W+1) (λi=>(y k i+(W:Int)).toNat) M;have o:∀k i,i<M->(y k i+(W:Int)).toNat<2*W+1:=λk i hi=>by have:=B k i hi;omega
 have w:(2*W+1)^M<(X+1)^N:=by
  have g:2*W+1<=(2*N*A)*(X+1):=by grind [Nat.mul_pos]
  have h:=gM g M;rw [Nat.mul_pow,S]at h;have F:(X+1)^(M+1)<=(X+1)^N:=cY O6 O1;grind
 obtain⟨a,b,V,Z,l,hf⟩:=php (f:=e) w (λk _=>Ztb M (o k));have D:=Yd0 M (o a) (o b) hf;refine⟨λj=>(d a j:Int)-(d b j:Int),?_,λj _=>?_,λi hi=>?_⟩
 .refine aZ λQ=>l ?_;have P:∀j,j<N->d a j=d b j:=λj v=>aZ λG=>Q ⟨j,v,λh6=>G O5⟩;have H:=Ztc (X+1) a N;have I:=Ztc (X+1) b N;rw [bJ V]at H;rw [bJ Z]at I;have e3:∀n,n<=N->enc (X+1) (dig (X+1) a) n=enc (X+1) (dig (X+1) b) n:=λn=>by
   induction n with
   | zero=>intro _;rfl
   | succ n ih=>
    intro hn;have G:dig (X+1) a n=dig (X+1) b n:=P n O1;show enc _ _ n+dig (X+1) a n*_=enc _ _ n+dig (X+1) b n*_;grind
  grind
 .grind
 .have g:Yl (λj=>c i j*((d a j:Int)-(d b j:Int))) N=y a i-y b i:=by rw [<-Zpb];grind
  rw [g];have h:=D i hi;have F:=B a i hi;have h4:=B b i hi;omega
theorem Zju(f:Nat->Int)(p:Nat):∀q,Yl f (p+q)=Yl f p+Yl (λk=>f (p+k)) q
 | 0=>by simp [Fo]
 | q+1=>by rw [<-iX,Yp,Yp,Zju f p q];omega
def sft(a:List Int)(t k:Nat):Int:=if k<=t then cf a (t-k)else 0
theorem Zn1{U:List Int}{p:Nat}(h:U.length=p)(t:Nat):(ps U*ps a).c t=Yl (λk=>sft a t k*cf U k) p:=by rw [<-Zyg,<-h];refine Xr λk _=>?_;unfold sft;split<;>grind
theorem Ze2{U:List Int}{p t:Nat}(h:U.length<=p)(j:p+a.length<=t+1):(ps U*ps a).c t=0:=by
 rw [PS.mul_c];refine Gl λk g=>?_;rw [Md,Md];rcases aW k U.length with e|e
 .rw [Yr (p:=a) O1,eA]
 .rw [Yr e,cK]
theorem Zjy (a:List Int)(b:List Int)(e:Nat){p q A:Nat}(B:0<A)(D:∀i,(cf a i).natAbs<=A)(F:∀i,(cf b i).natAbs<=A)(H:0<p+q)(I:p+a.length<=p+q+e)(P:q+b.length<=p+q+e) :
  ∃U V:List Int,U.length=p/\V.length=q/\((∃i,cf U i≠0)\/∃i,cf V i≠0)/\(∀i,(cf U i).natAbs<=(2*(p+q)*A)^(p+q-1))/\(∀i,(cf V i).natAbs<=(2*(p+q)*A)^(p+q-1))/\
   ∀t,e<=t->(ps U*ps a).c t+(ps V*ps b).c t=0:=by
 obtain⟨x,⟨j,Q,g⟩,w,G⟩:=siegel (N:=p+q) (M:=p+q-1) (A:=A) O1 B (λi j=>if j<p then sft a (e+i) j else sft b (e+i) (j-p)) (λi j _ _=>by
  split<;>unfold sft<;>split
  .exact D _
  .simp
  .exact F _
  .simp)
 have n:∀i,cf (mk p x) i=if i<p then x i else 0:=λi=>Ml _ _ _
 have o:∀i,cf (mk q λk=>x (p+k)) i=if i<q then x (p+i)else 0:=λi=>Ml _ _ _
 refine⟨mk p x,mk q λk=>x (p+k),Xa _ _,Xa _ _,?_,λi=>?_,λi=>?_,λt R=>?_⟩
 .rcases aW j p with h|h
  .exact .inl ⟨j,by rw [n,aM h];exact g⟩
  .exact .inr ⟨j-p,by rw [o,aM O1,show p+(j-p)=j by omega];exact g⟩
 .rw [n];split
  .exact w i O1
  .exact bE _
 .rw [o];split
  .exact w _ O1
  .exact bE _
 .rcases aW (t-e) (p+q-1)with h|h
  .have v:=G (t-e) h;rw [show e+(t-e)=t by omega,Zju]at v;rw [Zn1 (Xa _ _),Zn1 (Xa _ _),<-v];congr 1
   .exact Xr λk l=>by rw [aM l,n,aM l]
   .exact Xr λk l=>by rw [aK O1,o,aM l,show p+k-p=k by omega]
  .rw [Ze2 (mW (Xa _ _)) O1,Ze2 (mW (Xa _ _)) O1];rfl
theorem Yee (t:Nat){U:List Int}{p X A:Nat}(h:U.length=p)(j:∀i,(cf U i).natAbs<=X)(l:∀i,(cf a i).natAbs<=A):((ps U*ps a).c t).natAbs<=p*(X*A):=by
 rw [Zn1 h];have e:=Zma ((X*A:Nat):Int) (f:=λk=>sft a t k*cf U k) p λk _=>by
  have:(sft a t k*cf U k).natAbs<=X*A:=by
   rw [bT,bQ];refine aP (j k) ?_;unfold sft;split
   .exact l _
   .simp
  omega
 have g:((p:Int)*((X*A:Nat):Int))=((p*(X*A):Nat):Int):=by push_cast;rfl
 rw [g]at e;omega
theorem Zg6 (w:List Int)(q:List Int)(n:Nat)(h:∀x,Zi w x=Zi q x*Zi y x)(l:Tr y)(e:y≠[])(v:∀i,n<=i->cf w i=0):tzl q=[]\/(tzl q).length+y.length<=n+1:=by
 by_cases j:tzl q=[]
 .grind
 .have o:∀i,cf w i=(ps _*ps y).c i:=λi=>by rw [Nv (q:=lmul (tzl q) y) (λx=>by grind [Ym,Ll]) i,Di];rfl
  have B:=Zab (p:=tzl q) (q:=y) (a:=(tzl q).length-1) (b:=y.length-1) (λi hi=>Yr O1) (λi hi=>Yr O1);have g:=bB ((Qn q).mem j) (l.mem e);grind
theorem Da (v:List Int){f:List Int}(j:tzl v≠[])(h:∀x,Zi v x*Zi f x=0)(x:Rat):Zi f x=0:=by
 by_cases e:tzl f=[]
 .rw [<-Ll,e];rfl
 .rcases Zg6 _ v 0 (λx=>by rw [Ll,h x];rfl) (Qn f) e (λi _=>Zd3 i)with g|g
  all_goals grind [List.length_pos_iff]
structure Inv (a b x y:List Int):Prop where
 ex:∃(α β γ:Int) (u' v' u v:List Int),α≠0/\β≠0/\γ≠0/\
  (∀t:Rat,(α:Rat)*Zi x t=Zi u' t*Zi a t+Zi v' t*Zi b t)/\(∀t:Rat,(β:Rat)*Zi y t=Zi u t*Zi a t+Zi v t*Zi b t)/\
  (∀t:Rat,Zi u' t*Zi v t-Zi u t*Zi v' t=(γ:Rat))/\(tzl v).length<=a.length-x.length+1/\(tzl v').length<=a.length-x.length+1
 xl:x.length<=b.length
 yl:y.length<x.length
theorem Yck{z:List Int}{L:Int}(g:Tr y)(e:y≠[])(j:z.length<=x.length)(h:∀t:Rat,(L:Rat)*Zi x t=Zi q t*Zi y t+(c:Rat)*Zi z t):tzl q=[]\/(tzl q).length+y.length<=x.length+1:=
 Zg6 (Mw (x.map λa=>L*a) (z.map λa=>(-c)*a)) _ _ (λt=>by grind [Xt,Zu]) g e λi hi=>by rw [Lb,Pk,Pk,Yr hi,Yr O1];simp
theorem Zau{n:Nat}(g:(tzl p).length<=m)(j:(tzl q).length<=n)(i:Nat)(hi:m+n<=i+1):cf (lmul p q) i=0:=by have e:cf (lmul p q) i=cf (lmul (tzl p) (tzl q)) i:=Nv (λx=>by grind [Ym,Ll]) i;rw [e,Di];have h:=Ze2 (a:=tzl q) (t:=i) g O1;assumption
def Zqr{n:Nat}(h:∀i,n<=i->cf p i=0):(tzl p).length<=n:=Zcc h
theorem Yet{n:Nat}(h:(tzl p).length<=n)(hi:n<=i):cf p i=0:=by rw [<-Ly];grind [Yr]
theorem Inv.next{z z':List Int}{L:Int}(F:Inv a b x y)(G:b.length<=a.length)(hx:Tr x)(N:Tr y)(B:y≠[])(hL:L≠0)(h:∀t:Rat,(L:Rat)*Zi x t=Zi q t*Zi y t+Zi z' t)(P:Sim z' z)(g:z.length<y.length):Inv a b y z:=by
 obtain⟨⟨α,β,γ,W,o,u,v,R,l,hγ,Z,w,e3,S,V⟩,xl,yl⟩:=F;obtain⟨m,n,hm,H,hs⟩:=P;have M:∀t:Rat,(m:Rat)*Zi z' t=(n:Rat)*Zi z t:=λt=>by
  have:=Nb t (z'.map λa=>m*a) (z.map λa=>n*a) λi=>by grind [Pk]
  grind [Zu]
 have D:∀t:Rat,((L*m:Int):Rat)*Zi x t=Zi (q.map λa=>m*a) t*Zi y t+(n:Rat)*Zi z t:=λt=>by grind [Zu]
 have I:=Yck N B O1 D;have e:(tzl (q.map λa=>m*a)).length<=x.length-y.length+1:=by grind
 generalize hQ:(q.map λa=>m*a)=Q at *;have j:∀t:Rat,((n*(α*β):Int))*Zi z t=Zi (Mw (W.map λc=>(L*m*β)*c) ((lmul Q u).map λc=>(-α)*c)) t*Zi a t+Zi (Mw (o.map λc=>(L*m*β)*c) ((lmul Q v).map λc=>(-α)*c)) t*Zi b t:=λt=>by rw [Xt,Xt,Zu,Zu,Zu,Zu,Ym,Ym];grind
 refine⟨⟨β,n*(α*β),-(L*m*β*γ),u,v,_,_,l,bB H (bB R l),?_,w,j,λt=>?_,?_,?_⟩,O1,g⟩
 .simp_all
 .rw [Xt,Xt,Zu,Zu,Zu,Zu,Ym,Ym];grind
 .refine Zqr λi hi=>?_;rw [Lb,Pk,Pk,Yet (p:=o) V O1,Zau e S i O1];simp
 omega
theorem Inv.first{z z':List Int}{L:Int}(l:b.length<=a.length)(I:Tr a)(o:Tr b)(g:b≠[])(G:L≠0)(h:∀t:Rat,(L:Rat)*Zi a t=Zi q t*Zi b t+Zi z' t)(F:Sim z' z)(e:z.length<b.length):Inv a b b z:=by
 obtain⟨m,n,M,v,hs⟩:=F;have D:∀t:Rat,(m:Rat)*Zi z' t=(n:Rat)*Zi z t:=λt=>by
  have:=Nb t (z'.map λa=>m*a) (z.map λa=>n*a) λi=>by grind [Pk]
  grind [Zu]
 have j:∀t:Rat,((L*m:Int):Rat)*Zi a t=Zi (q.map λa=>m*a) t*Zi b t+(n:Rat)*Zi z t:=λt=>by grind [Zu]
 have w:=Yck o g O1 j;have B:(tzl (q.map λa=>m*a)).length<=a.length-b.length+1:=by grind
 generalize H:(q.map λa=>m*a)=Q at *;refine⟨⟨1,n,-(L*m),[],[1],[L*m],Q.map λc=>(-1)*c,O1,v,?_,λt=>?_,λt=>?_,λt=>?_,?_,?_⟩,aF _,e⟩
 .simp_all
 .rw [Oh];show _=(0:Rat)*_+_;grind
 .grind [Oh,Zu]
 .rw [Oh,Oh];show(0:Rat)*_-_=_;grind
 .refine Zqr λi hi=>?_;grind [Pk,Yet]
 grind [Nat.le_trans,Ns]
def Ziq{n:Nat}(h:Sz n a)(i:Nat):(cf a i).natAbs<=2^n:=dH ((Qs n _).1 (h i))
theorem Zan(h:tzl p=[])(x:Rat):Zi p x=0:=by rw [<-Ll,h];rfl
theorem tzl_ne(h:cf p i≠0):tzl p≠[]:=λe=>h ((Iy p).1 e i)
def nn_eq{x a b:Nat}(e:x<=b)(g:b<=a):b-x+1+(a-x+1)=a+b-2*x+2:=O1
theorem Inv.bound{n s:Nat}(hI:Inv a b x y)(I:b.length<=a.length)(ha:Tr a)(hx:Tr x)(hy:Tr y)(h0:y≠[])(hp:Yv y=1)(na:Sz n a)(nb:Sz n b)(hs:a.length+b.length-2*x.length+2<=2^s) :
  Qc y<=(s+1+n)*(a.length+b.length-2*x.length+2):=by
 obtain⟨⟨α,β,γ,u',v',u,v,hα,hβ,hγ,e1,e2,e3,l1,l2⟩,xl,yl⟩:=hI;have a6:=aH.2 h0;have a5:x≠[]:=λe=>O5;have D:a≠[]:=λe=>by grind
 obtain⟨U,V,lU,lV,W,bU,bV,hz⟩:=Zjy a b (x.length-1) (p:=b.length-x.length+1) (q:=a.length-x.length+1) (A:=2^n) (cD O1) (Ziq na) (Ziq nb) O1 O1 O1;have hv:a.length+1<=(tzl v).length+x.length:=by
  refine aZ λB=>?_;have Q:∀i,cf (Mw (a.map λc=>γ*c) ((lmul y v').map λc=>β*c)) i=cf (lmul (tzl v) (x.map λc=>α*c)) i:=λi=>Nv (λt=>by grind [Xt,Zu,Ym,Ll]) i
  have o:=Q (a.length-1);rw [Lb,Pk,Pk,Zau (m:=y.length) (n:=a.length-x.length+1) (Ns _) l2 _ O1,Di]at o;have F:=Ze2 (U:=tzl v) (a:=x.map λc=>α*c) (p:=(tzl v).length) (t:=a.length-1) (aF _) O5;rw [PS.mul_c]at F;have G:Yl (λk=>cf (tzl v) k*cf (x.map λc=>α*c) (a.length-1-k)) (a.length-1+1)=0:=F;rw [G]at o;have:=bB hγ (ha.mem D);omega
 have g:tzl v≠[]:=λe=>O5;have cR:∀i,cf (Mw (lmul U a) (lmul V b)) i=(ps U*ps a).c i+(ps V*ps b).c i:=λi=>by rw [Lb,Di,Di,PS.mul_c,PS.mul_c];rfl
 generalize hR:Mw (lmul U a) (lmul V b)=R at cR;have rR:∀t,Zi R t=Zi U t*Zi a t+Zi V t*Zi b t:=λt=>by grind [Xt,Ym]
 have lR:(tzl R).length<=x.length-1:=Zqr λi hi=>O5;have hf:tzl (Mw (lmul U v) ((lmul u V).map λc=>(-1)*c))=[]:=by
  rcases Zg6 (Mw (lmul R v) ((lmul y V).map λc=>(-β)*c)) (Mw (lmul U v) ((lmul u V).map λc=>(-1)*c)) (a.length-1) (y:=a) (λt=>by
   grind [Xt,Zu,Ym]) ha D (λi hi=>by
   rw [Lb,Pk,Zau lR l1 i O1,Zau (m:=y.length) (n:=a.length-x.length+1) (Ns _) (aB (Ns _) (mW lV)) i O1];simp)with B|B
  .omega
  .refine aZ λh8=>?_;grind [List.length_pos_iff]
 have a4:∀t,Zi U t*Zi v t=Zi u t*Zi V t:=λt=>by have:=Zan hf t;grind [Xt,Zu,Ym]
 have a1:∀t,Zi R t*Zi v t=β*Zi y t*Zi V t:=λt=>by grind
 have hw:∀t,(γ:Rat)*Zi V t=Zi v t*Zi (Mw (lmul u' V) ((lmul v' U).map λc=>(-1)*c)) t:=λt=>by rw [Xt,Zu,Ym,Ym,<-e3 t];grind
 generalize Mw (lmul u' V) ((lmul v' U).map λc=>(-1)*c)=w at hw;have hV:tzl V≠[]:=λe=>by
  rcases W with⟨i,hi⟩|⟨i,hi⟩
  .refine hi (Nv (p:=U) (q:=[]) (λt=>?_) i▸Zd3 i);exact Da v (f:=U) g (λt=>by grind [Zan]) t
  grind [tzl_ne]
 have a0:∃c:Int,c≠0/\∀t,Zi w t=(c:Rat):=by
  have j:tzl w≠[]:=λe=>hV ((Iy V).2 λi=>by have:=Nv (p:=V.map λc=>γ*c) (q:=[]) (λt=>by rw [Zu,hw t,Zan e];show _=(0:Rat);simp) i;grind [Pk,Zd3,Int.mul_eq_zero])
  rcases Zg6 (V.map λc=>γ*c) w (a.length-x.length+1) (y:=tzl v) (λt=>by grind [Zu,Ll]) (Qn v) g (λi hi=>by grind [Pk,Yr])with B|B
  .grind
  .have h8:=aH.2 j;have h7:(tzl w).length=1:=O1
   match M:tzl w,h7 with
   | [c],_=>
    refine⟨c,?_,λt=>by rw [<-Ll,M,Oh]⟩;have:=(Qn w).mem j;rw [M]at this;exact this
 obtain⟨c,P,M⟩:=a0;have h:Sim R y:=by
  refine⟨γ,β*c,hγ,bB hβ P,λi=>?_⟩;have:=Nv (p:=R.map λd=>γ*d) (q:=y.map λd=>(β*c)*d) (λt=>by
   rw [Zu,Zu];push_cast;have o:Zi (Mw (R.map λd=>γ*d) (y.map λd=>(-(β*c))*d)) t=0:=Da v g (λt=>by grind [Xt,Zu]) t
   grind [Xt,Zu]) i
  grind [Pk]
 have Z:Sz ((s+1+n)*(a.length+b.length-2*x.length+2)) R:=λi=>by
  rw [cR];have c1:=Yee i lU bU (Ziq na);have c2:=Yee i lV bV (Ziq nb);have H:b.length-x.length+1+(a.length-x.length+1)=a.length+b.length-2*x.length+2:=nn_eq xl I;rw [<-H]at hs ⊢;generalize hN:b.length-x.length+1+(a.length-x.length+1)=N at *;generalize a3:(2*N*2^n)^(N-1)=X at *;have c3:((ps U*ps a).c i+(ps V*ps b).c i).natAbs<=N*(X*2^n):=by rw [<-hN,cN];omega
  refine(Qs _ _).2 (aV c3 ?_);have a2:0<X:=O5;have c4:N*(X*2^n)<(2*N*2^n)^N:=by
   have e:(2*N*2^n)^N=X*(2*N*2^n):=by grind [Nat.pow_succ,Nat.succ_eq_add_one]
   grind [Nat.mul_pos,Nat.pow_pos]
  have c5:2*N*2^n<=2^(s+1+n):=by rw [bW,cJ];exact aJ _ O1
  grind [Nat.pow_le_pow_left,Nat.pow_mul,Nat.lt_of_lt_of_le]
 have o:tzl R≠[]:=λe=>by obtain⟨m,k,hm,S,e9⟩:=h;have:=e9 (y.length-1);rw [(Iy R).1 e,eA]at this;exact bB S (hy.mem h0) this.symm
 have l:Sim (tzl R) y:=by obtain⟨m,k,hm,S,e9⟩:=h;exact⟨m,k,hm,S,λi=>by grind [Ly]⟩
 have F:=(Qm (Qn R)).trans l;have G:∀i,(cf y i).natAbs=(cf (Yb (tzl R)) i).natAbs:=λi=>by
  rcases Zmd (Yu (Qn R)) hy (λe=>o (aC (by grind [Yc]))) (Kv (Qn R) o) hp F with B|B
  all_goals grind
 exact Qy λi=>by rw [G];exact Gf Z.tzl i
def Zwc(g e K:Nat):Prop:=∀l,l<=e->(l+1)*(K*(g+e-2*l+2)+1)<=65536
def Zx8{e g K l:Nat}(h:l<=m):K*(e+g-2*m+2)<=K*(e+g-2*l+2):=bC _ O1
theorem Zh4{C:Nat}(e:y≠[])(n:y.length<x.length)(g:Qc x<=C)(j:Qc y<=C)(h:(x.length+1)*(C+1)<=65536):Bz x y=0:=by have o:=aH.2 e;unfold Bz;have l:(x.length-y.length+1)*(Qc y+1)<=x.length*(C+1):=aP O1 O1;grind
theorem Ygv(n:Inv a b x y)(g:b.length<=a.length)(j:Tr x)(l:Tr y)(e:y≠[]):Inv a b y (Yb (Qu x y)):=by
 obtain⟨k,s,hs⟩:=Cw x e;have h:=Nz (l.mem e) k;generalize cf y _^k=L at hs h;have o:∀t,(L)*Zi x t=Zi s t*Zi y t+Zi (Qu x y) t:=λt=>by have:=Cj L (-1) x s y (Qu x y) (λt=>O5) t;grind
 exact n.next g j l e h o (Qm (Kt j)).symm (by simp_all [Yc,Pg])
theorem Zha(h:Tr p):Yb p=[]\/Yv (Yb p)=1:=by
 by_cases e:p=[]
 .left;rw [e];rfl
 grind [Kv]
theorem Bv(g:Tr x)(e:y≠[]):(Le x y).length<y.length:=by simp_all [Bu,Pg]
theorem Ygu(n:Inv a b x y)(j:b.length<=a.length)(g:Tr x)(h:Tr y)(e:y≠[]):Inv a b y (Le x y)/\(Le x y=[]\/Yv (Le x y)=1):=by
 have B:=aH.2 e;have v:=n.yl;obtain⟨r1,r2,k,u,w⟩:=Zci h e x.length x g O1;have hs:=Zef x.length g h e O1 O1;have l:Tr (Zi5 (Fa x.length x y)):=Ql _ _;have o:Ev y^k≠0:=Nz (by have:=Zg2 h e;omega) _;constructor
 .refine n.next (z':=Fa x.length x y) (q:=u) j g h e o (λt=>?_) ?_ (Bv g e)
  .have:=Cj (Ev y^k) (-1) x u y (Fa x.length x y) (λt=>O5) t;grind
  .rw [<-hs];exact Sim.trans ⟨1,-1,O1,O1,λi=>by grind [Za1]⟩ (Qm l).symm
 grind [Zha]
theorem Ydy{a b:List Int}{n s K:Nat}(g:b.length<=a.length)(G:Tr a)(M:Sz n a)(N:Sz n b)(hs:a.length+b.length<=2^s)(D:s+1+n<=K)(F:Zwc a.length b.length K) :
  ∀(f:Nat) (x y:List Int),Inv a b x y->Tr x->Tr y->(y=[]\/Yv y=1)->Qc x<=K*(a.length+b.length-2*x.length+2)->y.length<=f->eok f x y/\Qc (eu f x y)<=K*(a.length+b.length)
 | 0,x,y,e,v,w,H,o,R=>by have l:=e.yl;refine⟨aC O1,aB o (bC _ (by have:=e.xl;omega))⟩
 | f+1,x,y,e,v,w,H,o,R=>by
  have B:=e.yl;have l:=e.xl;by_cases h:y=[]
  .subst h;refine⟨.inl rfl,?_⟩;exact aB o (bC _ O1)
  .have P:=e.bound g G v w h (H.resolve_left h) M N (s:=s) O1;have j:=aB P (aJ _ D);have Q:=Zh4 h B o j (F _ l);have I:=Kt (q:=y) v;have S:=Ydy g G M N hs D F f y _ (Ygv e g v w h) w (Yu I) (Zha I) (aB j (Zx8 O1)) (by rw [Yc];have:=Pg x h;omega);refine⟨.inr ⟨Q,S.1⟩,?_⟩;rw [show eu _ x y=eu f y (Yb (Qu x y)) by
     conv=>lhs;unfold eu
     grind]
   omega
theorem Yeh{a b:List Int}{n s K:Nat}(j:b.length<=a.length)(H:Tr a)(N:Sz n a)(P:Sz n b)(hs:a.length+b.length<=2^s)(F:s+1+n<=K)(G:Zwc a.length b.length K) :
  ∀(f:Nat) (x y:List Int),Inv a b x y->Tr x->Tr y->(y=[]\/Yv y=1)->Qc x<=K*(a.length+b.length-2*x.length+2)->y.length<=f->cok f x y/\∀p∈Mg f x y,Qc p<=K*(a.length+b.length)/\p.length<=a.length
 | 0,x,y,h,v,B,e,o,S=>by
  have w:=h.yl;have I:=h.xl;have g:y=[]:=aC O1;refine⟨g,λp e=>?_⟩;have:p=x:=by unfold Mg at e;grind
  rw [this];exact⟨aB o (bC _ O1),O1⟩
 | f+1,x,y,h,v,B,e,o,S=>by
  have D:=h.yl;have w:=h.xl;by_cases g:y=[]
  .subst g;refine⟨.inl rfl,λp e=>?_⟩;rw [Du]at e;have:p=x:=O5;rw [this];exact⟨aB o (bC _ O1),O1⟩
  .have Q:=h.bound j H v B g (e.resolve_left g) N P (s:=s) O1;have l:=aB Q (aJ _ F);have R:=Zh4 g D o l (G _ w);obtain⟨V,W⟩:=Ygu h j v B g;have M:=Yeh j H N P hs F G f y _ V B (Zc9 v) W (aB l (Zx8 O1)) (by have:=Bv v g;omega);refine⟨.inr ⟨R,O1,M.1⟩,λp e=>?_⟩;unfold Mg at e;rw [aK g]at e;rcases aX.1 e with rfl|e
   .exact⟨aB o (bC _ O1),O1⟩
   .exact M.2 p e
theorem Ydz (s:Nat)(K:Nat){n f:Nat}(j:b.length<a.length)(h:Tr a)(l:Tr b)(w:Sz n a)(B:Sz n b)(hs:a.length+b.length<=2^s)(F:s+1+n<=K)(H:Zwc a.length b.length K)(I:(a.length+1)*(n+1)<=65536)(S:b.length<=f) :
  eok f a b/\Qc (eu f a b)<=K*(a.length+b.length):=by
 have Q:=Qy w;have R:=Qy B;have G:n<=K*(a.length+b.length):=aB (by omega:n<=K*1) (bC _ O1);by_cases e:b=[]
 .subst e;cases f with
  | zero=>exact⟨rfl,by grind [Bj]⟩
  | succ f=>exact⟨.inl rfl,by grind [Bj]⟩
 .have V:=aH.2 e;obtain⟨g,rfl⟩:∃g,f=g+1:=⟨f-1,O1⟩;have o:=Kt (q:=b) h;obtain⟨k,q,N⟩:=Cw a e;have v:=Nz (l.mem e) k;generalize cf b _^k=L at N v;have M:∀t,(L)*Zi a t=Zi q t*Zi b t+Zi (Qu a b) t:=λt=>by have:=Cj L (-1) a q b (Qu a b) (λt=>O5) t;grind
  have D:=Inv.first O1 h l e v M (Qm o).symm (by simp_all [Yc,Pg]);have P:=Ydy O1 h w B hs F H g b _ D l (Yu o) (Zha o) (aB (by omega:Qc b<=K*1) (bC _ O6)) (by rw [Yc];have:=Pg a e;omega);refine⟨.inr ⟨Zh4 e j Q R I,P.1⟩,?_⟩;rw [show eu _ a b=eu g b (Yb (Qu a b)) by
    conv=>lhs;unfold eu
    grind]
  omega
theorem Ytf{n s K f:Nat}(w:b.length<a.length)(j:Tr a)(l:Tr b)(F:Sz n a)(G:Sz n b)(hs:a.length+b.length<=2^s)(I:s+1+n<=K)(N:Zwc a.length b.length K)(P:(a.length+1)*(n+1)<=65536)(V:b.length<=f) :
  cok f a b/\∀p∈Mg f a b,Qc p<=K*(a.length+b.length)/\p.length<=a.length:=by
 have R:=Qy F;have S:=Qy G;have M:n<=K*(a.length+b.length):=aB (by omega:n<=K*1) (bC _ O1);by_cases e:b=[]
 .subst e;have h:∀p∈Mg f a [],Qc p<=K*(a.length+([]:List Int).length)/\p.length<=a.length:=λp o=>by rw [Du]at o;grind
  cases f with
  | zero=>exact⟨rfl,h⟩
  | succ f=>exact⟨.inl rfl,h⟩
 .have Z:=aH.2 e;obtain⟨g,rfl⟩:∃g,f=g+1:=⟨f-1,O1⟩;obtain⟨r1,r2,k,u,W⟩:=Zci l e a.length a j O1;have B:=Zef a.length j l e O1 O1;have D:Tr (Zi5 (Fa a.length a b)):=Ql _ _;have v:Ev b^k≠0:=Nz (by have:=Zg2 l e;omega) _;have H:=by
   refine Inv.first (z':=Fa a.length a b) (q:=u) O1 j l e v (λt=>?_) ?_ (Bv j e)
   .have:=Cj (Ev b^k) (-1) a u b (Fa a.length a b) (λt=>O5) t;grind
   .rw [<-B];exact Sim.trans ⟨1,-1,O1,O1,λi=>by grind [Za1]⟩ (Qm D).symm
  have o:Le a b=[]\/Yv (Le a b)=1:=by grind [Zha]
  have Q:=Yeh O1 j F G hs I N g b _ H l (Zc9 j) o (aB (by omega:Qc b<=K*1) (bC _ O6)) (by have:=Bv j e;omega);refine⟨.inr ⟨Zh4 e w R S P,O1,Q.1⟩,λp o=>?_⟩;unfold Mg at o;grind
def al:List Int->List Int->List Int
 | [],g=>g
 | a::f,[]=>a::f
 | a::f,b::g=>(a+b)::al f g
def scl(c:Int)(f:List Int):List Int:=f.map (c*·)
def ddl(k:Nat):List Int->List Int
 | []=>[]
 | b::g=>(k:Int)*b::ddl (k+1) g
def dl(f:List Int):List Int:=ddl 1 f.tail
def xl:List Int->List Int
 | []=>[]
 | a::f=>0::a::f
def fc:Nat->Int
 | 0=>1
 | k+1=>((k:Int)+1)*fc k
def Gw:Nat->List Int->List Int->Int
 | k,a::f,b::g=>fc k*(a*b)+Gw (k+1) f g
 | _,_,_=>0
theorem Zs0(k:Nat)(f:List Int):Gw k f []=0:=by cases f<;>rfl
theorem Yo5(f:List Int):al f []=f:=by cases f<;>rfl
theorem Yfa:∀f g:List Int,al f g=al g f
 | [],g=>(Yo5 g).symm
 | a::f,[]=>rfl
 | a::f,b::g=>by show(a+b)::al f g=(b+a)::al g f;rw [Yfa f g,iP]
theorem Zye:∀f g h:List Int,al (al f g) h=al f (al g h)
 | [],g,h=>rfl
 | a::f,[],h=>rfl
 | a::f,b::g,[]=>rfl
 | a::f,b::g,c::h=>by show(a+b+c)::al _ h=(a+(b+c))::al f _;rw [Zye f g h,Int.add_assoc]
instance:Std.Commutative al:=⟨Yfa⟩
instance:Std.Associative al:=⟨Zye⟩
theorem Yji(c:Int):∀f g,scl c (al f g)=al (scl c f) (scl c g)
 | [],g=>rfl
 | a::f,[]=>rfl
 | a::f,b::g=>by show c*(a+b)::scl c _=(c*a+c*b)::al (scl c f) (scl c g);rw [Yji c f g,kJ]
theorem Ybz(c d:Int):∀f,scl (c+d) f=al (scl c f) (scl d f)
 | []=>rfl
 | a::f=>by show(c+d)*a::scl _ f=(c*a+d*a)::al (scl c f) (scl d f);rw [Ybz c d f,nC]
theorem Zk4:∀f,scl 1 f=f
 | []=>rfl
 | a::f=>by show 1*a::scl 1 f=a::f;rw [Zk4 f,gQ]
theorem Yno:∀k f g,ddl k (al f g)=al (ddl k f) (ddl k g)
 | k,[],g=>rfl
 | k,a::f,[]=>rfl
 | k,a::f,b::g=>by show(k)*(a+b)::ddl _ _=((k)*a+(k)*b)::al _ _;rw [Yno _ f g,kJ]
theorem Yd7(c:Int):∀k f,ddl k (scl c f)=scl c (ddl k f)
 | k,[]=>rfl
 | k,a::f=>by show(k)*(c*a)::ddl _ (scl c f)=c*((k)*a)::scl c _;rw [Yd7 c _ f,Int.mul_left_comm]
theorem Zxo:∀k f,ddl (k+1) f=al f (ddl k f)
 | k,[]=>rfl
 | k,a::f=>by show((k+1))*a::ddl _ f=(a+(k)*a)::al f _;rw [Zxo _ f];grind
def dl_al:∀f g,dl (al f g)=al (dl f) (dl g)
 | [],g=>rfl
 | a::f,[]=>(Yo5 _).symm
 | a::f,b::g=>Yno 1 f g
def dl_scl(c:Int):∀f,dl (scl c f)=scl c (dl f)
 | []=>rfl
 | a::f=>Yd7 c 1 f
theorem dl_x:∀f,dl (xl f)=al f (xl (dl f))
 | []=>rfl
 | [a]=>by show(((1))*a::[])=[a];simp
 | a::b::f=>by show((1))*a::ddl _ _=(a+0)::al _ (ddl 1 (b::f));simp [Zxo,gQ,gX]
def xl_al:∀f g,xl (al f g)=al (xl f) (xl g)
 | [],g=>rfl
 | a::f,[]=>rfl
 | a::f,b::g=>rfl
theorem xl_scl(c:Int):∀f,xl (scl c f)=scl c (xl f)
 | []=>rfl
 | a::f=>by show 0::c*a::scl c f=c*0::c*a::scl c f;simp
theorem Zds:∀k f g,Gw k f g=Gw k g f
 | k,[],g=>(Zs0 k g).symm
 | k,a::f,[]=>rfl
 | k,a::f,b::g=>by show fc k*(a*b)+Gw _ f g=fc k*(b*a)+Gw _ g f;rw [Zds _ f g,gF a b]
theorem Zns:∀k f g h,Gw k (al f g) h=Gw k f h+Gw k g h
 | k,[],g,h=>by show Gw k g h=0+Gw k g h;omega
 | k,a::f,[],h=>(gX _).symm
 | k,a::f,b::g,[]=>rfl
 | k,a::f,b::g,c::h=>by show fc k*((a+b)*c)+Gw _ _ h=fc k*(a*c)+Gw _ f h+(fc k*(b*c)+Gw _ g h);rw [Zns _ f g h];grind
theorem Znr(k:Nat)(h f g:List Int):Gw k h (al f g)=Gw k h f+Gw k h g:=by grind [Zds,Zns]
theorem Zht(c:Int):∀k f g,Gw k (scl c f) g=c*Gw k f g
 | k,[],g=>(eA c).symm
 | k,a::f,[]=>(eA c).symm
 | k,a::f,b::g=>by show fc k*(c*a*b)+Gw _ (scl c f) g=c*(fc k*(a*b)+Gw _ f g);rw [Zht c _ f g];grind
theorem Zsz(c:Int)(k:Nat)(f g:List Int):Gw k f (scl c g)=c*Gw k f g:=by grind [Zds,Zht]
theorem Ymy:∀k f g,Gw (k+1) f g=Gw k f (ddl (k+1) g)
 | k,[],g=>rfl
 | k,a::f,[]=>rfl
 | k,a::f,b::g=>by show((k)+1)*fc k*(a*b)+Gw _ f g=fc k*(a*(((k+1))*b))+Gw _ f _;rw [Ymy _ f g];grind
theorem fip_x:∀f g,Gw 0 (xl f) g=Gw 0 f (dl g)
 | [],g=>rfl
 | a::f,[]=>rfl
 | a::f,b::g=>by show fc 0*(0*b)+Gw 1 _ g=Gw 0 _ (ddl 1 g);simp [cK,eA,kV,Ymy]
theorem Ymv(f g:List Int):Gw 0 f (xl g)=Gw 0 (dl f) g:=by grind [Zds,fip_x]
def Mq:List Int->Nat->List Int->List Int
 | [],_,_=>[]
 | c::q,0,g=>al (scl c g) (xl (Mq q 0 g))
 | c::q,j+1,g=>al (xl (Mq q (j+1) g)) (Mq q j g)
def Hq:List Int->Nat->List Int->List Int
 | [],_,_=>[]
 | c::p,0,f=>al (scl c f) (Hq p 0 (dl f))
 | c::p,k+1,f=>al (Hq p (k+1) (dl f)) (Hq p k f)
theorem Yd5:∀q j g,dl (Mq q j g)=al (Mq q j (dl g)) (scl ((j:Int)+1) (Mq q (j+1) g))
 | [],j,g=>rfl
 | c::q,0,g=>by
  show dl (al _ _)=al (al _ _) (scl _ (al _ _));rw [dl_al,dl_scl,dl_x,Yd5 q 0 g,xl_al];rw [show((0:Nat):Int)+1=1 from rfl,Zk4,Zk4]
  ac_rfl
 | c::q,j+1,g=>by
  show dl (al _ _)=al (al _ _) (scl _ (al _ _));rw [dl_al,dl_x,Yd5 q _ g,Yd5 q j g,xl_al,xl_scl,Yji];rw [show scl (((j+1:Nat))+1) (Mq q _ g)=al (scl ((j)+1) (Mq q (j+1) g)) (Mq q (j+1) g) by simp [Ybz,Zk4]]
  grind
theorem Zlk:∀q j f g,Gw 0 f (Mq q j g)=Gw 0 (Hq q j f) g
 | [],j,f,g=>Zs0 0 f
 | c::q,0,f,g=>by show Gw 0 f (al _ _)=Gw 0 (al _ _) g;rw [Znr,Zns,Zsz,Zht,Ymv,Zlk q 0 _ g]
 | c::q,j+1,f,g=>by show Gw 0 f (al _ _)=Gw 0 (al _ _) g;rw [Znr,Zns,Ymv,Zlk q _ _ g,Zlk q j f g]
def wfa:Nat->Nat->Int
 | j,0=>1
 | j,k+1=>((j:Int)+1)*wfa (j+1) k
theorem Zqp:∀k j,0<wfa j k
 | 0,j=>by show(0)<1;omega
 | k+1,j=>eZ O6 (Zqp k _)
theorem Znq:∀(p q:List Int) (j:Nat) (f g:List Int) (K:Nat),p.length<=K->Gw 0 (Mq p 0 f) (Mq q j g)=Yl (λk=>wfa j k*Gw 0 (Hq q (j+k) f) (Hq p k g)) K
 | [],q,j,f,g,K,_=>by rw [Gl (λk h=>by show wfa j k*Gw 0 _ []=0;rw [Zs0,eA])];rfl
 | c::p,q,j,f,g,K,hK=>by
  obtain⟨e,rfl⟩:∃e,K=e+1:=⟨K-1,O5⟩;have l:p.length<=e:=O5;have n:=Znq p q j f (dl g) (e+1) O1;have w:=Znq p q (j+1) f g e l;show Gw 0 (al _ _) _=_;rw [Zns,Zht,fip_x,Yd5,Znr,Zsz,n,Zlk];rw [Ld,Ld _];have o:Gw 0 (Hq q (j+0) f) (Hq (c::p) 0 g)=c*Gw 0 (Hq q j f) g+Gw 0 (Hq q j f) (Hq p 0 (dl g)):=by show Gw 0 (Hq q j f) (al _ _)=_;rw [Znr,Zsz]
  have v:Yl (λk=>wfa j (k+1)*Gw 0 (Hq q (j+(k+1)) f) (Hq (c::p) (k+1) g)) e=Yl (λk=>wfa j (k+1)*Gw 0 (Hq q (j+(k+1)) f) (Hq p (k+1) (dl g))) e+((j)+1)*Yl (λk=>wfa (j+1) k*Gw 0 (Hq q (j+1+k) f) (Hq p k g)) e:=by rw [<-Mn,<-Fy];refine Xr λk h=>?_;show _*Gw 0 _ (al _ _)=_;rw [Znr];show((j)+1)*wfa _ k*_=((j)+1)*wfa _ k*_+_;grind
  show _=(1)*_+_;show _*_+((1)*_+_+_)=_;grind
theorem Zqw(a:Int):0<=a*a:=by
 rcases Int.le_total 0 a with h|h
 .exact dU h h
 .have:=dU (show 0<=-a by omega) (show 0<=-a by omega);grind
theorem Zjh:∀k,1<=fc k
 | 0=>O4
 | k+1=>by have h:=Zjh k;show 1<=((k)+1)*fc k;have e:=jK (show(1:Int)<=(k)+1 by omega) h O4 O1;omega
theorem Ymz(k:Nat)(f:List Int)(b:Int)(g:List Int):Gw k f (b::g)=fc k*(cf f 0*b)+Gw (k+1) f.tail g:=by
 cases f with
 | nil=>show(0)=fc k*(0*b)+Gw _ [] g;rw [cK,eA];rfl
 | cons a f=>rfl
theorem Yoi(f:List Int)(i:Nat):cf f.tail i=cf f (i+1):=by cases f<;>rfl
theorem Zs2:∀k (f e g:List Int),(∀i,cf f i=cf e i)->Gw k f g=Gw k e g
 | k,f,e,[],h=>by grind [Zs0]
 | k,f,e,b::g,h=>by rw [Ymz,Ymz,h 0,Zs2 _ _ e.tail g λi=>by rw [Yoi,Yoi,h]]
theorem Zs1:∀k f,0<=Gw k f f
 | k,[]=>eP _
 | k,a::f=>by show 0<=fc k*(a*a)+Gw _ f f;have e:=Zs1 (k+1) f;have g:=dU (show 0<=fc k by have:=Zjh k;omega) (Zqw a);omega
theorem Ymx:∀k f i,cf f i*cf f i<=Gw k f f
 | k,[],i=>by exact eP _
 | k,a::f,0=>by show a*a<=fc k*(a*a)+Gw _ f f;have e:=Zs1 (k+1) f;have g:=eK (Zjh k) (Zqw a);omega
 | k,a::f,i+1=>by show cf f i*cf f i<=fc k*(a*a)+Gw _ f f;have e:=Ymx (k+1) f i;have g:=dU (show 0<=fc k by have:=Zjh k;omega) (Zqw a);omega
def fcs:Nat->Nat->Int
 | k,0=>0
 | k,n+1=>fc k+fcs (k+1) n
theorem Ym3:∀n k,0<=fcs k n
 | 0,k=>eP _
 | n+1,k=>by have h:=Ym3 n (k+1);have:=Zjh k;show 0<=fc k+fcs _ n;omega
theorem Ymw:∀n k (f:List Int) (A:Int),f.length<=n->(∀x∈f,x*x<=A)->0<=A->Gw k f f<=fcs k n*A
 | n,k,[],A,_,_,e=>dU (Ym3 n k) e
 | 0,k,a::f,A,h,_,_=>O5
 | n+1,k,a::f,A,h,hx,e=>by have j:=Ymw n (k+1) f A (by simpa using h) (λx g=>hx x (bH _ g)) e;have l:=gR (hx a (bR ..)) (show 0<=fc k by have:=Zjh k;omega);show fc k*(a*a)+Gw _ f f<=(fc k+fcs _ n)*A;rw [nC];omega
theorem Ya9:∀p k f,p.length<=k->Hq p k f=[]
 | [],k,f,_=>by all_goals rfl
 | c::p,0,f,h=>O5
 | c::p,k+1,f,h=>by
  show al _ _=[];have e:=by simpa using h
  rw [Ya9 p _ _ O1,Ya9 p k _ e];rfl
theorem Ypf:∀p k f,p.length=k+1->Hq p k f=scl (cf p k) f
 | [],k,f,h=>O5
 | [c],0,f,h=>Yo5 _
 | c::d::p,0,f,h=>O5
 | c::p,k+1,f,h=>by
  have e:=by simpa using h
  show al _ _=scl _ f;rw [Ya9 p _ _ O1,Ypf p k f e];rfl
theorem Yon:∀f g i,cf (al f g) i=cf f i+cf g i
 | [],g,i=>by rw [Yr (p:=[]) O6,kV];rfl
 | a::f,[],i=>by rw [Yr (p:=[]) O6,gX];rfl
 | a::f,b::g,0=>rfl
 | a::f,b::g,i+1=>Yon f g i
def Yok(c:Int)(f:List Int)(i:Nat):cf (scl c f) i=c*cf f i:=Zf7 f _ (eA c) i
theorem cf_xl0(f:List Int):cf (xl f) 0=0:=by cases f<;>rfl
theorem cf_xl(f:List Int)(i:Nat):cf (xl f) (i+1)=cf f i:=by cases f<;>rfl
theorem cf_Mq:∀p f i,cf (Mq p 0 f) i=(ps p*ps f).c i
 | [],f,i=>by rw [PS.mul_c,Gl (λk _=>by simp [Md,Yr,cK])];rfl
 | c::p,f,0=>by show cf (al _ _) 0=_;rw [Yon,Yok,cf_xl0,PS.mul_c,Ld,gX];exact(gX _).symm
 | c::p,f,i+1=>by show cf (al _ _) _=_;rw [Yon,Yok,cf_xl,cf_Mq p f i,PS.mul_c,PS.mul_c,Ld _ (i+1)];refine aD _ (Xr λk e=>?_);show cf p k*cf f _=cf p k*cf f _;simp
theorem Yg7{s v:List Int}{n L e:Nat}(hu:Tr u)(B:Tr v)(hs:Sz n s)(G:s≠[])(V:s.length<=L)(Q:fcs 0 L<=2^e*2^e)(h:s=Qx u v):Sz (n+e) u:=by
 have a0:v≠[]:=λe=>G (by grind [Zcn]);obtain⟨m,Z⟩:∃m,v.length=m+1:=⟨v.length-1,by grind [List.length_pos_iff]⟩;have w:cf v m≠0:=by
  rcases B with B|B
  all_goals grind
 have l:∀i,cf (Mq v 0 u) i=cf s i:=λi=>by rw [cf_Mq,h,Ca,Gv]
 have g:=Znq v v 0 u u (m+1) O1;rw [Zs2 0 _ s _ l,Zds,Zs2 0 _ s _ l,Yp,cH,Ypf v m u Z,Zht,Zsz]at g;have j:∀t,0<=Yl (λk=>wfa 0 k*Gw 0 (Hq v (0+k) u) (Hq v k u)) t:=λt=>by
  induction t with
  | zero=>exact eP _
  | succ t ih=>
   rw [Yp,cH];have:=dU (show 0<=wfa 0 t by have:=Zqp t 0;omega) (Zs1 0 (Hq v t u));omega
 have hr:=j m;have P:1<=cf v m*cf v m:=by have h1:=Zqw (cf v m);grind [Int.mul_eq_zero]
 have R:=Zs1 0 u;have h3:Gw 0 u u<=cf v m*(cf v m*Gw 0 u u):=by have:=eK P R;grind
 have h4:=by have:=eK (show 1<=wfa 0 m from Zqp m 0) (show 0<=cf v m*(cf v m*Gw 0 u u) by omega);omega
 intro i;rw [Qs];have h5:=Ymx 0 u i;have M:∀x∈s,x*x<=(2^n-1)*(2^n-1):=λx hx=>by
  have hb:x.natAbs<2^n:=(Qs n _).1 (hs.mem hx);have N:((2^n:Nat):Int)=2^n:=by rfl
  have p1:x<=2^n-1:=O1;have p2:-(2^n-1)<=x:=O1;generalize (2:Int)^n-1=y at *;have:=dU (show 0<=y-x by omega) (show 0<=y+x by omega);grind
 have hp:(1:Int)<=2^n:=by exact_mod_cast cD (n:=n) (show 0<2 by omega)
 have F:(1:Int)<=2^e:=by exact_mod_cast cD (n:=e) (show 0<2 by omega)
 have h6:=Ymw L 0 s _ V M (dU O1 O1);have h7:=by have:=eK Q (show(0:Int)<=(2^n-1)*(2^n-1)from dU O1 O1);omega
 rcases aW (cf u i).natAbs (2^(n+e))with W|S
 .omega
 .exfalso;have D:(2^n*2^e:Int)<=((cf u i).natAbs:Int):=O5;have I:((cf u i).natAbs:Int)*((cf u i).natAbs:Int)=cf u i*cf u i:=Int.natAbs_mul_self;have o:=jK D D (dU O1 O1) O6;rw [I]at o;generalize (2:Int)^n=X at *;generalize (2:Int)^e=Y at *;have H:(Y*Y)*((X-1)*(X-1))<(Y*Y)*(X*X):=by have hy:=jK F F O1 O1;refine Int.mul_lt_mul_of_pos_left ?_ O1;grind
  grind
end Go.Sky

