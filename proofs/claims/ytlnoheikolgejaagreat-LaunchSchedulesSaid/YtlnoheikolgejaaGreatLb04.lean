/- Rules, arithmetic and contracts: part 5. No conditions but those that each theorem names. -/
import Derived.Test.YtlnoheikolgejaaGreatLb03
set_option linter.all false
namespace Go.Sky
variable{c Y:Int}{y x d p q a u b xs:List Int}{m i:Nat}{s η ε t δ:Rat}{f:Rat->Rat}{z:List (SL×List (Int×SL))}{fs r:List (Rat->Rat)}{ls:List (List Int)}
def Zeg : c.sign<0↔c<0:=Ob c
theorem Yjv{n:Nat}(g:y.length=n)(e:c=cf y (n-1))(h:c.sign<0):Er y=-c:=by subst g;unfold Er;rw [<-e,aM (Zeg.1 h)]
theorem Yju{n:Nat}(j:y.length=n)(g:c=cf y (n-1))(h:¬c.sign<0):Er y=c:=by subst j;unfold Er;rw [<-g,aJ (λe=>h (Zeg.2 e))]
theorem rb_n{d:Int}{n:Nat}(k:y.length=n)(j:x.length=m)(e:c=cf y (n-1))(g:d=cf x (m-1))(h:c.sign<0):rb x y=-d:=by subst k j;unfold rb;rw [<-e,aM (Zeg.1 h),g]
theorem rb_p{d:Int}{n:Nat}(l:y.length=n)(k:x.length=m)(g:c=cf y (n-1))(j:d=cf x (m-1))(h:¬c.sign<0):rb x y=d:=by subst l k;unfold rb;rw [<-g,aJ (λe=>h (Zeg.2 e)),j]
theorem Yey(y:List Int):bl (Er y).natAbs<=Xw y:=by
 have:=Pd y (y.length-1);unfold Er;split
 .rwa [dX]
 .exact this
theorem bl_rb(x y:List Int):bl (rb x y).natAbs<=Xw x:=by
 have:=Pd x (x.length-1);unfold rb;split
 .rwa [dX]
 .exact this
theorem Zcb{n:Nat}(e:Sz n p)(j:bl c.natAbs<=m):Sz (n+m) (Zy p c):=λi=>by rw [Yo];have g:=Yw (cf p i) c;have h:=e i;omega
theorem Yh8{n:Nat}(e:Sz n p)(g:Sz n q):Sz (n+1) (Bj p q):=λi=>by rw [Hd];have h:=Am (cf p i) (cf q i);have j:=e i;have k:=g i;omega
theorem sz_shm'{s:Nat} : Sz (Xw x+Xw y) (shm y (rb x y) s i):=Zq5 λt=>by have e:=Yw (rb x y) (cf y t);have g:=bl_rb x y;have h:=Pd y t;omega
theorem Zp4(x y:List Int):Xw (Dn x y)<=Xw x+Xw y+1:=by refine Qv ?_;unfold Dn;exact Yh8 (Zcb (Pd x) (Yey y)) sz_shm'
theorem Yft{f S:Nat}(h:0<y.length)(e:y.length<=x.length)(o:x.length<y.length+f)(l:Tr x)(k:Xw x+f*(Xw y+1)<=S) :
  ∃g,f=g+1/\Fa f x y=Fa g (Dn x y) y/\(Dn x y).length<y.length+g/\Tr (Dn x y)/\Xw (Dn x y)+g*(Xw y+1)<=S/\(Dn x y).length<x.length:=by
 obtain⟨g,rfl⟩:∃g,f=g+1:=⟨f-1,O⟩;have j:=Zhr l h e;have n:=Zp4 x y;refine⟨g,rfl,?_,O,Zam _ _,?_,j⟩
 .rw [Fa,aJ O]
 .rw [dO]at k;omega
theorem Yji{f:Nat}(h:x.length<y.length):Fa f x y=x:=by
 cases f with
 | zero=>rfl
 | succ f=>rw [Fa,aM h]
theorem Zv8(y:List Int):∀(f:Nat) (x:List Int),Xw (Fa f x y)<=Xw x+f*(Xw y+1)
 | 0,x=>by rw [Fa];omega
 | f+1,x=>by
  rw [Fa];split
  .omega
  .have e:=Zv8 y f (Dn x y);have g:=Zp4 x y;rw [dO];omega
theorem Ygt{L:List (List Int)}(h:Bs z=L):z.length=L.length:=by rw [<-h];simp
theorem Zth{n l x:Int}(e:-1<=l)(g:l<=1)(h:-1<=x)(j:x<=1):Nh (n,l) x=(if x*l<0 then n+1 else n,if x≠0 then x else l):=by
 obtain rfl|rfl|rfl:l=-1\/l=0\/l=1:=O
 all_goals obtain rfl|rfl|rfl:x=-1\/x=0\/x=1:=O
 all_goals simp [Nh]
theorem Yb1{n l x:Int}(e:-1<=l)(g:l<=1)(h:-1<=x)(j:x<=1)(k:x*l<0)(o:x≠0):Nh (n,l) x=(n+1,x):=by rw [Zth e g h j,aM k,aM o]
theorem Yb0{n l x:Int}(e:-1<=l)(g:l<=1)(h:-1<=x)(j:x<=1)(k:x*l<0)(o:¬x≠0):Nh (n,l) x=(n+1,l):=by rw [Zth e g h j,aM k,aJ o]
theorem Ybz{n l x:Int}(e:-1<=l)(g:l<=1)(h:-1<=x)(j:x<=1)(k:¬x*l<0)(o:x≠0):Nh (n,l) x=(n,x):=by rw [Zth e g h j,aJ k,aM o]
theorem Yby{n l x:Int}(e:-1<=l)(g:l<=1)(h:-1<=x)(j:x<=1)(k:¬x*l<0)(o:¬x≠0):Nh (n,l) x=(n,l):=by rw [Zth e g h j,aJ k,aJ o]
theorem Zed (l:List Int)(i:Nat){n m:Int}(hi:i<l.length)(h:(n,m)=(l.take i).foldl Nh (0,0)):(l.take (i+1)).foldl Nh (0,0)=Nh (n,m) (l.getD i 0):=by rw [Qx 0 l i hi,Zcr,h]
theorem mul_r{x m:Int}(h:-1<=x)(j:x<=1)(e:-1<=m)(g:m<=1):-9223372036854775808<=x*m/\x*m<=9223372036854775807:=by
 obtain rfl|rfl|rfl:m=-1\/m=0\/m=1:=O
 all_goals obtain rfl|rfl|rfl:x=-1\/x=0\/x=1:=O
 all_goals decide
def ev_b{x y:Int}(hs:Sz 1000000 p)(e:p.length<=30)(g:bl x.natAbs<=1000000)(h:bl y.natAbs<=1000000):bl (pev p x y).natAbs<=100000010:=
 Ztn (λt _=>ev_tb hs (λk=>Zao g k) (λk=>Zao h k) e t) O
theorem Ygs{L:List (List Int)}(h:Bs z=L)(f:List Int->Int)(hi:i<z.length):(L.map f).getD i 0=f (Zb (z.getD i T0).2):=by subst h;simp only [aK,eT,aN hi];rfl
inductive SV:List Int->List Int->Prop
 | one (a:Int):SV [a] [a]
 | step (a:Int) (r t:List Int):SV r t->SV (a::r) (a::t)
 | skip (a u w:Int) (r t:List Int):(a=1\/a=-1)->(-1<=u/\u<=1)->(-1<=w/\w<=1)->SV (-a::r) (-a::t)->SV (a::u::-a::r) (a::w::-a::t)
theorem Zqk{s:Int×Int}{a u:Int}(g:a=1\/a=-1)(h:-1<=u/\u<=1):Nh (Nh (Nh s a) u) (-a)=Nh (Nh s a) (-a):=by obtain⟨n,l⟩:=s;have e:u=-1\/u=0\/u=1:=O;rcases g with rfl|rfl<;>rcases e with rfl|rfl|rfl<;>simp [Nh]
theorem SV.fold(h:SV a b):∀s,a.foldl Nh s=b.foldl Nh s:=by
 induction h with
 | one a=>intro s;rfl
 | step a r t _ e=>intro s;exact e (Nh s a)
 | skip a u w r t g j k _ e=>
  intro s;show(r.foldl Nh (Nh (Nh (Nh s a) u) (-a)))=(t.foldl Nh (Nh (Nh (Nh s a) w) (-a)));rw [Zqk g j,Zqk g k];exact e (Nh s a)
def SV.chg(h:SV a b):chg a=chg b:=aD Prod.fst (h.fold (0,0))
def Eo(x:Rat):Int:=if x<0 then -1 else if x=0 then 0 else 1
theorem Yjg{x:Rat}:-1<=Eo x/\Eo x<=1:=by unfold Eo;split;decide;split<;>decide
theorem Zap{x:Rat}(h:0<x):Eo x=1:=by unfold Eo;rw [aJ O4,aJ O4]
theorem Zaq{x:Rat}(h:x<0):Eo x=-1:=by unfold Eo;rw [aM h]
def Big(η x:Rat)(f:Rat->Rat):Prop:=η<f x\/f x < -η
def Tri(η x:Rat):(Rat->Rat)->List (Rat->Rat)->Prop
 | _,[]=>True
 | _,[g]=>Big η x g
 | f,g::k::r=>(Big η x g/\Tri η x g (k::r))\/(Big η x k/\f x*k x<0/\Tri η x k r)
def Near(η x y:Rat)(f:Rat->Rat):Prop:=f x-f y<=η/\f y-f x<=η
theorem Ztu{x y:Rat}(g:0<=η)(h:Big η x f)(e:Near η x y f):Eo (f x)=Eo (f y)/\(Eo (f x)=1\/Eo (f x)=-1):=by
 obtain⟨j,k⟩:=e;rcases h with h|h
 .rw [Zap O4,Zap O4];exact⟨rfl,.inl rfl⟩
 .rw [Zaq O4,Zaq O4];exact⟨rfl,.inr rfl⟩
theorem opp_sg{a b:Rat}(h:a*b<0):Eo b=- Eo a:=by
 rcases(show a<0\/a=0\/0<a by grind)with g|g|g
 .rw [Zaq g,Zap (by
   rcases(show b<=0\/0<b by grind)with e|e
   .have:=aG (a:=-a) (b:=-b) O4 O4;grind
   .exact e)];rfl
 .subst g;grind
 .rw [Zap g,Zaq (by
   rcases(show 0<=b\/b<0 by grind)with e|e
   .have:=aG (a:=a) (b:=b) O4 e;grind
   .exact e)]
theorem Zqx{η x y:Rat}(o:0<=η):∀(n:Nat) (f:Rat->Rat) (fs:List (Rat->Rat)),fs.length<=n->Big η x f->(∀g∈f::fs,Near η x y g)->Tri η x f fs->
  SV ((f::fs).map λg=>Eo (g x)) ((f::fs).map λg=>Eo (g y))
 | _,f,[],_,D,e,_=>by have:=(Ztu o D (e f (cH ..))).1;simp only [bH,eS,this];exact SV.one _
 | 0,f,g::r,F,_,_,_=>absurd F O5
 | n+1,f,[g],F,D,e,v=>by have B:=(Ztu o D (e f (cH ..))).1;have h:=Zqx o n g [] O5 v (λk w=>e k (bX _ w)) aA;rw [bH,bH,B];exact SV.step _ _ _ h
 | n+1,f,g::k::r,F,D,e,v=>by
  have B:=Ztu o D (e f (cH ..));rcases v with⟨I,v⟩|⟨w,N,v⟩
  .have h:=Zqx o n g (k::r) (by simp at F ⊢;omega) I (λk w=>e k (bX _ w)) v;rw [bH (l:=g::k::r),bH (l:=g::k::r),B.1];exact SV.step _ _ _ h
  .have h:=Zqx o n k r (by simp at F ⊢;omega) w (λj M=>e j (bX _ (bX _ M))) v;have G:=(Ztu o w (e k O5)).1;have H:=opp_sg N;rw [bH (l:=r),bH (l:=r)]at h;simp only [bH];rw [<-G]at h ⊢;rw [H]at h ⊢;rw [<-B.1];exact SV.skip _ _ _ _ _ B.2 Yjg Yjg h
structure Lnk (η x:Rat) (f g k:Rat->Rat):Prop where
 big:¬Big η x g->Big η x k
 opp:¬Big η x g->f x*k x<0
def Lnks(η x:Rat):(Rat->Rat)->List (Rat->Rat)->Prop
 | _,[]=>True
 | _,[g]=>Big η x g
 | f,g::k::r=>Lnk η x f g k/\Lnks η x g (k::r)
theorem Zne{η x:Rat} : ∀(n:Nat) (f:Rat->Rat) (fs:List (Rat->Rat)),fs.length<=n->Lnks η x f fs->Tri η x f fs
 | _,f,[],_,_=>trivial
 | 0,f,g::r,l,_=>absurd l O5
 | n+1,f,[g],_,h=>h
 | n+1,f,[g,k],l,h=>by
  by_cases e:Big η x g
  .exact .inl ⟨e,h.2⟩
  .exact .inr ⟨h.1.big e,h.1.opp e,aA⟩
 | n+1,f,g::k::j::r,l,h=>by
  by_cases e:Big η x g
  .exact .inl ⟨e,Zne n g (k::j::r) (by simp at l ⊢;omega) h.2⟩
  .exact .inr ⟨h.1.big e,h.1.opp e,Zne n k (j::r) (by simp at l ⊢;omega) h.2.2⟩
def Rl3(s t:Rat)(f g k:Rat->Rat):Prop:=∃m n Q:Rat,0<m/\0<n/\0<Q/\∀x,s<=x->x<=t->∃q,-Q<=q/\q<=Q/\m*f x=q*g x-n*k x
def Rl2(s t:Rat)(f g:Rat->Rat):Prop:=∃m Q:Rat,0<m/\0<Q/\∀x,s<=x->x<=t->∃q,-Q<=q/\q<=Q/\m*f x=q*g x
def Rls(s t:Rat):(Rat->Rat)->List (Rat->Rat)->Prop
 | _,[]=>True
 | f,[g]=>Rl2 s t f g
 | f,g::k::r=>Rl3 s t f g k/\Rls s t g (k::r)
theorem Zcx{q Q g e:Rat}(h:-Q<=q)(j:q<=Q)(k:-e<=g)(l:g<=e)(n:0<=Q):q*g<=Q*e/\-(Q*e)<=q*g:=by
 have a:=aG (a:=Q-q) (b:=e+g) O4 O4;have b:=aG (a:=Q+q) (b:=e-g) O4 O4;have c:=aG (a:=Q-q) (b:=e-g) O4 O4;have d:=aG (a:=Q+q) (b:=e+g) O4 O4
 all_goals grind
theorem Zep{x:Rat}{g:Rat->Rat}(h:¬Big η x g):-η<=g x/\g x<=η:=by unfold Big at h;all_goals grind
theorem Yam{x:Rat}{g:Rat->Rat}(h:η<=ε)(e:Big ε x g):Big η x g:=by unfold Big at *;grind
theorem Gi{a b:Rat}(h:0<ε)(g:0<a)(j:0<b):∃e:Rat,0<e/\e<=ε/\e*a<=b:=by have k:=aX j (fD.2 g);have l:b*a⁻¹*a=b:=O4;grind [Rat.mul_le_mul_of_nonneg_right]
theorem pair3{g k:Rat->Rat}(h:Rl3 s t f g k)(H:0<ε)(R:∀x,s<=x->x<=t->Big ε x f\/Big ε x g) :
  ∃e,0<e/\(∀x,s<=x->x<=t->Big e x g\/Big e x k)/\∀η,0<η->η<=e->∀x,s<=x->x<=t->Lnk η x f g k:=by
 obtain⟨m,n,Q,G,hn,hQ,S⟩:=h;obtain⟨e,M,e2,e3⟩:=Gi H (show 0<Q+n by grind) (Rat.mul_pos G H);have o:∀η,0<η->η<=e->∀x,s<=x->x<=t->¬Big η x g->Big η x k/\f x*k x<0:=λη B v x hs l j=>by
  obtain⟨q,V,W,q3⟩:=S x hs l;obtain⟨N,P⟩:=Zep j;obtain⟨p1,p2⟩:=Zcx V W N P O4;have F:Big ε x f:=(R x hs l).resolve_right λh=>j (Yam O4 h);have Z:η*(Q+n)<=m*ε:=by have:=dH v (show 0<=Q+n by grind);grind
  rcases F with F|F
  .have I:m*ε<m*f x:=by have:=aX G (show 0<f x-ε by grind);grind
   have w:k x < -η:=by
    rcases(show k x < -η\/-η<=k x by grind)with D|D
    .omega
    .have:=aG (a:=n) (b:=k x+η) O4 O4;grind
   refine⟨.inr w,?_⟩;have:=aX (a:=f x) (b:=- k x) O4 O4;grind
  .have I:m*f x < - (m*ε):=by have:=aX G (show 0 < -ε-f x by grind);grind
   have d2:n*η<n*k x:=O4;have w:η<k x:=by
    rcases(show η<k x\/k x<=η by grind)with D|D
    .omega
    .have:=aG (a:=n) (b:=η-k x) O4 O4;grind
   refine⟨.inl w,?_⟩;have:=aX (a:=- f x) (b:=k x) O4 O4;grind
 refine⟨e,M,λx hs l=>?_,λη B v x hs l=>⟨λj=>(o η B v x hs l j).1,λj=>(o η B v x hs l j).2⟩⟩;grind
theorem pair2{g:Rat->Rat}(h:Rl2 s t f g)(l:0<ε)(G:∀x,s<=x->x<=t->Big ε x f\/Big ε x g) :
  ∃e,0<e/\∀η,0<η->η<=e->∀x,s<=x->x<=t->Big η x g:=by
 obtain⟨m,Q,k,F,H⟩:=h;obtain⟨e,v,P,R⟩:=Gi l F (aX k l);refine⟨e,v,λη S D x hs o=>?_⟩;by_cases n:Big η x g
 .omega
 .obtain⟨q,I,M,Z⟩:=H x hs o;obtain⟨w,B⟩:=Zep n;obtain⟨V,W⟩:=Zcx I M w B O4;have j:=(G x hs o).resolve_right λh=>n (Yam O4 h);have N:η*Q<=m*ε:=by have:=dH D (show 0<=Q by grind);grind
  rcases j with j|j
  .have:=aX k (show 0<f x-ε by grind);grind
  .have:=aX k (show 0 < -ε-f x by grind);grind
theorem Zwa{s t:Rat} : ∀(n:Nat) (f:Rat->Rat) (fs:List (Rat->Rat)) (ε:Rat),fs.length<=n->Rls s t f fs->0<ε->(∀g r,fs=g::r->∀x,s<=x->x<=t->Big ε x f\/Big ε x g)->
  ∃e,0<e/\∀η,0<η->η<=e->∀x,s<=x->x<=t->Lnks η x f fs
 | _,f,[],ε,_,_,o,_=>⟨ε,o,λ_ _ _ _ _ _=>trivial⟩
 | 0,f,g::r,ε,hl,_,_,_=>absurd hl O5
 | n+1,f,[g],ε,_,h,o,G=>pair2 h o (G g [] rfl)
 | n+1,f,g::k::r,ε,hl,h,o,G=>by
  obtain⟨e,H,M,I⟩:=pair3 h.1 o (G g _ rfl);obtain⟨B,D,l⟩:=Zwa n g _ e (by simp at hl ⊢;omega) h.2 H (λP Q F=>by injection F with j w;subst j;exact M)
  rcases(show e<=B\/B<=e by grind)with N|N
  .exact⟨e,H,λη j w x hs v=>⟨I η j w x hs v,l η j O4 x hs v⟩⟩
  .exact⟨B,D,λη j w x hs v=>⟨I η j O4 x hs v,l η j w x hs v⟩⟩
def Lip(s t L:Rat)(f:Rat->Rat):Prop:=∀x y,s<=x->x<=y->y<=t->f x-f y<=L*(y-x)/\f y-f x<=L*(y-x)
def vat(fs:List (Rat->Rat))(x:Rat):Int:=chg (fs.map λg=>Eo (g x))
theorem Yp5{L:Rat}(D:0<L)(H:∀g∈f::fs,Lip s t L g)(o:0<δ)(n:∀x,s<=x->x<=t->Big δ x f)(I:Rls s t f fs) :
  ∃h,0<h/\∀x y,s<=x->x<=y->y<=t->y-x<=h->vat (f::fs) x=vat (f::fs) y:=by
 obtain⟨e,v,w⟩:=Zwa _ f fs δ (aH _) I o (λg r _ x hs M=> .inl (n x hs M));obtain⟨η,l,R,S⟩:=Gi o (show(0)<1 by rfl) v;obtain⟨h,B,P,Q⟩:=Gi l D l;refine⟨h,B,λx y j k N G=>SV.chg ?_⟩;refine Zqx O4 _ f fs (aH _) (Yam O4 (n x j O4)) (λg F=>?_) (Zne _ _ _ (aH _) (w η l O4 x j O4));obtain⟨a,b⟩:=H g F x y j k N;have:=dH G (show 0<=L by grind);exact⟨O4,O4⟩
theorem Yfd{L:Rat}(I:0<L)(P:∀g∈f::fs,Lip s t L g)(N:0<δ)(M:∀x,s<=x->x<=t->Big δ x f)(R:Rls s t f fs)(v:s<=t) :
  vat (f::fs) s=vat (f::fs) t:=by
 obtain⟨h,G,B⟩:=Yp5 I P N M R;have w:∀n:Nat,∀y,s<=y->y<=t->y-s<=(n:Rat)*h->vat (f::fs) s=vat (f::fs) y:=λn=>by
  induction n with
  | zero=>
    intro y e j k;have:y=s:=by simp at k;grind
    rw [this]
  | succ n F=>
   intro y e j k;have D:((n+1:Nat):Rat)*h=(n:Rat)*h+h:=by push_cast;grind
   rcases(show y-s<=(n:Rat)*h\/(n:Rat)*h<y-s by grind)with l|l
   .exact F y e j l
   .have H:(0:Rat)<=(n:Rat)*h:=aG (by exact_mod_cast aV n) O4;rcases(show s<=y-h\/y-h<s by grind)with o|o
    .rw [F (y-h) o O4 O4];exact B (y-h) y o O4 j O4
    .exact B s y O4 e j O4
 have e:∃n:Nat,t-s<=(n:Rat)*h:=by
  have j:0<h⁻¹:=fD.2 G;refine⟨((t-s)*h⁻¹).ceil.toNat,?_⟩;have k:=@mP ((t-s)*h⁻¹);have D:((((t-s)*h⁻¹).ceil:Int):Rat)<=((((t-s)*h⁻¹).ceil.toNat:Nat):Rat):=by have:((t-s)*h⁻¹).ceil<=((((t-s)*h⁻¹).ceil.toNat:Nat):Int):=jZ _;exact_mod_cast this
  have l:=dH (mL k D) (show 0<=h by grind);have H:(t-s)*h⁻¹*h=t-s:=O4;grind
 obtain⟨n,Q⟩:=e;exact w n t v O4 Q
def Zi:List Int->Rat->Rat
 | [],_=>0
 | c::p,x=>(c:Rat)+x*Zi p x
theorem Ysl(s t:Rat):∃K:Rat,0<K/\∀x,s<=x->x<=t->-K<=x/\x<=K:=by
 rcases(show(0<=s\/s<0) by grind)with h|h<;>rcases(show(0<=t\/t<0) by grind)with e|e
 .exact⟨t+1,O4,λx _ _=>O4⟩
 .exact⟨1,O4,λx _ _=>O4⟩
 .exact⟨t-s+1,O4,λx _ _=>O4⟩
 .exact⟨-s+1,O4,λx _ _=>O4⟩
theorem Zva(s t:Rat):∀p:List Int,∃B:Rat,0<B/\∀x,s<=x->x<=t->-B<=Zi p x/\Zi p x<=B
 | []=>⟨1,O3,λx _ _=>by unfold Zi;grind⟩
 | c::p=>by obtain⟨B,g,h⟩:=Zva s t p;obtain⟨K,v,w⟩:=Ysl s t;obtain⟨C,D,j⟩:=Ysl (c:Rat) (c:Rat);have F:=j (c:Rat) O4 O4;refine⟨C+K*B,by have:=aX v g;grind,λx hs e=>?_⟩;obtain⟨k,l⟩:=h x hs e;obtain⟨n,o⟩:=w x hs e;obtain⟨f1,f2⟩:=Zcx n o k l O4;unfold Zi;constructor<;>grind
theorem Bw(s t:Rat):∀p:List Int,∃L:Rat,0<L/\Lip s t L (Zi p)
 | []=>⟨1,O3,λx y _ _ _=>by unfold Zi;constructor<;>grind⟩
 | c::p=>by obtain⟨L,w,D⟩:=Bw s t p;obtain⟨B,H,k⟩:=Zva s t p;obtain⟨K,o,v⟩:=Ysl s t;refine⟨K*L+B,by have:=aX o w;grind,λx y hs h j=>?_⟩;obtain⟨F,G⟩:=D x y hs h j;obtain⟨I,M⟩:=k y O4 j;obtain⟨l,n⟩:=v x hs O4;obtain⟨f1,f2⟩:=Zcx (q:=x) (g:=Zi p x-Zi p y) (e:=L*(y-x)) l n O4 O4 O4;have N:=aG (a:=B-Zi p y) (b:=y-x) O4 O4;have P:=aG (a:=B+Zi p y) (b:=y-x) O4 O4;unfold Zi;constructor<;>grind
theorem Zmj(x:Rat):∀q:List Int,(∀i,cf q i=0)->Zi q x=0
 | [],_=>rfl
 | c::q,h=>by have e:c=0:=h 0;have g:=Zmj x q λi=>h (i+1);unfold Zi;rw [g,e];grind
theorem Ma(x:Rat):∀p q:List Int,(∀i,cf p i=cf q i)->Zi p x=Zi q x
 | [],q,h=>by rw [Zmj x q λi=>(h i).symm.trans (Yr (aV _))];rfl
 | c::p,[],h=>by rw [Zmj x (c::p) λi=>(h i).trans (Yr (aV _))];rfl
 | c::p,d::q,h=>by have e:c=d:=h 0;have g:=Ma x p q λi=>h (i+1);unfold Zi;rw [g,e]
def Ms:List Int->List Int->List Int
 | [],q=>q
 | p,[]=>p
 | a::p,b::q=>(a+b)::Ms p q
theorem Zwo(p:List Int):Ms p []=p:=by cases p<;>rfl
theorem Xp(x:Rat):∀p q:List Int,Zi (Ms p q) x=Zi p x+Zi q x
 | [],q=>by unfold Ms;show Zi q x=0+Zi q x;grind
 | a::p,[]=>by rw [Zwo];show Zi (a::p) x=Zi (a::p) x+0;grind
 | a::p,b::q=>by have h:=Xp x p q;unfold Ms Zi;rw [h];push_cast;grind
theorem Li:∀(p q:List Int) (i:Nat),cf (Ms p q) i=cf p i+cf q i
 | [],q,i=>by unfold Ms;rw [show cf [] i=0 from Yr (aV _)];omega
 | a::p,[],i=>by rw [Zwo,show cf [] i=0 from Yr (aV _)];omega
 | a::p,b::q,0=>rfl
 | a::p,b::q,i+1=>Li p q i
theorem Zx(x:Rat)(c:Int):∀p:List Int,Zi (p.map λa=>c*a) x=(c:Rat)*Zi p x
 | []=>by show(0:Rat)=c*0;grind
 | a::p=>by have h:=Zx x c p;simp only [bH];unfold Zi;rw [h];push_cast;grind
theorem Pp(c:Int):∀(p:List Int) (i:Nat),cf (p.map λa=>c*a) i=c*cf p i
 | [],i=>by simp [cf]
 | a::p,0=>rfl
 | a::p,i+1=>Pp c p i
def lmul:List Int->List Int->List Int
 | [],_=>[]
 | c::p,q=>Ms (q.map λa=>c*a) (0::lmul p q)
theorem Yn(x:Rat):∀p q:List Int,Zi (lmul p q) x=Zi p x*Zi q x
 | [],q=>by show(0:Rat)=0*Zi q x;grind
 | c::p,q=>by have h:=Yn x p q;unfold lmul;rw [Xp,Zx];show(c:Rat)*Zi q x+(((0:Int):Rat)+x*Zi (lmul p q) x)=((c:Rat)+x*Zi p x)*Zi q x;rw [h];grind
theorem Dc:∀(p q:List Int) (i:Nat),cf (lmul p q) i=Yl (λk=>cf p k*cf q (i-k)) (i+1)
 | [],q,i=>by rw [show cf (lmul [] q) i=0 from Yr (aV _)];exact(Gk λk _=>by rw [show cf [] k=0 from Yr (aV _),cL]).symm
 | c::p,q,0=>by unfold lmul;rw [Li,Pp,Yp,Fk];show c*cf q 0+0=0+c*cf q 0;omega
 | c::p,q,i+1=>by have h:=Dc p q i;unfold lmul;rw [Li,Pp,Mp];show c*cf q (i+1)+cf (lmul p q) i=c*cf q (i+1)+_;rw [h];congr 1;refine Xj λk e=>?_;show cf p k*cf q (i-k)=cf p k*cf q (i+1-(k+1));rw [show i+1-(k+1)=i-k by omega]
theorem Ck (a:Int)(c:Int)(x:List Int)(s:List Int)(y:List Int)(z:List Int)(h:∀t,a*cf x t=(ps s*ps y).c t-c*cf z t)(q:Rat):(a:Rat)*Zi x q=Zi s q*Zi y q-(c:Rat)*Zi z q:=by
 have e:∀t,cf (Ms (x.map λb=>a*b) (z.map λb=>c*b)) t=cf (lmul s y) t:=λt=>by rw [Li,Pp,Pp,Dc,h t,PS.mul_c];show Yl (λk=>cf s k*cf y (t-k)) (t+1)-c*cf z t+c*cf z t=_;omega
 have g:=Ma q _ _ e;rw [Xp,Zx,Zx,Yn]at g;grind
theorem Yfv(H:Tr x)(w:Tr y)(j:y≠[])(Q:y.length<=x.length):Rl3 s t (Zi x) (Zi y) (Zi (Mr x y)):=by
 have V:=aI.2 j;obtain⟨r1,r2,k,u,P⟩:=Zcd w j x.length x H O;have hs:=Zee x.length H w j Q O;have v:Tr (Zi4 (Fa x.length x y)):=Qj _ _;obtain⟨m,n,R,S,G⟩:=Zf2 v;rw [hs]at G;have N:0<Er y^k:=jD (Zg7 w j);obtain⟨B,I,D⟩:=Zva s t u;have o:(0:Rat)<(m:Rat):=by exact_mod_cast R
 have e:(0:Rat)<(n:Rat):=by exact_mod_cast S
 have l:(0:Rat)<((Er y^k:Int):Rat):=by exact_mod_cast N
 refine⟨(n:Rat)*((Er y^k:Int):Rat),(m:Rat),(n:Rat)*B,aX e l,o,aX e I,λq g h=>⟨(n:Rat)*Zi u q,?_,?_,?_⟩⟩
 .have:=aG (a:=(n:Rat)) (b:=Zi u q+B) O4 (by have:=D q g h;grind);grind
 .have:=aG (a:=(n:Rat)) (b:=B-Zi u q) O4 (by have:=D q g h;grind);grind
 .have M:=Ck (Er y^k) (-1) x u y (Fa x.length x y) (λt=>by rw [P t];omega) q;have F:Zi ((Mr x y).map λb=>m*b) q=Zi ((Fa x.length x y).map λb=>(-n)*b) q:=Ma q _ _ λi=>by rw [Pp,Pp,G i,Za6,lE,Int.neg_mul]
  rw [Zx,Zx]at F;push_cast at M F ⊢;grind
theorem rl2_of{g:Rat->Rat}(h:Rl3 s t f g (Zi [])):Rl2 s t f g:=by obtain⟨m,n,Q,l,D,k,o⟩:=h;refine⟨m,Q,l,k,λx e j=>?_⟩;obtain⟨q,v,w,B⟩:=o x e j;refine⟨q,v,w,?_⟩;have:Zi [] x=0:=rfl;rw [this]at B;grind
theorem Zpq (s:Rat)(t:Rat) : ∀(f:Nat) (a b:List Int),Tr a->Tr b->cok f a b->∃r,Nz f a b=a::r/\Rls s t (Zi a) (r.map Zi)/\(b=[]->r=[])/\(b≠[]->∃v,r=b::v):=λf=>by
 induction f with
 | zero=>
  intro a b k l h;have e:b=[]:=h;subst e;exact⟨[],rfl,aA,λ_=>rfl,λh=>absurd rfl h⟩
 | succ f H=>
  intro a b k l h;by_cases e:b=[]
  .subst e;exact⟨[],Du _ _,aA,λ_=>rfl,λh=>absurd rfl h⟩
  .obtain⟨g,M,I,n,G,hs⟩:=Zh8 h e;obtain rfl:f=g:=O;obtain⟨r,w,B,D,F⟩:=H b (Mr a b) l (Zc6 k) G;have j:=Yfv (s:=s) (t:=t) k l e n;refine⟨b::r,by rw [hs,w],?_,λh=>absurd h e,λ_=>⟨r,rfl⟩⟩;by_cases o:Mr a b=[]
   .rw [D o];rw [o]at j;exact rl2_of j
   .obtain⟨v,rfl⟩:=F o;exact⟨j,B⟩
theorem Zwd{L M:Rat}(h:L<=M)(k:Lip s t L f):Lip s t M f:=λx y e g j=>by obtain⟨a,b⟩:=k x y e g j;have:=dH h (show 0<=y-x by grind);constructor<;>grind
theorem Yc3(s t:Rat):∀ls:List (List Int),∃L:Rat,0<L/\∀g∈ls.map Zi,Lip s t L g
 | []=>⟨1,O3,λg e=>by cases e⟩
 | p::ls=>by
  obtain⟨L,k,h⟩:=Yc3 s t ls;obtain⟨M,l,j⟩:=Bw s t p;refine⟨L+M,O4,λg e=>?_⟩;rw [bH]at e;rcases bD.1 e with rfl|e
  .exact Zwd O4 j
  .exact Zwd O4 (h g e)
theorem Zg0{f:Nat}(l:Tr a)(n:Tr b)(o:cok f a b)(e:s<=t)(v:0<δ)(k:∀x,s<=x->x<=t->Big δ x (Zi a)) :
  vat ((Nz f a b).map Zi) s=vat ((Nz f a b).map Zi) t:=by
 obtain⟨r,h,j,_,_⟩:=Zpq s t f a b l n o;obtain⟨L,w,g⟩:=Yc3 s t (Nz f a b);rw [h]at g ⊢;exact Yfd w g v k j e
theorem Zu7(x:Rat)(l:Int):∀p:List Int,Zi (p ++ [l]) x=Zi p x+(l:Rat)*x^p.length
 | []=>by show(l:Rat)+x*0=0+l*x^0;rw [dP];grind
 | c::p=>by have h:=Zu7 x l p;rw [dK,bI,dA];unfold Zi;rw [h];grind
theorem Ykt(c:Int)(p:List Int)(X Y:Int)(h:p≠[]):pev (c::p) X Y=c*Y^p.length+X*pev p X Y:=by
 have e:=aI.2 h;unfold pev;rw [bI,Mp,<-Me];congr 1
 .show c*(X^0*Y^(p.length+1-1-0))=_;rw [dC,fY,show p.length+1-1-0=p.length by omega]
 .refine Xj λi hi=>?_;show cf p i*(X^(i+1)*Y^(p.length+1-1-(i+1)))=X*(cf p i*(X^i*Y^(p.length-1-i)));rw [show p.length+1-1-(i+1)=p.length-1-i by omega,dD];grind
theorem Ycf{X Y:Int}(e:0<Y):∀p:List Int,((pev p X Y:Int):Rat)=Zi p ((X:Rat)/(Y:Rat))*(Y:Rat)^(p.length-1)
 | []=>by show(0:Rat)=0*_;grind
 | [c]=>by
  have:pev [c] X Y=c:=by unfold pev;show 0+c*(X^0*Y^0)=c;rw [dC,dC];omega
  rw [this];show(c:Rat)=(c+X/Y*0)*(Y:Rat)^0;rw [dP];grind
 | c::d::p=>by
  have h:=Ycf (X:=X) e (d::p);rw [Ykt c (d::p) X Y O5];have g:(Y:Rat)≠0:=by
    have:(0:Rat)<(Y:Rat):=by exact_mod_cast e
    grind
  push_cast;rw [h];show(c:Rat)*(Y:Rat)^(p.length+1)+X*(Zi (d::p) (X/Y)*(Y:Rat)^(p.length+1-1))=((c:Rat)+X/Y*Zi (d::p) (X/Y))*(Y:Rat)^(p.length+1+1-1);rw [show p.length+1-1=p.length by omega,show p.length+1+1-1=p.length+1 by omega,dA];generalize Zi (d::p) (X/Y)=R;generalize (Y:Rat)^p.length=P;have:(X:Rat)/Y*Y=X:=O4;grind
theorem Yiy{z:Int}{r q:Rat}(k:0<q)(h:(z:Rat)=r*q):z.sign=Eo r:=by
 rcases(show r<0\/r=0\/0<r by grind)with e|e|e
 .rw [Zaq e];have:=aX (a:=-r) (b:=q) O4 k;have g:(z:Rat)<0:=O4;have j:z<0:=by exact_mod_cast g
  exact iD j
 .subst e;have g:(z:Rat)=0:=O4;have j:z=0:=by exact_mod_cast g
  subst j;rfl
 .rw [Zap e];have:=aX e k;have g:(0:Rat)<z:=O4;have j:0<z:=by exact_mod_cast g
  exact iR j
theorem Zey{X:Int}(e:0<Y)(p:List Int):Bh X Y p=Eo (Zi p ((X:Rat)/(Y:Rat))):=by
 have:(0:Rat)<(Y:Rat):=by exact_mod_cast e
 exact Yiy (Rat.pow_pos this) (Ycf e p)
theorem Yqz{F:Nat}(o:Tr xs)(l:xs≠[])(j:eok F (gA (Xf xs) (Xg (Xf xs))) (gB (Xf xs) (Xg (Xf xs)))):∃g:List Int,∀x,Zi xs x=Zi (sqf F xs) x*Zi g x:=by
 obtain⟨f1,f2,f3,f4,f5,f6⟩:=Ov F o l j;have h:∃k:Int,∀i,cf xs i=k*cf (Xf xs) i:=by
  unfold Xf Lj;split
  .refine⟨-Yv xs,λi=>?_⟩;rw [Yo,<-Fx xs i];grind
  .refine⟨Yv xs,λi=>?_⟩;rw [<-Fx xs i];grind
 obtain⟨k,h⟩:=h;refine⟨(Nm F (Xf xs) (Xg (Xf xs))).map λa=>k*a,λx=>?_⟩;have n:Zi (Xf xs) x=Zi (sqf F xs) x*Zi (Nm F (Xf xs) (Xg (Xf xs))) x:=by
  have:=Ck 1 0 (Xf xs) (sqf F xs) (Nm F (Xf xs) (Xg (Xf xs))) [] (λt=>by have e:=Gu (sqf F xs) (Nm F (Xf xs) (Xg (Xf xs))) t;rw [<-f4]at e;rw [e];omega) x
  push_cast at this;grind
 have e:Zi xs x=Zi ((Xf xs).map λa=>k*a) x:=Ma x _ _ λi=>by rw [Pp];exact h i
 rw [e,Zx,Zx,n];grind
theorem Ypr{x:Rat}{f:List Int->Int}(h:∀p∈ls,Eo (Zi p x)=f p):vat (ls.map Zi) x=chg (ls.map f):=by unfold vat;rw [gG];exact aD chg (lL λp e=>h p e)
def Ytd{F:Nat}{X:Int}(e:0<Y):cnt F xs X Y=vat ((chn F xs).map Zi) ((X:Rat)/(Y:Rat)):=
 (Ypr λp _=>(Zey e p).symm).symm
theorem Ydo(t:Int):∀p:List Int,Zi p (t:Rat)=((ev1 p t:Int):Rat)
 | []=>rfl
 | c::p=>by have h:=Ydo t p;rw [show Zi _ (t)=(c)+(t)*Zi p _ from rfl,show ev1 _ t=c+t*ev1 p t from rfl,h];push_cast;rfl
theorem Zre(h:∀x:Rat,Zi p x=0)(i:Nat):cf p i=0:=by
 by_cases k:cf p i=0
 .omega
 .have:=Zu4 _ p ((List.range p.length).map λn:Nat=>(n)) rfl ⟨i,k⟩ (by
   refine List.Pairwise.map _ (λa b g=>?_) List.nodup_range;intro e;exact g (by exact_mod_cast e)) (λt l=>by
   have j:=Ydo t p;rw [h]at j;exact_mod_cast j.symm)
  grind
theorem Nq(h:∀x:Rat,Zi p x=Zi q x)(i:Nat):cf p i=cf q i:=by have e:=Zre (p:=Ms p (q.map λa=>(-1)*a)) (λx=>by grind [Xp,Zx]) i;rw [Li,Pp]at e;omega
theorem Lu(p:List Int)(x:Rat):Zi (tzl p) x=Zi p x:=Ma x _ _ λi=>Lc p i
theorem Xa(p q:List Int)(x:Rat):Zi (Qz p q) x=Zi p x*Zi q x:=by rw [<-Yn];exact Ma x _ _ λi=>by rw [Gu,Dc];rfl
theorem Of(c:Int)(x:Rat):Zi [c] x=(c:Rat):=by show(c)+x*0=c;grind
def ld:List Int->List Int
 | []=>[]
 | _::p=>Ms p (0::ld p)
theorem Zg6(c:Int)(p:List Int)(x:Rat):Zi (ld (c::p)) x=Zi p x+x*Zi (ld p) x:=by rw [show ld _=Ms p _ from rfl,Xp];show Zi p x+(((0))+x*Zi _ x)=_;grind
theorem Zoe:∀(p:List Int) (i:Nat),cf (ld p) i=cf p (i+1)*((i:Int)+1)
 | [],i=>by rw [Zd2,show ld []=[]from rfl,Zd2,cL]
 | c::p,0=>by rw [show ld _=Ms p _ from rfl,Li];show cf p 0+0=cf p 0*_;simp
 | c::p,i+1=>by have h:=Zoe p i;rw [show ld _=Ms p _ from rfl,Li];show cf p _+cf _ i=cf p _*_;grind
theorem Ku(p:List Int)(x:Rat):Zi (Xg p) x=Zi (ld p) x:=Ma x _ _ λi=>by rw [Zib,Zoe]
theorem Cw (p:List Int)(q:List Int)(h:∀x,Zi p x=Zi q x)(x:Rat):Zi (ld p) x=Zi (ld q) x:=Ma x _ _ λi=>by grind [Zoe,Nq]
theorem Yq5(p q:List Int)(x:Rat):Zi (ld (Ms p q)) x=Zi (ld p) x+Zi (ld q) x:=by rw [<-Xp];exact Ma x _ _ λi=>by rw [Zoe,Li,Li,Zoe,Zoe];grind
theorem Zas(c:Int)(p:List Int)(x:Rat):Zi (ld (p.map λa=>c*a)) x=(c:Rat)*Zi (ld p) x:=by rw [<-Zx];grind [Ma,Zoe,Pp]
theorem Bx(x:Rat):∀p q:List Int,Zi (ld (lmul p q)) x=Zi (ld p) x*Zi q x+Zi p x*Zi (ld q) x
 | [],q=>by show(0)=0*Zi q x+0*Zi _ x;grind
 | c::p,q=>by have h:=Bx x p q;rw [show lmul _ q=Ms _ _ from rfl,Yq5,Zas,Zg6,Zg6,Yn,show Zi (c::p) x=(c)+x*Zi p x from rfl];grind
def Ed(g a:List Int):Prop:=∃(k:Int) (s:List Int),k≠0/\∀x:Rat,(k:Rat)*Zi a x=Zi s x*Zi g x
theorem Ed.refl(a:List Int):Ed a a:=⟨1,[1],O,λx=>by rw [Of]⟩
theorem Ed.nil(g:List Int):Ed g []:=⟨1,[],O,λx=>by show(((1)))*0=0*Zi g x;simp⟩
theorem Ed.trans{c:List Int} : Ed a b->Ed b c->Ed a c:=λ⟨k,s,g,h⟩ ⟨m,u,j,e⟩=>
 ⟨k*m,lmul u s,bC g j,λx=>by grind [Yn]⟩
theorem Ed.congr{g:List Int}(h:Ed g a)(e:∀x,Zi a x=Zi b x):Ed g b:=by obtain⟨k,s,j,h⟩:=h;exact⟨k,s,j,λx=>O4⟩
theorem Ed.congr_l{g j:List Int}(h:Ed g a)(e:∀x,Zi g x=Zi j x):Ed j a:=by obtain⟨k,s,l,h⟩:=h;exact⟨k,s,l,λx=>O4⟩
theorem Ed.sim{g:List Int}(h:Ed g a)(e:Sim a b):Ed g b:=by
 obtain⟨k,s,j,h⟩:=h;obtain⟨m,n,v,l,e⟩:=e;refine⟨k*n,s.map λc=>m*c,bC j l,λx=>?_⟩;have o:Zi (a.map λc=>m*c) x=Zi (b.map λc=>n*c) x:=Ma x _ _ λi=>by grind [Pp]
 grind [Zx]
theorem Ed.lin{g c:List Int}(j:Ed g a)(l:Ed g b)(s:List Int)(L:Int)(e:L≠0)(h:∀x,(L:Rat)*Zi c x=Zi s x*Zi a x+Zi b x):Ed g c:=by obtain⟨k,u,n,w⟩:=j;obtain⟨m,v,o,B⟩:=l;refine⟨L*(k*m),Ms ((lmul s u).map λc=>m*c) (v.map λc=>k*c),bC e (bC n o),λx=>?_⟩;grind [Xp,Zx,Yn]
theorem Zzw{g s:List Int}{k:Int}(G:k≠0)(F:Tr g)(B:Tr a)(v:a≠[])(h:∀x:Rat,(k:Rat)*Zi a x=Zi s x*Zi g x):g≠[]/\tzl s≠[]/\(tzl s).length+g.length<=a.length+1:=by
 have D:∀i,k*cf a i=(ps _*ps g).c i:=λi=>by have j:=Nq (p:=a.map λc=>k*c) (q:=lmul (tzl s) g) (λx=>by grind [Zx,Yn,Lu]) i;rw [Pp,Dc]at j;rw [j];rfl
 have o:∀i,k*cf a i=0->cf a i=0:=λi hi=>(Int.mul_eq_zero.1 hi).resolve_left G;have l:=B.mem v;have j:tzl s≠[]:=λe=>l (o _ (by simp_all [Lr,Yr,aV]));have n:g≠[]:=λe=>l (o _ (by simp_all [PS.mul_comm',Lr,Yr,aV]));refine⟨n,j,?_⟩;have I:=Zah (p:=tzl s) (q:=g) (a:=(tzl s).length-1) (b:=g.length-1) (λi hi=>Yr O) (λi hi=>Yr O);rw [<-D]at I;have H:=bC ((Xx s).mem j) (F.mem n);rcases bB ((tzl s).length-1+(g.length-1)) a.length with w|w
 .omega
 simp_all [Yr,dY]
theorem Ed.len{g:List Int}(h:Ed g a)(l:Tr g)(j:Tr a)(e:a≠[]):g≠[]/\g.length<=a.length:=by obtain⟨k,s,n,h⟩:=h;obtain⟨o,v,w⟩:=Zzw n l j e h;grind [List.length_pos_iff]
theorem Ed.same{g:List Int}(h:Ed g a)(B:Tr g)(v:Tr a)(n:a≠[])(G:g.length=a.length):Ed a g:=by
 obtain⟨k,s,D,h⟩:=h;obtain⟨F,j,l⟩:=Zzw D B v n h;have e:=aI.2 j
 match hs:tzl s,e,l with
 | [c],_,_=>
  have w:=by have:=(Xx s).mem j;rw [hs]at this;exact this
  refine⟨c,[k],w,λx=>?_⟩;have o:=h x;rw [<-Lu s]at o;grind [Of]
 | c::d::r,_,h9=>grind
theorem Zok:∀(n:Nat) (a b:List Int),Tr a->Tr b->b.length<=n->∃g A B:List Int,Tr g/\Ed g a/\Ed g b/\∀x,Zi g x=Zi A x*Zi a x+Zi B x*Zi b x
 | n,a,[],h,j,_=>⟨a,[1],[],h,Ed.refl a,Ed.nil a,λx=>by rw [Of];show _=_+0*(0);grind⟩
 | 0,a,c::r,_,_,hl=>absurd hl O5
 | n+1,a,c::b',h,j,hl=>by
  have e:(c::b')≠[]:=O5;generalize c::b'=b at *;obtain⟨k,s,hs⟩:=Cx a e;have o:=Mj (j.mem e) k;generalize cf b _^k=L at hs o;have F:=Pf a e;obtain⟨g,A,B,v,l,w,G⟩:=Zok n b (Qp a b) j (Kd h) O;have D:∀x,(L)*Zi a x=Zi s x*Zi b x+Zi (Qp a b) x:=λx=>by have:=Ck L (-1) a s b (Qp a b) (λt=>O4) x;grind
  refine⟨g,B.map λc=>L*c,Ms A ((lmul B s).map λc=>(-1)*c),v,l.lin w s L o D,l,λx=>?_⟩;grind [Zx,Xp,Yn]
def Irr(q:List Int):Prop:=Tr q/\2<=q.length/\∀d,Tr d->Ed d q->d.length<=1\/d.length=q.length
def Zeq(h:2<=q.length):q≠[]:=λe=>O4
theorem Yl6:∀(n:Nat) (q:List Int),q.length<=n->Tr q->2<=q.length->∃p,Irr p/\Ed p q
 | 0,q,w,_,j=>O
 | n+1,q,w,l,j=>by
  by_cases h:Irr q
  .grind [Ed.refl]
  .have:∃d,Tr d/\Ed d q/\¬(d.length<=1\/d.length=q.length):=by refine bE λv=>h ⟨l,j,λd e g=>bE λo=>v ⟨d,e,g,o⟩⟩
   obtain⟨d,e,g,F⟩:=this;have B:=(g.len e l (Zeq j)).2;obtain⟨p,D,k⟩:=Yl6 n d O e O;exact⟨p,D,k.trans g⟩
theorem Zev (f:List Int)(h:List Int)(m:List Int){k:Int}(N:Irr q)(M:k≠0)(e:∀x:Rat,(k:Rat)*(Zi f x*Zi h x)=Zi m x*Zi q x):Ed q f\/Ed q h:=by
 obtain⟨j,n,w⟩:=N;obtain⟨g,A,B,l,o,F,D⟩:=Zok _ q _ j (Xx f) (aH _);have I:=(o.len l j (Zeq n)).1;rcases w g l o with v|v
 .right
  match g,I,v,l,D with
  | [c],_,_,l,D=>
   have H:=l.mem O5;refine⟨c*k,Ms ((lmul A h).map λc=>k*c) (lmul B m),bC H M,λx=>?_⟩;grind [Of,Lu,Xp,Zx,Yn]
  | c::d::r,_,h9,_,_=>grind
 .left;have G:=o.same l j (Zeq n) v;exact(G.trans F).congr λx=>Lu f x
def Cy(q:List Int):Nat->List Int
 | 0=>[1]
 | n+1=>Qz q (Cy q n)
theorem Zdg{q:List Int}(j:Tr q)(g:2<=q.length):∀n,Tr (Cy q n)/\n+1<=(Cy q n).length
 | 0=>⟨.inr (show cf [1] 0≠0 by decide),aH _⟩
 | n+1=>by obtain⟨k,h⟩:=Zdg j g n;refine⟨Qh _ _,?_⟩;show n+1+1<=(Qz q _).length;rw [Ox j k (Zeq g) (λe=>by rw [e]at h;simp at h)];omega
theorem Cv(q:List Int)(n:Nat)(x:Rat):Zi (Cy q (n+1)) x=Zi q x*Zi (Cy q n) x:=Xa _ _ _
theorem Zri(q:List Int):∀(n:Nat) (x:Rat),Zi (ld (Cy q (n+1))) x=((n:Rat)+1)*(Zi (Cy q n) x*Zi (ld q) x)
 | n,x=>by
  have e:Zi (ld (Cy q (n+1))) x=Zi (ld (lmul q (Cy q n))) x:=Cw _ _ (λy=>by rw [Cv,Yn]) x;rw [e,Bx]
  match n with
  | 0=>
   rw [show Zi (ld (Cy q 0)) x=0 from by rw [show Cy q 0=[1]from rfl,Zg6];show(0:Rat)+x*0=0;grind];simp;grind
  | n+1=>
   rw [Zri q n x,Cv];push_cast;grind
theorem Yim{s g u:List Int}{c:Int}{k:Nat}(R:∀x:Rat,Zi p x=Zi s x*Zi g x)(B:∀d,Tr d->Ed d p->Ed d (ld p)->Ed d g)(S:Irr q)(G:Ed q s)(H:Ed q (ld s))(Q:Ed (Cy q k) g):Ed (Cy q (k+1)) g:=by
 obtain⟨h,o,D⟩:=S;obtain⟨l,n,V,e1⟩:=G;obtain⟨F,s2,W,e2⟩:=H;have d1:∀x:Rat,(l:Rat)*Zi (ld s) x=Zi (ld n) x*Zi q x+Zi n x*Zi (ld q) x:=λx=>by have:=Cw (s.map λa=>l*a) (lmul n q) (λy=>by grind [Zx,Yn]) x;grind [Zas,Bx]
 have I:Ed q n:=by
  rcases Zev n (ld q) (Ms (s2.map λa=>l*a) ((ld n).map λa=>(-F)*a)) ⟨h,o,D⟩ W (λx=>by grind [Xp,Zx])with h9|h9
  .omega
  .exfalso;have M:Ed q (Xg q):=h9.congr λx=>(Ku q x).symm;have hl:=Oe q;have:=(M.len h (Np h) (λe=>O4)).2;omega
 obtain⟨v,j,Z,e3⟩:=I;obtain⟨c,u,kc,eu⟩:=Q;have P:∀x:Rat,((l*v*c:Int):Rat)*Zi p x=Zi (lmul j u) x*Zi (Cy q (k+1+1)) x:=λx=>by grind [Yn,Cv]
 have w:l*v*c≠0:=bC (bC V Z) kc;generalize l*v*c=C at P w;have N:∀x:Rat,(C:Rat)*Zi (ld p) x=Zi (ld (lmul j u)) x*Zi (Cy q (k+1+1)) x+Zi (lmul j u) x*((((k+1:Nat):Rat)+1)*(Zi (Cy q (k+1)) x*Zi (ld q) x)):=λx=>by have:=Cw (p.map λa=>C*a) (lmul (lmul j u) (Cy q (k+1+1))) (λy=>by grind [Zx,Yn]) x;grind [Zas,Bx,Zri]
 refine B _ (Zdg h o _).1 ⟨C,lmul (lmul j u) q,w,λx=>?_⟩ ⟨C,Ms (lmul (ld (lmul j u)) q) ((lmul (lmul j u) (ld q)).map λa=>((k+2:Nat):Int)*a),w,λx=>?_⟩
 .grind [Yn,Cv]
 .rw [N x,Xp,Zx,Yn _ (ld (lmul j u)),Yn _ (lmul j u),Cv q (k+1)];push_cast;grind
theorem Yio{s g:List Int}(l:∀x:Rat,Zi p x=Zi s x*Zi g x)(F:Tr g)(w:g≠[])(j:∀d,Tr d->Ed d p->Ed d (ld p)->Ed d g)(G:Tr q)(B:Ed q s)(D:Ed q (ld s)):q.length<=1:=by
 refine bE λh=>?_;obtain⟨r,n,e⟩:=Yl6 _ q (aH _) G O;have o:∀k,Ed (Cy r k) g:=λk=>by
  induction k with
  | zero=>exact⟨1,g,O,λx=>by rw [show Cy r 0=[1]from rfl,Of];simp⟩
  | succ k H=>exact Yim (u:=[]) (c:=0) l j n (e.trans B) (e.trans D) H
 obtain⟨v,I⟩:=Zdg n.1 n.2.1 g.length;have:=((o _).len v F w).2;omega
theorem Yso(o:Tr b)(g:b≠[])(h:Ed d a)(j:Ed d b):Ed d (Qp a b):=by
  obtain⟨k,s,hs⟩:=Cx a g;have n:=Mj (o.mem g) k;generalize cf b (b.length-1)^k=L at hs n;have v:∀x,(L:Rat)*Zi a x=Zi s x*Zi b x+Zi (Qp a b) x:=λx=>by have:=Ck L (-1) a s b (Qp a b) (λt=>by rw [hs t];omega) x;push_cast at this;grind
  have l:Ed d (a.map λc=>L*c):=by obtain⟨k,u,w,e⟩:=h;exact⟨k,u.map λc=>L*c,w,λx=>by rw [Zx,Zx];have:=e x;grind⟩
  exact j.lin l (s.map λc=>(-1)*c) 1 O3 λx=>by rw [Zx,Zx];push_cast;have:=v x;grind
theorem Zw1{d:List Int} : ∀(f:Nat) {a b:List Int},Tr a->Tr b->Ed d a->Ed d b->Ed d (eu f a b)
  | 0,a,b,_,_,e,_=>e
  | f+1,a,b,k,j,e,h=>by
    by_cases g:b=[]
    . rw [g,Bm];exact e
    . rw [show eu (f + 1) a b = eu f b (Yg (Qp a b)) by
          conv=>lhs;unfold eu
          rw [aJ g]]
      have t1:=Kd (q:=b) k;exact Zw1 f j (Yu t1) h ((Yso j g e h).sim (Qk t1).symm)
theorem Zmv{F:Nat}(e:Tr p)(g:Tr q)(h:Ed d p)(j:Ed d q):Ed d (Nm F p q):=by
  have k:=h.sim (Qk e).symm;have l:=j.sim (Qk g).symm;unfold Nm;refine Ed.sim ?_ (Hm _).symm;refine Zw1 F (Zjo e g) (Zjn e g) ?_ ?_
  . unfold gA;split<;>assumption
  . unfold gB;split<;>assumption
theorem Zgv{F:Nat}(j:Tr xs)(k:xs≠[])(e:eok F (gA (Xf xs) (Xg (Xf xs))) (gB (Xf xs) (Xg (Xf xs))))(o:Tr q)(l:Ed q (sqf F xs))(n:Ed q (Xg (sqf F xs))):q.length<=1:=by
  obtain⟨f1,f2,f3,f4,f5,f6⟩:=Ov F j k e;have hs:Tr (Xf xs):=Nc (Yu j);have h:Tr (Xg (Xf xs)):=Np hs;refine Yio (p:=Xf xs) (s:=sqf F xs) (g:=Nm F (Xf xs) (Xg (Xf xs))) (λx=>?_) (Zec _ hs h) f5 (λd _ a b=>?_) o l (n.congr λx=>Ku _ x)
  . have:Zi (Xf xs) x=Zi (Qz (sqf F xs) (Nm F (Xf xs) (Xg (Xf xs)))) x:=by rw [<-f4]
    rw [this,Xa]
  . exact Zmv hs h a (b.congr λx=>(Ku _ x).symm)
theorem Zb0:∀(l:List Int) (n z:Int),(l.foldl Nh (n,z)).1=n+(l.foldl Nh (0,z)).1
 | [],n,z=>O5
 | x::l,n,z=>by
  simp only [gN];by_cases h:x=0
  .have e:∀n,Nh (n,z) x=(n,z):=λn=>by unfold Nh;rw [aM h]
   rw [e,e];exact Zb0 l n z
  .by_cases g:x=-z
   .have e:∀n,Nh (n,z) x=(n+1,x):=λn=>by unfold Nh;rw [aJ h,aM (by dsimp only;exact g)]
    rw [e,e,Zb0 l (n+1) x,Zb0 l (0+1) x];omega
   .have e:∀n,Nh (n,z) x=(n,x):=λn=>by unfold Nh;rw [aJ h,aJ (by dsimp only;exact g)]
    rw [e,e];exact Zb0 l n x
theorem Yts{x y:Int}{l:List Int}(k:y≠0):chg (x::y::l)=chg (y::l)+(if x=-y then 1 else 0):=by
 unfold chg;simp only [gN];have g:Nh (0,0) y=(0,y):=by unfold Nh;rw [aJ k,aJ O8]
 rw [g];by_cases j:x=0
 .have e:Nh (0,0) x=(0,0):=by unfold Nh;rw [aM j]
  rw [e,g,aJ O];omega
 .have e:Nh (0,0) x=(0,x):=by unfold Nh;rw [aJ j,aJ O8]
  rw [e];have n:Nh (0,x) y=(if x=-y then 1 else 0,y):=by
   unfold Nh;rw [aJ k];by_cases h:x=-y
   .rw [aM O8,aM h];rfl
   .rw [aJ O8,aJ h]
  rw [n,Zb0];omega
def crs(f:Rat->Rat)(u v:Rat):Int:=if f u≠0/\f u*f v<=0 then 1 else 0
theorem Zkv(s t:Rat):∀p:List Int,∃M:Rat,0<M/\∀x y,s<=x->x<=y->y<=t->
  -(M*(y-x)*(y-x))<=Zi p y-Zi p x-(y-x)*Zi (ld p) x/\Zi p y-Zi p x-(y-x)*Zi (ld p) x<=M*(y-x)*(y-x)
 | []=>⟨1,O3,λx y R S V=>by have:=aG (a:=y-x) (b:=y-x) O4 O4;show -(1*(y-x)*(y-x))<=(0:Rat)-0-(y-x)*0/\(0:Rat)-0-(y-x)*0<=1*(y-x)*(y-x);constructor<;>grind⟩
 | c::p=>by obtain⟨M,F,G⟩:=Zkv s t p;obtain⟨L,W,D⟩:=Bw s t p;obtain⟨K,w,B⟩:=Ysl s t;refine⟨L+K*M,by have:=aX w F;grind,λx y hs h k=>?_⟩;obtain⟨l,n⟩:=G x y hs h k;obtain⟨H,I⟩:=D x y hs h k;obtain⟨o,v⟩:=B x hs O4;have j:0<=y-x:=O4;obtain⟨f1,f2⟩:=Zcx (q:=x) (Q:=K) (g:=Zi p y-Zi p x-(y-x)*Zi (ld p) x) (e:=M*(y-x)*(y-x)) o v l n O4;have N:=aG (a:=y-x) (b:=L*(y-x)-(Zi p y-Zi p x)) j O4;have P:=aG (a:=y-x) (b:=L*(y-x)+(Zi p y-Zi p x)) j O4;rw [Zg6,show Zi (c::p) y=(c:Rat)+y*Zi p y from rfl,show Zi (c::p) x=(c:Rat)+x*Zi p x from rfl];constructor<;>grind
theorem Yea(w:Tr a)(hb:Tr b)(Z:a≠[])(hc:∀q,Tr q->Ed q a->Ed q b->q.length<=1)(s t:Rat):∃ε:Rat,0<ε/\∀x,s<=x->x<=t->Big ε x (Zi a)\/Big ε x (Zi b):=by
 obtain⟨g,A,B,e,n,W,j⟩:=Zok _ a b w hb (aH _);have hl:=hc g e n W;have hg:=(n.len e w Z).1
 match g,hg,hl,e,j with
 | [c],_,_,e,j=>
  have l:c≠0:=e.mem O5;obtain⟨P,p1,p2⟩:=Zva s t A;obtain⟨Q,q1,q2⟩:=Zva s t B;obtain⟨ε,V,e2,e3⟩:=Gi (show(0:Rat)<1 by decide) (show 0<(P+Q)+(P+Q) by grind) (show(0:Rat)<1 by decide);refine⟨ε,V,λx hs D=>?_⟩;by_cases o:Big ε x (Zi a)
  .exact .inl o
  .by_cases v:Big ε x (Zi b)
   .exact .inr v
   .exfalso;obtain⟨F,G⟩:=Zep o;obtain⟨H,I⟩:=Zep v;obtain⟨M,N⟩:=p2 x hs D;obtain⟨R,S⟩:=q2 x hs D;obtain⟨u1,u2⟩:=Zcx M N F G O4;obtain⟨v1,v2⟩:=Zcx R S H I O4;have h4:=j x;rw [Of]at h4;have k:(c:Rat)<=-1\/1<=(c:Rat):=by
     rcases mA l with h|h
     .left;have:((c:Int):Rat)<=((-1:Int):Rat):=by exact_mod_cast (show c<=-1 by omega)
      rwa [show(((-1:Int)):Rat)=-1 from rfl]at this
     .right;have:1<=c:=O;exact_mod_cast this
    rcases k with k|k<;>grind
 | c::d::r,_,h9,_,_=>simp at h9
theorem Big.near{ε x y:Rat}{f:Rat->Rat}(h:Big ε x f)(e:f x-f y<=ε/2)(g:f y-f x<=ε/2):Big (ε/2) y f:=by unfold Big at *;grind
theorem Zu2(x:Rat):Eo x=-1↔x<0:=by unfold Eo;grind
theorem Yjh(x:Rat):Eo (-x)=- Eo x:=by unfold Eo;grind
theorem Zo3{g:Rat->Rat}{x:Rat}(h:Eo (g x)≠0):vat (f::g::r) x=vat (g::r) x+(if Eo (f x)=- Eo (g x)then 1 else 0):=by exact Yts h
def Tay(s t M:Rat)(p:List Int):Prop:=∀x y,s<=x->x<=y->y<=t->-(M*(y-x)*(y-x))<=Zi p y-Zi p x-(y-x)*Zi (ld p) x/\Zi p y-Zi p x-(y-x)*Zi (ld p) x<=M*(y-x)*(y-x)
theorem Zjs  {f:Nat}  (ha:Tr a) (hb:Tr b) (Q:cok f a b) {κ:Rat} (hκ:0<κ) (I:∀x,Zi (ld a) x=κ*Zi b x)
  {L L' M h:Rat} (e1:0<ε) (e2:∀x,s<=x->x<=t->Big ε x (Zi a)\/Big ε x (Zi b)) (l1:0<=L) (l2:Lip s t L (Zi a)) (b1:0<=L') (D:Lip s t L' (Zi b)) (m1:0<=M) (m2:Tay s t M a)
  (h5:0<h) (h3:h*(L+L')<=ε/2) (h7:h*M<=κ*ε/2) {u v:Rat} (hs:s<=u) (j:u<=v) (ht:v<=t) (hh:v-u<=h) :
  vat ((Nz f a b).map Zi) u-vat ((Nz f a b).map Zi) v=crs (Zi a) u v:=by
 have hL:∀w,u<=w->w<=v->L*(w-u)<=ε/2/\L'*(w-u)<=ε/2:=λw k n=>by
  have p1:=aG (a:=L) (b:=h-(w-u)) O4 O4;have p2:=aG (a:=L') (b:=h-(w-u)) O4 O4;have p3:=aG (a:=L) (b:=h) O4 O4;have p4:=aG (a:=L') (b:=h) O4 O4
  all_goals grind
 by_cases o:Big ε u (Zi a)
 .have R:∀w,u<=w->w<=v->Big (ε/2) w (Zi a):=λw k n=>by obtain⟨W,Z⟩:=l2 u w hs k O4;have:=hL w k n;exact o.near O4 O4
  rw [Zg0 ha hb Q j (show 0<ε/2 by grind) R];have hv:=R v j O5;have:crs (Zi a) u v=0:=by
   unfold crs;refine aJ λ⟨_,h9⟩=>?_;obtain⟨W,Z⟩:=l2 u v hs j ht;have a7:=hL v j O5;unfold Big at o hv;rcases o with S|S
   .have:0<Zi a v:=O4;have:=aX (show 0<Zi a u by grind) this;grind
   .have:0 < - Zi a v:=O4;have:=aX (show 0 < - Zi a u by grind) this;grind
  omega
 .have l:Big ε u (Zi b):=(e2 u hs O4).resolve_left o;have R:∀w,u<=w->w<=v->Big (ε/2) w (Zi b):=λw k n=>by obtain⟨W,Z⟩:=D u w hs k O4;have:=hL w k n;exact l.near O4 O4
  have a0:b≠[]:=λe=>by rw [e]at l;unfold Big at l;have:Zi [] u=0:=rfl;grind
  obtain⟨g,hg,hd,b0,H,a2⟩:=Zh8 Q a0;have hT:=Zg0 hb (Zc6 ha) H j (show 0<ε/2 by grind) R;obtain⟨r,hr,_,_,_⟩:=Zpq u v g b (Mr a b) hb (Zc6 ha) H;rw [a2,hr];rw [hr]at hT;simp only [bH]at hT ⊢;have a3:∃σ:Rat,(σ=1\/σ=-1)/\ε<σ*Zi b u/\∀w,u<=w->w<=v->0<σ*Zi b w:=by
   unfold Big at l;rcases l with S|S
   .refine⟨1,.inl rfl,O4,λw k n=>?_⟩;obtain⟨W,Z⟩:=D u w hs k O4;grind
   .refine⟨-1,.inr rfl,O4,λw k n=>?_⟩;obtain⟨W,Z⟩:=D u w hs k O4;grind
  obtain⟨σ,V,a8,G⟩:=a3;have B:u<v->σ*Zi a u<σ*Zi a v:=λN=>by
   obtain⟨y1,y2⟩:=m2 u v hs j ht;rw [I u]at y1 y2;have hd:0<v-u:=O4;have z1:M*(v-u)<=κ*ε/2:=by have:=aG (a:=M) (b:=h-(v-u)) O4 O4;grind
   have z2:0<κ*(σ*Zi b u)-M*(v-u):=by have:=aX hκ (show 0<σ*Zi b u-ε by grind);have:=aX hκ e1;grind
   have z3:=aX hd z2;rcases V with rfl|rfl<;>grind
  have P:∀w,u<=w->w<=v->Eo (Zi b w)≠0:=λw k n=>by
   have:=G w k n;rcases V with rfl|rfl
   all_goals grind [Zap,Zaq]
  rw [Zo3 (P u O5 j),Zo3 (P v j O5),hT];have a6:∀w,u<=w->w<=v->(Eo (Zi a w)=- Eo (Zi b w)↔σ*Zi a w<0):=λw k n=>by
   have:=G w k n;rcases V with rfl|rfl
   all_goals grind [Zap,Zu2,Zaq,Yjh]
  rw [show(if Eo (Zi a u)=- Eo (Zi b u)then(1:Int)else 0)=if σ*Zi a u<0 then 1 else 0 from by grind];rw [show(if Eo (Zi a v)=- Eo (Zi b v)then(1:Int)else 0)=if σ*Zi a v<0 then 1 else 0 from by grind];have a4:crs (Zi a) u v=if σ*Zi a u<0/\¬σ*Zi a v<0 then 1 else 0:=by
   unfold crs;have a1:Zi a u*Zi a v=(σ*Zi a u)*(σ*Zi a v):=by all_goals grind
   have hz:Zi a u≠0↔σ*Zi a u≠0:=by rcases V with rfl|rfl<;>constructor<;>intro h9 h8<;>exact h9 O4
   have a5:(Zi a u≠0/\Zi a u*Zi a v<=0)↔(σ*Zi a u<0/\¬σ*Zi a v<0):=by
    rw [a1,hz];generalize S:σ*Zi a u=p at *;generalize hq:σ*Zi a v=q at *;constructor
    .intro ⟨n1,n2⟩;rcases(show u<v\/u=v by grind)with N|a9
     .have:=B N;rcases(show p<0\/0<p by grind)with F|F
      .refine⟨F,λn4=>?_⟩;have:=aX (show 0 < -p by grind) (show 0 < -q by grind);grind
      .have:=aX F (show 0<q by grind);grind
     .exfalso;have:q=p:=O4;rw [this]at n2;rcases(show p<0\/0<p by grind)with F|F
      .have:=aX (show 0 < -p by grind) (show 0 < -p by grind);grind
      .have:=aX F F;grind
    .intro ⟨n1,n2⟩;refine⟨O4,?_⟩;have:=aG (show 0<=-p by grind) (show 0<=q by grind);grind
   grind
  grind
theorem Zl3 (κ:Rat){f:Nat}(o:Tr a)(w:Tr b)(F:a≠[])(g:cok f a b)(R:0<κ)(e:∀x,Zi (ld a) x=κ*Zi b x)(N:∀q,Tr q->Ed q a->Ed q b->q.length<=1) :
  ∃h:Rat,0<h/\∀u v,s<=u->u<=v->v<=t->v-u<=h->vat ((Nz f a b).map Zi) u-vat ((Nz f a b).map Zi) v=crs (Zi a) u v:=by
 obtain⟨ε,B,D⟩:=Yea o w F N s t;obtain⟨L,l1,V⟩:=Bw s t a;obtain⟨l,S,k⟩:=Bw s t b;obtain⟨M,W,Z⟩:=Zkv s t a;obtain⟨G,H,h3,h4⟩:=Gi (show(0)<1 by rfl) (show 0<L+l by grind) (show 0<ε/2 by grind);obtain⟨h,n,h6,I⟩:=Gi H W (show 0<κ*ε/2 by grind [Rat.mul_pos]);refine⟨h,n,λu v hs j Q P=>Zjs o w g R e B D O4 V O4 k O4 Z n ?_ I hs j Q P⟩;have:=aG (a:=L+l) (b:=G-h) O4 O4;grind
theorem Yma:∀(n m:Nat) (f:Nat->Nat),(∀k,k<n->f k<m)->(∀a b,a<n->b<n->f a=f b->a=b)->n<=m
 | 0,_,_,_,_=>aV _
 | n+1,m,f,g,hi=>by
  have h:=g n O5;have:=Yma n (m-1) (λk=>if f n<f k then f k-1 else f k) (λk o=>by
   grind) (λa b j l e=>by
   grind)
  omega
theorem php{n:Nat}{f:Nat->Nat}(h:m<n)(v:∀k,k<n->f k<m):∃a b,a<n/\b<n/\a≠b/\f a=f b:=by refine bE λj=>?_;have:=Yma n m f v λa b l o e=>bE λg=>j ⟨a,b,l,o,g,e⟩;omega
def enc(B:Nat)(d:Nat->Nat):Nat->Nat
 | 0=>0
 | n+1=>enc B d n+d n*B^n
theorem Zs3{B:Nat}{d:Nat->Nat} : ∀n,(∀i,i<n->d i<B)->enc B d n<B^n
 | 0,_=>by simp [enc]
 | n+1,h=>by have j:=Zs3 n λi hi=>h i O;have e:=h n O5;have g:(d n+1)*B^n<=B*B^n:=aL _ e;rw [cN]at g;rw [cK,bP _ B];show enc B d n+d n*B^n<_;omega
theorem Ydu{B:Nat}{d e:Nat->Nat} : ∀n,(∀i,i<n->d i<B)->(∀i,i<n->e i<B)->enc B d n=enc B e n->∀i,i<n->d i=e i
 | 0,_,_,_,i,hi=>absurd hi (bG i)
 | n+1,g,j,h,i,hi=>by
  have o:=Zs3 n λi hi=>g i O;have w:=Zs3 n λi hi=>j i O;have h:enc B d n+d n*B^n=enc B e n+e n*B^n:=h;have v:0<B^n:=O;have l:d n=e n:=by
   have D:(enc B d n+d n*B^n)/B^n=d n:=by rw [kW _ _ v,cS o,cJ]
   simp_all [kW,cS,cJ]
  rcases bB i n with k|k
  .exact Ydu n (λi hi=>g i O) (λi hi=>j i O) (by rw [l]at h;omega) i k
  .rw [show i=n by omega];exact l
def dig(B k j:Nat):Nat:=k/B^j%B
theorem Zs4(B k:Nat):∀n,enc B (dig B k) n=k%B^n
 | 0=>by simp [enc,kZ]
 | n+1=>by show enc B _ n+dig B k n*B^n=_;rw [Zs4 B k n,cK,mN];unfold dig;rw [bP]
theorem Zl2 (C:Int){f:Nat->Int} : ∀n,(∀i,i<n->-C<=f i/\f i<=C)->-((n:Int)*C)<=Yl f n/\Yl f n<=(n:Int)*C
 | 0,_=>by simp [Fk]
 | n+1,h=>by have e:=Zl2 _ n λi hi=>h i O;grind [Yp]
theorem Zpf(f g:Nat->Int):∀n,Yl (λi=>f i-g i) n=Yl f n-Yl g n
 | 0=>by rfl
 | n+1=>by rw [Yp,Yp,Yp,Zpf f g n];omega
theorem siegel{N M A:Nat}(R:M<N)(hA:0<A)(c:Nat->Nat->Int)(hc:∀i j,i<M->j<N->(c i j).natAbs<=A) :
  ∃x:Nat->Int,(∃j,j<N/\x j≠0)/\(∀j,j<N->(x j).natAbs<=(2*N*A)^M)/\∀i,i<M->Yl (λj=>c i j*x j) N=0:=by
 generalize S:(2*N*A)^M=X;generalize hW:N*(A*X)=W;let d:=λk j=>dig (X+1) k j;have hd:∀k j,d k j<=X:=λk j=>mJ (bF _ (kL X));let y:=λk i=>Yl (λj=>c i j*(d k j:Int)) N;have B:∀k i,i<M->-(W:Int)<=y k i/\y k i<=(W:Int):=λk i hi=>by
  have g:=Zl2 ((A*X:Nat):Int) (f:=λj=>c i j*(d k j:Int)) N λj v=>by
   have h:=hc i j hi v;have F:(c i j*(d k j:Int)).natAbs<=A*X:=by simp_all [bT,dB,aO]
   omega
  grind
 let e:=λk=>enc (2*W+1) (λi=>(y k i+(W:Int)).toNat) M;have o:∀k i,i<M->(y k i+(W:Int)).toNat<2*W+1:=λk i hi=>by have:=B k i hi;omega
 have w:(2*W+1)^M<(X+1)^N:=by
  have g:2*W+1<=(2*N*A)*(X+1):=by grind [Nat.mul_pos]
  have h:=fS g M;rw [Nat.mul_pow,S]at h;have F:(X+1)^(M+1)<=(X+1)^N:=cW O5 O;grind
 obtain⟨a,b,V,Z,l,hf⟩:=php (f:=e) w (λk _=>Zs3 M (o k));have D:=Ydu M (o a) (o b) hf;refine⟨λj=>(d a j:Int)-(d b j:Int),?_,λj _=>?_,λi hi=>?_⟩
 .refine bE λQ=>l ?_;have P:∀j,j<N->d a j=d b j:=λj v=>bE λG=>Q ⟨j,v,λh6=>G O4⟩;have H:=Zs4 (X+1) a N;have I:=Zs4 (X+1) b N;rw [bJ V]at H;rw [bJ Z]at I;have e3:∀n,n<=N->enc (X+1) (dig (X+1) a) n=enc (X+1) (dig (X+1) b) n:=λn=>by
   induction n with
   | zero=>intro _;rfl
   | succ n ih=>
    intro hn;have G:dig (X+1) a n=dig (X+1) b n:=P n O;show enc _ _ n+dig (X+1) a n*_=enc _ _ n+dig (X+1) b n*_;grind
  grind
 .grind
 .have g:Yl (λj=>c i j*((d a j:Int)-(d b j:Int))) N=y a i-y b i:=by rw [<-Zpf];grind
  rw [g];have h:=D i hi;have F:=B a i hi;have h4:=B b i hi;omega
theorem Zjq(f:Nat->Int)(p:Nat):∀q,Yl f (p+q)=Yl f p+Yl (λk=>f (p+k)) q
 | 0=>by simp [Fk]
 | q+1=>by rw [<-iJ,Yp,Yp,Zjq f p q];omega
def sft(a:List Int)(t k:Nat):Int:=if k<=t then cf a (t-k)else 0
theorem Zn7{U:List Int}{p:Nat}(h:U.length=p)(t:Nat):(ps U*ps a).c t=Yl (λk=>sft a t k*cf U k) p:=by rw [<-Zx5,<-h];refine Xj λk _=>?_;unfold sft;split<;>grind
theorem Ze2{U:List Int}{p t:Nat}(h:U.length<=p)(j:p+a.length<=t+1):(ps U*ps a).c t=0:=by
 rw [PS.mul_c];refine Gk λk g=>?_;rw [Nx,Nx];rcases bB k U.length with e|e
 .rw [Yr (p:=a) O,dY]
 .rw [Yr e,cL]
theorem Zju (a:List Int)(b:List Int)(e:Nat){p q A:Nat}(B:0<A)(D:∀i,(cf a i).natAbs<=A)(F:∀i,(cf b i).natAbs<=A)(H:0<p+q)(I:p+a.length<=p+q+e)(P:q+b.length<=p+q+e) :
  ∃U V:List Int,U.length=p/\V.length=q/\((∃i,cf U i≠0)\/∃i,cf V i≠0)/\(∀i,(cf U i).natAbs<=(2*(p+q)*A)^(p+q-1))/\(∀i,(cf V i).natAbs<=(2*(p+q)*A)^(p+q-1))/\
   ∀t,e<=t->(ps U*ps a).c t+(ps V*ps b).c t=0:=by
 obtain⟨x,⟨j,Q,g⟩,w,G⟩:=siegel (N:=p+q) (M:=p+q-1) (A:=A) O B (λi j=>if j<p then sft a (e+i) j else sft b (e+i) (j-p)) (λi j _ _=>by
  split<;>unfold sft<;>split
  .exact D _
  .simp
  .exact F _
  .simp)
 have n:∀i,cf (mk p x) i=if i<p then x i else 0:=λi=>Kk _ _ _
 have o:∀i,cf (mk q λk=>x (p+k)) i=if i<q then x (p+i)else 0:=λi=>Kk _ _ _
 refine⟨mk p x,mk q λk=>x (p+k),Xc _ _,Xc _ _,?_,λi=>?_,λi=>?_,λt R=>?_⟩
 .rcases bB j p with h|h
  .exact .inl ⟨j,by rw [n,aM h];exact g⟩
  .exact .inr ⟨j-p,by rw [o,aM O,show p+(j-p)=j by omega];exact g⟩
 .rw [n];split
  .exact w i O
  .exact aV _
 .rw [o];split
  .exact w _ O
  .exact aV _
 .rcases bB (t-e) (p+q-1)with h|h
  .have v:=G (t-e) h;rw [show e+(t-e)=t by omega,Zjq]at v;rw [Zn7 (Xc _ _),Zn7 (Xc _ _),<-v];congr 1
   .exact Xj λk l=>by rw [aM l,n,aM l]
   .exact Xj λk l=>by rw [aJ O,o,aM l,show p+k-p=k by omega]
  .rw [Ze2 (mM (Xc _ _)) O,Ze2 (mM (Xc _ _)) O];rfl
theorem Yeb (t:Nat){U:List Int}{p X A:Nat}(h:U.length=p)(j:∀i,(cf U i).natAbs<=X)(l:∀i,(cf a i).natAbs<=A):((ps U*ps a).c t).natAbs<=p*(X*A):=by
 rw [Zn7 h];have e:=Zl2 ((X*A:Nat):Int) (f:=λk=>sft a t k*cf U k) p λk _=>by
  have:(sft a t k*cf U k).natAbs<=X*A:=by
   rw [bT,bP];refine aO (j k) ?_;unfold sft;split
   .exact l _
   .simp
  omega
 have g:((p:Int)*((X*A:Nat):Int))=((p*(X*A):Nat):Int):=by push_cast;rfl
 rw [g]at e;omega
theorem Zg9 (w:List Int)(q:List Int)(n:Nat)(h:∀x,Zi w x=Zi q x*Zi y x)(k:Tr y)(e:y≠[])(o:∀i,n<=i->cf w i=0):tzl q=[]\/(tzl q).length+y.length<=n+1:=by
 by_cases j:tzl q=[]
 .grind
 .have l:∀i,cf w i=(ps _*ps y).c i:=λi=>by rw [Nq (q:=lmul (tzl q) y) (λx=>by grind [Yn,Lu]) i,Dc];rfl
  have v:=Zah (p:=tzl q) (q:=y) (a:=(tzl q).length-1) (b:=y.length-1) (λi hi=>Yr O) (λi hi=>Yr O);have g:=bC ((Xx q).mem j) (k.mem e);grind
theorem Ev (v:List Int){f:List Int}(j:tzl v≠[])(h:∀x,Zi v x*Zi f x=0)(x:Rat):Zi f x=0:=by
 by_cases e:tzl f=[]
 .rw [<-Lu,e];rfl
 .rcases Zg9 _ v 0 (λx=>by rw [Lu,h x];rfl) (Xx f) e (λi _=>Zd2 i)with g|g
  all_goals grind [List.length_pos_iff]
structure Inv (a b x y:List Int):Prop where
 ex:∃(α β γ:Int) (u' v' u v:List Int),α≠0/\β≠0/\γ≠0/\
  (∀t:Rat,(α:Rat)*Zi x t=Zi u' t*Zi a t+Zi v' t*Zi b t)/\(∀t:Rat,(β:Rat)*Zi y t=Zi u t*Zi a t+Zi v t*Zi b t)/\
  (∀t:Rat,Zi u' t*Zi v t-Zi u t*Zi v' t=(γ:Rat))/\(tzl v).length<=a.length-x.length+1/\(tzl v').length<=a.length-x.length+1
 xl:x.length<=b.length
 yl:y.length<x.length
theorem Yb8{z:List Int}{L:Int}(g:Tr y)(e:y≠[])(j:z.length<=x.length)(h:∀t:Rat,(L:Rat)*Zi x t=Zi q t*Zi y t+(c:Rat)*Zi z t):tzl q=[]\/(tzl q).length+y.length<=x.length+1:=
 Zg9 (Ms (x.map λa=>L*a) (z.map λa=>(-c)*a)) _ _ (λt=>by grind [Xp,Zx]) g e λi hi=>by rw [Li,Pp,Pp,Yr hi,Yr O];simp
theorem Zay{n:Nat}(g:(tzl p).length<=m)(j:(tzl q).length<=n)(i:Nat)(hi:m+n<=i+1):cf (lmul p q) i=0:=by have e:cf (lmul p q) i=cf (lmul (tzl p) (tzl q)) i:=Nq (λx=>by grind [Yn,Lu]) i;rw [e,Dc];have h:=Ze2 (a:=tzl q) (t:=i) g O;assumption
def Zqv{n:Nat}(h:∀i,n<=i->cf p i=0):(tzl p).length<=n:=Zb9 h
theorem Yep{n:Nat}(h:(tzl p).length<=n)(hi:n<=i):cf p i=0:=by rw [<-Lc];grind [Yr]
theorem Inv.next{z z':List Int}{L:Int}(D:Inv a b x y)(F:b.length<=a.length)(hx:Tr x)(M:Tr y)(w:y≠[])(hL:L≠0)(h:∀t:Rat,(L:Rat)*Zi x t=Zi q t*Zi y t+Zi z' t)(N:Sim z' z)(g:z.length<y.length):Inv a b y z:=by
 obtain⟨⟨α,β,γ,V,l,u,v,P,k,hγ,W,o,Z,R,S⟩,xl,yl⟩:=D;obtain⟨m,n,hm,G,hs⟩:=N;have I:∀t:Rat,(m:Rat)*Zi z' t=(n:Rat)*Zi z t:=λt=>by
  have:=Ma t (z'.map λa=>m*a) (z.map λa=>n*a) λi=>by grind [Pp]
  grind [Zx]
 have B:∀t:Rat,((L*m:Int):Rat)*Zi x t=Zi (q.map λa=>m*a) t*Zi y t+(n:Rat)*Zi z t:=λt=>by grind [Zx]
 have H:=Yb8 M w O B;have e:(tzl (q.map λa=>m*a)).length<=x.length-y.length+1:=by grind
 generalize hQ:(q.map λa=>m*a)=Q at *;have j:∀t:Rat,((n*(α*β):Int))*Zi z t=Zi (Ms (V.map λc=>(L*m*β)*c) ((lmul Q u).map λc=>(-α)*c)) t*Zi a t+Zi (Ms (l.map λc=>(L*m*β)*c) ((lmul Q v).map λc=>(-α)*c)) t*Zi b t:=λt=>by rw [Xp,Xp,Zx,Zx,Zx,Zx,Yn,Yn];grind
 refine⟨⟨β,n*(α*β),-(L*m*β*γ),u,v,_,_,k,bC G (bC P k),?_,o,j,λt=>?_,?_,?_⟩,O,g⟩
 .simp_all
 .rw [Xp,Xp,Zx,Zx,Zx,Zx,Yn,Yn];grind
 .refine Zqv λi hi=>?_;rw [Li,Pp,Pp,Yep (p:=l) S O,Zay e R i O];simp
 omega
theorem Inv.first{z z':List Int}{L:Int}(k:b.length<=a.length)(H:Tr a)(l:Tr b)(g:b≠[])(F:L≠0)(h:∀t:Rat,(L:Rat)*Zi a t=Zi q t*Zi b t+Zi z' t)(D:Sim z' z)(e:z.length<b.length):Inv a b b z:=by
 obtain⟨m,n,I,o,hs⟩:=D;have B:∀t:Rat,(m:Rat)*Zi z' t=(n:Rat)*Zi z t:=λt=>by
  have:=Ma t (z'.map λa=>m*a) (z.map λa=>n*a) λi=>by grind [Pp]
  grind [Zx]
 have j:∀t:Rat,((L*m:Int):Rat)*Zi a t=Zi (q.map λa=>m*a) t*Zi b t+(n:Rat)*Zi z t:=λt=>by grind [Zx]
 have v:=Yb8 l g O j;have w:(tzl (q.map λa=>m*a)).length<=a.length-b.length+1:=by grind
 generalize G:(q.map λa=>m*a)=Q at *;refine⟨⟨1,n,-(L*m),[],[1],[L*m],Q.map λc=>(-1)*c,O,o,?_,λt=>?_,λt=>?_,λt=>?_,?_,?_⟩,aH _,e⟩
 .simp_all
 .rw [Of];show _=(0:Rat)*_+_;grind
 .grind [Of,Zx]
 .rw [Of,Of];show(0:Rat)*_-_=_;grind
 .refine Zqv λi hi=>?_;grind [Pp,Yep]
 grind [Nat.le_trans,Md]
def Ziq{n:Nat}(h:Sz n a)(i:Nat):(cf a i).natAbs<=2^n:=dI ((Qq n _).1 (h i))
theorem Zar(h:tzl p=[])(x:Rat):Zi p x=0:=by rw [<-Lu,h];rfl
theorem tzl_ne(h:cf p i≠0):tzl p≠[]:=λe=>h ((Ii p).1 e i)
def nn_eq{x a b:Nat}(e:x<=b)(g:b<=a):b-x+1+(a-x+1)=a+b-2*x+2:=O
theorem Inv.bound{n s:Nat}(hI:Inv a b x y)(I:b.length<=a.length)(ha:Tr a)(hx:Tr x)(hy:Tr y)(h0:y≠[])(hp:Yv y=1)(na:Sz n a)(nb:Sz n b)(hs:a.length+b.length-2*x.length+2<=2^s) :
  Xw y<=(s+1+n)*(a.length+b.length-2*x.length+2):=by
 obtain⟨⟨α,β,γ,u',v',u,v,hα,hβ,hγ,e1,e2,e3,l1,l2⟩,xl,yl⟩:=hI;have a6:=aI.2 h0;have a5:x≠[]:=λe=>O4;have D:a≠[]:=λe=>by grind
 obtain⟨U,V,lU,lV,W,bU,bV,hz⟩:=Zju a b (x.length-1) (p:=b.length-x.length+1) (q:=a.length-x.length+1) (A:=2^n) (cE O) (Ziq na) (Ziq nb) O O O;have hv:a.length+1<=(tzl v).length+x.length:=by
  refine bE λB=>?_;have Q:∀i,cf (Ms (a.map λc=>γ*c) ((lmul y v').map λc=>β*c)) i=cf (lmul (tzl v) (x.map λc=>α*c)) i:=λi=>Nq (λt=>by grind [Xp,Zx,Yn,Lu]) i
  have o:=Q (a.length-1);rw [Li,Pp,Pp,Zay (m:=y.length) (n:=a.length-x.length+1) (Md _) l2 _ O,Dc]at o;have F:=Ze2 (U:=tzl v) (a:=x.map λc=>α*c) (p:=(tzl v).length) (t:=a.length-1) (aH _) O4;rw [PS.mul_c]at F;have G:Yl (λk=>cf (tzl v) k*cf (x.map λc=>α*c) (a.length-1-k)) (a.length-1+1)=0:=F;rw [G]at o;have:=bC hγ (ha.mem D);omega
 have g:tzl v≠[]:=λe=>O4;have cR:∀i,cf (Ms (lmul U a) (lmul V b)) i=(ps U*ps a).c i+(ps V*ps b).c i:=λi=>by rw [Li,Dc,Dc,PS.mul_c,PS.mul_c];rfl
 generalize hR:Ms (lmul U a) (lmul V b)=R at cR;have rR:∀t,Zi R t=Zi U t*Zi a t+Zi V t*Zi b t:=λt=>by grind [Xp,Yn]
 have lR:(tzl R).length<=x.length-1:=Zqv λi hi=>O4;have hf:tzl (Ms (lmul U v) ((lmul u V).map λc=>(-1)*c))=[]:=by
  rcases Zg9 (Ms (lmul R v) ((lmul y V).map λc=>(-β)*c)) (Ms (lmul U v) ((lmul u V).map λc=>(-1)*c)) (a.length-1) (y:=a) (λt=>by
   grind [Xp,Zx,Yn]) ha D (λi hi=>by
   rw [Li,Pp,Zay lR l1 i O,Zay (m:=y.length) (n:=a.length-x.length+1) (Md _) (aB (Md _) (mM lV)) i O];simp)with B|B
  .omega
  .refine bE λh8=>?_;grind [List.length_pos_iff]
 have a4:∀t,Zi U t*Zi v t=Zi u t*Zi V t:=λt=>by have:=Zar hf t;grind [Xp,Zx,Yn]
 have a1:∀t,Zi R t*Zi v t=β*Zi y t*Zi V t:=λt=>by grind
 have hw:∀t,(γ:Rat)*Zi V t=Zi v t*Zi (Ms (lmul u' V) ((lmul v' U).map λc=>(-1)*c)) t:=λt=>by rw [Xp,Zx,Yn,Yn,<-e3 t];grind
 generalize Ms (lmul u' V) ((lmul v' U).map λc=>(-1)*c)=w at hw;have hV:tzl V≠[]:=λe=>by
  rcases W with⟨i,hi⟩|⟨i,hi⟩
  .refine hi (Nq (p:=U) (q:=[]) (λt=>?_) i▸Zd2 i);exact Ev v (f:=U) g (λt=>by grind [Zar]) t
  grind [tzl_ne]
 have a0:∃c:Int,c≠0/\∀t,Zi w t=(c:Rat):=by
  have j:tzl w≠[]:=λe=>hV ((Ii V).2 λi=>by have:=Nq (p:=V.map λc=>γ*c) (q:=[]) (λt=>by rw [Zx,hw t,Zar e];show _=(0:Rat);simp) i;grind [Pp,Zd2,Int.mul_eq_zero])
  rcases Zg9 (V.map λc=>γ*c) w (a.length-x.length+1) (y:=tzl v) (λt=>by grind [Zx,Lu]) (Xx v) g (λi hi=>by grind [Pp,Yr])with B|B
  .grind
  .have h8:=aI.2 j;have h7:(tzl w).length=1:=O
   match M:tzl w,h7 with
   | [c],_=>
    refine⟨c,?_,λt=>by rw [<-Lu,M,Of]⟩;have:=(Xx w).mem j;rw [M]at this;exact this
 obtain⟨c,P,M⟩:=a0;have h:Sim R y:=by
  refine⟨γ,β*c,hγ,bC hβ P,λi=>?_⟩;have:=Nq (p:=R.map λd=>γ*d) (q:=y.map λd=>(β*c)*d) (λt=>by
   rw [Zx,Zx];push_cast;have o:Zi (Ms (R.map λd=>γ*d) (y.map λd=>(-(β*c))*d)) t=0:=Ev v g (λt=>by grind [Xp,Zx]) t
   grind [Xp,Zx]) i
  grind [Pp]
 have Z:Sz ((s+1+n)*(a.length+b.length-2*x.length+2)) R:=λi=>by
  rw [cR];have c1:=Yeb i lU bU (Ziq na);have c2:=Yeb i lV bV (Ziq nb);have H:b.length-x.length+1+(a.length-x.length+1)=a.length+b.length-2*x.length+2:=nn_eq xl I;rw [<-H]at hs ⊢;generalize hN:b.length-x.length+1+(a.length-x.length+1)=N at *;generalize a3:(2*N*2^n)^(N-1)=X at *;have c3:((ps U*ps a).c i+(ps V*ps b).c i).natAbs<=N*(X*2^n):=by rw [<-hN,cN];omega
  refine(Qq _ _).2 (aU c3 ?_);have a2:0<X:=O4;have c4:N*(X*2^n)<(2*N*2^n)^N:=by
   have e:(2*N*2^n)^N=X*(2*N*2^n):=by grind [Nat.pow_succ,Nat.succ_eq_add_one]
   grind [Nat.mul_pos,Nat.pow_pos]
  have c5:2*N*2^n<=2^(s+1+n):=by rw [bR,cK];exact aL _ O
  grind [Nat.pow_le_pow_left,Nat.pow_mul,Nat.lt_of_lt_of_le]
 have o:tzl R≠[]:=λe=>by obtain⟨m,k,hm,S,e9⟩:=h;have:=e9 (y.length-1);rw [(Ii R).1 e,dY]at this;exact bC S (hy.mem h0) this.symm
 have l:Sim (tzl R) y:=by obtain⟨m,k,hm,S,e9⟩:=h;exact⟨m,k,hm,S,λi=>by grind [Lc]⟩
 have F:=(Qk (Xx R)).trans l;have G:∀i,(cf y i).natAbs=(cf (Yg (tzl R)) i).natAbs:=λi=>by
  rcases Zl6 (Yu (Xx R)) hy (λe=>o (aC (by grind [Yj]))) (Kg (Xx R) o) hp F with B|B
  all_goals grind
 exact Qv λi=>by rw [G];exact Gb Z.tzl i
def Zv1(g e K:Nat):Prop:=∀l,l<=e->(l+1)*(K*(g+e-2*l+2)+1)<=65536
def Zxu{e g K l:Nat}(h:l<=m):K*(e+g-2*m+2)<=K*(e+g-2*l+2):=aW _ O
theorem Zh6{C:Nat}(e:y≠[])(l:y.length<x.length)(g:Xw x<=C)(j:Xw y<=C)(h:(x.length+1)*(C+1)<=65536):Ai x y=0:=by have n:=aI.2 e;unfold Ai;have k:(x.length-y.length+1)*(Xw y+1)<=x.length*(C+1):=aO O O;grind
theorem Ygr(n:Inv a b x y)(g:b.length<=a.length)(j:Tr x)(l:Tr y)(e:y≠[]):Inv a b y (Yg (Qp x y)):=by
 obtain⟨k,s,hs⟩:=Cx x e;have h:=Mj (l.mem e) k;generalize cf y _^k=L at hs h;have o:∀t,(L)*Zi x t=Zi s t*Zi y t+Zi (Qp x y) t:=λt=>by have:=Ck L (-1) x s y (Qp x y) (λt=>O4) t;grind
 exact n.next g j l e h o (Qk (Kd j)).symm (by simp_all [Yj,Pf])
theorem Zhc(h:Tr p):Yg p=[]\/Yv (Yg p)=1:=by
 by_cases e:p=[]
 .left;rw [e];rfl
 grind [Kg]
theorem Ag(g:Tr x)(e:y≠[]):(Mr x y).length<y.length:=by simp_all [Af,Pf]
theorem Ygq(n:Inv a b x y)(j:b.length<=a.length)(g:Tr x)(h:Tr y)(e:y≠[]):Inv a b y (Mr x y)/\(Mr x y=[]\/Yv (Mr x y)=1):=by
 have B:=aI.2 e;have v:=n.yl;obtain⟨r1,r2,k,u,w⟩:=Zcd h e x.length x g O;have hs:=Zee x.length g h e O O;have l:Tr (Zi4 (Fa x.length x y)):=Qj _ _;have o:Er y^k≠0:=Mj (by have:=Zg7 h e;omega) _;constructor
 .refine n.next (z':=Fa x.length x y) (q:=u) j g h e o (λt=>?_) ?_ (Ag g e)
  .have:=Ck (Er y^k) (-1) x u y (Fa x.length x y) (λt=>O4) t;grind
  .rw [<-hs];exact Sim.trans ⟨1,-1,O,O,λi=>by grind [Za6]⟩ (Qk l).symm
 grind [Zhc]
theorem Yds{a b:List Int}{n s K:Nat}(g:b.length<=a.length)(F:Tr a)(I:Sz n a)(M:Sz n b)(hs:a.length+b.length<=2^s)(B:s+1+n<=K)(D:Zv1 a.length b.length K) :
  ∀(f:Nat) (x y:List Int),Inv a b x y->Tr x->Tr y->(y=[]\/Yv y=1)->Xw x<=K*(a.length+b.length-2*x.length+2)->y.length<=f->eok f x y/\Xw (eu f x y)<=K*(a.length+b.length)
 | 0,x,y,e,o,v,G,l,Q=>by have k:=e.yl;refine⟨aC O,aB l (aW _ (by have:=e.xl;omega))⟩
 | f+1,x,y,e,o,v,G,l,Q=>by
  have w:=e.yl;have k:=e.xl;by_cases h:y=[]
  .subst h;refine⟨.inl rfl,?_⟩;exact aB l (aW _ O)
  .have N:=e.bound g F o v h (G.resolve_left h) I M (s:=s) O;have j:=aB N (aL _ B);have P:=Zh6 h w l j (D _ k);have H:=Kd (q:=y) o;have R:=Yds g F I M hs B D f y _ (Ygr e g o v h) v (Yu H) (Zhc H) (aB j (Zxu O)) (by rw [Yj];have:=Pf x h;omega);refine⟨.inr ⟨P,R.1⟩,?_⟩;rw [show eu _ x y=eu f y (Yg (Qp x y)) by
     conv=>lhs;unfold eu
     grind]
   omega
theorem Yed{a b:List Int}{n s K:Nat}(j:b.length<=a.length)(G:Tr a)(M:Sz n a)(N:Sz n b)(hs:a.length+b.length<=2^s)(D:s+1+n<=K)(F:Zv1 a.length b.length K) :
  ∀(f:Nat) (x y:List Int),Inv a b x y->Tr x->Tr y->(y=[]\/Yv y=1)->Xw x<=K*(a.length+b.length-2*x.length+2)->y.length<=f->cok f x y/\∀p∈Nz f x y,Xw p<=K*(a.length+b.length)/\p.length<=a.length
 | 0,x,y,h,o,w,e,l,R=>by
  have v:=h.yl;have H:=h.xl;have g:y=[]:=aC O;refine⟨g,λp e=>?_⟩;have:p=x:=by unfold Nz at e;grind
  rw [this];exact⟨aB l (aW _ O),O⟩
 | f+1,x,y,h,o,w,e,l,R=>by
  have B:=h.yl;have v:=h.xl;by_cases g:y=[]
  .subst g;refine⟨.inl rfl,λp e=>?_⟩;rw [Du]at e;have:p=x:=O4;rw [this];exact⟨aB l (aW _ O),O⟩
  .have P:=h.bound j G o w g (e.resolve_left g) M N (s:=s) O;have k:=aB P (aL _ D);have Q:=Zh6 g B l k (F _ v);obtain⟨S,V⟩:=Ygq h j o w g;have I:=Yed j G M N hs D F f y _ S w (Zc6 o) V (aB k (Zxu O)) (by have:=Ag o g;omega);refine⟨.inr ⟨Q,O,I.1⟩,λp e=>?_⟩;unfold Nz at e;rw [aJ g]at e;rcases bD.1 e with rfl|e
   .exact⟨aB l (aW _ O),O⟩
   .exact I.2 p e
theorem Ydt (s:Nat)(K:Nat){n f:Nat}(j:b.length<a.length)(h:Tr a)(l:Tr b)(w:Sz n a)(B:Sz n b)(hs:a.length+b.length<=2^s)(F:s+1+n<=K)(H:Zv1 a.length b.length K)(I:(a.length+1)*(n+1)<=65536)(S:b.length<=f) :
  eok f a b/\Xw (eu f a b)<=K*(a.length+b.length):=by
 have Q:=Qv w;have R:=Qv B;have G:n<=K*(a.length+b.length):=aB (by omega:n<=K*1) (aW _ O);by_cases e:b=[]
 .subst e;cases f with
  | zero=>exact⟨rfl,by grind [Bm]⟩
  | succ f=>exact⟨.inl rfl,by grind [Bm]⟩
 .have V:=aI.2 e;obtain⟨g,rfl⟩:∃g,f=g+1:=⟨f-1,O⟩;have o:=Kd (q:=b) h;obtain⟨k,q,N⟩:=Cx a e;have v:=Mj (l.mem e) k;generalize cf b _^k=L at N v;have M:∀t,(L)*Zi a t=Zi q t*Zi b t+Zi (Qp a b) t:=λt=>by have:=Ck L (-1) a q b (Qp a b) (λt=>O4) t;grind
  have D:=Inv.first O h l e v M (Qk o).symm (by simp_all [Yj,Pf]);have P:=Yds O h w B hs F H g b _ D l (Yu o) (Zhc o) (aB (by omega:Xw b<=K*1) (aW _ O5)) (by rw [Yj];have:=Pf a e;omega);refine⟨.inr ⟨Zh6 e j Q R I,P.1⟩,?_⟩;rw [show eu _ a b=eu g b (Yg (Qp a b)) by
    conv=>lhs;unfold eu
    grind]
  omega
theorem Yta{n s K f:Nat}(w:b.length<a.length)(j:Tr a)(l:Tr b)(F:Sz n a)(G:Sz n b)(hs:a.length+b.length<=2^s)(I:s+1+n<=K)(N:Zv1 a.length b.length K)(P:(a.length+1)*(n+1)<=65536)(V:b.length<=f) :
  cok f a b/\∀p∈Nz f a b,Xw p<=K*(a.length+b.length)/\p.length<=a.length:=by
 have R:=Qv F;have S:=Qv G;have M:n<=K*(a.length+b.length):=aB (by omega:n<=K*1) (aW _ O);by_cases e:b=[]
 .subst e;have h:∀p∈Nz f a [],Xw p<=K*(a.length+([]:List Int).length)/\p.length<=a.length:=λp o=>by rw [Du]at o;grind
  cases f with
  | zero=>exact⟨rfl,h⟩
  | succ f=>exact⟨.inl rfl,h⟩
 .have Z:=aI.2 e;obtain⟨g,rfl⟩:∃g,f=g+1:=⟨f-1,O⟩;obtain⟨r1,r2,k,u,W⟩:=Zcd l e a.length a j O;have B:=Zee a.length j l e O O;have D:Tr (Zi4 (Fa a.length a b)):=Qj _ _;have v:Er b^k≠0:=Mj (by have:=Zg7 l e;omega) _;have H:=by
   refine Inv.first (z':=Fa a.length a b) (q:=u) O j l e v (λt=>?_) ?_ (Ag j e)
   .have:=Ck (Er b^k) (-1) a u b (Fa a.length a b) (λt=>O4) t;grind
   .rw [<-B];exact Sim.trans ⟨1,-1,O,O,λi=>by grind [Za6]⟩ (Qk D).symm
  have o:Mr a b=[]\/Yv (Mr a b)=1:=by grind [Zhc]
  have Q:=Yed O j F G hs I N g b _ H l (Zc6 j) o (aB (by omega:Xw b<=K*1) (aW _ O5)) (by have:=Ag j e;omega);refine⟨.inr ⟨Zh6 e w R S P,O,Q.1⟩,λp o=>?_⟩;unfold Nz at o;grind
def al:List Int->List Int->List Int
 | [],g=>g
 | a::f,[]=>a::f
 | a::f,b::g=>(a+b)::al f g
def scl(c:Int)(f:List Int):List Int:=f.map (c*·)
def ddl(k:Nat):List Int->List Int
 | []=>[]
 | b::g=>(k:Int)*b::ddl (k+1) g
def dl(f:List Int):List Int:=ddl 1 f.tail
def xl:List Int->List Int
 | []=>[]
 | a::f=>0::a::f
def fc:Nat->Int
 | 0=>1
 | k+1=>((k:Int)+1)*fc k
def Gx:Nat->List Int->List Int->Int
 | k,a::f,b::g=>fc k*(a*b)+Gx (k+1) f g
 | _,_,_=>0
theorem Zsv(k:Nat)(f:List Int):Gx k f []=0:=by cases f<;>rfl
theorem Yo1(f:List Int):al f []=f:=by cases f<;>rfl
theorem Ye5:∀f g:List Int,al f g=al g f
 | [],g=>(Yo1 g).symm
 | a::f,[]=>rfl
 | a::f,b::g=>by show(a+b)::al f g=(b+a)::al g f;rw [Ye5 f g,iE]
theorem Zx3:∀f g h:List Int,al (al f g) h=al f (al g h)
 | [],g,h=>rfl
 | a::f,[],h=>rfl
 | a::f,b::g,[]=>rfl
 | a::f,b::g,c::h=>by show(a+b+c)::al _ h=(a+(b+c))::al f _;rw [Zx3 f g h,Int.add_assoc]
instance:Std.Commutative al:=⟨Ye5⟩
instance:Std.Associative al:=⟨Zx3⟩
theorem Yjc(c:Int):∀f g,scl c (al f g)=al (scl c f) (scl c g)
 | [],g=>rfl
 | a::f,[]=>rfl
 | a::f,b::g=>by show c*(a+b)::scl c _=(c*a+c*b)::al (scl c f) (scl c g);rw [Yjc c f g,jV]
theorem Ybg(c d:Int):∀f,scl (c+d) f=al (scl c f) (scl d f)
 | []=>rfl
 | a::f=>by show(c+d)*a::scl _ f=(c*a+d*a)::al (scl c f) (scl d f);rw [Ybg c d f,mQ]
theorem Zkt:∀f,scl 1 f=f
 | []=>rfl
 | a::f=>by show 1*a::scl 1 f=a::f;rw [Zkt f,fY]
theorem Ynh:∀k f g,ddl k (al f g)=al (ddl k f) (ddl k g)
 | k,[],g=>rfl
 | k,a::f,[]=>rfl
 | k,a::f,b::g=>by show(k)*(a+b)::ddl _ _=((k)*a+(k)*b)::al _ _;rw [Ynh _ f g,jV]
theorem Yd1(c:Int):∀k f,ddl k (scl c f)=scl c (ddl k f)
 | k,[]=>rfl
 | k,a::f=>by show(k)*(c*a)::ddl _ (scl c f)=c*((k)*a)::scl c _;rw [Yd1 c _ f,Int.mul_left_comm]
theorem Zxf:∀k f,ddl (k+1) f=al f (ddl k f)
 | k,[]=>rfl
 | k,a::f=>by show((k+1))*a::ddl _ f=(a+(k)*a)::al f _;rw [Zxf _ f];grind
def dl_al:∀f g,dl (al f g)=al (dl f) (dl g)
 | [],g=>rfl
 | a::f,[]=>(Yo1 _).symm
 | a::f,b::g=>Ynh 1 f g
def dl_scl(c:Int):∀f,dl (scl c f)=scl c (dl f)
 | []=>rfl
 | a::f=>Yd1 c 1 f
theorem dl_x:∀f,dl (xl f)=al f (xl (dl f))
 | []=>rfl
 | [a]=>by show(((1))*a::[])=[a];simp
 | a::b::f=>by show((1))*a::ddl _ _=(a+0)::al _ (ddl 1 (b::f));simp [Zxf,fY,gJ]
def xl_al:∀f g,xl (al f g)=al (xl f) (xl g)
 | [],g=>rfl
 | a::f,[]=>rfl
 | a::f,b::g=>rfl
theorem xl_scl(c:Int):∀f,xl (scl c f)=scl c (xl f)
 | []=>rfl
 | a::f=>by show 0::c*a::scl c f=c*0::c*a::scl c f;simp
theorem Zdr:∀k f g,Gx k f g=Gx k g f
 | k,[],g=>(Zsv k g).symm
 | k,a::f,[]=>rfl
 | k,a::f,b::g=>by show fc k*(a*b)+Gx _ f g=fc k*(b*a)+Gx _ g f;rw [Zdr _ f g,fK a b]
theorem Zny:∀k f g h,Gx k (al f g) h=Gx k f h+Gx k g h
 | k,[],g,h=>by show Gx k g h=0+Gx k g h;omega
 | k,a::f,[],h=>(gJ _).symm
 | k,a::f,b::g,[]=>rfl
 | k,a::f,b::g,c::h=>by show fc k*((a+b)*c)+Gx _ _ h=fc k*(a*c)+Gx _ f h+(fc k*(b*c)+Gx _ g h);rw [Zny _ f g h];grind
theorem Znx(k:Nat)(h f g:List Int):Gx k h (al f g)=Gx k h f+Gx k h g:=by grind [Zdr,Zny]
theorem Zhw(c:Int):∀k f g,Gx k (scl c f) g=c*Gx k f g
 | k,[],g=>(dY c).symm
 | k,a::f,[]=>(dY c).symm
 | k,a::f,b::g=>by show fc k*(c*a*b)+Gx _ (scl c f) g=c*(fc k*(a*b)+Gx _ f g);rw [Zhw c _ f g];grind
theorem Zsu(c:Int)(k:Nat)(f g:List Int):Gx k f (scl c g)=c*Gx k f g:=by grind [Zdr,Zhw]
theorem Ymv:∀k f g,Gx (k+1) f g=Gx k f (ddl (k+1) g)
 | k,[],g=>rfl
 | k,a::f,[]=>rfl
 | k,a::f,b::g=>by show((k)+1)*fc k*(a*b)+Gx _ f g=fc k*(a*(((k+1))*b))+Gx _ f _;rw [Ymv _ f g];grind
theorem fip_x:∀f g,Gx 0 (xl f) g=Gx 0 f (dl g)
 | [],g=>rfl
 | a::f,[]=>rfl
 | a::f,b::g=>by show fc 0*(0*b)+Gx 1 _ g=Gx 0 _ (ddl 1 g);simp [cL,dY,kJ,Ymv]
theorem Yms(f g:List Int):Gx 0 f (xl g)=Gx 0 (dl f) g:=by grind [Zdr,fip_x]
def Mq:List Int->Nat->List Int->List Int
 | [],_,_=>[]
 | c::q,0,g=>al (scl c g) (xl (Mq q 0 g))
 | c::q,j+1,g=>al (xl (Mq q (j+1) g)) (Mq q j g)
def Hq:List Int->Nat->List Int->List Int
 | [],_,_=>[]
 | c::p,0,f=>al (scl c f) (Hq p 0 (dl f))
 | c::p,k+1,f=>al (Hq p (k+1) (dl f)) (Hq p k f)
theorem Ydz:∀q j g,dl (Mq q j g)=al (Mq q j (dl g)) (scl ((j:Int)+1) (Mq q (j+1) g))
 | [],j,g=>rfl
 | c::q,0,g=>by
  show dl (al _ _)=al (al _ _) (scl _ (al _ _));rw [dl_al,dl_scl,dl_x,Ydz q 0 g,xl_al];rw [show((0:Nat):Int)+1=1 from rfl,Zkt,Zkt]
  ac_rfl
 | c::q,j+1,g=>by
  show dl (al _ _)=al (al _ _) (scl _ (al _ _));rw [dl_al,dl_x,Ydz q _ g,Ydz q j g,xl_al,xl_scl,Yjc];rw [show scl (((j+1:Nat))+1) (Mq q _ g)=al (scl ((j)+1) (Mq q (j+1) g)) (Mq q (j+1) g) by simp [Ybg,Zkt]]
  grind
theorem Zlb:∀q j f g,Gx 0 f (Mq q j g)=Gx 0 (Hq q j f) g
 | [],j,f,g=>Zsv 0 f
 | c::q,0,f,g=>by show Gx 0 f (al _ _)=Gx 0 (al _ _) g;rw [Znx,Zny,Zsu,Zhw,Yms,Zlb q 0 _ g]
 | c::q,j+1,f,g=>by show Gx 0 f (al _ _)=Gx 0 (al _ _) g;rw [Znx,Zny,Yms,Zlb q _ _ g,Zlb q j f g]
def wfa:Nat->Nat->Int
 | j,0=>1
 | j,k+1=>((j:Int)+1)*wfa (j+1) k
theorem Zqs:∀k j,0<wfa j k
 | 0,j=>by show(0)<1;omega
 | k+1,j=>fQ O5 (Zqs k _)
theorem Znw:∀(p q:List Int) (j:Nat) (f g:List Int) (K:Nat),p.length<=K->Gx 0 (Mq p 0 f) (Mq q j g)=Yl (λk=>wfa j k*Gx 0 (Hq q (j+k) f) (Hq p k g)) K
 | [],q,j,f,g,K,_=>by rw [Gk (λk h=>by show wfa j k*Gx 0 _ []=0;rw [Zsv,dY])];rfl
 | c::p,q,j,f,g,K,hK=>by
  obtain⟨e,rfl⟩:∃e,K=e+1:=⟨K-1,O4⟩;have l:p.length<=e:=O4;have n:=Znw p q j f (dl g) (e+1) O;have w:=Znw p q (j+1) f g e l;show Gx 0 (al _ _) _=_;rw [Zny,Zhw,fip_x,Ydz,Znx,Zsu,n,Zlb];rw [Mp,Mp _];have o:Gx 0 (Hq q (j+0) f) (Hq (c::p) 0 g)=c*Gx 0 (Hq q j f) g+Gx 0 (Hq q j f) (Hq p 0 (dl g)):=by show Gx 0 (Hq q j f) (al _ _)=_;rw [Znx,Zsu]
  have v:Yl (λk=>wfa j (k+1)*Gx 0 (Hq q (j+(k+1)) f) (Hq (c::p) (k+1) g)) e=Yl (λk=>wfa j (k+1)*Gx 0 (Hq q (j+(k+1)) f) (Hq p (k+1) (dl g))) e+((j)+1)*Yl (λk=>wfa (j+1) k*Gx 0 (Hq q (j+1+k) f) (Hq p k g)) e:=by rw [<-Me,<-Fu];refine Xj λk h=>?_;show _*Gx 0 _ (al _ _)=_;rw [Znx];show((j)+1)*wfa _ k*_=((j)+1)*wfa _ k*_+_;grind
  show _=(1)*_+_;show _*_+((1)*_+_+_)=_;grind
theorem Zq2(a:Int):0<=a*a:=by
 rcases Int.le_total 0 a with h|h
 .exact cY h h
 .have:=cY (show 0<=-a by omega) (show 0<=-a by omega);grind
theorem Zjc:∀k,1<=fc k
 | 0=>O3
 | k+1=>by have h:=Zjc k;show 1<=((k)+1)*fc k;have e:=iS (show(1:Int)<=(k)+1 by omega) h O3 O;omega
theorem Ymw(k:Nat)(f:List Int)(b:Int)(g:List Int):Gx k f (b::g)=fc k*(cf f 0*b)+Gx (k+1) f.tail g:=by
 cases f with
 | nil=>show(0)=fc k*(0*b)+Gx _ [] g;rw [cL,dY];rfl
 | cons a f=>rfl
theorem Yoa(f:List Int)(i:Nat):cf f.tail i=cf f (i+1):=by cases f<;>rfl
theorem Zsx:∀k (f e g:List Int),(∀i,cf f i=cf e i)->Gx k f g=Gx k e g
 | k,f,e,[],h=>by grind [Zsv]
 | k,f,e,b::g,h=>by rw [Ymw,Ymw,h 0,Zsx _ _ e.tail g λi=>by rw [Yoa,Yoa,h]]
theorem Zsw:∀k f,0<=Gx k f f
 | k,[]=>eV _
 | k,a::f=>by show 0<=fc k*(a*a)+Gx _ f f;have e:=Zsw (k+1) f;have g:=cY (show 0<=fc k by have:=Zjc k;omega) (Zq2 a);omega
theorem Ymu:∀k f i,cf f i*cf f i<=Gx k f f
 | k,[],i=>by exact eV _
 | k,a::f,0=>by show a*a<=fc k*(a*a)+Gx _ f f;have e:=Zsw (k+1) f;have g:=dS (Zjc k) (Zq2 a);omega
 | k,a::f,i+1=>by show cf f i*cf f i<=fc k*(a*a)+Gx _ f f;have e:=Ymu (k+1) f i;have g:=cY (show 0<=fc k by have:=Zjc k;omega) (Zq2 a);omega
def fcs:Nat->Nat->Int
 | k,0=>0
 | k,n+1=>fc k+fcs (k+1) n
theorem Ymx:∀n k,0<=fcs k n
 | 0,k=>eV _
 | n+1,k=>by have h:=Ymx n (k+1);have:=Zjc k;show 0<=fc k+fcs _ n;omega
theorem Ymt:∀n k (f:List Int) (A:Int),f.length<=n->(∀x∈f,x*x<=A)->0<=A->Gx k f f<=fcs k n*A
 | n,k,[],A,_,_,e=>cY (Ymx n k) e
 | 0,k,a::f,A,h,_,_=>O4
 | n+1,k,a::f,A,h,hx,e=>by have j:=Ymt n (k+1) f A (by simpa using h) (λx g=>hx x (bX _ g)) e;have l:=gC (hx a (cH ..)) (show 0<=fc k by have:=Zjc k;omega);show fc k*(a*a)+Gx _ f f<=(fc k+fcs _ n)*A;rw [mQ];omega
theorem Yar:∀p k f,p.length<=k->Hq p k f=[]
 | [],k,f,_=>by all_goals rfl
 | c::p,0,f,h=>O4
 | c::p,k+1,f,h=>by
  show al _ _=[];have e:=by simpa using h
  rw [Yar p _ _ O,Yar p k _ e];rfl
theorem Ypa:∀p k f,p.length=k+1->Hq p k f=scl (cf p k) f
 | [],k,f,h=>O4
 | [c],0,f,h=>Yo1 _
 | c::d::p,0,f,h=>O4
 | c::p,k+1,f,h=>by
  have e:=by simpa using h
  show al _ _=scl _ f;rw [Yar p _ _ O,Ypa p k f e];rfl
theorem Yoe:∀f g i,cf (al f g) i=cf f i+cf g i
 | [],g,i=>by rw [Yr (p:=[]) O5,kJ];rfl
 | a::f,[],i=>by rw [Yr (p:=[]) O5,gJ];rfl
 | a::f,b::g,0=>rfl
 | a::f,b::g,i+1=>Yoe f g i
def Yoc(c:Int)(f:List Int)(i:Nat):cf (scl c f) i=c*cf f i:=Zge f _ (dY c) i
theorem cf_xl0(f:List Int):cf (xl f) 0=0:=by cases f<;>rfl
theorem cf_xl(f:List Int)(i:Nat):cf (xl f) (i+1)=cf f i:=by cases f<;>rfl
theorem cf_Mq:∀p f i,cf (Mq p 0 f) i=(ps p*ps f).c i
 | [],f,i=>by rw [PS.mul_c,Gk (λk _=>by simp [Nx,Yr,cL])];rfl
 | c::p,f,0=>by show cf (al _ _) 0=_;rw [Yoe,Yoc,cf_xl0,PS.mul_c,Mp,gJ];exact(gJ _).symm
 | c::p,f,i+1=>by show cf (al _ _) _=_;rw [Yoe,Yoc,cf_xl,cf_Mq p f i,PS.mul_c,PS.mul_c,Mp _ (i+1)];refine aD _ (Xj λk e=>?_);show cf p k*cf f _=cf p k*cf f _;simp
theorem Ygz{s v:List Int}{n L e:Nat}(hu:Tr u)(B:Tr v)(hs:Sz n s)(G:s≠[])(V:s.length<=L)(Q:fcs 0 L<=2^e*2^e)(h:s=Qz u v):Sz (n+e) u:=by
 have a0:v≠[]:=λe=>G (by grind [Zck]);obtain⟨m,Z⟩:∃m,v.length=m+1:=⟨v.length-1,by grind [List.length_pos_iff]⟩;have w:cf v m≠0:=by
  rcases B with B|B
  all_goals grind
 have l:∀i,cf (Mq v 0 u) i=cf s i:=λi=>by rw [cf_Mq,h,Dy,Gu]
 have g:=Znw v v 0 u u (m+1) O;rw [Zsx 0 _ s _ l,Zdr,Zsx 0 _ s _ l,Yp,cJ,Ypa v m u Z,Zhw,Zsu]at g;have j:∀t,0<=Yl (λk=>wfa 0 k*Gx 0 (Hq v (0+k) u) (Hq v k u)) t:=λt=>by
  induction t with
  | zero=>exact eV _
  | succ t ih=>
   rw [Yp,cJ];have:=cY (show 0<=wfa 0 t by have:=Zqs t 0;omega) (Zsw 0 (Hq v t u));omega
 have hr:=j m;have P:1<=cf v m*cf v m:=by have h1:=Zq2 (cf v m);grind [Int.mul_eq_zero]
 have R:=Zsw 0 u;have h3:Gx 0 u u<=cf v m*(cf v m*Gx 0 u u):=by have:=dS P R;grind
 have h4:=by have:=dS (show 1<=wfa 0 m from Zqs m 0) (show 0<=cf v m*(cf v m*Gx 0 u u) by omega);omega
 intro i;rw [Qq];have h5:=Ymu 0 u i;have M:∀x∈s,x*x<=(2^n-1)*(2^n-1):=λx hx=>by
  have hb:x.natAbs<2^n:=(Qq n _).1 (hs.mem hx);have N:((2^n:Nat):Int)=2^n:=by rfl
  have p1:x<=2^n-1:=O;have p2:-(2^n-1)<=x:=O;generalize (2:Int)^n-1=y at *;have:=cY (show 0<=y-x by omega) (show 0<=y+x by omega);grind
 have hp:(1:Int)<=2^n:=by exact_mod_cast cE (n:=n) (show 0<2 by omega)
 have F:(1:Int)<=2^e:=by exact_mod_cast cE (n:=e) (show 0<2 by omega)
 have h6:=Ymt L 0 s _ V M (cY O O);have h7:=by have:=dS Q (show(0:Int)<=(2^n-1)*(2^n-1)from cY O O);omega
 rcases bB (cf u i).natAbs (2^(n+e))with W|S
 .omega
 .exfalso;have D:(2^n*2^e:Int)<=((cf u i).natAbs:Int):=O4;have I:((cf u i).natAbs:Int)*((cf u i).natAbs:Int)=cf u i*cf u i:=Int.natAbs_mul_self;have o:=iS D D (cY O O) O5;rw [I]at o;generalize (2:Int)^n=X at *;generalize (2:Int)^e=Y at *;have H:(Y*Y)*((X-1)*(X-1))<(Y*Y)*(X*X):=by have hy:=iS F F O O;refine Int.mul_lt_mul_of_pos_left ?_ O;grind
  grind
end Go.Sky

