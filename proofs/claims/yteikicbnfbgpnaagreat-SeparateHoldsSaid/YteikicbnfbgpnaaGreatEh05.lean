/- Rules, arithmetic and contracts: part 6. No conditions but those that each theorem names. -/
import Derived.Test.YteikicbnfbgpnaaGreatEh04
set_option linter.all false
namespace Go.Sky
variable{p q a b s u xs x y v z:List Int}{c d r:Int}{f m i K B:Nat}{t:Rat}
theorem Yap(t:Int):∀p:List Int,Zb p (t:Rat)=((ev1 p t:Int):Rat)
 | []=>rfl
 | c::p=>by have h:=Yap t p;rw [show Zb (c::p) (t:Rat)=(c:Rat)+(t:Rat)*Zb p (t:Rat)from rfl,show ev1 (c::p) t=c+t*ev1 p t from rfl,h];push_cast;rfl
theorem Zo7(h:∀x:Rat,Zb p x=0)(i:Nat):cf p i=0:=by
 by_cases j:cf p i=0
 .exact j
 .exfalso;have:=Zsy p.length p ((List.range p.length).map λn:Nat=>(n:Int)) rfl ⟨i,j⟩ (by
   refine List.Pairwise.map _ (λa b g=>?_) List.nodup_range;intro e;exact g (by exact_mod_cast e)) (λt l=>by
   have k:=Yap t p;rw [h]at k;exact_mod_cast k.symm)
  simp at this
theorem Om(h:∀x:Rat,Zb p x=Zb q x)(i:Nat):cf p i=cf q i:=by have e:=Zo7 (p:=Nx p (q.map λa=>(-1)*a)) (λx=>by rw [Xc,Zi,h x];push_cast;grind) i;rw [Nz,Xz]at e;omega
def Ng(p:List Int)(x:Rat):Zb (tzl p) x=Zb p x:=Oh x _ _ λi=>Il p i
theorem Yf(p q:List Int)(x:Rat):Zb (Qn p q) x=Zb p x*Zb q x:=by rw [<-Zu];exact Oh x _ _ λi=>by rw [Iz,Ec,PS.mul_c];rfl
theorem Pb(c:Int)(x:Rat):Zb [c] x=(c:Rat):=by show(c:Rat)+x*0=c;grind
def ld:List Int->List Int
 | []=>[]
 | _::p=>Nx p (0::ld p)
theorem Zfn(c:Int)(p:List Int)(x:Rat):Zb (ld (c::p)) x=Zb p x+x*Zb (ld p) x:=by rw [show ld (c::p)=Nx p (0::ld p)from rfl,Xc];show Zb p x+(((0:Int):Rat)+x*Zb (ld p) x)=_;push_cast;grind
theorem Zgo:∀(p:List Int) (i:Nat),cf (ld p) i=cf p (i+1)*((i:Int)+1)
 | [],i=>by rw [Zbo,show ld []=[]from rfl,Zbo,dD]
 | c::p,0=>by rw [show ld (c::p)=Nx p (0::ld p)from rfl,Nz];show cf p 0+0=cf p 0*_;simp
 | c::p,i+1=>by have h:=Zgo p i;rw [show ld (c::p)=Nx p (0::ld p)from rfl,Nz];show cf p (i+1)+cf (ld p) i=cf p (i+1)*_;rw [h];push_cast;grind
theorem Ki(p:List Int)(x:Rat):Zb (Xa p) x=Zb (ld p) x:=Oh x _ _ λi=>by rw [Zgn,Zgo]
theorem Dr (p:List Int)(q:List Int)(h:∀x,Zb p x=Zb q x)(x:Rat):Zb (ld p) x=Zb (ld q) x:=Oh x _ _ λi=>by rw [Zgo,Zgo,Om h]
theorem Ym9(p q:List Int)(x:Rat):Zb (ld (Nx p q)) x=Zb (ld p) x+Zb (ld q) x:=by rw [<-Xc];exact Oh x _ _ λi=>by rw [Zgo,Nz,Nz,Zgo,Zgo];grind
theorem Ae(c:Int)(p:List Int)(x:Rat):Zb (ld (p.map λa=>c*a)) x=(c:Rat)*Zb (ld p) x:=by rw [<-Zi];exact Oh x _ _ λi=>by rw [Zgo,Xz,Xz,Zgo];grind
theorem Cj(x:Rat):∀p q:List Int,Zb (ld (lmul p q)) x=Zb (ld p) x*Zb q x+Zb p x*Zb (ld q) x
 | [],q=>by show(0:Rat)=0*Zb q x+0*Zb (ld q) x;grind
 | c::p,q=>by have h:=Cj x p q;rw [show lmul (c::p) q=Nx (q.map λa=>c*a) (0::lmul p q)from rfl,Ym9,Ae,Zfn,Zfn,h,Zu,show Zb (c::p) x=(c:Rat)+x*Zb p x from rfl];grind
def Ed(g a:List Int):Prop:=∃(k:Int) (s:List Int),k≠0/\∀x:Rat,(k:Rat)*Zb a x=Zb s x*Zb g x
theorem Ed.refl(a:List Int):Ed a a:=⟨1,[1],O3,λx=>by rw [Pb]⟩
theorem Ed.nil(g:List Int):Ed g []:=⟨1,[],O3,λx=>by show(((1:Int)):Rat)*0=0*Zb g x;grind⟩
theorem Ed.trans{c:List Int} : Ed a b->Ed b c->Ed a c:=λ⟨k,s,j,h⟩ ⟨m,u,l,e⟩=>
 ⟨k*m,lmul u s,bE j l,λx=>by have n:=h x;have g:=e x;rw [Zu];push_cast;have:(k:Rat)*m*Zb c x=k*(m*Zb c x):=O5;rw [this,g];grind⟩
theorem Ed.congr{g:List Int}(h:Ed g a)(e:∀x,Zb a x=Zb b x):Ed g b:=by obtain⟨k,s,j,h⟩:=h;exact⟨k,s,j,λx=>by rw [<-e x];exact h x⟩
theorem Ed.congr_l{g j:List Int}(h:Ed g a)(e:∀x,Zb g x=Zb j x):Ed j a:=by obtain⟨k,s,l,h⟩:=h;exact⟨k,s,l,λx=>by rw [<-e x];exact h x⟩
theorem Ed.sim{g:List Int}(h:Ed g a)(e:Sim a b):Ed g b:=by
 obtain⟨k,s,o,h⟩:=h;obtain⟨m,n,D,w,e⟩:=e;refine⟨k*n,s.map λc=>m*c,bE o w,λx=>?_⟩;have j:Zb (a.map λc=>m*c) x=Zb (b.map λc=>n*c) x:=Oh x _ _ λi=>by rw [Xz,Xz,e]
 rw [Zi,Zi]at j;rw [Zi];have:=h x;push_cast;have l:(k:Rat)*n*Zb b x=k*(n*Zb b x):=O5;rw [l,<-j];grind
theorem Ed.lin{g c:List Int}(w:Ed g a)(D:Ed g b)(s:List Int)(L:Int)(o:L≠0)(h:∀x,(L:Rat)*Zb c x=Zb s x*Zb a x+Zb b x):Ed g c:=by obtain⟨k,u,F,j⟩:=w;obtain⟨m,v,G,l⟩:=D;refine⟨L*(k*m),Nx ((lmul s u).map λc=>m*c) (v.map λc=>k*c),bE o (bE F G),λx=>?_⟩;have j:=j x;have l:=l x;have h:=h x;rw [Xc,Zi,Zi,Zu];push_cast;have e:(L:Rat)*(k*m)*Zb c x=k*m*(L*Zb c x):=O5;rw [e,h];have n:(k:Rat)*m*(Zb s x*Zb a x+Zb b x)=m*Zb s x*(k*Zb a x)+k*(m*Zb b x):=O5;rw [n,j,l];grind
theorem Zxd{g:List Int}{k:Int}(N:k≠0)(M:Tr g)(I:Tr a)(H:a≠[])(h:∀x:Rat,(k:Rat)*Zb a x=Zb s x*Zb g x):g≠[]/\tzl s≠[]/\(tzl s).length+g.length<=a.length+1:=by
 have o:∀i,k*cf a i=(ps (tzl s)*ps g).c i:=λi=>by have j:=Om (p:=a.map λc=>k*c) (q:=lmul (tzl s) g) (λx=>by rw [Zi,Zu,Ng];exact h x) i;rw [Xz,Ec]at j;rw [j,PS.mul_c];rfl
 have G:∀i,k*cf a i=0->cf a i=0:=λi hi=>(fN.1 hi).resolve_left N;have l:=I.mem H;have j:tzl s≠[]:=λe=>l (G _ (by rw [o,e,Kd (λt=>Yr (bJ _))]));have n:g≠[]:=λe=>l (G _ (by rw [o,e,PS.mul_comm',Kd (λt=>Yr (bJ _))]));refine⟨n,j,?_⟩;have P:=aG.2 j;have Q:=aG.2 n;have D:=Bo g (p:=tzl s) (a:=(tzl s).length-1) (b:=g.length-1) (λi hi=>Yr O1) (λi hi=>Yr O1);rw [<-o]at D;have w:=bE ((Qo s).mem j) (M.mem n);rcases bC ((tzl s).length-1+(g.length-1)) a.length with F|F
 .omega
 .rw [Yr F,eG]at D;exact absurd D.symm w
theorem Ed.len{g:List Int}(h:Ed g a)(o:Tr g)(n:Tr a)(l:a≠[]):g≠[]/\g.length<=a.length:=by obtain⟨k,s,w,h⟩:=h;obtain⟨e,j,D⟩:=Zxd w o n l h;have:=aG.2 j;exact⟨e,O1⟩
theorem Ed.same{g:List Int}(h:Ed g a)(F:Tr g)(w:Tr a)(o:a≠[])(I:g.length=a.length):Ed a g:=by
 obtain⟨k,s,G,h⟩:=h;obtain⟨H,j,n⟩:=Zxd G F w o h;have e:=aG.2 j
 match hs:tzl s,e,n with
 | [c],_,_=>
  have D:c≠0:=by have:=(Qo s).mem j;rw [hs]at this;exact this
  refine⟨c,[k],D,λx=>?_⟩;have l:=h x;rw [<-Ng s,hs,Pb]at l;rw [Pb];exact l.symm
 | c::d::r,_,h9=>simp at h9;omega
theorem Zme:∀(n:Nat) (a b:List Int),Tr a->Tr b->b.length<=n->∃g A B:List Int,Tr g/\Ed g a/\Ed g b/\∀x,Zb g x=Zb A x*Zb a x+Zb B x*Zb b x
 | n,a,[],j,l,_=>⟨a,[1],[],j,Ed.refl a,Ed.nil a,λx=>by rw [Pb];show _=_+0*(0:Rat);push_cast;grind⟩
 | 0,a,c::r,_,_,hl=>absurd hl O8
 | n+1,a,c::b',j,l,hl=>by
  have h:(c::b')≠[]:=O8;generalize c::b'=b at *;obtain⟨k,s,hs⟩:=Zai a h;have w:=Lj (l.mem h) k;generalize cf b (b.length-1)^k=L at hs w;have I:=Pw a h;obtain⟨g,A,B,F,o,G,H⟩:=Zme n b (Qk a b) l (Ip _ j) O1;have D:∀x,(L:Rat)*Zb a x=Zb s x*Zb b x+Zb (Qk a b) x:=λx=>by have:=De L (-1) a s b (Qk a b) (λt=>by rw [hs t];omega) x;push_cast at this;grind
  refine⟨g,B.map λc=>L*c,Nx A ((lmul B s).map λc=>(-1)*c),F,o.lin G s L w D,o,λx=>?_⟩;rw [Zi,Xc,Zi,Zu,H x];have:=D x;have e:Zb (Qk a b) x=L*Zb a x-Zb s x*Zb b x:=O5;rw [e];push_cast;grind
def Irr(q:List Int):Prop:=Tr q/\2<=q.length/\∀d,Tr d->Ed d q->d.length<=1\/d.length=q.length
theorem Zdf(h:2<=q.length):q≠[]:=λe=>by rw [e]at h;simp at h
theorem Yil:∀(n:Nat) (q:List Int),q.length<=n->Tr q->2<=q.length->∃p,Irr p/\Ed p q
 | 0,q,D,_,j=>O1
 | n+1,q,D,l,j=>by
  by_cases h:Irr q
  .exact⟨q,h,Ed.refl q⟩
  .have:∃d,Tr d/\Ed d q/\¬(d.length<=1\/d.length=q.length):=by refine bI λw=>h ⟨l,j,λd e g=>bI λo=>w ⟨d,e,g,o⟩⟩
   obtain⟨d,e,g,H⟩:=this;have F:=(g.len e l (Zdf j)).2;obtain⟨p,G,k⟩:=Yil n d O1 e O1;exact⟨p,G,k.trans g⟩
theorem Zan (f:List Int)(h:List Int)(m:List Int)(k:Int)(R:Irr q)(Q:k≠0)(e:∀x:Rat,(k:Rat)*(Zb f x*Zb h x)=Zb m x*Zb q x):Ed q f\/Ed q h:=by
 obtain⟨j,n,F⟩:=R;obtain⟨g,A,B,l,o,H,w⟩:=Zme _ q (tzl f) j (Qo f) (aI _);have P:=(o.len l j (Zdf n)).1;rcases F g l o with D|D
 .right
  match g,P,D,l,w with
  | [c],_,_,l,w=>
   have N:c≠0:=l.mem O8;refine⟨c*k,Nx ((lmul A h).map λc=>k*c) (lmul B m),bE N Q,λx=>?_⟩;have G:=w x;have M:=e x;rw [Pb,Ng]at G;rw [Xc,Zi,Zu,Zu];push_cast;rw [G];have:(Zb A x*Zb q x+Zb B x*Zb f x)*k*Zb h x=k*Zb A x*Zb q x*Zb h x+Zb B x*(k*(Zb f x*Zb h x)):=O5;rw [this,M];grind
  | c::d::r,_,h9,_,_=>simp at h9
 .left;have I:=o.same l j (Zdf n) D;exact(I.trans H).congr λx=>Ng f x
def Gx(q:List Int):Nat->List Int
 | 0=>[1]
 | n+1=>Qn q (Gx q n)
theorem Zaj{q:List Int}(j:Tr q)(g:2<=q.length):∀n,Tr (Gx q n)/\n+1<=(Gx q n).length
 | 0=>⟨.inr (show cf [1] 0≠0 by decide),aI _⟩
 | n+1=>by obtain⟨k,h⟩:=Zaj j g n;refine⟨Qb,?_⟩;show n+1+1<=(Qn q (Gx q n)).length;rw [Oj j k (Zdf g) (λe=>by rw [e]at h;simp at h)];omega
def Fr(q:List Int)(n:Nat)(x:Rat):Zb (Gx q (n+1)) x=Zb q x*Zb (Gx q n) x:=Yf _ _ _
theorem Zo8(q:List Int):∀(n:Nat) (x:Rat),Zb (ld (Gx q (n+1))) x=((n:Rat)+1)*(Zb (Gx q n) x*Zb (ld q) x)
 | n,x=>by
  have e:Zb (ld (Gx q (n+1))) x=Zb (ld (lmul q (Gx q n))) x:=Dr _ _ (λy=>by rw [Fr,Zu]) x;rw [e,Cj]
  match n with
  | 0=>
   rw [show Zb (ld (Gx q 0)) x=0 from by rw [show Gx q 0=[1]from rfl,Zfn];show(0:Rat)+x*0=0;grind];simp;grind
  | n+1=>
   rw [Zo8 q n x,Fr];push_cast;grind
theorem Yfd{g u:List Int}{c:Int}{k:Nat}(I:∀x:Rat,Zb p x=Zb s x*Zb g x)(H:∀d,Tr d->Ed d p->Ed d (ld p)->Ed d g)(hq:Irr q)(h1:Ed q s)(h2:Ed q (ld s))(hk:Ed (Gx q k) g):Ed (Gx q (k+1)) g:=by
 obtain⟨n,w,M⟩:=hq;obtain⟨l,h,k1,P⟩:=h1;obtain⟨D,s2,k2,Y⟩:=h2;have W:∀x:Rat,(l:Rat)*Zb (ld s) x=Zb (ld h) x*Zb q x+Zb h x*Zb (ld q) x:=λx=>by have:=Dr (s.map λa=>l*a) (lmul h q) (λy=>by rw [Zi,Zu];exact P y) x;rwa [Ae,Cj]at this
 have h3:Ed q h:=by
  rcases Zan h (ld q) (Nx (s2.map λa=>l*a) ((ld h).map λa=>(-D)*a)) _ ⟨n,w,M⟩ k2 (λx=>by have N:=W x;have R:=Y x;rw [Xc,Zi,Zi];push_cast;have:(D:Rat)*(Zb h x*Zb (ld q) x)=l*(D*Zb (ld s) x)-D*(Zb (ld h) x*Zb q x):=O5;rw [this,R];grind)with h9|h9
  .exact h9
  .exfalso;have h8:Ed q (Xa q):=h9.congr λx=>(Ki q x).symm;have Q:=Np q;have:=(h8.len n (Mm n) (λe=>by rw [e]at Q;simp at Q;omega)).2;omega
 obtain⟨o,j,k3,Z⟩:=h3;obtain⟨c,u,kc,eu⟩:=hk;have G:∀x:Rat,((l*o*c:Int):Rat)*Zb p x=Zb (lmul j u) x*Zb (Gx q (k+1+1)) x:=λx=>by rw [I x,Zu,Fr,Fr];push_cast;have N:=P x;have S:=Z x;have V:=eu x;have:(l:Rat)*o*c*(Zb s x*Zb g x)=o*(l*Zb s x)*(c*Zb g x):=O5;rw [this,N,V];have:(o:Rat)*(Zb h x*Zb q x)*(Zb u x*Zb (Gx q k) x)=(o*Zb h x)*Zb q x*(Zb u x*Zb (Gx q k) x):=O5;rw [this,S];grind
 have F:l*o*c≠0:=bE (bE k1 k3) kc;generalize l*o*c=C at G F;have hD:∀x:Rat,(C:Rat)*Zb (ld p) x=Zb (ld (lmul j u)) x*Zb (Gx q (k+1+1)) x+Zb (lmul j u) x*((((k+1:Nat):Rat)+1)*(Zb (Gx q (k+1)) x*Zb (ld q) x)):=λx=>by have:=Dr (p.map λa=>C*a) (lmul (lmul j u) (Gx q (k+1+1))) (λy=>by rw [Zi,Zu];exact G y) x;rwa [Ae,Cj,Zo8]at this
 refine H _ (Zaj n w _).1 ⟨C,lmul (lmul j u) q,F,λx=>?_⟩ ⟨C,Nx (lmul (ld (lmul j u)) q) ((lmul (lmul j u) (ld q)).map λa=>((k+2:Nat):Int)*a),F,λx=>?_⟩
 .rw [G x,Zu _ (lmul j u),Fr q (k+1)];grind
 .rw [hD x,Xc,Zi,Zu _ (ld (lmul j u)),Zu _ (lmul j u),Fr q (k+1)];push_cast;grind
theorem Yff{g:List Int}(l:∀x:Rat,Zb p x=Zb s x*Zb g x)(H:Tr g)(D:g≠[])(j:∀d,Tr d->Ed d p->Ed d (ld p)->Ed d g)(I:Tr q)(F:Ed q s)(G:Ed q (ld s)):q.length<=1:=by
 refine bI λh=>?_;obtain⟨r,n,e⟩:=Yil _ q (aI _) I O1;have o:∀k,Ed (Gx r k) g:=λk=>by
  induction k with
  | zero=>exact⟨1,g,O3,λx=>by rw [show Gx r 0=[1]from rfl,Pb];push_cast;grind⟩
  | succ k M=>exact Yfd (u:=[]) (c:=0) l j n (e.trans F) (e.trans G) M
 obtain⟨w,N⟩:=Zaj n.1 n.2.1 g.length;have:=((o g.length).len w H D).2;omega
theorem Yot{d:List Int}(o:Tr b)(g:b≠[])(h:Ed d a)(j:Ed d b):Ed d (Qk a b):=by
  obtain⟨k,s,hs⟩:=Zai a g;have n:=Lj (o.mem g) k;generalize cf b (b.length-1)^k=L at hs n;have w:∀x,(L:Rat)*Zb a x=Zb s x*Zb b x+Zb (Qk a b) x:=λx=>by have:=De L (-1) a s b (Qk a b) (λt=>by rw [hs t];omega) x;push_cast at this;grind
  have l:Ed d (a.map λc=>L*c):=by obtain⟨k,u,D,e⟩:=h;exact⟨k,u.map λc=>L*c,D,λx=>by rw [Zi,Zi];have:=e x;grind⟩
  exact j.lin l (s.map λc=>(-1)*c) 1 O3 λx=>by rw [Zi,Zi];push_cast;have:=w x;grind
theorem Zuf{d:List Int} : ∀(f:Nat) {a b:List Int},Tr a->Tr b->Ed d a->Ed d b->Ed d (eu f a b)
  | 0,a,b,_,_,e,_=>e
  | f+1,a,b,k,j,e,h=>by
    by_cases g:b=[]
    . rw [g,Zhp];exact e
    . rw [show eu (f + 1) a b = eu f b (Zx (Qk a b)) by
          conv=>lhs;unfold eu
          rw [aH g]]
      have t1:=Ip b k;exact Zuf f j (Yy t1) h ((Yot j g e h).sim (Qm t1).symm)
theorem Zky{F:Nat}{d:List Int}(e:Tr p)(g:Tr q)(h:Ed d p)(j:Ed d q):Ed d (Mg F p q):=by
  have k:=h.sim (Qm e).symm;have l:=j.sim (Qm g).symm;unfold Mg;refine Ed.sim ?_ (Iv _).symm;refine Zuf F (Zj5 e g) (Zj4 e g) ?_ ?_
  . unfold gA;split<;>assumption
  . unfold gB;split<;>assumption
theorem Zfd{F:Nat}(j:Tr xs)(k:xs≠[])(e:eok F (gA (Xb xs) (Xa (Xb xs))) (gB (Xb xs) (Xa (Xb xs))))(o:Tr q)(l:Ed q (sqf F xs))(n:Ed q (Xa (sqf F xs))):q.length<=1:=by
  obtain⟨f1,f2,f3,f4,f5,f6⟩:=Og F j k e;have hs:Tr (Xb xs):=Ov (Yy j);have h:Tr (Xa (Xb xs)):=Mm hs;refine Yff (p:=Xb xs) (s:=sqf F xs) (g:=Mg F (Xb xs) (Xa (Xb xs))) (λx=>?_) (Ze9 _ hs h) f5 (λd _ a b=>?_) o l (n.congr λx=>Ki _ x)
  . have:Zb (Xb xs) x=Zb (Qn (sqf F xs) (Mg F (Xb xs) (Xa (Xb xs)))) x:=by rw [<-f4]
    rw [this,Yf]
  . exact Zky hs h a (b.congr λx=>(Ki _ x).symm)
theorem Zau:∀(l:List Int) (n z:Int),(l.foldl Ml (n,z)).1=n+(l.foldl Ml (0,z)).1
 | [],n,z=>O8
 | x::l,n,z=>by
  simp only [iO];by_cases h:x=0
  .have e:∀n,Ml (n,z) x=(n,z):=λn=>by unfold Ml;rw [aK h]
   rw [e,e];exact Zau l n z
  .by_cases g:x=-z
   .have e:∀n,Ml (n,z) x=(n+1,x):=λn=>by unfold Ml;rw [aH h,aK (by dsimp only;exact g)]
    rw [e,e,Zau l (n+1) x,Zau l (0+1) x];omega
   .have e:∀n,Ml (n,z) x=(n,x):=λn=>by unfold Ml;rw [aH h,aH (by dsimp only;exact g)]
    rw [e,e];exact Zau l n x
theorem Ypr{x y:Int}{l:List Int}(k:y≠0):chg (x::y::l)=chg (y::l)+(if x=-y then 1 else 0):=by
 unfold chg;simp only [iO];have g:Ml (0,0) y=(0,y):=by unfold Ml;rw [aH k,aH O10]
 rw [g];by_cases j:x=0
 .have e:Ml (0,0) x=(0,0):=by unfold Ml;rw [aK j]
  rw [e,g,aH O1];omega
 .have e:Ml (0,0) x=(0,x):=by unfold Ml;rw [aH j,aH O10]
  rw [e];have n:Ml (0,x) y=(if x=-y then 1 else 0,y):=by
   unfold Ml;rw [aH k];by_cases h:x=-y
   .rw [aK O10,aK h];rfl
   .rw [aH O10,aH h]
  rw [n,Zau];omega
def crs(f:Rat->Rat)(u v:Rat):Int:=if f u≠0/\f u*f v<=0 then 1 else 0
theorem Zja(s t:Rat):∀p:List Int,∃M:Rat,0<M/\∀x y,s<=x->x<=y->y<=t->
  -(M*(y-x)*(y-x))<=Zb p y-Zb p x-(y-x)*Zb (ld p) x/\Zb p y-Zb p x-(y-x)*Zb (ld p) x<=M*(y-x)*(y-x)
 | []=>⟨1,O3,λx y V W Y=>by have:=aM (a:=y-x) (b:=y-x) O5 O5;show -(1*(y-x)*(y-x))<=(0:Rat)-0-(y-x)*0/\(0:Rat)-0-(y-x)*0<=1*(y-x)*(y-x);constructor<;>grind⟩
 | c::p=>by obtain⟨M,H,I⟩:=Zja s t p;obtain⟨L,Z,G⟩:=Ci s t p;obtain⟨K,D,F⟩:=Yop s t;refine⟨L+K*M,by have:=aV D H;grind,λx y hs h k=>?_⟩;obtain⟨l,n⟩:=I x y hs h k;obtain⟨N,P⟩:=G x y hs h k;obtain⟨o,w⟩:=F x hs O5;have j:0<=y-x:=O5;obtain⟨f1,f2⟩:=Zbu (q:=x) (Q:=K) (g:=Zb p y-Zb p x-(y-x)*Zb (ld p) x) (e:=M*(y-x)*(y-x)) o w l n O5;have R:=aM (a:=y-x) (b:=L*(y-x)-(Zb p y-Zb p x)) j O5;have S:=aM (a:=y-x) (b:=L*(y-x)+(Zb p y-Zb p x)) j O5;rw [Zfn,show Zb (c::p) y=(c:Rat)+y*Zb p y from rfl,show Zb (c::p) x=(c:Rat)+x*Zb p x from rfl];constructor<;>grind
theorem Ybb(D:Tr a)(hb:Tr b)(Z:a≠[])(hc:∀q,Tr q->Ed q a->Ed q b->q.length<=1)(s t:Rat):∃ε:Rat,0<ε/\∀x,s<=x->x<=t->Big ε x (Zb a)\/Big ε x (Zb b):=by
 obtain⟨g,A,B,e,n,Y,j⟩:=Zme _ a b D hb (aI _);have hl:=hc g e n Y;have hg:=(n.len e D Z).1
 match g,hg,hl,e,j with
 | [c],_,_,e,j=>
  have l:c≠0:=e.mem O8;obtain⟨P,p1,p2⟩:=Zs2 s t A;obtain⟨Q,q1,q2⟩:=Zs2 s t B;obtain⟨ε,W,e2,e3⟩:=Hl (show(0:Rat)<1 by decide) (show 0<(P+Q)+(P+Q) by grind) (show(0:Rat)<1 by decide);refine⟨ε,W,λx hs F=>?_⟩;by_cases o:Big ε x (Zb a)
  .exact .inl o
  .by_cases w:Big ε x (Zb b)
   .exact .inr w
   .exfalso;obtain⟨G,H⟩:=Zdd o;obtain⟨I,M⟩:=Zdd w;obtain⟨N,R⟩:=p2 x hs F;obtain⟨S,V⟩:=q2 x hs F;obtain⟨u1,u2⟩:=Zbu N R G H O5;obtain⟨v1,v2⟩:=Zbu S V I M O5;have h4:=j x;rw [Pb]at h4;have k:(c:Rat)<=-1\/1<=(c:Rat):=by
     rcases oO l with h|h
     .left;have:((c:Int):Rat)<=((-1:Int):Rat):=by exact_mod_cast (show c<=-1 by omega)
      rwa [show(((-1:Int)):Rat)=-1 from rfl]at this
     .right;have:1<=c:=O1;exact_mod_cast this
    rcases k with k|k<;>grind
 | c::d::r,_,h9,_,_=>simp at h9
theorem Big.near{ε x y:Rat}{f:Rat->Rat}(h:Big ε x f)(e:f x-f y<=ε/2)(g:f y-f x<=ε/2):Big (ε/2) y f:=by unfold Big at *;grind
theorem Zh8(x:Rat):Ei x=-1↔x<0:=by
 unfold Ei;by_cases h:x<0
 .rw [aK h];simp [h]
 .rw [aH h];by_cases e:x=0
  .rw [aK e];simp [h]
  .rw [aH e];simp [h]
theorem Yge(x:Rat):Ei (-x)=- Ei x:=by
 unfold Ei;by_cases h:x<0
 .rw [aK h,aH O5,aH O5];rfl
 .rw [aH h];by_cases e:x=0
  .rw [aK e,aH O5,aK O5];rfl
  .rw [aH e,aK O5]
theorem Zm1{f g:Rat->Rat}{r:List (Rat->Rat)}{x:Rat}(h:Ei (g x)≠0):vat (f::g::r) x=vat (g::r) x+(if Ei (f x)=- Ei (g x)then 1 else 0):=by unfold vat;simp only [bT];exact Ypr h
def Tay(s t M:Rat)(p:List Int):Prop:=∀x y,s<=x->x<=y->y<=t->-(M*(y-x)*(y-x))<=Zb p y-Zb p x-(y-x)*Zb (ld p) x/\Zb p y-Zb p x-(y-x)*Zb (ld p) x<=M*(y-x)*(y-x)
theorem Zh3 {s:Rat}   (ha:Tr a) (hb:Tr b) (a0:cok f a b) {κ:Rat} (hκ:0<κ) (W:∀x,Zb (ld a) x=κ*Zb b x)
  {ε L L' M h:Rat} (e1:0<ε) (e2:∀x,s<=x->x<=t->Big ε x (Zb a)\/Big ε x (Zb b)) (l1:0<=L) (l2:Lip s t L (Zb a)) (a8:0<=L') (I:Lip s t L' (Zb b)) (m1:0<=M) (m2:Tay s t M a)
  (h5:0<h) (h3:h*(L+L')<=ε/2) (h7:h*M<=κ*ε/2) {u v:Rat} (hs:s<=u) (j:u<=v) (ht:v<=t) (hh:v-u<=h) :
  vat ((Mu f a b).map Zb) u-vat ((Mu f a b).map Zb) v=crs (Zb a) u v:=by
 have Q:∀w,u<=w->w<=v->L*(w-u)<=ε/2/\L'*(w-u)<=ε/2:=λw k n=>by have p1:=aM (a:=L) (b:=h-(w-u)) O5 O5;have p2:=aM (a:=L') (b:=h-(w-u)) O5 O5;have p3:=aM (a:=L) (b:=h) O5 O5;have p4:=aM (a:=L') (b:=h) O5 O5;constructor<;>grind
 by_cases D:Big ε u (Zb a)
 .have hB:∀w,u<=w->w<=v->Big (ε/2) w (Zb a):=λw k n=>by obtain⟨x1,x2⟩:=l2 u w hs k O5;have:=Q w k n;exact D.near O5 O5
  rw [Zfg ha hb a0 j (show 0<ε/2 by grind) hB];have hv:=hB v j O5;have:crs (Zb a) u v=0:=by
   unfold crs;refine aH λ⟨_,P⟩=>?_;obtain⟨x1,x2⟩:=l2 u v hs j ht;have a5:=Q v j O5;unfold Big at D hv;rcases D with hp|hp
   .have:0<Zb a v:=O5;have:=aV (show 0<Zb a u by grind) this;grind
   .have:0 < - Zb a v:=O5;have:=aV (show 0 < - Zb a u by grind) this;grind
  omega
 .have l:Big ε u (Zb b):=(e2 u hs O5).resolve_left D;have hB:∀w,u<=w->w<=v->Big (ε/2) w (Zb b):=λw k n=>by obtain⟨x1,x2⟩:=I u w hs k O5;have:=Q w k n;exact l.near O5 O5
  have a1:b≠[]:=λe=>by rw [e]at l;unfold Big at l;have:Zb [] u=0:=rfl;rw [this]at l;grind
  obtain⟨g,hg,hd,a7,S,a3⟩:=Zl3 a0 a1;have hT:=Zfg hb (Zb3 ha) S j (show 0<ε/2 by grind) hB;obtain⟨r,hr,_,_,_⟩:=Znl u v g b (Ni a b) hb (Zb3 ha) S;rw [a3,hr];rw [hr]at hT;simp only [bT]at hT ⊢;have a4:∃σ:Rat,(σ=1\/σ=-1)/\ε<σ*Zb b u/\∀w,u<=w->w<=v->0<σ*Zb b w:=by
   unfold Big at l;rcases l with hp|hp
   .refine⟨1,.inl rfl,O5,λw k n=>?_⟩;obtain⟨x1,x2⟩:=I u w hs k O5;have:=Q w k n;grind
   .refine⟨-1,.inr rfl,O5,λw k n=>?_⟩;obtain⟨x1,x2⟩:=I u w hs k O5;have:=Q w k n;grind
  obtain⟨σ,hσ,a6,R⟩:=a4;have o:u<v->σ*Zb a u<σ*Zb a v:=λF=>by
   obtain⟨y1,y2⟩:=m2 u v hs j ht;rw [W u]at y1 y2;have hd:0<v-u:=O5;have z1:M*(v-u)<=κ*ε/2:=by have:=aM (a:=M) (b:=h-(v-u)) O5 O5;grind
   have z2:0<κ*(σ*Zb b u)-M*(v-u):=by have:=aV hκ (show 0<σ*Zb b u-ε by grind);have:=aV hκ e1;grind
   have z3:=aV hd z2;rcases hσ with rfl|rfl<;>grind
  have Z:∀w,u<=w->w<=v->Ei (Zb b w)≠0:=λw k n=>by
   have:=R w k n;rcases hσ with rfl|rfl
   .rw [Aa O5];decide
   .rw [Ac O5];decide
  rw [Zm1 (Z u O5 j),Zm1 (Z v j O5),hT];have G:∀w,u<=w->w<=v->(Ei (Zb a w)=- Ei (Zb b w)↔σ*Zb a w<0):=λw k n=>by
   have:=R w k n;rcases hσ with rfl|rfl
   .rw [Aa (x:=Zb b w) O5,Zh8];constructor<;>intro<;>grind
   .rw [Ac (x:=Zb b w) O5,show(-(-1:Int))=- -1 from rfl];have P:=Zh8 (-(Zb a w));rw [Yge]at P;constructor
    .intro h8;have:=P.1 O1;grind
    .intro h8;have:=P.2 O5;omega
  rw [show(if Ei (Zb a u)=- Ei (Zb b u)then(1:Int)else 0)=if σ*Zb a u<0 then 1 else 0 from by simp only [G u O5 j]];rw [show(if Ei (Zb a v)=- Ei (Zb b v)then(1:Int)else 0)=if σ*Zb a v<0 then 1 else 0 from by simp only [G v j O5]];have V:crs (Zb a) u v=if σ*Zb a u<0/\¬σ*Zb a v<0 then 1 else 0:=by
   unfold crs;have a2:Zb a u*Zb a v=(σ*Zb a u)*(σ*Zb a v):=by rcases hσ with rfl|rfl<;>grind
   have hz:Zb a u≠0↔σ*Zb a u≠0:=by rcases hσ with rfl|rfl<;>constructor<;>intro P h8<;>exact P O5
   have Y:(Zb a u≠0/\Zb a u*Zb a v<=0)↔(σ*Zb a u<0/\¬σ*Zb a v<0):=by
    rw [a2,hz];generalize hp:σ*Zb a u=p at *;generalize hq:σ*Zb a v=q at *;constructor
    .intro ⟨n1,n2⟩;rcases(show u<v\/u=v by grind)with F|H
     .have:=o F;rcases(show p<0\/0<p by grind)with N|N
      .refine⟨N,λn4=>?_⟩;have:=aV (show 0 < -p by grind) (show 0 < -q by grind);grind
      .have:=aV N (show 0<q by grind);grind
     .exfalso;have:q=p:=by rw [<-hp,<-hq,H]
      rw [this]at n2;rcases(show p<0\/0<p by grind)with N|N
      .have:=aV (show 0 < -p by grind) (show 0 < -p by grind);grind
      .have:=aV N N;grind
    .intro ⟨n1,n2⟩;refine⟨O5,?_⟩;have:=aM (show 0<=-p by grind) (show 0<=q by grind);grind
   simp only [Y]
  rw [V];by_cases k1:σ*Zb a u<0<;>by_cases k2:σ*Zb a v<0
  .simp [k1,k2]
  .simp [k1,k2];omega
  .exfalso;rcases(show u<v\/u=v by grind)with F|H
   .have:=o F;grind
   .rw [H]at k1;exact k1 k2
  .simp [k1,k2]
theorem Zkb (κ:Rat){s:Rat}(w:Tr a)(D:Tr b)(H:a≠[])(g:cok f a b)(F:0<κ)(e:∀x,Zb (ld a) x=κ*Zb b x)(Q:∀q,Tr q->Ed q a->Ed q b->q.length<=1) :
  ∃h:Rat,0<h/\∀u v,s<=u->u<=v->v<=t->v-u<=h->vat ((Mu f a b).map Zb) u-vat ((Mu f a b).map Zb) v=crs (Zb a) u v:=by
 obtain⟨ε,n,G⟩:=Ybb w D H Q s t;obtain⟨L,l1,W⟩:=Ci s t a;obtain⟨l,V,k⟩:=Ci s t b;obtain⟨M,Y,Z⟩:=Zja s t a;obtain⟨I,N,h3,h4⟩:=Hl (show(0:Rat)<1 by decide) (show 0<L+l by grind) (show 0<ε/2 by grind);obtain⟨h,o,h6,P⟩:=Hl N Y (show 0<κ*ε/2 by have:=aV F n;grind);refine⟨h,o,λu v hs j S R=>Zh3 w D g F e n G O5 W O5 k O5 Z o ?_ P hs j S R⟩;have:=aM (a:=L+l) (b:=I-h) O5 O5;grind
theorem Yio:∀(n m:Nat) (f:Nat->Nat),(∀k,k<n->f k<m)->(∀a b,a<n->b<n->f a=f b->a=b)->n<=m
 | 0,_,_,_,_=>bJ _
 | n+1,m,f,g,hi=>by
  have j:=g n O1;have:=Yio n (m-1) (λk=>if f n<f k then f k-1 else f k) (λk F=>by
   have l:=g k O1;have h:f k≠f n:=λe=>by have:=hi k n O1 O1 e;omega
   split<;>omega) (λa b w D e=>by
   have h:f a≠f n:=λe=>by have:=hi a n O1 O1 e;omega
   have o:f b≠f n:=λe=>by have:=hi b n O1 O1 e;omega
   refine hi a b O1 O1 ?_;split at e<;>split at e<;>omega)
  omega
theorem php{n:Nat}{f:Nat->Nat}(h:m<n)(w:∀k,k<n->f k<m):∃a b,a<n/\b<n/\a≠b/\f a=f b:=by refine bI λj=>?_;have:=Yio n m f w λa b l o e=>bI λg=>j ⟨a,b,l,o,g,e⟩;omega
def enc(B:Nat)(d:Nat->Nat):Nat->Nat
 | 0=>0
 | n+1=>enc B d n+d n*B^n
theorem Zqv{B:Nat}{d:Nat->Nat} : ∀n,(∀i,i<n->d i<B)->enc B d n<B^n
 | 0,_=>by simp [enc]
 | n+1,h=>by have j:=Zqv n λi hi=>h i O1;have e:=h n O1;have g:(d n+1)*B^n<=B*B^n:=aN _ e;rw [bK,oC]at g;rw [cC,aQ (B^n) B];show enc B d n+d n*B^n<_;omega
theorem Yat{B:Nat}{d e:Nat->Nat} : ∀n,(∀i,i<n->d i<B)->(∀i,i<n->e i<B)->enc B d n=enc B e n->∀i,i<n->d i=e i
 | 0,_,_,_,i,hi=>absurd hi (bZ i)
 | n+1,g,j,h,i,hi=>by
  have w:=Zqv n λi hi=>g i O1;have D:=Zqv n λi hi=>j i O1;have h:enc B d n+d n*B^n=enc B e n+e n*B^n:=h;have o:0<B^n:=O1;have l:d n=e n:=by
   have F:(enc B d n+d n*B^n)/B^n=d n:=by rw [nT _ _ o,dA w,cD]
   have G:(enc B e n+e n*B^n)/B^n=e n:=by rw [nT _ _ o,dA D,cD]
   rw [<-F,<-G,h]
  rcases bC i n with k|k
  .exact Yat n (λi hi=>g i O1) (λi hi=>j i O1) (by rw [l]at h;omega) i k
  .rw [show i=n by omega];exact l
def dig(B k j:Nat):Nat:=k/B^j%B
theorem Zqw(B k:Nat):∀n,enc B (dig B k) n=k%B^n
 | 0=>by simp [enc,nX]
 | n+1=>by show enc B (dig B k) n+dig B k n*B^n=_;rw [Zqw B k n,cC,nY];unfold dig;rw [aQ]
theorem Zka (C:Int){f:Nat->Int} : ∀n,(∀i,i<n->-C<=f i/\f i<=C)->-((n:Int)*C)<=Yg f n/\Yg f n<=(n:Int)*C
 | 0,_=>by simp [He]
 | n+1,h=>by
  have g:=Zka _ n λi hi=>h i O1;have j:=h n O1;have e:((n+1:Nat):Int)*C=(n:Int)*C+C:=by push_cast;grind
  rw [Yn,e];omega
theorem Znb(f g:Nat->Int):∀n,Yg (λi=>f i-g i) n=Yg f n-Yg g n
 | 0=>by simp [He]
 | n+1=>by rw [Yn,Yn,Yn,Znb f g n];omega
theorem siegel{N M A:Nat}(a0:M<N)(hA:0<A)(c:Nat->Nat->Int)(hc:∀i j,i<M->j<N->(c i j).natAbs<=A) :
  ∃x:Nat->Int,(∃j,j<N/\x j≠0)/\(∀j,j<N->(x j).natAbs<=(2*N*A)^M)/\∀i,i<M->Yg (λj=>c i j*x j) N=0:=by
 generalize hX:(2*N*A)^M=X;generalize Y:N*(A*X)=W;let d:=λk j=>dig (X+1) k j;have G:∀k j,d k j<=X:=λk j=>oY (bP _ (lW X));let y:=λk i=>Yg (λj=>c i j*(d k j:Int)) N;have Q:∀k i,i<M->-(W:Int)<=y k i/\y k i<=(W:Int):=λk i hi=>by
  have g:=Zka ((A*X:Nat):Int) (f:=λj=>c i j*(d k j:Int)) N λj I=>by
   have h:=hc i j hi I;have w:(c i j*(d k j:Int)).natAbs<=A*X:=by rw [cL,dK];exact bA h (G k j)
   omega
  have l:((N:Int)*((A*X:Nat):Int))=(W:Int):=by rw [<-Y];push_cast;rfl
  rw [l]at g;exact g
 let e:=λk=>enc (2*W+1) (λi=>(y k i+(W:Int)).toNat) M;have H:∀k i,i<M->(y k i+(W:Int)).toNat<2*W+1:=λk i hi=>by have:=Q k i hi;omega
 have P:(2*W+1)^M<(X+1)^N:=by
  have g:2*W+1<=(2*N*A)*(X+1):=by
   have:0<N*A:=gV O1 hA;have o:2*N*A*(X+1)=2*W+2*(N*A):=by rw [<-Y];grind
   omega
  have h:=gM g M;rw [Nat.mul_pow,hX]at h;have w:(X+1)^(M+1)<=(X+1)^N:=dO O1 O1;rw [cC]at w;have l:0<(X+1)^M:=cH O1;have h5:X*(X+1)^M<(X+1)^M*(X+1):=by rw [aQ];exact kC O1 l
  omega
 obtain⟨a,b,ha,hb,F,hf⟩:=php (f:=e) P (λk _=>Zqv M (H k));have R:=Yat M (H a) (H b) hf;refine⟨λj=>(d a j:Int)-(d b j:Int),?_,λj _=>?_,λi hi=>?_⟩
 .refine bI λh9=>F ?_;have h8:∀j,j<N->d a j=d b j:=λj I=>bI λD=>h9 ⟨j,I,λV=>D (by have V:(d a j:Int)-(d b j:Int)=0:=V;omega)⟩;have o:=Zqw (X+1) a N;have S:=Zqw (X+1) b N;rw [aU ha]at o;rw [aU hb]at S;have Z:∀n,n<=N->enc (X+1) (dig (X+1) a) n=enc (X+1) (dig (X+1) b) n:=λn=>by
   induction n with
   | zero=>intro _;rfl
   | succ n ih=>
    intro hn;have D:dig (X+1) a n=dig (X+1) b n:=h8 n O1;show enc _ _ n+dig (X+1) a n*_=enc _ _ n+dig (X+1) b n*_;rw [ih O1,D]
  rw [<-o,<-S];exact Z N (aI _)
 .have g:=G a j;have h:=G b j;dsimp only;omega
 .have g:Yg (λj=>c i j*((d a j:Int)-(d b j:Int))) N=y a i-y b i:=by rw [<-Znb];exact Yx λj _=>O5
  rw [g];have h:=R i hi;have w:=Q a i hi;have l:=Q b i hi;omega
theorem Zh1(f:Nat->Int)(p:Nat):∀q,Yg f (p+q)=Yg f p+Yg (λk=>f (p+k)) q
 | 0=>by simp [He]
 | q+1=>by rw [<-gT,Yn,Yn,Zh1 f p q];omega
def sft(a:List Int)(t k:Nat):Int:=if k<=t then cf a (t-k)else 0
theorem Zl1{U:List Int}{p:Nat}(h:U.length=p)(t:Nat):(ps U*ps a).c t=Yg (λk=>sft a t k*cf U k) p:=by rw [<-Zvg,<-h];refine Yx λk _=>?_;unfold sft;split<;>grind
theorem Zdq{U:List Int}{p t:Nat}(h:U.length<=p)(j:p+a.length<=t+1):(ps U*ps a).c t=0:=by
 rw [PS.mul_c];refine Fn λk g=>?_;rw [Nj,Nj];rcases bC k U.length with e|e
 .rw [Yr (p:=a) O1,eG]
 .rw [Yr e,dD]
theorem Zh5 (a:List Int)(b:List Int)(lo:Nat){p q A:Nat}(D:0<A)(F:∀i,(cf a i).natAbs<=A)(G:∀i,(cf b i).natAbs<=A)(I:0<p+q)(P:p+a.length<=p+q+lo)(Q:q+b.length<=p+q+lo) :
  ∃U V:List Int,U.length=p/\V.length=q/\((∃i,cf U i≠0)\/∃i,cf V i≠0)/\(∀i,(cf U i).natAbs<=(2*(p+q)*A)^(p+q-1))/\(∀i,(cf V i).natAbs<=(2*(p+q)*A)^(p+q-1))/\
   ∀t,lo<=t->(ps U*ps a).c t+(ps V*ps b).c t=0:=by
 obtain⟨x,⟨j,R,e⟩,w,H⟩:=siegel (N:=p+q) (M:=p+q-1) (A:=A) O1 D (λi j=>if j<p then sft a (lo+i) j else sft b (lo+i) (j-p)) (λi j _ _=>by
  split<;>unfold sft<;>split
  .exact F _
  .simp
  .exact G _
  .simp)
 have l:∀i,cf (mk p x) i=if i<p then x i else 0:=λi=>Nk _ _ _
 have n:∀i,cf (mk q λk=>x (p+k)) i=if i<q then x (p+i)else 0:=λi=>Nk _ _ _
 refine⟨mk p x,mk q λk=>x (p+k),Yp _ _,Yp _ _,?_,λi=>?_,λi=>?_,λt S=>?_⟩
 .rcases bC j p with h|h
  .exact .inl ⟨j,by rw [l,aK h];exact e⟩
  .exact .inr ⟨j-p,by rw [n,aK O1,show p+(j-p)=j by omega];exact e⟩
 .rw [l];split
  .exact w i O1
  .exact bJ _
 .rw [n];split
  .exact w _ O1
  .exact bJ _
 .rcases bC (t-lo) (p+q-1)with h|h
  .have o:=H (t-lo) h;rw [show lo+(t-lo)=t by omega,Zh1]at o;rw [Zl1 (Yp _ _),Zl1 (Yp _ _),<-o];congr 1
   .exact Yx λk g=>by rw [aK g,l,aK g]
   .exact Yx λk g=>by rw [aH O1,n,aK g,show p+k-p=k by omega]
  .rw [Zdq (pF (Yp _ _)) O1,Zdq (pF (Yp _ _)) O1];rfl
theorem Ybc (t:Nat){U:List Int}{p X A:Nat}(h:U.length=p)(j:∀i,(cf U i).natAbs<=X)(l:∀i,(cf a i).natAbs<=A):((ps U*ps a).c t).natAbs<=p*(X*A):=by
 rw [Zl1 h];have e:=Zka ((X*A:Nat):Int) (f:=λk=>sft a t k*cf U k) p λk _=>by
  have:(sft a t k*cf U k).natAbs<=X*A:=by
   rw [cL,aQ];refine bA (j k) ?_;unfold sft;split
   .exact l _
   .simp
  omega
 have g:((p:Int)*((X*A:Nat):Int))=((p*(X*A):Nat):Int):=by push_cast;rfl
 rw [g]at e;omega
theorem Zfs (w:List Int)(q:List Int)(y:List Int)(n:Nat)(h:∀x,Zb w x=Zb q x*Zb y x)(F:Tr y)(k:y≠[])(D:∀i,n<=i->cf w i=0):tzl q=[]\/(tzl q).length+y.length<=n+1:=by
 by_cases g:tzl q=[]
 .exact .inl g
 .right;have o:∀i,cf w i=(ps (tzl q)*ps y).c i:=λi=>by rw [Om (p:=w) (q:=lmul (tzl q) y) (λx=>by rw [Zu,Ng];exact h x) i,Ec,PS.mul_c];rfl
  have G:=aG.2 g;have H:=aG.2 k;have j:=Bo y (p:=tzl q) (a:=(tzl q).length-1) (b:=y.length-1) (λi hi=>Yr O1) (λi hi=>Yr O1);rw [<-o]at j;have e:=bE ((Qo q).mem g) (F.mem k);rcases bC ((tzl q).length-1+(y.length-1)) n with l|l
  .omega
  .rw [D _ l]at j;exact absurd j.symm e
theorem Fu (v:List Int){f:List Int}(j:tzl v≠[])(h:∀x,Zb v x*Zb f x=0)(x:Rat):Zb f x=0:=by
 by_cases e:tzl f=[]
 .rw [<-Ng,e];rfl
 .exfalso;rcases Zfs [] v (tzl f) 0 (λx=>by rw [Ng,h x];rfl) (Qo f) e (λi _=>Zbo i)with g|g
  .exact j g
  .have:=aG.2 e;have:=aG.2 j;omega
structure Inv (a b x y:List Int):Prop where
 ex:∃(α β γ:Int) (u' v' u v:List Int),α≠0/\β≠0/\γ≠0/\
  (∀t:Rat,(α:Rat)*Zb x t=Zb u' t*Zb a t+Zb v' t*Zb b t)/\(∀t:Rat,(β:Rat)*Zb y t=Zb u t*Zb a t+Zb v t*Zb b t)/\
  (∀t:Rat,Zb u' t*Zb v t-Zb u t*Zb v' t=(γ:Rat))/\(tzl v).length<=a.length-x.length+1/\(tzl v').length<=a.length-x.length+1
 xl:x.length<=b.length
 yl:y.length<x.length
theorem Zzi{L:Int}(g:Tr y)(e:y≠[])(j:z.length<=x.length)(h:∀t:Rat,(L:Rat)*Zb x t=Zb q t*Zb y t+(c:Rat)*Zb z t):tzl q=[]\/(tzl q).length+y.length<=x.length+1:=
 Zfs (Nx (x.map λa=>L*a) (z.map λa=>(-c)*a)) _ _ x.length (λt=>by rw [Xc,Zi,Zi];have:=h t;push_cast;grind) g e λi hi=>by rw [Nz,Xz,Xz,Yr hi,Yr (p:=z) O1];omega
theorem Ai{n:Nat}(h:(tzl p).length<=m)(j:(tzl q).length<=n)(i:Nat)(hi:m+n<=i+1):cf (lmul p q) i=0:=by have g:cf (lmul p q) i=cf (lmul (tzl p) (tzl q)) i:=Om (λx=>by rw [Zu,Zu,Ng,Ng]) i;rw [g,Ec];have e:=Zdq (U:=tzl p) (a:=tzl q) (p:=m) (t:=i) h O1;rw [PS.mul_c]at e;exact e
def Zop{n:Nat}(h:∀i,n<=i->cf p i=0):(tzl p).length<=n:=Za4 h
theorem Ybm{n:Nat}(h:(tzl p).length<=n)(hi:n<=i):cf p i=0:=by rw [<-Il];exact Yr O1
theorem Inv.next{z':List Int}{L:Int}(S:Inv a b x y)(W:b.length<=a.length)(hx:Tr x)(hy:Tr y)(R:y≠[])(V:L≠0)(h:∀t:Rat,(L:Rat)*Zb x t=Zb q t*Zb y t+Zb z' t)(hz:Sim z' z)(k:z.length<y.length):Inv a b y z:=by
 obtain⟨⟨α,β,γ,u',G,u,v,hα,l,hγ,N,w,P,l1,l2⟩,xl,yl⟩:=S;obtain⟨m,n,Y,Z,hs⟩:=hz;have j:∀t:Rat,(m:Rat)*Zb z' t=(n:Rat)*Zb z t:=λt=>by
  have:=Oh t (z'.map λa=>m*a) (z.map λa=>n*a) λi=>by rw [Xz,Xz,hs]
  rwa [Zi,Zi]at this
 have D:∀t:Rat,((L*m:Int):Rat)*Zb x t=Zb (q.map λa=>m*a) t*Zb y t+(n:Rat)*Zb z t:=λt=>by rw [Zi];push_cast;have:=h t;have:=j t;grind
 have e:=Zzi hy R O1 D;have g:(tzl (q.map λa=>m*a)).length<=x.length-y.length+1:=by
  rcases e with F|F
  .rw [F];simp
  .omega
 generalize hQ:(q.map λa=>m*a)=Q at *;have o:∀t:Rat,((n*(α*β):Int):Rat)*Zb z t=Zb (Nx (u'.map λc=>(L*m*β)*c) ((lmul Q u).map λc=>(-α)*c)) t*Zb a t+Zb (Nx (G.map λc=>(L*m*β)*c) ((lmul Q v).map λc=>(-α)*c)) t*Zb b t:=λt=>by rw [Xc,Xc,Zi,Zi,Zi,Zi,Zu,Zu];have H:=D t;have I:=N t;have M:=w t;push_cast at H ⊢;have:(n:Rat)*(α*β)*Zb z t=α*β*(n*Zb z t):=O5;rw [this,show(n:Rat)*Zb z t=L*m*Zb x t-Zb Q t*Zb y t by grind];have:(α:Rat)*β*(L*m*Zb x t-Zb Q t*Zb y t)=L*m*β*(α*Zb x t)-α*Zb Q t*(β*Zb y t):=O5;rw [this,I,M];grind
 refine⟨⟨β,n*(α*β),-(L*m*β*γ),u,v,_,_,l,bE Z (bE hα l),?_,w,o,λt=>?_,?_,?_⟩,O1,k⟩
 .have:=bE (bE (bE V Y) l) hγ;omega
 .rw [Xc,Xc,Zi,Zi,Zi,Zi,Zu,Zu];have:=P t;push_cast;grind
 .refine Zop λi hi=>?_;rw [Nz,Xz,Xz,Ybm (p:=G) l2 O1,Ai g l1 i O1];omega
 .omega
theorem Inv.first{z':List Int}{L:Int}(F:b.length<=a.length)(P:Tr a)(G:Tr b)(w:b≠[])(D:L≠0)(h:∀t:Rat,(L:Rat)*Zb a t=Zb q t*Zb b t+Zb z' t)(M:Sim z' z)(k:z.length<b.length):Inv a b b z:=by
 obtain⟨m,n,H,I,hs⟩:=M;have j:∀t:Rat,(m:Rat)*Zb z' t=(n:Rat)*Zb z t:=λt=>by
  have:=Oh t (z'.map λa=>m*a) (z.map λa=>n*a) λi=>by rw [Xz,Xz,hs]
  rwa [Zi,Zi]at this
 have l:∀t:Rat,((L*m:Int):Rat)*Zb a t=Zb (q.map λa=>m*a) t*Zb b t+(n:Rat)*Zb z t:=λt=>by rw [Zi];push_cast;have:=h t;have:=j t;grind
 have e:=Zzi G w O1 l;have g:(tzl (q.map λa=>m*a)).length<=a.length-b.length+1:=by
  rcases e with o|o
  .rw [o];simp
  .omega
 generalize N:(q.map λa=>m*a)=Q at *;refine⟨⟨1,n,-(L*m),[],[1],[L*m],Q.map λc=>(-1)*c,O3,I,?_,λt=>?_,λt=>?_,λt=>?_,?_,?_⟩,aI _,k⟩
 .have:=bE D H;omega
 .rw [Pb];show _=(0:Rat)*_+_;grind
 .rw [Pb,Zi];have:=l t;push_cast at this ⊢;grind
 .rw [Pb,Pb];show(0:Rat)*_-_=_;push_cast;grind
 .refine Zop λi hi=>?_;rw [Xz,Ybm g O1];omega
 .refine aB (Ko _) ?_;simp
def Zg1{n:Nat}(h:Sz n a)(i:Nat):(cf a i).natAbs<=2^n:=eK ((Qi n _).1 (h i))
theorem Ad(h:tzl p=[])(x:Rat):Zb p x=0:=by rw [<-Ng,h];rfl
def tzl_ne(h:cf p i≠0):tzl p≠[]:=λe=>h ((Ln p).1 e i)
def nn_eq{x a b:Nat}(e:x<=b)(g:b<=a):b-x+1+(a-x+1)=a+b-2*x+2:=O1
theorem Inv.bound{n s:Nat}(hI:Inv a b x y)(a6:b.length<=a.length)(ha:Tr a)(hx:Tr x)(hy:Tr y)(h0:y≠[])(hp:Yz y=1)(na:Sz n a)(nb:Sz n b)(hs:a.length+b.length-2*x.length+2<=2^s) :
  Qx y<=(s+1+n)*(a.length+b.length-2*x.length+2):=by
 obtain⟨⟨α,β,γ,u',M,u,v,hα,hβ,hγ,e1,P,e3,l1,l2⟩,xl,yl⟩:=hI;have b3:=aG.2 h0;have b2:x≠[]:=λe=>by rw [e]at yl;simp at yl
 have I:a≠[]:=λe=>by
  have g:a.length=0:=by rw [e];rfl
  omega
 obtain⟨U,V,lU,lV,a9,bU,bV,hz⟩:=Zh5 a b (x.length-1) (p:=b.length-x.length+1) (q:=a.length-x.length+1) (A:=2^n) (cH O3) (Zg1 na) (Zg1 nb) O1 O1 O1;have hv:a.length+1<=(tzl v).length+x.length:=by
  refine bI λg=>?_;have a8:∀i,cf (Nx (a.map λc=>γ*c) ((lmul y M).map λc=>β*c)) i=cf (lmul (tzl v) (x.map λc=>α*c)) i:=λi=>Om (λt=>by
   rw [Xc,Zi,Zi,Zu,Zu,Zi,Ng];have Y:=e1 t;have G:=P t;have a3:=e3 t;have:Zb v t*(α*Zb x t)=(Zb u' t*Zb v t-Zb u t*Zb M t)*Zb a t+(Zb u t*Zb a t+Zb v t*Zb b t)*Zb M t:=by rw [Y];grind
   rw [this,a3,<-G];grind) i
  have l:=a8 (a.length-1);rw [Nz,Xz,Xz,Ai (m:=y.length) (n:=a.length-x.length+1) (Ko _) l2 _ O1,Ec]at l;have Q:=Zdq (U:=tzl v) (a:=x.map λc=>α*c) (p:=(tzl v).length) (t:=a.length-1) (aI _) (by rw [aP];omega);rw [PS.mul_c]at Q;have h3:Yg (λk=>cf (tzl v) k*cf (x.map λc=>α*c) (a.length-1-k)) (a.length-1+1)=0:=Q;rw [h3]at l;have:=bE hγ (ha.mem I);omega
 have h:tzl v≠[]:=λe=>by rw [e]at hv;simp at hv;omega
 have Z:∀i,cf (Nx (lmul U a) (lmul V b)) i=(ps U*ps a).c i+(ps V*ps b).c i:=λi=>by rw [Nz,Ec,Ec,PS.mul_c,PS.mul_c];rfl
 generalize hR:Nx (lmul U a) (lmul V b)=R at Z;have rR:∀t,Zb R t=Zb U t*Zb a t+Zb V t*Zb b t:=λt=>by rw [<-hR,Xc,Zu,Zu]
 have lR:(tzl R).length<=x.length-1:=Zop λi hi=>by rw [Z];exact hz i hi
 have hf:tzl (Nx (lmul U v) ((lmul u V).map λc=>(-1)*c))=[]:=by
  rcases Zfs (Nx (lmul R v) ((lmul y V).map λc=>(-β)*c)) (Nx (lmul U v) ((lmul u V).map λc=>(-1)*c)) a (a.length-1) (λt=>by
   rw [Xc,Zi,Zu,Zu,Xc,Zi,Zu,Zu,rR];have G:=P t;push_cast;have:(-(β:Rat))*(Zb y t*Zb V t)=- (β*Zb y t)*Zb V t:=O5;rw [this,G];grind) ha I (λi hi=>by
   rw [Nz,Xz,Ai lR l1 i O1,Ai (m:=y.length) (n:=a.length-x.length+1) (Ko _) (aB (Ko _) (pF lV)) i O1];omega)with g|g
  .exact g
  .refine bI λh8=>?_;have:=aG.2 h8;omega
 have F:∀t,Zb U t*Zb v t=Zb u t*Zb V t:=λt=>by have:=Ad hf t;rw [Xc,Zi,Zu,Zu]at this;push_cast at this;grind
 have a4:∀t,Zb R t*Zb v t=β*Zb y t*Zb V t:=λt=>by rw [rR,P t];have:=F t;grind
 have W:∀t,(γ:Rat)*Zb V t=Zb v t*Zb (Nx (lmul u' V) ((lmul M U).map λc=>(-1)*c)) t:=λt=>by rw [Xc,Zi,Zu,Zu,<-e3 t];have:=F t;push_cast;grind
 generalize Nx (lmul u' V) ((lmul M U).map λc=>(-1)*c)=w at W;have hV:tzl V≠[]:=λe=>by
  rcases a9 with⟨i,hi⟩|⟨i,hi⟩
  .refine hi (Om (p:=U) (q:=[]) (λt=>?_) i▸Zbo i);exact Fu v (f:=U) h (λt=>by have:=F t;rw [Ad e]at this;grind) t
  .exact tzl_ne hi e
 have b1:∃c:Int,c≠0/\∀t,Zb w t=(c:Rat):=by
  have j:tzl w≠[]:=λe=>hV ((Ln V).2 λi=>by have:=Om (p:=V.map λc=>γ*c) (q:=[]) (λt=>by rw [Zi,W t,Ad e];show _=(0:Rat);grind) i;rw [Xz,Zbo]at this;exact(fN.1 this).resolve_left hγ)
  rcases Zfs (V.map λc=>γ*c) w (tzl v) (a.length-x.length+1) (λt=>by rw [Zi,Ng,W t];grind) (Qo v) h (λi hi=>by rw [Xz,Yr O1];omega)with g|g
  .exact absurd g j
  .have h8:=aG.2 j;have h7:(tzl w).length=1:=O1
   match S:tzl w,h7 with
   | [c],_=>
    refine⟨c,?_,λt=>by rw [<-Ng,S,Pb]⟩;have:=(Qo w).mem j;rw [S]at this;exact this
 obtain⟨c,a7,S⟩:=b1;have o:Sim R y:=by
  refine⟨γ,β*c,hγ,bE hβ a7,λi=>?_⟩;have:=Om (p:=R.map λd=>γ*d) (q:=y.map λd=>(β*c)*d) (λt=>by
   rw [Zi,Zi];push_cast;have l:Zb (Nx (R.map λd=>γ*d) (y.map λd=>(-(β*c))*d)) t=0:=Fu v h (λt=>by rw [Xc,Zi,Zi];push_cast;have Y:=a4 t;have G:=W t;rw [S]at G;have:Zb v t*(γ*Zb R t + -(β*c:Rat)*Zb y t)=γ*(Zb R t*Zb v t)-β*Zb y t*(Zb v t*c):=O5;rw [this,Y,<-G];grind) t
   rw [Xc,Zi,Zi]at l;push_cast at l;grind) i
  rwa [Xz,Xz]at this
 have b0:Sz ((s+1+n)*(a.length+b.length-2*x.length+2)) R:=λi=>by
  rw [Z];have c1:=Ybc i lU bU (Zg1 na);have c2:=Ybc i lV bV (Zg1 nb);have a0:b.length-x.length+1+(a.length-x.length+1)=a.length+b.length-2*x.length+2:=nn_eq xl a6;rw [<-a0]at hs ⊢;generalize hN:b.length-x.length+1+(a.length-x.length+1)=N at *;generalize H:(2*N*2^n)^(N-1)=X at *;have c3:((ps U*ps a).c i+(ps V*ps b).c i).natAbs<=N*(X*2^n):=by rw [<-hN,bK];have:=mK ((ps U*ps a).c i) ((ps V*ps b).c i);omega
  refine(Qi _ _).2 (bD c3 ?_);have a5:0<X:=by rw [<-H];exact cH (gV O1 (cH O3))
  have c4:N*(X*2^n)<(2*N*2^n)^N:=by
   have e:(2*N*2^n)^N=X*(2*N*2^n):=by rw [<-H,<-cC,Nat.succ_eq_add_one,show N-1+1=N by omega]
   rw [e];have:0<N*(X*2^n):=gV O1 (gV a5 (cH O3));have P:X*(2*N*2^n)=2*(N*(X*2^n)):=O5;omega
  have c5:2*N*2^n<=2^(s+1+n):=by rw [bX,cC];exact aN _ O1
  have c6:=gM c5 N;rw [<-kQ]at c6;exact dI c4 c6
 have l:tzl R≠[]:=λe=>by obtain⟨m,k,hm,hk,e9⟩:=o;have:=e9 (y.length-1);rw [(Ln R).1 e,eG]at this;exact bE hk (hy.mem h0) this.symm
 have D:Sim (tzl R) y:=by obtain⟨m,k,hm,hk,e9⟩:=o;exact⟨m,k,hm,hk,λi=>by rw [Il];exact e9 i⟩
 have Q:=(Qm (Qo R)).trans D;have h3:∀i,(cf y i).natAbs=(cf (Zx (tzl R)) i).natAbs:=λi=>by
  rcases Zkd (Yy (Qo R)) hy (λe=>l (aF (by rw [<-Zz,e];rfl))) (Lu (Qo R) l) hp Q with g|g
  .rw [g]
  .rw [g i,eI]
 exact Pu λi=>by rw [h3];exact Fm b0.tzl i
def Ztl(g e K:Nat):Prop:=∀l,l<=e->(l+1)*(K*(g+e-2*l+2)+1)<=65536
def Zu7{e g l:Nat}(h:l<=m):K*(e+g-2*m+2)<=K*(e+g-2*l+2):=bL _ O1
theorem Zgk{C:Nat}(e:y≠[])(l:y.length<x.length)(g:Qx x<=C)(j:Qx y<=C)(h:(x.length+1)*(C+1)<=65536):Co x y=0:=by have n:=aG.2 e;unfold Co;rw [aH O1,aH O1];have k:(x.length-y.length+1)*(Qx y+1)<=x.length*(C+1):=bA O1 O1;rw [bK,oC]at h;rw [aH O1]
theorem Ydk(n:Inv a b x y)(g:b.length<=a.length)(j:Tr x)(l:Tr y)(e:y≠[]):Inv a b y (Zx (Qk x y)):=by
 obtain⟨k,s,hs⟩:=Zai x e;have h:=Lj (l.mem e) k;generalize cf y (y.length-1)^k=L at hs h;have o:∀t:Rat,(L:Rat)*Zb x t=Zb s t*Zb y t+Zb (Qk x y) t:=λt=>by have:=De L (-1) x s y (Qk x y) (λt=>by rw [hs t];omega) t;push_cast at this;grind
 exact n.next g j l e h o (Qm (Ip _ j)).symm (by rw [Zz];exact Pw x e)
theorem Zfx(h:Tr p):Zx p=[]\/Yz (Zx p)=1:=by
 by_cases e:p=[]
 .left;rw [e];rfl
 .right;exact Lu h e
theorem Cl(g:Tr x)(e:y≠[]):(Ni x y).length<y.length:=by rw [Zbe _ g];exact Pw x e
theorem Ydj(n:Inv a b x y)(l:b.length<=a.length)(h:Tr x)(j:Tr y)(e:y≠[]):Inv a b y (Ni x y)/\(Ni x y=[]\/Yz (Ni x y)=1):=by
 have F:=aG.2 e;have D:=n.yl;obtain⟨r1,r2,k,u,w⟩:=Zfi j e x.length x h O1;have hs:=Zg4 x.length h j e O1 O1;have g:Tr (Zel (Zag x.length x y)):=Qf;have o:Za9 y^k≠0:=Lj (by have:=Zfo j e;omega) _;constructor
 .refine n.next (z':=Zag x.length x y) (q:=u) l h j e o (λt=>?_) ?_ (Cl h e)
  .have:=De (Za9 y^k) (-1) x u y (Zag x.length x y) (λt=>by rw [w t];omega) t;push_cast at this ⊢;grind
  .rw [<-hs];exact Sim.trans ⟨1,-1,O3,O3,λi=>by rw [Di];omega⟩ (Qm g).symm
 .rw [<-hs];exact Zfx g
theorem Yas{a b:List Int}{n s K:Nat}(h:b.length<=a.length)(H:Tr a)(P:Sz n a)(Q:Sz n b)(hs:a.length+b.length<=2^s)(F:s+1+n<=K)(G:Ztl a.length b.length K) :
  ∀(f:Nat) (x y:List Int),Inv a b x y->Tr x->Tr y->(y=[]\/Yz y=1)->Qx x<=K*(a.length+b.length-2*x.length+2)->y.length<=f->eok f x y/\Qx (eu f x y)<=K*(a.length+b.length)
 | 0,x,y,g,o,w,I,l,V=>by have k:=g.yl;refine⟨aF O1,aB l (bL _ (by have:=g.xl;omega))⟩
 | f+1,x,y,g,o,w,I,l,V=>by
  have D:=g.yl;have k:=g.xl;by_cases e:y=[]
  .subst e;refine⟨.inl rfl,?_⟩;rw [Zhp];exact aB l (bL _ O1)
  .have W:=aG.2 e;have R:=g.bound h H o w e (I.resolve_left e) P Q (s:=s) O1;have j:Qx y<=K*(a.length+b.length-2*x.length+2):=aB R (aN _ F);have S:=Zgk e D l j (G x.length k);have M:=Ip y o;have N:=Yas h H P Q hs F G f y (Zx (Qk x y)) (Ydk g h o w e) w (Yy M) (Zfx M) (aB j (Zu7 O1)) (by rw [Zz];have:=Pw x e;omega);refine⟨.inr ⟨S,N.1⟩,?_⟩;rw [show eu (f+1) x y=eu f y (Zx (Qk x y)) by
     conv=>lhs;unfold eu
     rw [aH e]]
   exact N.2
theorem Ybd{a b:List Int}{n s K:Nat}(j:b.length<=a.length)(I:Tr a)(P:Sz n a)(Q:Sz n b)(hs:a.length+b.length<=2^s)(G:s+1+n<=K)(H:Ztl a.length b.length K) :
  ∀(f:Nat) (x y:List Int),Inv a b x y->Tr x->Tr y->(y=[]\/Yz y=1)->Qx x<=K*(a.length+b.length-2*x.length+2)->y.length<=f->cok f x y/\∀p∈Mu f x y,Qx p<=K*(a.length+b.length)/\p.length<=a.length
 | 0,x,y,h,o,D,e,l,V=>by
  have w:=h.yl;have M:=h.xl;have g:y=[]:=aF O1;refine⟨g,λp e=>?_⟩;have:p=x:=by unfold Mu at e;simpa using e
  rw [this];exact⟨aB l (bL _ O1),O1⟩
 | f+1,x,y,h,o,D,e,l,V=>by
  have F:=h.yl;have w:=h.xl;by_cases g:y=[]
  .subst g;refine⟨.inl rfl,λp e=>?_⟩;rw [Bf]at e;have:p=x:=by simpa using e
   rw [this];exact⟨aB l (bL _ O1),O1⟩
  .have Z:=aG.2 g;have R:=h.bound j I o D g (e.resolve_left g) P Q (s:=s) O1;have k:Qx y<=K*(a.length+b.length-2*x.length+2):=aB R (aN _ G);have S:=Zgk g F l k (H x.length w);obtain⟨W,Y⟩:=Ydj h j o D g;have N:=Ybd j I P Q hs G H f y (Ni x y) W D (Zb3 o) Y (aB k (Zu7 O1)) (by have:=Cl o g;omega);refine⟨.inr ⟨S,O1,N.1⟩,λp e=>?_⟩;unfold Mu at e;rw [aH g]at e;rcases bB.1 e with rfl|e
   .exact⟨aB l (bL _ O1),O1⟩
   .exact N.2 p e
theorem Yos{n s:Nat}(j:b.length<a.length)(h:Tr a)(l:Tr b)(G:Sz n a)(H:Sz n b)(hs:a.length+b.length<=2^s)(M:s+1+n<=K)(P:Ztl a.length b.length K)(Q:(a.length+1)*(n+1)<=65536)(W:b.length<=f) :
  eok f a b/\Qx (eu f a b)<=K*(a.length+b.length):=by
 have S:=Pu G;have V:=Pu H;have Z:0<a.length:=O1;have N:n<=K*(a.length+b.length):=aB (by omega:n<=K*1) (bL _ O1);by_cases e:b=[]
 .subst e;cases f with
  | zero=>exact⟨rfl,by rw [Zhp];omega⟩
  | succ f=>exact⟨.inl rfl,by rw [Zhp];omega⟩
 .have Y:=aG.2 e;obtain⟨g,rfl⟩:∃g,f=g+1:=⟨f-1,O1⟩;have o:=Ip b h;obtain⟨k,q,D⟩:=Zai a e;have w:=Lj (l.mem e) k;generalize cf b (b.length-1)^k=L at D w;have R:∀t:Rat,(L:Rat)*Zb a t=Zb q t*Zb b t+Zb (Qk a b) t:=λt=>by have:=De L (-1) a q b (Qk a b) (λt=>by rw [D t];omega) t;push_cast at this;grind
  have I:Inv a b b (Zx (Qk a b)):=Inv.first O1 h l e w R (Qm o).symm (by rw [Zz];exact Pw a e);have F:=Yas O1 h G H hs M P g b (Zx (Qk a b)) I l (Yy o) (Zfx o) (aB (by omega:Qx b<=K*1) (bL _ O1)) (by rw [Zz];have:=Pw a e;omega);refine⟨.inr ⟨Zgk e j S V Q,F.1⟩,?_⟩;rw [show eu (g+1) a b=eu g b (Zx (Qk a b)) by
    conv=>lhs;unfold eu
    rw [aH e]]
  exact F.2
theorem Ypa{n s:Nat}(G:b.length<a.length)(l:Tr a)(o:Tr b)(I:Sz n a)(M:Sz n b)(hs:a.length+b.length<=2^s)(P:s+1+n<=K)(R:Ztl a.length b.length K)(S:(a.length+1)*(n+1)<=65536)(Z:b.length<=f) :
  cok f a b/\∀p∈Mu f a b,Qx p<=K*(a.length+b.length)/\p.length<=a.length:=by
 have W:=Pu I;have Y:=Pu M;have la:0<a.length:=O1;have Q:n<=K*(a.length+b.length):=aB (by omega:n<=K*1) (bL _ O1);by_cases e:b=[]
 .subst e;have j:∀p∈Mu f a [],Qx p<=K*(a.length+([]:List Int).length)/\p.length<=a.length:=λp h=>by
   rw [Bf]at h;have:p=a:=by simpa using h
   rw [this];exact⟨O1,aI _⟩
  cases f with
  | zero=>exact⟨rfl,j⟩
  | succ f=>exact⟨.inl rfl,j⟩
 .have l0:=aG.2 e;obtain⟨g,rfl⟩:∃g,f=g+1:=⟨f-1,O1⟩;obtain⟨r1,r2,k,u,V⟩:=Zfi o e a.length a l O1;have w:=Zg4 a.length l o e O1 O1;have D:Tr (Zel (Zag a.length a b)):=Qf;have F:Za9 b^k≠0:=Lj (by have:=Zfo o e;omega) _;have N:Inv a b b (Ni a b):=by
   refine Inv.first (z':=Zag a.length a b) (q:=u) O1 l o e F (λt=>?_) ?_ (Cl l e)
   .have:=De (Za9 b^k) (-1) a u b (Zag a.length a b) (λt=>by rw [V t];omega) t;push_cast at this ⊢;grind
   .rw [<-w];exact Sim.trans ⟨1,-1,O3,O3,λi=>by rw [Di];omega⟩ (Qm D).symm
  have h:Ni a b=[]\/Yz (Ni a b)=1:=by rw [<-w];exact Zfx D
  have H:=Ybd O1 l I M hs P R g b (Ni a b) N o (Zb3 l) h (aB (by omega:Qx b<=K*1) (bL _ O1)) (by have:=Cl l e;omega);refine⟨.inr ⟨Zgk e G W Y S,O1,H.1⟩,λp h=>?_⟩;unfold Mu at h;rw [aH e]at h;rcases bB.1 h with rfl|h
  .exact⟨O1,aI _⟩
  .exact H.2 p h
def al:List Int->List Int->List Int
 | [],g=>g
 | a::f,[]=>a::f
 | a::f,b::g=>(a+b)::al f g
def Bt(c:Int)(f:List Int):List Int:=f.map (c*·)
def ddl(k:Nat):List Int->List Int
 | []=>[]
 | b::g=>(k:Int)*b::ddl (k+1) g
def dl(f:List Int):List Int:=ddl 1 f.tail
def xl:List Int->List Int
 | []=>[]
 | a::f=>0::a::f
def fc:Nat->Int
 | 0=>1
 | k+1=>((k:Int)+1)*fc k
def Hr:Nat->List Int->List Int->Int
 | k,a::f,b::g=>fc k*(a*b)+Hr (k+1) f g
 | _,_,_=>0
theorem Zlp(k:Nat)(f:List Int):Hr k f []=0:=by cases f<;>rfl
theorem Yk9(f:List Int):al f []=f:=by cases f<;>rfl
theorem Yb4:∀f g:List Int,al f g=al g f
 | [],g=>(Yk9 g).symm
 | a::f,[]=>rfl
 | a::f,b::g=>by show(a+b)::al f g=(b+a)::al g f;rw [Yb4 f g,kE]
theorem Zvf:∀f g h:List Int,al (al f g) h=al f (al g h)
 | [],g,h=>rfl
 | a::f,[],h=>rfl
 | a::f,b::g,[]=>rfl
 | a::f,b::g,c::h=>by show(a+b+c)::al (al f g) h=(a+(b+c))::al f (al g h);rw [Zvf f g h,Int.add_assoc]
instance:Std.Commutative al:=⟨Yb4⟩
instance:Std.Associative al:=⟨Zvf⟩
theorem Yf7(c:Int):∀f g,Bt c (al f g)=al (Bt c f) (Bt c g)
 | [],g=>rfl
 | a::f,[]=>rfl
 | a::f,b::g=>by show c*(a+b)::Bt c (al f g)=(c*a+c*b)::al (Bt c f) (Bt c g);rw [Yf7 c f g,mJ]
theorem Zy2(c d:Int):∀f,Bt (c+d) f=al (Bt c f) (Bt d f)
 | []=>rfl
 | a::f=>by show(c+d)*a::Bt (c+d) f=(c*a+d*a)::al (Bt c f) (Bt d f);rw [Zy2 c d f,mL]
theorem Zi8:∀f,Bt 1 f=f
 | []=>rfl
 | a::f=>by show 1*a::Bt 1 f=a::f;rw [Zi8 f,fS]
theorem Yjx:∀k f g,ddl k (al f g)=al (ddl k f) (ddl k g)
 | k,[],g=>rfl
 | k,a::f,[]=>rfl
 | k,a::f,b::g=>by show(k:Int)*(a+b)::ddl (k+1) (al f g)=((k:Int)*a+(k:Int)*b)::al (ddl (k+1) f) (ddl (k+1) g);rw [Yjx (k+1) f g,mJ]
theorem Ya3(c:Int):∀k f,ddl k (Bt c f)=Bt c (ddl k f)
 | k,[]=>rfl
 | k,a::f=>by show(k:Int)*(c*a)::ddl (k+1) (Bt c f)=c*((k:Int)*a)::Bt c (ddl (k+1) f);rw [Ya3 c (k+1) f,mO]
theorem Zuq:∀k f,ddl (k+1) f=al f (ddl k f)
 | k,[]=>rfl
 | k,a::f=>by show((k+1:Nat):Int)*a::ddl (k+1+1) f=(a+(k:Int)*a)::al f (ddl (k+1) f);rw [Zuq (k+1) f];congr 1;push_cast;grind
def dl_al:∀f g,dl (al f g)=al (dl f) (dl g)
 | [],g=>rfl
 | a::f,[]=>(Yk9 _).symm
 | a::f,b::g=>Yjx 1 f g
def dl_scl(c:Int):∀f,dl (Bt c f)=Bt c (dl f)
 | []=>rfl
 | a::f=>Ya3 c 1 f
theorem dl_x:∀f,dl (xl f)=al f (xl (dl f))
 | []=>rfl
 | [a]=>by show(((1:Nat):Int)*a::[])=[a];rw [show((1:Nat):Int)=1 from rfl,fS]
 | a::b::f=>by show((1:Nat):Int)*a::ddl (1+1) (b::f)=(a+0)::al (b::f) (ddl 1 (b::f));rw [Zuq 1 (b::f),show((1:Nat):Int)=1 from rfl,fS,fO]
def xl_al:∀f g,xl (al f g)=al (xl f) (xl g)
 | [],g=>rfl
 | a::f,[]=>rfl
 | a::f,b::g=>rfl
theorem xl_scl(c:Int):∀f,xl (Bt c f)=Bt c (xl f)
 | []=>rfl
 | a::f=>by show 0::c*a::Bt c f=c*0::c*a::Bt c f;rw [eG]
theorem Fy:∀k f g,Hr k f g=Hr k g f
 | k,[],g=>(Zlp k g).symm
 | k,a::f,[]=>rfl
 | k,a::f,b::g=>by show fc k*(a*b)+Hr (k+1) f g=fc k*(b*a)+Hr (k+1) g f;rw [Fy (k+1) f g,dB a b]
theorem Zls:∀k f g h,Hr k (al f g) h=Hr k f h+Hr k g h
 | k,[],g,h=>by show Hr k g h=0+Hr k g h;rw [lS]
 | k,a::f,[],h=>(fO _).symm
 | k,a::f,b::g,[]=>rfl
 | k,a::f,b::g,c::h=>by show fc k*((a+b)*c)+Hr (k+1) (al f g) h=fc k*(a*c)+Hr (k+1) f h+(fc k*(b*c)+Hr (k+1) g h);rw [Zls (k+1) f g h];grind
theorem Zlr(k:Nat)(h f g:List Int):Hr k h (al f g)=Hr k h f+Hr k h g:=by rw [Fy,Zls,Fy k f,Fy k g]
theorem Zgc(c:Int):∀k f g,Hr k (Bt c f) g=c*Hr k f g
 | k,[],g=>(eG c).symm
 | k,a::f,[]=>(eG c).symm
 | k,a::f,b::g=>by show fc k*(c*a*b)+Hr (k+1) (Bt c f) g=c*(fc k*(a*b)+Hr (k+1) f g);rw [Zgc c (k+1) f g];grind
theorem Zqj(c:Int)(k:Nat)(f g:List Int):Hr k f (Bt c g)=c*Hr k f g:=by rw [Fy,Zgc,Fy]
theorem Yi8:∀k f g,Hr (k+1) f g=Hr k f (ddl (k+1) g)
 | k,[],g=>rfl
 | k,a::f,[]=>rfl
 | k,a::f,b::g=>by show((k:Int)+1)*fc k*(a*b)+Hr (k+1+1) f g=fc k*(a*(((k+1:Nat):Int)*b))+Hr (k+1) f (ddl (k+1+1) g);rw [Yi8 (k+1) f g];push_cast;grind
theorem fip_x:∀f g,Hr 0 (xl f) g=Hr 0 f (dl g)
 | [],g=>rfl
 | a::f,[]=>rfl
 | a::f,b::g=>by show fc 0*(0*b)+Hr 1 (a::f) g=Hr 0 (a::f) (ddl 1 g);rw [dD,eG,lS];exact Yi8 0 (a::f) g
theorem Yi5(f g:List Int):Hr 0 f (xl g)=Hr 0 (dl f) g:=by rw [Fy,fip_x,Fy]
def Mq:List Int->Nat->List Int->List Int
 | [],_,_=>[]
 | c::q,0,g=>al (Bt c g) (xl (Mq q 0 g))
 | c::q,j+1,g=>al (xl (Mq q (j+1) g)) (Mq q j g)
def Hq:List Int->Nat->List Int->List Int
 | [],_,_=>[]
 | c::p,0,f=>al (Bt c f) (Hq p 0 (dl f))
 | c::p,k+1,f=>al (Hq p (k+1) (dl f)) (Hq p k f)
theorem Ya0:∀q j g,dl (Mq q j g)=al (Mq q j (dl g)) (Bt ((j:Int)+1) (Mq q (j+1) g))
 | [],j,g=>rfl
 | c::q,0,g=>by
  show dl (al (Bt c g) (xl (Mq q 0 g)))=al (al (Bt c (dl g)) (xl (Mq q 0 (dl g)))) (Bt (((0:Nat):Int)+1) (al (xl (Mq q (0+1) g)) (Mq q 0 g)));rw [dl_al,dl_scl,dl_x,Ya0 q 0 g,xl_al];rw [show((0:Nat):Int)+1=1 from rfl,Zi8,Zi8]
  ac_rfl
 | c::q,j+1,g=>by
  show dl (al (xl (Mq q (j+1) g)) (Mq q j g))=al (al (xl (Mq q (j+1) (dl g))) (Mq q j (dl g))) (Bt (((j+1:Nat):Int)+1) (al (xl (Mq q (j+1+1) g)) (Mq q (j+1) g)));rw [dl_al,dl_x,Ya0 q (j+1) g,Ya0 q j g,xl_al,xl_scl,Yf7];rw [show Bt (((j+1:Nat):Int)+1) (Mq q (j+1) g)=al (Bt ((j:Int)+1) (Mq q (j+1) g)) (Mq q (j+1) g) by rw [Zy2,Zi8];rfl]
  ac_rfl
theorem Zjk:∀q j f g,Hr 0 f (Mq q j g)=Hr 0 (Hq q j f) g
 | [],j,f,g=>Zlp 0 f
 | c::q,0,f,g=>by show Hr 0 f (al (Bt c g) (xl (Mq q 0 g)))=Hr 0 (al (Bt c f) (Hq q 0 (dl f))) g;rw [Zlr,Zls,Zqj,Zgc,Yi5,Zjk q 0 (dl f) g]
 | c::q,j+1,f,g=>by show Hr 0 f (al (xl (Mq q (j+1) g)) (Mq q j g))=Hr 0 (al (Hq q (j+1) (dl f)) (Hq q j f)) g;rw [Zlr,Zls,Yi5,Zjk q (j+1) (dl f) g,Zjk q j f g]
def wfa:Nat->Nat->Int
 | j,0=>1
 | j,k+1=>((j:Int)+1)*wfa (j+1) k
theorem Zom:∀k j,0<wfa j k
 | 0,j=>by show(0:Int)<1;decide
 | k+1,j=>gE O1 (Zom k (j+1))
theorem Zlq:∀(p q:List Int) (j:Nat) (f g:List Int) (K:Nat),p.length<=K->Hr 0 (Mq p 0 f) (Mq q j g)=Yg (λk=>wfa j k*Hr 0 (Hq q (j+k) f) (Hq p k g)) K
 | [],q,j,f,g,K,_=>by rw [Fn (λk n=>by show wfa j k*Hr 0 (Hq q (j+k) f) []=0;rw [Zlp,eG])];rfl
 | c::p,q,j,f,g,K,hK=>by
  obtain⟨e,rfl⟩:∃e,K=e+1:=⟨K-1,by simp at hK;omega⟩;have o:p.length<=e:=by simpa using hK
  have w:=Zlq p q j f (dl g) (e+1) O1;have D:=Zlq p q (j+1) f g e o;show Hr 0 (al (Bt c f) (xl (Mq p 0 f))) (Mq q j g)=_;rw [Zls,Zgc,fip_x,Ya0,Zlr,Zqj,w,D,Zjk];rw [Ld,Ld (λk=>wfa j k*Hr 0 (Hq q (j+k) f) (Hq (c::p) k g))];have h:Hr 0 (Hq q (j+0) f) (Hq (c::p) 0 g)=c*Hr 0 (Hq q j f) g+Hr 0 (Hq q j f) (Hq p 0 (dl g)):=by show Hr 0 (Hq q j f) (al (Bt c g) (Hq p 0 (dl g)))=_;rw [Zlr,Zqj]
  have l:Yg (λk=>wfa j (k+1)*Hr 0 (Hq q (j+(k+1)) f) (Hq (c::p) (k+1) g)) e=Yg (λk=>wfa j (k+1)*Hr 0 (Hq q (j+(k+1)) f) (Hq p (k+1) (dl g))) e+((j:Int)+1)*Yg (λk=>wfa (j+1) k*Hr 0 (Hq q (j+1+k) f) (Hq p k g)) e:=by rw [<-Mn,<-Eo];refine Yx λk n=>?_;show _*Hr 0 _ (al (Hq p (k+1) (dl g)) (Hq p k g))=_;rw [Zlr,show j+1+k=j+(k+1) by omega];show((j:Int)+1)*wfa (j+1) k*_=((j:Int)+1)*wfa (j+1) k*_+_;grind
  rw [h,l];show _=(1:Int)*_+_;show _*_+((1:Int)*_+_+_)=_;rw [show j+0=j from rfl];grind
theorem Zot(a:Int):0<=a*a:=by
 rcases Int.le_total 0 a with h|h
 .exact eT h h
 .have:=eT (show 0<=-a by omega) (show 0<=-a by omega);rwa [Int.neg_mul_neg]at this
theorem Zho:∀k,1<=fc k
 | 0=>by show(1:Int)<=1;decide
 | k+1=>by have h:=Zho k;show 1<=((k:Int)+1)*fc k;have e:=kU (show(1:Int)<=(k:Int)+1 by omega) h O3 O1;omega
theorem Yi9(k:Nat)(f:List Int)(b:Int)(g:List Int):Hr k f (b::g)=fc k*(cf f 0*b)+Hr (k+1) f.tail g:=by
 cases f with
 | nil=>show(0:Int)=fc k*(0*b)+Hr (k+1) [] g;rw [dD,eG];rfl
 | cons a f=>rfl
theorem Ykn(f:List Int)(i:Nat):cf f.tail i=cf f (i+1):=by cases f<;>rfl
theorem Zql:∀k (f e g:List Int),(∀i,cf f i=cf e i)->Hr k f g=Hr k e g
 | k,f,e,[],h=>by rw [Zlp,Zlp]
 | k,f,e,b::g,h=>by rw [Yi9,Yi9,h 0,Zql (k+1) f.tail e.tail g λi=>by rw [Ykn,Ykn,h]]
theorem Zqk:∀k f,0<=Hr k f f
 | k,[]=>eY _
 | k,a::f=>by show 0<=fc k*(a*a)+Hr (k+1) f f;have e:=Zqk (k+1) f;have g:=eT (show 0<=fc k by have:=Zho k;omega) (Zot a);omega
theorem Yi7:∀k f i,cf f i*cf f i<=Hr k f f
 | k,[],i=>by rw [Yr O8];exact eY _
 | k,a::f,0=>by show a*a<=fc k*(a*a)+Hr (k+1) f f;have e:=Zqk (k+1) f;have g:=fP (Zho k) (Zot a);omega
 | k,a::f,i+1=>by show cf f i*cf f i<=fc k*(a*a)+Hr (k+1) f f;have e:=Yi7 (k+1) f i;have g:=eT (show 0<=fc k by have:=Zho k;omega) (Zot a);omega
def fcs:Nat->Nat->Int
 | k,0=>0
 | k,n+1=>fc k+fcs (k+1) n
theorem Yjb:∀n k,0<=fcs k n
 | 0,k=>eY _
 | n+1,k=>by have h:=Yjb n (k+1);have:=Zho k;show 0<=fc k+fcs (k+1) n;omega
theorem Yi6:∀n k (f:List Int) (A:Int),f.length<=n->(∀x∈f,x*x<=A)->0<=A->Hr k f f<=fcs k n*A
 | n,k,[],A,_,_,e=>eT (Yjb n k) e
 | 0,k,a::f,A,h,_,_=>by simp at h
 | n+1,k,a::f,A,h,hx,e=>by have j:=Yi6 n (k+1) f A (by simpa using h) (λx g=>hx x (bG _ g)) e;have l:=jH (hx a (bW ..)) (show 0<=fc k by have:=Zho k;omega);show fc k*(a*a)+Hr (k+1) f f<=(fc k+fcs (k+1) n)*A;rw [mL];omega
theorem Zx9:∀p k f,p.length<=k->Hq p k f=[]
 | [],k,f,_=>by cases k<;>rfl
 | c::p,0,f,h=>by simp at h
 | c::p,k+1,f,h=>by
  show al (Hq p (k+1) (dl f)) (Hq p k f)=[];have e:p.length<=k:=by simpa using h
  rw [Zx9 p (k+1) _ O1,Zx9 p k _ e];rfl
theorem Ylk:∀p k f,p.length=k+1->Hq p k f=Bt (cf p k) f
 | [],k,f,h=>by simp at h
 | [c],0,f,h=>Yk9 _
 | c::d::p,0,f,h=>by simp at h
 | c::p,k+1,f,h=>by
  have e:p.length=k+1:=by simpa using h
  show al (Hq p (k+1) (dl f)) (Hq p k f)=Bt (cf p k) f;rw [Zx9 p (k+1) _ O1,Ylk p k f e];rfl
theorem Ykt:∀f g i,cf (al f g) i=cf f i+cf g i
 | [],g,i=>by rw [Yr (p:=[]) O8,lS];rfl
 | a::f,[],i=>by rw [Yr (p:=[]) O8,fO];rfl
 | a::f,b::g,0=>rfl
 | a::f,b::g,i+1=>Ykt f g i
def Ykq(c:Int)(f:List Int)(i:Nat):cf (Bt c f) i=c*cf f i:=Zct (p:=f) (f:=(c*·)) (eG c) i
theorem cf_xl0(f:List Int):cf (xl f) 0=0:=by cases f<;>rfl
theorem cf_xl(f:List Int)(i:Nat):cf (xl f) (i+1)=cf f i:=by cases f<;>rfl
theorem cf_Mq:∀p f i,cf (Mq p 0 f) i=(ps p*ps f).c i
 | [],f,i=>by rw [PS.mul_c,Fn (λk _=>by rw [Nj,Yr O8,dD])];exact Yr (by simp [Mq])
 | c::p,f,0=>by show cf (al (Bt c f) (xl (Mq p 0 f))) 0=_;rw [Ykt,Ykq,cf_xl0,PS.mul_c,Ld,fO];exact(fO _).symm
 | c::p,f,i+1=>by show cf (al (Bt c f) (xl (Mq p 0 f))) (i+1)=_;rw [Ykt,Ykq,cf_xl,cf_Mq p f i,PS.mul_c,PS.mul_c,Ld _ (i+1)];refine aL (c*cf f (i+1)+·) (Yx λk e=>?_);show cf p k*cf f (i-k)=cf p k*cf f (i+1-(k+1));rw [show i+1-(k+1)=i-k by omega]
theorem Yds{n L e:Nat}(hu:Tr u)(w:Tr v)(hs:Sz n s)(P:s≠[])(hl:s.length<=L)(Z:fcs 0 L<=2^e*2^e)(h:s=Qn u v):Sz (n+e) u:=by
 have D:v≠[]:=λe=>P (by rw [h,e,Zbb]);obtain⟨m,M⟩:∃m,v.length=m+1:=⟨v.length-1,by have:=aG.2 D;omega⟩;have g:cf v m≠0:=by
  rcases w with w|w
  .exact absurd w D
  .rwa [M]at w
 have o:∀i,cf (Mq v 0 u) i=cf s i:=λi=>by rw [cf_Mq,h,Cv,Iz]
 have j:=Zlq v v 0 u u (m+1) O1;rw [Zql 0 _ s _ o,Fy,Zql 0 _ s _ o,Yn,cD,Ylk v m u M,Zgc,Zqj]at j;have l:∀t,0<=Yg (λk=>wfa 0 k*Hr 0 (Hq v (0+k) u) (Hq v k u)) t:=λt=>by
  induction t with
  | zero=>exact eY _
  | succ t ih=>
   rw [Yn,cD];have:=eT (show 0<=wfa 0 t by have:=Zom t 0;omega) (Zqk 0 (Hq v t u));omega
 have hr:=l m;have W:1<=cf v m*cf v m:=by
  have h1:=Zot (cf v m);have h2:cf v m*cf v m≠0:=λe=>by rcases fN.1 e with q|q<;>exact g q
  omega
 have hf:=Zqk 0 u;have h3:Hr 0 u u<=cf v m*(cf v m*Hr 0 u u):=by have:=fP W hf;rw [fF]at this;omega
 have h4:Hr 0 u u<=wfa 0 m*(cf v m*(cf v m*Hr 0 u u)):=by have:=fP (show 1<=wfa 0 m from Zom m 0) (show 0<=cf v m*(cf v m*Hr 0 u u) by omega);omega
 intro i;rw [Qi];have h5:=Yi7 0 u i;have S:∀x∈s,x*x<=(2^n-1)*(2^n-1):=λx hx=>by
  have hb:x.natAbs<2^n:=(Qi n _).1 (hs.mem hx);have V:((2^n:Nat):Int)=2^n:=by push_cast;rfl
  have p1:x<=2^n-1:=O1;have p2:-(2^n-1)<=x:=O1;generalize (2:Int)^n-1=y at *;have:=eT (show 0<=y-x by omega) (show 0<=y+x by omega);grind
 have hp:(1:Int)<=2^n:=by exact_mod_cast cH (n:=n) (show 0<2 by decide)
 have N:(1:Int)<=2^e:=by exact_mod_cast cH (n:=e) (show 0<2 by decide)
 have h6:=Yi6 L 0 s _ hl S (eT O1 O1);have h7:cf u i*cf u i<=(2^e*2^e)*((2^n-1)*(2^n-1)):=by have:=fP Z (show(0:Int)<=(2^n-1)*(2^n-1)from eT O1 O1);omega
 rcases bC (cf u i).natAbs (2^(n+e))with H|G
 .exact H
 .exfalso;have I:(2^n*2^e:Int)<=((cf u i).natAbs:Int):=by rw [<-Int.pow_add];exact_mod_cast G
  have R:((cf u i).natAbs:Int)*((cf u i).natAbs:Int)=cf u i*cf u i:=Int.natAbs_mul_self;have F:(2^n*2^e:Int)*(2^n*2^e)<=((cf u i).natAbs:Int)*((cf u i).natAbs:Int):=kU I I (eT O1 O1) O1;rw [R]at F;generalize (2:Int)^n=X at *;generalize (2:Int)^e=Y at *;have Q:(Y*Y)*((X-1)*(X-1))<(Y*Y)*(X*X):=by have hy:=kU N N O3 O1;refine Int.mul_lt_mul_of_pos_left ?_ O1;grind
  grind
def kkR(R:Nat):Nat->Nat
 | 0=>0
 | d+1=>2*(R+1)*kkR R d+1
def Ew (L:Nat)(R:Nat){n e:Nat}(o:Tr u)(w:Tr v)(hs:Sz n s)(g:s≠[])(l:Tr s)(k:s.length<=L)(D:2*L<=R+2)(j:fcs 0 L<=2^e*2^e)(h:s=Qn u v):Sz (n+e) u:=Yds o w hs g k j h
theorem num13{e g:Nat}(k:e<=13)(n:g+1=e)(j:K<=600):Ztl e g K:=λl o=>by have h:∀l,l<=12->(l+1)*(600*(27-2*l)+1)<=65536:=O3;refine aB (bL _ (Nat.succ_le_succ (bA j O1))) (h l O1)
theorem chH{n:Nat}(F:Nat)(w:Tr xs)(D:xs≠[])(hs:Sz n xs)(hn:n<=350)(hl:xs.length<=13)(hb:(xs.length+2)*(xs.length+2)*(n+13)<=65536)(hF:xs.length<=F+1) :
  Bv F xs/\Sz (n+15) (sqf F xs)/\(sqf F xs).length<=xs.length/\∀p∈chn F xs,Qx p<=(n+26)*25/\p.length<=xs.length:=by
 have e:=Zvv hs;have a0:=Pj w;have k:Tr (Xb xs):=Ov (Yy w);have V:=Zad e O1;have Z:=Np (Xb xs);have l:Tr (Xa (Xb xs)):=Mm k;have m1:=Pu e;have m2:=Pu V;have l0:=aG.2 D;have H:gA (Xb xs) (Xa (Xb xs))=Zx (Xb xs):=aH O1;have I:gB (Xb xs) (Xa (Xb xs))=Zx (Xa (Xb xs)):=aH O1;have j:eok F (gA (Xb xs) (Xa (Xb xs))) (gB (Xb xs) (Xa (Xb xs))):=by
  rw [H,I];refine(Yos (n:=n+5) (s:=5) (K:=n+11) (by rw [Zz,Zz];omega) (Yy k) (Yy l) (Fm (e.mono O1)) (Fm V) ?_ O1 ?_ ?_ ?_).1
  .rw [Zz,Zz];omega
  .rw [Zz,Zz];exact num13 O1 O1 O1
  .rw [Zz];exact aB (bA (show(Xb xs).length+1<=14 by omega) (show n+5+1<=400 by omega)) O3
  .rw [Zz];omega
 obtain⟨f1,f2,f3,f4,f5,f6⟩:=Og F w D j;have G:=Ze9 F k l;have g:=Zk3 w D;have R:fcs 0 13<=2^15*2^15:=O6;have o:=Ew 13 24 f2 G e g k O1 O3 R f4;have M:=Ew 13 24 G f2 e g k O1 O3 R (by rw [Cv];exact f4);have N:=Oj f2 G f3 f5;rw [<-f4]at N;have lg:=aG.2 f5;have lq:=aG.2 f3;have mg:=Pu M;have Q:(sqf F xs).length<=xs.length:=O1;have P:=Zad o O1;have W:=Np (sqf F xs);have S:=Ypa (a:=sqf F xs) (b:=Zx (Xa (sqf F xs))) (n:=n+15+5) (s:=5) (K:=n+26) (f:=F) (by rw [Zz];omega) f2 (Yy (Mm f2)) (o.mono O1) (Fm P) (by rw [Zz];omega) O1 (by rw [Zz];exact num13 O1 O1 O1) (aB (bA (show(sqf F xs).length+1<=14 by omega) (show n+15+5+1<=500 by omega)) O3) (by rw [Zz];omega);refine⟨⟨⟨λi _=>aB (Zxf e O1 i) O1,?_,j,?_,f1⟩,λi _=>aB (Zxf o O1 i) O1,S.1⟩,o,Q,λp hp=>?_⟩
 .intro h;have h3:(max (Xb xs).length (Xa (Xb xs)).length+2)*(max (Xb xs).length (Xa (Xb xs)).length+2)*(max (Qx (Xb xs)) (Qx (Xa (Xb xs)))+8)<=(xs.length+2)*(xs.length+2)*(n+13):=bA (bA O1 O1) O1;have:=h.2.2;omega
 .unfold Co;rw [aH O1];split
  .rfl
  .have:((Xb xs).length-(Mg F (Xb xs) (Xa (Xb xs))).length+1)*(Qx (Mg F (Xb xs) (Xa (Xb xs)))+1)<=14*500:=bA O1 O1;rw [aH O1]
 .obtain⟨Y,a2⟩:=S.2 p hp;refine⟨aB Y (bL _ ?_),O1⟩;rw [Zz];omega
theorem chG{n:Nat}(F:Nat)(j:Tr xs)(e:xs≠[])(hs:Sz n xs)(h:n<=350)(k:xs.length<=11)(g:xs.length<=F+1) :
  Bv F xs/\Sz (n+15) (sqf F xs)/\(sqf F xs).length<=xs.length/\∀p∈chn F xs,Qx p<=(n+26)*25/\p.length<=xs.length:=
 chH F j e hs h O1 (aB (bA (bA (show _<=13 by omega) (show _<=13 by omega)) (show _<=363 by omega)) O3) g
theorem Dv.ed{g:List Int}(h:Dv g a):Ed g a:=by obtain⟨k,s,e,h⟩:=h;refine⟨k,s,e,λx=>?_⟩;have:=De k 0 a s g [] (λt=>by rw [h t];omega) x;push_cast at this;grind
theorem Zl6{F:Nat}(o:Tr xs)(j:xs≠[])(k:Bv F xs)(s t:Rat) :
  ∃h:Rat,0<h/\∀u v,s<=u->u<=v->v<=t->v-u<=h->vat ((chn F xs).map Zb) u-vat ((chn F xs).map Zb) v=crs (Zb (sqf F xs)) u v:=by
 have g:=k.1.2.2.1;obtain⟨f1,f2,f3,f4,f5,f6⟩:=Og F o j g;have e:=Mm f2;by_cases w:Xa (sqf F xs)=[]
 .refine Zkb 1 f2 (Yy e) f3 k.2.2 O3 (λx=>?_) λq n a b=>?_
  .rw [<-Ki,w];show(0:Rat)=1*0;grind
  .exact Zfd o j g n a (b.sim (Qm e))
 .have l:0<Yz (Xa (sqf F xs)):=by have D:=Bi e w;have G:=Ox (Xa (sqf F xs));omega
  refine Zkb (Yz (Xa (sqf F xs)):Rat) f2 (Yy e) f3 k.2.2 (by exact_mod_cast l) (λx=>?_) λq n a b=>?_
  .rw [<-Ki,<-Zi];exact Oh x _ _ λi=>by rw [Xz,dB,Hx]
  .exact Zfd o j g n a (b.sim (Qm e))
theorem Yoe{g:List Int}(G:∀x:Rat,Zb p x=Zb s x*Zb g x)(hg:Tr g)(g0:g≠[])(P:Ed g (ld p))(D:Irr q)(R:Ed q p):Ed q s:=by
 refine bI λF=>?_;have l:=D.1;have o:=D.2.1;have Q:¬Ed q (ld q):=λh=>by have Z:Ed q (Xa q):=h.congr λx=>(Ki q x).symm;have hl:=Np q;have:=(Z.len l (Mm l) (λe=>by rw [e]at hl;simp at hl;omega)).2;omega
 obtain⟨c1,m1,k1,e1⟩:=R;obtain⟨j,m,k2,e2⟩:=P;have V:∀k,Ed (Gx q k) g:=λk=>by
  induction k with
  | zero=>exact⟨1,g,O3,λx=>by rw [show Gx q 0=[1]from rfl,Pb];push_cast;grind⟩
  | succ k ih=>
   cases k with
   | zero=>
    have N:Ed q g:=(Zan s g m1 _ D k1 (λx=>by rw [<-G x];exact e1 x)).resolve_left F;exact N.congr_l λx=>by rw [Fr,show Gx q 0=[1]from rfl,Pb];push_cast;grind
   | succ k=>
    obtain⟨c,u,kc,eu⟩:=ih;have hd:∀x:Rat,(c:Rat)*Zb (ld g) x=Zb (ld u) x*Zb (Gx q (k+1)) x+Zb u x*(((k:Rat)+1)*(Zb (Gx q k) x*Zb (ld q) x)):=λx=>by have:=Dr (g.map λa=>c*a) (lmul u (Gx q (k+1))) (λy=>by rw [Zi,Zu];exact eu y) x;rwa [Ae,Cj,Zo8]at this
    have hp:∀x:Rat,Zb (ld p) x=Zb (ld s) x*Zb g x+Zb s x*Zb (ld g) x:=λx=>by have:=Dr p (lmul s g) (λy=>by rw [Zu];exact G y) x;rwa [Cj]at this
    have hz:∀x:Rat,Zb (Nx ((lmul (lmul s u) (ld q)).map λa=>(j*((k:Int)+1))*a) ((lmul (Nx ((lmul s (ld u)).map λa=>j*a) ((lmul (Nx m ((ld s).map λa=>(-j)*a)) u).map λa=>(-1)*a)) q))) x=0:=λx=>by
     refine Fu (Gx q k) (λe=>?_) (λx=>?_) x
     .rw [Ap (Zaj l o k).1]at e;have:=(Zaj l o k).2;rw [e]at this;simp at this
     .rw [Xc,Zi,Zu,Zu,Zu,Xc,Zi,Zu,Zi,Zu,Xc,Zi];have I:=e2 x;have W:=hp x;have Y:=hd x;have H:=eu x;rw [Fr]at Y H;push_cast;have b1:(j:Rat)*Zb s x*(c*Zb (ld g) x)=(Zb m x-j*Zb (ld s) x)*(c*Zb g x):=by
       have:(j:Rat)*Zb s x*(c*Zb (ld g) x)=c*(j*(Zb (ld p) x-Zb (ld s) x*Zb g x)):=by rw [W];grind
       rw [this];have:(c:Rat)*(j*(Zb (ld p) x-Zb (ld s) x*Zb g x))=c*(j*Zb (ld p) x)-c*j*Zb (ld s) x*Zb g x:=O5;rw [this,I];grind
      rw [Y,H]at b1;grind
    have N:=Zan (lmul s u) (ld q) (Nx ((lmul (Nx m ((ld s).map λa=>(-j)*a)) u)) ((lmul s (ld u)).map λa=>(-j)*a)) (j*((k:Int)+1)) D (bE k2 O1) (λx=>by have:=hz x;rw [Xc,Zi,Zu,Zu,Zu,Xc,Zi,Zu,Zi,Zu,Xc,Zi]at this;rw [Zu,Xc,Zu,Xc,Zi,Zi,Zu];push_cast at this ⊢;grind)
    have Z:=Zan s u [] 1 D O3;have h7:Ed q u:=by obtain⟨n,w,S,M⟩:=N.resolve_right Q;exact(Zan s u w n D S (λx=>by have:=M x;rwa [Zu]at this)).resolve_left F
    obtain⟨n,w,S,M⟩:=h7;refine⟨n*c,w,bE S kc,λx=>?_⟩;have H:=eu x;have a5:=M x;rw [Fr q (k+1)];push_cast;have:(n:Rat)*c*Zb g x=n*(c*Zb g x):=O5;rw [this,H];have:(n:Rat)*(Zb u x*Zb (Gx q (k+1)) x)=(n*Zb u x)*Zb (Gx q (k+1)) x:=O5;rw [this,a5];grind
 obtain⟨I,W⟩:=Zaj l o g.length;have:=((V g.length).len I hg g0).2;omega
theorem Yn3(g:d≠0):Irr [-r,d]:=by have e:Tr [-r,d]:= .inr g;refine⟨e,O8,λq j h=>?_⟩;have:=(h.len j e O8).2;simp at this ⊢;omega
theorem Zjb(r d:Int)(x:Rat):Zb [-r,d] x=(d:Rat)*x-r:=by show((-r:Int):Rat)+x*((d:Rat)+x*0)=_;push_cast;grind
theorem Ym0(F:Tr p)(j:d≠0)(h:Zb p ((r:Rat)/d)=0):Ed [-r,d] p:=by
 have n:(d:Rat)≠0:=by exact_mod_cast j
 have w:Tr [-r,d]:= .inr j;obtain⟨k,s,hs⟩:=Zai p (q:=[-r,d]) O8;have g:=Lj (w.mem O8) k;generalize cf [-r,d] ([-r,d].length-1)^k=L at hs g;have l:∀x,(L:Rat)*Zb p x=Zb s x*Zb [-r,d] x+Zb (Qk p [-r,d]) x:=λx=>by have:=De L (-1) p s [-r,d] (Qk p [-r,d]) (λt=>by rw [hs t];omega) x;push_cast at this;grind
 have o:=Pw p (q:=[-r,d]) O8;have D:∀x,Zb (Qk p [-r,d]) x=0:=λx=>by
  have e:=l ((r:Rat)/d);rw [h,Zjb]at e
  match hr:Qk p [-r,d],o with
  | [],_=>rfl
  | [c],_=>
   rw [hr,Pb]at e;rw [Pb];have:(d:Rat)*(r/d)=r:=O5;rw [this]at e;grind
 exact⟨L,s,g,λx=>by rw [l x,D x];grind⟩
theorem Ed.root(g:d≠0)(h:Ed [-r,d] p):Zb p ((r:Rat)/d)=0:=by
 obtain⟨k,s,l,h⟩:=h;have j:(d:Rat)≠0:=by exact_mod_cast g
 have n:(k:Rat)≠0:=by exact_mod_cast l
 have e:=h ((r:Rat)/d);rw [Zjb]at e;have:(d:Rat)*(r/d)=r:=O5;rw [this]at e;grind
theorem Yfe{F:Nat}(j:Tr xs)(l:xs≠[])(g:eok F (gA (Xb xs) (Xa (Xb xs))) (gB (Xb xs) (Xa (Xb xs))))(k:d≠0)(h:Zb xs ((r:Rat)/d)=0):Zb (sqf F xs) ((r:Rat)/d)=0:=by
 obtain⟨f1,f2,f3,f4,f5,f6⟩:=Og F j l g;have hs:Tr (Xb xs):=Ov (Yy j);have e:Tr (Xa (Xb xs)):=Mm hs;have n:Ed [-r,d] (Xb xs):=(Ym0 j k h).sim ((Qm j).symm.trans (Iv _).symm);have o:∀x:Rat,Zb (Xb xs) x=Zb (sqf F xs) x*Zb (Mg F (Xb xs) (Xa (Xb xs))) x:=λx=>by
  have:Zb (Xb xs) x=Zb (Qn (sqf F xs) (Mg F (Xb xs) (Xa (Xb xs)))) x:=by rw [<-f4]
  rw [this,Yf]
 have w:Ed (Mg F (Xb xs) (Xa (Xb xs))) (ld (Xb xs)):=((Zda hs e g).2.ed).congr λx=>Ki _ x;exact(Yoe o (Ze9 _ hs e) f5 w (Yn3 k) n).root k
def Away(s t:Rat)(f:Rat->Rat):Prop:=∃δ:Rat,0<δ/\∀x,s<=x->x<=t->δ<=f x\/f x<=-δ
theorem Away.mul{s:Rat}{f g h:Rat->Rat}(G:Away s t f)(H:Away s t g)(e:∀x,h x=f x*g x):Away s t h:=by
 obtain⟨a,l,n⟩:=G;obtain⟨b,o,w⟩:=H;refine⟨a*b,aV l o,λx j k=>?_⟩;rw [e x];rcases n x j k with D|D<;>rcases w x j k with F|F
 .left;have:=aM (a:=f x-a) (b:=g x) O5 O5;have:=aM (a:=a) (b:=g x-b) O5 O5;grind
 .right;have:=aM (a:=f x-a) (b:=- g x) O5 O5;have:=aM (a:=a) (b:=- g x-b) O5 O5;grind
 .right;have:=aM (a:=- f x-a) (b:=g x) O5 O5;have:=aM (a:=a) (b:=g x-b) O5 O5;grind
 .left;have:=aM (a:=- f x-a) (b:=- g x) O5 O5;have:=aM (a:=a) (b:=- g x-b) O5 O5;grind
theorem Away.lin{s:Rat}(j:0<d)(h:(r:Rat)<d*s\/(d:Rat)*t<r):Away s t (Zb [-r,d]):=by
 have k:(0:Rat)<(d:Rat):=by exact_mod_cast j
 rcases h with h|h
 .refine⟨d*s-r,O5,λx e g=> .inl ?_⟩;rw [Zjb];have:=aM (a:=(d:Rat)) (b:=x-s) O5 O5;grind
 .refine⟨r-d*t,O5,λx e g=> .inr ?_⟩;rw [Zjb];have:=aM (a:=(d:Rat)) (b:=t-x) O5 O5;grind
theorem Away.sq(s t:Rat):Away s t (Zb [1,0,1]):=⟨1,O3,λx _ _=>by
 left;show(1:Rat)<=((1:Int):Rat)+x*(((0:Int):Rat)+x*(((1:Int):Rat)+x*0));have:0<=x*x:=by
  rcases(show 0<=x\/x<0 by grind)with h|h
  .exact aM h h
  .have:=aM (a:=-x) (b:=-x) O5 O5;grind
 push_cast;grind⟩
theorem Away.one(s t:Rat):Away s t (Zb [1]):=⟨1,O3,λx _ _=>by left;rw [Pb];exact jI⟩
def cntP(P:Int->Prop)[DecidablePred P](m:Int):Nat->Int
 | 0=>0
 | n+1=>cntP P m n+(if P (m+n+1)then 1 else 0)
def eB(K C:Nat):Nat->Nat
 | 0=>0
 | n+1=>C+K*eB K C n
def eL(K C:Nat):Nat->Nat
 | 0=>0
 | n+1=>K*eL K C n+eB K C n
def eM(K C:Nat):Nat->Nat
 | 0=>0
 | n+1=>eL K C n+K*eM K C n
theorem Gn{a b:Nat}(h:a<=b):(a:Rat)<=(b:Rat):=by exact_mod_cast h
theorem Ykr{C:Nat}(h:c.natAbs<=C):-(C:Rat)<=(c:Rat)/\(c:Rat)<=(C:Rat):=by
 have e:((-(C:Int):Int):Rat)<=(c:Rat):=by exact_mod_cast (show -(C:Int)<=c by omega)
 have g:(c:Rat)<=(((C:Nat):Int):Rat):=by exact_mod_cast (show c<=(C:Int) by omega)
 push_cast at e g;constructor<;>grind
def Zre{C:Nat}(h:∀i,(cf (c::p) i).natAbs<=C):c.natAbs<=C/\∀i,(cf p i).natAbs<=C:=⟨h 0,λi=>h (i+1)⟩
theorem Zo5{K C:Nat} : ∀(n:Nat) (p:List Int),p.length<=n->(∀i,(cf p i).natAbs<=C)->∀x:Rat,-(K:Rat)<=x->x<=(K:Rat)->-(eB K C n:Rat)<=Zb p x/\Zb p x<=(eB K C n:Rat)
 | n,[],_,_,x,_,_=>by have h:(0:Rat)<=(eB K C n:Rat):=Gn (bJ _);show -(eB K C n:Rat)<=0/\(0:Rat)<=(eB K C n:Rat);constructor<;>grind
 | 0,c::p,hl,_,_,_,_=>absurd hl O8
 | n+1,c::p,hl,hc,x,h1,h2=>by
  obtain⟨g,j⟩:=Zre hc;obtain⟨k,l⟩:=Zo5 n p (by simpa using hl) j x h1 h2;obtain⟨w,D⟩:=Ykr g;have o:(0:Rat)<=(K:Rat):=Gn (bJ _);obtain⟨f1,f2⟩:=Zbu h1 h2 k l o;have e:((eB K C (n+1):Nat):Rat)=(C:Rat)+(K:Rat)*(eB K C n:Rat):=by show((C+K*eB K C n:Nat):Rat)=_;push_cast;rfl
  rw [e,show Zb (c::p) x=(c:Rat)+x*Zb p x from rfl];constructor<;>grind
theorem Zo4{K C:Nat} : ∀(n:Nat) (p:List Int),p.length<=n->(∀i,(cf p i).natAbs<=C)->Lip (-(K:Rat)) (K:Rat) (eL K C n:Rat) (Zb p)
 | n,[],_,_,x,y,_,k,_=>by have h:(0:Rat)<=(eL K C n:Rat):=Gn (bJ _);have:=aM (a:=(eL K C n:Rat)) (b:=y-x) h O5;show(0:Rat)-0<=_/\(0:Rat)-0<=_;constructor<;>grind
 | 0,c::p,hl,_,_,_,_,_,_=>absurd hl O8
 | n+1,c::p,hl,hc,x,y,h1,k,h2=>by
  obtain⟨o,j⟩:=Zre hc;obtain⟨w,D⟩:=Zo4 n p (by simpa using hl) j x y h1 k h2;obtain⟨F,G⟩:=Zo5 n p (by simpa using hl) j y O5 h2;have l:(0:Rat)<=(K:Rat):=Gn (bJ _);obtain⟨f1,f2⟩:=Zbu (q:=x) (g:=Zb p x-Zb p y) (e:=(eL K C n:Rat)*(y-x)) h1 O5 O5 O5 l;have H:=aM (a:=(eB K C n:Rat)-Zb p y) (b:=y-x) O5 O5;have I:=aM (a:=(eB K C n:Rat)+Zb p y) (b:=y-x) O5 O5;have e:((eL K C (n+1):Nat):Rat)=(K:Rat)*(eL K C n:Rat)+(eB K C n:Rat):=by show((K*eL K C n+eB K C n:Nat):Rat)=_;push_cast;rfl
  rw [e,show Zb (c::p) x=(c:Rat)+x*Zb p x from rfl,show Zb (c::p) y=(c:Rat)+y*Zb p y from rfl];constructor<;>grind
theorem Ygk{K C:Nat} : ∀(n:Nat) (p:List Int),p.length<=n->(∀i,(cf p i).natAbs<=C)->Tay (-(K:Rat)) (K:Rat) (eM K C n:Rat) p
 | n,[],_,_,x,y,_,j,_=>by have h:(0:Rat)<=(eM K C n:Rat):=Gn (bJ _);have D:=aM (a:=y-x) (b:=y-x) O5 O5;have:=aM h D;show -((eM K C n:Rat)*(y-x)*(y-x))<=(0:Rat)-0-(y-x)*0/\(0:Rat)-0-(y-x)*0<=(eM K C n:Rat)*(y-x)*(y-x);constructor<;>grind
 | 0,c::p,hl,_,_,_,_,_,_=>absurd hl O8
 | n+1,c::p,hl,hc,x,y,hs,j,ht=>by
  obtain⟨G,k⟩:=Zre hc;obtain⟨o,w⟩:=Ygk n p (by simpa using hl) k x y hs j ht;obtain⟨H,I⟩:=Zo4 n p (by simpa using hl) k x y hs j ht;have F:(0:Rat)<=(K:Rat):=Gn (bJ _);have l:0<=y-x:=O5;obtain⟨f1,f2⟩:=Zbu (q:=x) (Q:=(K:Rat)) (g:=Zb p y-Zb p x-(y-x)*Zb (ld p) x) (e:=(eM K C n:Rat)*(y-x)*(y-x)) hs O5 o w F;have M:=aM (a:=y-x) (b:=(eL K C n:Rat)*(y-x)-(Zb p y-Zb p x)) l O5;have N:=aM (a:=y-x) (b:=(eL K C n:Rat)*(y-x)+(Zb p y-Zb p x)) l O5;have e:((eM K C (n+1):Nat):Rat)=(eL K C n:Rat)+(K:Rat)*(eM K C n:Rat):=by show((eL K C n+K*eM K C n:Nat):Rat)=_;push_cast;rfl
  rw [e,Zfn,show Zb (c::p) y=(c:Rat)+y*Zb p y from rfl,show Zb (c::p) x=(c:Rat)+x*Zb p x from rfl];constructor<;>grind
theorem Zxk{A:Nat}(w:Tr a)(hb:Tr b)(Z:2<=a.length)(lb:b.length+1=a.length)(hA:0<A)(na:∀i,(cf a i).natAbs<=A)(nb:∀i,(cf b i).natAbs<=A)(hc:∀q,Tr q->Ed q a->Ed q b->q.length<=1) :
  ∃(U V:List Int) (c:Int),c≠0/\U.length+2=a.length/\V.length+1=a.length/\(∀i,(cf U i).natAbs<=(2*(2*a.length-3)*A)^(2*a.length-4))/\(∀i,(cf V i).natAbs<=(2*(2*a.length-3)*A)^(2*a.length-4))/\
   ∀x,(c:Rat)=Zb U x*Zb a x+Zb V x*Zb b x:=by
 obtain⟨U,V,lU,lV,k,D,F,hz⟩:=Zh5 a b 1 (p:=a.length-2) (q:=a.length-1) hA na nb O1 O1 O1;have l:¬(tzl U=[]/\tzl V=[]):=λ⟨h1,h2⟩=>by
  rcases k with⟨i,hi⟩|⟨i,hi⟩
  .exact hi ((Ln U).1 h1 i)
  .exact hi ((Ln V).1 h2 i)
 clear k;rw [show a.length-2+(a.length-1)=2*a.length-3 by omega]at D F;rw [show 2*a.length-3-1=2*a.length-4 by omega]at D F;have j:a≠[]:=λe=>by rw [e]at Z;simp at Z
 have N:∀i,cf (Nx (lmul U a) (lmul V b)) i=(ps U*ps a).c i+(ps V*ps b).c i:=λi=>by rw [Nz,Ec,Ec,PS.mul_c,PS.mul_c];rfl
 have M:∀t,Zb (Nx (lmul U a) (lmul V b)) t=Zb U t*Zb a t+Zb V t*Zb b t:=λt=>by rw [Xc,Zu,Zu]
 generalize Nx (lmul U a) (lmul V b)=R at N M;have Y:∀t,Zb R t=(cf R 0:Rat):=λt=>by
  rw [<-Pb (cf R 0) t];refine Oh t _ _ λi=>?_
  match i with
  | 0=>rfl
  | i+1=>rw [N,hz (i+1) O1,Yr O8]
 refine⟨U,V,cf R 0,λh0=>?_,O1,O1,D,F,λx=>by rw [<-M,Y]⟩;have n:∀t,Zb U t*Zb a t+Zb V t*Zb b t=0:=λt=>by rw [<-M,Y,h0];rfl
 obtain⟨g,P,Q,h,S,g3,G⟩:=Zme _ a b w hb (aI _);have hl:=hc g h S g3;have hg:=(S.len h w j).1;have o:tzl V=[]:=by
  refine bI λo=>?_
  match g,hg,hl,h,G with
  | [c],_,_,h,G=>
   have I:c≠0:=h.mem O8;have hd:Ed a (tzl V):=⟨c,Nx (lmul P V) ((lmul Q U).map λz=>(-1)*z),I,λx=>by have W:=G x;rw [Pb]at W;rw [Ng,Xc,Zi,Zu,Zu,W];have:=n x;have e:Zb V x*Zb b x=- (Zb U x*Zb a x):=O5;have:(Zb P x*Zb a x+Zb Q x*Zb b x)*Zb V x=Zb P x*Zb V x*Zb a x+Zb Q x*(Zb V x*Zb b x):=O5;rw [this,e];push_cast;grind⟩
   have:=(hd.len w (Qo V) o).2;have:=Ko V;omega
  | c::d::r,_,h9,_,_=>simp at h9
 have H:tzl U=[]:=by
  refine bI λH=>?_;have:∀t,Zb a t=0:=Fu U H λt=>by have:=n t;rw [Ad o]at this;grind
  exact w.mem j (Zo7 this _)
 exact l ⟨H,o⟩
def Zyz(K A n e:Nat):Bool:=
 let X:=(2*(2*n-3)*A)^(2*n-4);let W:=eB K X (n-1)
 Nat.ble (2*(2*W+1)*(2*eL K A n)) (2^e) && Nat.ble (2*(2*W+1)*eM K A n) (2^e)
theorem big_or  {A n e:Nat} (hK:0<K) (Z:0<A) (ha:Tr a) (hb:Tr b) (hn:a.length=n) (h2:2<=n) (lb:b.length+1=a.length) (na:∀i,(cf a i).natAbs<=A) (nb:∀i,(cf b i).natAbs<=A) (hc:∀q,Tr q->Ed q a->Ed q b->q.length<=1)
  (x:Rat) (D:-(K:Rat)<=x) (F:x<=(K:Rat)):Big (1/((2*eB K ((2*(2*n-3)*A)^(2*n-4)) (n-1)+1:Nat):Rat)) x (Zb a)\/Big (1/((2*eB K ((2*(2*n-3)*A)^(2*n-4)) (n-1)+1:Nat):Rat)) x (Zb b):=by
 obtain⟨U,V,c,Y,lU,lV,o,w,k⟩:=Zxk ha hb O1 lb Z na nb hc;rw [hn]at o w;generalize (2*(2*n-3)*A)^(2*n-4)=X at *;obtain⟨u1,u2⟩:=Zo5 (n-1) U O1 o x D F;obtain⟨v1,v2⟩:=Zo5 (n-1) V O1 w x D F;generalize eB K X (n-1)=W at *;have H:(0:Rat)<=(W:Rat):=Gn (bJ _);have G:(0:Rat)<((2*W+1:Nat):Rat):=by
   have:(((0:Nat)):Rat)<((2*W+1:Nat):Rat):=by exact_mod_cast lW _
   exact this
 have g:((2*W+1:Nat):Rat)=2*(W:Rat)+1:=by push_cast;rfl
 generalize I:1/((2*W+1:Nat):Rat)=ε;have l:ε*(2*(W:Rat)+1)=1:=by rw [<-I,g];rw [g]at G;grind
 have a0:0<=ε:=by rw [<-I];have:=gX.2 G;rw [gF];grind
 by_cases M:Big ε x (Zb a)
 .exact .inl M
 .by_cases N:Big ε x (Zb b)
  .exact .inr N
  .exfalso;obtain⟨P,Q⟩:=Zdd M;obtain⟨R,S⟩:=Zdd N;obtain⟨q1,q2⟩:=Zbu u1 u2 P Q H;obtain⟨r1,r2⟩:=Zbu v1 v2 R S H;have h4:=k x;have j:(c:Rat)<=-1\/1<=(c:Rat):=by
    rcases oO Y with h|h
    .left;have:((c:Int):Rat)<=((-1:Int):Rat):=by exact_mod_cast (show c<=-1 by omega)
     rwa [show(((-1:Int)):Rat)=-1 from rfl]at this
    .right;have:1<=c:=O1;exact_mod_cast this
   have a3:0<ε:=by
    rcases(show ε=0\/0<ε by grind)with h|h
    .rw [h]at l;grind
    .exact h
   rcases j with j|j<;>grind
theorem two_pow_pos(e:Nat):(0:Rat)<((2^e:Nat):Rat):=by have:0<2^e:=cH O3;exact_mod_cast this
theorem Ypp  {F A n e:Nat} (hx:Tr xs) (h0:xs≠[]) (hC:Bv F xs) (hK:0<K) (hA:0<A) (hn:(sqf F xs).length=n) (h2:2<=n) (Z:∀i,(cf (sqf F xs) i).natAbs<=A) (nb:∀i,(cf (Xa (sqf F xs)) i).natAbs<=A) (hs:Zyz K A n e=true)
  {u v:Rat} (h1:-(K:Rat)<=u) (Y:u<=v) (h3:v<=(K:Rat)) (hh:v-u<=1/((2^e:Nat):Rat)) :
  vat ((chn F xs).map Zb) u-vat ((chn F xs).map Zb) v=crs (Zb (sqf F xs)) u v:=by
 have H:=hC.1.2.2.1;obtain⟨f1,f2,f3,f4,f5,f6⟩:=Og F hx h0 H;have g:=Mm f2;have G:=Np (sqf F xs);have hd:Xa (sqf F xs)≠[]:=λe=>by rw [e]at G;simp at G;omega
 have V:1<=Yz (Xa (sqf F xs)):=by have h1:=Bi g hd;have h2:=Ox (Xa (sqf F xs));omega
 have a2:(1:Rat)<=(Yz (Xa (sqf F xs)):Rat):=by exact_mod_cast V
 have I:∀i,(cf (Zx (Xa (sqf F xs))) i).natAbs<=A:=λi=>by have h5:=Hx (Xa (sqf F xs)) i;have h6:=nb i;rw [<-h5,cL]at h6;have:(cf (Zx (Xa (sqf F xs))) i).natAbs*1<=(cf (Zx (Xa (sqf F xs))) i).natAbs*(Yz (Xa (sqf F xs))).natAbs:=bL _ O1;omega
 have l:∀q,Tr q->Ed q (sqf F xs)->Ed q (Zx (Xa (sqf F xs)))->q.length<=1:=λq hq a b=>Zfd hx h0 H hq a (b.sim (Qm g));have S:(Zx (Xa (sqf F xs))).length+1=(sqf F xs).length:=by rw [Zz];omega
 have j:=big_or (e:=e) hK hA f2 (Yy g) hn h2 S Z I l;unfold Zyz at hs;simp only [aO,Nat.ble_eq]at hs;obtain⟨s1,s2⟩:=hs;generalize (2*(2*n-3)*A)^(2*n-4)=X at *;generalize eB K X (n-1)=W at *;have hD:(0:Rat)<((2*W+1:Nat):Rat):=by
   have:(((0:Nat)):Rat)<((2*W+1:Nat):Rat):=by exact_mod_cast lW _
   exact this
 have hP:=two_pow_pos e;have a0:=Gn s1;have a1:=Gn s2;have c1:((2*(2*W+1)*(2*eL K A n):Nat):Rat)=2*((2*W+1:Nat):Rat)*(2*(eL K A n:Rat)):=by push_cast;rfl
 have c2:((2*(2*W+1)*eM K A n:Nat):Rat)=2*((2*W+1:Nat):Rat)*(eM K A n:Rat):=by push_cast;rfl
 rw [c1]at a0;rw [c2]at a1;have hi:=gX.2 hD;have R:=gX.2 hP;have o:((2*W+1:Nat):Rat)*((2*W+1:Nat):Rat)⁻¹=1:=O5;have w:((2^e:Nat):Rat)*((2^e:Nat):Rat)⁻¹=1:=O5;rw [gF,mP]at hh;simp only [gF,mP]at j;generalize ((2*W+1:Nat):Rat)=D at *;generalize ((2^e:Nat):Rat)=P at *;have k:(0:Rat)<=(eL K A n:Rat):=Gn (bJ _);have Q:(0:Rat)<=(eM K A n:Rat):=Gn (bJ _);refine Zh3 (s:=-(K:Rat)) (t:=(K:Rat)) (κ:=(Yz (Xa (sqf F xs)):Rat)) (ε:=D⁻¹) (L:=(eL K A n:Rat)) (L':=(eL K A n:Rat)) (M:=(eM K A n:Rat)) (h:=P⁻¹) f2 (Yy g) hC.2.2 O5 (λx=>?_) hi j k (Zo4 n _ O1 Z) k (Zo4 n _ O1 I) Q (Ygk n _ O1 Z) R ?_ ?_ h1 Y h3 hh
 .rw [<-Ki,<-Zi];exact Oh x _ _ λi=>by rw [Xz,dB,Hx]
 .-- P⁻¹ * (2 L) ≤ D⁻¹ / 2
  have t1:=aM (a:=P⁻¹*D⁻¹) (b:=P-2*D*(2*(eL K A n:Rat))) (by have:=aV R hi;grind) O5;have N:P⁻¹*D⁻¹*(P-2*D*(2*(eL K A n:Rat)))=D⁻¹*(P*P⁻¹)-2*P⁻¹*(D*D⁻¹)*(2*(eL K A n:Rat)):=O5;rw [N,o,w]at t1;grind
 .have t1:=aM (a:=P⁻¹*D⁻¹) (b:=P-2*D*(eM K A n:Rat)) (by have:=aV R hi;grind) O5;have N:P⁻¹*D⁻¹*(P-2*D*(eM K A n:Rat))=D⁻¹*(P*P⁻¹)-2*P⁻¹*(D*D⁻¹)*(eM K A n:Rat):=O5;rw [N,o,w]at t1;have t2:=aM (a:=(Yz (Xa (sqf F xs)):Rat)-1) (b:=D⁻¹) O5 O5;grind
theorem Zl7{F:Nat}(S:Tr xs)(M:xs≠[])(Q:Bv F xs){s:Rat}(o:s<=t):vat ((chn F xs).map Zb) t<=vat ((chn F xs).map Zb) s:=by
 obtain⟨h,N,D⟩:=Zl6 S M Q s t;have H:∀f u v,0<=crs f u v:=λf u v=>by unfold crs;split<;>decide
 have w:∀n:Nat,∀y,s<=y->y<=t->y-s<=(n:Rat)*h->vat ((chn F xs).map Zb) y<=vat ((chn F xs).map Zb) s:=λn=>by
  induction n with
  | zero=>
    intro y e g j;have:y=s:=by simp at j;grind
    rw [this];exact eY _
  | succ n I=>
   intro y e g j;have G:((n+1:Nat):Rat)*h=(n:Rat)*h+h:=by push_cast;grind
   rcases(show y-s<=(n:Rat)*h\/(n:Rat)*h<y-s by grind)with k|k
   .exact I y e g k
   .have P:(0:Rat)<=(n:Rat)*h:=aM (by exact_mod_cast bJ n) O5;rcases(show s<=y-h\/y-h<s by grind)with l|l
    .have a:=I (y-h) l O5 O5;have b:=D (y-h) y l O5 g O5;have c:=H (Zb (sqf F xs)) (y-h) y;omega
    .have b:=D s y O5 e g O5;have c:=H (Zb (sqf F xs)) s y;omega
 have e:∃n:Nat,t-s<=(n:Rat)*h:=by
  have g:0<h⁻¹:=gX.2 N;refine⟨((t-s)*h⁻¹).ceil.toNat,?_⟩;have j:=@pT ((t-s)*h⁻¹);have G:((((t-s)*h⁻¹).ceil:Int):Rat)<=((((t-s)*h⁻¹).ceil.toNat:Nat):Rat):=by have:((t-s)*h⁻¹).ceil<=((((t-s)*h⁻¹).ceil.toNat:Nat):Int):=mN _;exact_mod_cast this
  have k:=dX (fH j G) (show 0<=h by grind);have P:(t-s)*h⁻¹*h=t-s:=O5;grind
 obtain⟨n,R⟩:=e;exact w n t o O5 R
def qv(z:R2):Rat:=(z.1:Rat)/(z.2:Rat)
theorem Zuu{x y X Y g:Nat}(j:g=Nat.gcd x y)(Q:0<y)(R:0<Y)(h:x*Y=X*y):y/g∣Y/\x/g<=X:=by
 have l:0<g:=by rw [j];exact Nat.gcd_pos_of_pos_right _ Q
 have P:Nat.Coprime (x/g) (y/g):=by rw [j];exact Nat.coprime_div_gcd_div_gcd (by rw [<-j];exact l)
 have D:x/g*g=x:=oP (by rw [j];exact mW _ _);have n:y/g*g=y:=oP (by rw [j];exact pD _ _);have o:x/g*Y=X*(y/g):=by refine mB l ?_;have I:x/g*Y*g=x/g*g*Y:=O5;have M:X*(y/g)*g=X*(y/g*g):=O5;rw [I,M,D,n,h]
 have G:y/g∣Y:=P.symm.dvd_of_dvd_mul_left (by rw [o];exact Nat.dvd_mul_left _ _);refine⟨G,?_⟩;obtain⟨k,H⟩:=G;have w:0<k:=oQ λe=>by rw [e,iT]at H;omega
 have F:0<y/g:=oQ λe=>by rw [e,iE]at n;omega
 rw [H]at o;have N:x/g*k=X:=by refine mB F ?_;have:x/g*k*(y/g)=x/g*(y/g*k):=O5;rw [this,o]
 rw [<-N];exact eN _ w
theorem Zpz{x y X Y:Int}(M:0<y)(P:0<Y)(h:x*Y=X*y)(H:bl X.natAbs<=B)(e:bl Y.natAbs<=B)(N:B<=65536) :
  ¬Kq x y/\Gv x y∣Y/\0<Gv x y/\bl (Fq x y).natAbs<=B/\bl (Gv x y).natAbs<=B/\Fq x y*y=x*Gv x y:=by
 have Q:Xs x y=(Nat.gcd x.natAbs y.natAbs:Int):=by rw [Zz9 O1];rfl
 have I:x.natAbs*Y.natAbs=X.natAbs*y.natAbs:=by rw [<-cL,<-cL,h]
 obtain⟨l,F⟩:=Zuu (g:=Nat.gcd x.natAbs y.natAbs) rfl (by omega:0<y.natAbs) (by omega:0<Y.natAbs) I;have n:(y/Xs x y).natAbs=y.natAbs/Nat.gcd x.natAbs y.natAbs:=by rw [nE (Zlc x y),Zam]
 have G:(x/Xs x y).natAbs=x.natAbs/Nat.gcd x.natAbs y.natAbs:=by rw [nE (Ztv x y),Zam]
 have w:bl (y/Xs x y).natAbs<=B:=aB (Pr (by rw [n];exact mQ O1 l)) e;have D:bl (x/Xs x y).natAbs<=B:=aB (Pr (by rw [G];exact F)) H;have j:¬Kq x y:=λh=>by unfold Kq at h;omega
 obtain⟨o,k,-⟩:=Zem j;refine⟨j,?_,Zwo j M,by rw [o];exact D,by rw [k];exact w,?_⟩
 .rw [k];refine gP.1 ?_;rw [n];exact l
 .rw [o,k];exact Ztu x y
structure En (K Q:Nat) (d:Nat) (z:R2):Prop where
 pos:0<z.2
 dv:z.2∣((Q*2^d:Nat):Int)
 lo:-(K:Rat)<=qv z
 hi:qv z<=(K:Rat)
theorem En.up{Q d:Nat}{z:R2}(h:En K Q d z):En K Q (d+1) z:=by
 obtain⟨e,g,j,k⟩:=h;refine⟨e,?_,j,k⟩;have:((Q*2^(d+1):Nat):Int)=((Q*2^d:Nat):Int)*2:=by rw [cC];push_cast;grind
 rw [this];exact fC g (jZ _ _)
theorem canc{N p s Y X D:Int}(k:p≠0)(h:N*p=s*D)(j:s*Y=X*p):N*Y=X*D:=by refine mC k ?_;have e:N*Y*p=(N*p)*Y:=O5;have g:X*D*p=(X*p)*D:=O5;rw [e,g,h,<-j];grind
theorem Hu{z:Int}(h:0<z):(0:Rat)<(z:Rat):=by exact_mod_cast h
def Zcw{n:Nat}(h:n<2^m):bl n<=m:=(Qi m n).2 h
theorem mid_en{Q d:Nat}{a b:R2}(ha:En K Q d a)(hb:En K Q d b)(hQ:0<Q)(a4:Q*2^(d+1)<2^B)(a5:2*K*(Q*2^d)<2^B)(hB:B<=65536) :
  Zdz a b/\En K Q (d+1) (Pn a b)/\qv (Pn a b)=(qv a+qv b)/2/\bl (Pn a b).1.natAbs<=B/\bl (Pn a b).2.natAbs<=B:=by
 obtain⟨pa,⟨g,da⟩,la,ua⟩:=ha;obtain⟨pb,⟨h,db⟩,lb,ub⟩:=hb;generalize P:((Q*2^d:Nat):Int)=Y at *;have W:0<Q*2^d:=gV hQ (cH O3);have l:0<Y:=by rw [<-P];exact_mod_cast W
 have a7:=Hu pa;have a8:=Hu pb;have rY:=Hu l;have I:0<a.2*b.2:=gE pa pb;have j:(a.1*b.2+b.1*a.2)*Y=(a.1*g+b.1*h)*(a.2*b.2):=by have R:(a.1*g+b.1*h)*(a.2*b.2)=a.1*b.2*(a.2*g)+b.1*a.2*(b.2*h):=O5;rw [R,<-da,<-db];grind
 have a1:(a.1:Rat)*g=qv a*Y:=by
  unfold qv;have:(Y:Rat)=(a.2:Rat)*g:=by rw [da];push_cast;rfl
  rw [this];grind
 have a2:(b.1:Rat)*h=qv b*Y:=by
  unfold qv;have:(Y:Rat)=(b.2:Rat)*h:=by rw [db];push_cast;rfl
  rw [this];grind
 have Z:((a.1*g+b.1*h:Int):Rat)=(qv a+qv b)*Y:=by push_cast;rw [a1,a2];grind
 have a6:(a.1*g+b.1*h).natAbs<=2*K*(Q*2^d):=by
  have k:((2*K*(Q*2^d):Nat):Rat)=2*(K:Rat)*(Y:Rat):=by rw [<-P];push_cast;grind
  have t1:=aM (a:=2*(K:Rat)-(qv a+qv b)) (b:=(Y:Rat)) O5 O5;have t2:=aM (a:=2*(K:Rat)+(qv a+qv b)) (b:=(Y:Rat)) O5 O5;have u1:((a.1*g+b.1*h:Int):Rat)<=(((2*K*(Q*2^d):Nat):Int):Rat):=by rw [Z];push_cast at k ⊢;grind
  have u2:((-((2*K*(Q*2^d):Nat):Int):Int):Rat)<=((a.1*g+b.1*h:Int):Rat):=by rw [Z];push_cast at k ⊢;grind
  have v1:a.1*g+b.1*h<=((2*K*(Q*2^d):Nat):Int):=by exact_mod_cast u1
  have v2:-((2*K*(Q*2^d):Nat):Int)<=a.1*g+b.1*h:=by exact_mod_cast u2
  omega
 have o:Y.natAbs=Q*2^d:=by rw [<-P];rfl
 have V:Q*2^(d+1)=2*(Q*2^d):=by rw [cC];grind
 have a0:bl Y.natAbs<=B:=Zcw (by rw [o];omega);have w:bl (a.1*g+b.1*h).natAbs<=B:=Zcw O1;obtain⟨f1,f2,f3,f4,f5,f6⟩:=Zpz I l j w a0 hB;have a3:=canc (Int.ne_of_gt I) f6 j;have D:bl (2*Y).natAbs<=B:=Zcw (by rw [cL,o];show 2*(Q*2^d)<_;omega);have M:Fq (a.1*b.2+b.1*a.2) (a.2*b.2)*1*(2*Y)=(a.1*g+b.1*h)*(Gv (a.1*b.2+b.1*a.2) (a.2*b.2)*2):=by rw [gD];have R:Fq (a.1*b.2+b.1*a.2) (a.2*b.2)*(2*Y)=2*(Fq (a.1*b.2+b.1*a.2) (a.2*b.2)*Y):=O5;rw [R,a3];grind
 have H:0<Gv (a.1*b.2+b.1*a.2) (a.2*b.2)*2:=O1;obtain⟨g1,g2,S,g4,g5,g6⟩:=Zpz H (by omega:0<2*Y) M w D hB;have N:=canc (Int.ne_of_gt H) g6 M;have F:(Pn a b).1=Fq (Fq (a.1*b.2+b.1*a.2) (a.2*b.2)*1) (Gv (a.1*b.2+b.1*a.2) (a.2*b.2)*2):=rfl;have G:(Pn a b).2=Gv (Fq (a.1*b.2+b.1*a.2) (a.2*b.2)*1) (Gv (a.1*b.2+b.1*a.2) (a.2*b.2)*2):=rfl;rw [<-F,<-G]at N;rw [<-G]at g2 S g5;rw [<-F]at g4;have hq:qv (Pn a b)=(qv a+qv b)/2:=by
  have h1:(((Pn a b).1:Int):Rat)*(2*(Y:Rat))=((a.1*g+b.1*h:Int):Rat)*(((Pn a b).2:Int):Rat):=by
   have:(((Pn a b).1*(2*Y):Int):Rat)=(((a.1*g+b.1*h)*(Pn a b).2:Int):Rat):=by rw [N]
   push_cast at this ⊢;grind
  rw [Z]at h1;have rd:=Hu S;unfold qv at *;generalize (((Pn a b).1:Int):Rat)=n at *;generalize (((Pn a b).2:Int):Rat)=m at *;generalize (a.1:Rat)/(a.2:Rat)=p at *;generalize (b.1:Rat)/(b.2:Rat)=q at *;generalize (Y:Rat)=y at *;grind
 refine⟨⟨f1,g1⟩,⟨S,?_,by rw [hq];grind,by rw [hq];grind⟩,hq,g4,g5⟩;have e:((Q*2^(d+1):Nat):Int)=2*Y:=by rw [V,<-P];push_cast;rfl
 rw [e];exact g2
end Go.Sky

