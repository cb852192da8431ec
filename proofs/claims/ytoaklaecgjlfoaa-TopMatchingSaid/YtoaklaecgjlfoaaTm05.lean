/- Rules, arithmetic and contracts: part 6. No conditions but those that each theorem names. -/
import Derived.Test.YtoaklaecgjlfoaaTm04
set_option linter.all false
namespace Go.Sky
variable{p q a b u xs y v z:List Int}{c d r:Int}{s:Rat}{h:Rat->Rat}{m i K B:Nat}
theorem Zf0(t:Int):∀p:List Int,Za p (t:Rat)=((Dx p t:Int):Rat)
 | []=>rfl
 | c::p=>by have h:=Zf0 t p;rw [show Za (c::p) (t:Rat)=(c:Rat)+(t:Rat)*Za p (t:Rat)from rfl,show Dx (c::p) t=c+t*Dx p t from rfl,h];push_cast;rfl
theorem Zfd(h:∀x:Rat,Za p x=0)(i:Nat):cf p i=0:=by
 by_cases g:cf p i=0
 .exact g
 .exfalso;have:=Zcq p.length p ((List.range p.length).map λn:Nat=>(n:Int)) rfl ⟨i,g⟩ (by
   refine List.Pairwise.map _ (λa b f=>?_) eZ;intro e;exact f (by exact_mod_cast e)) (λt k=>by
   have j:=Zf0 t p;rw [h]at j;exact_mod_cast j.symm)
  simp at this
theorem Qa(h:∀x:Rat,Za p x=Za q x)(i:Nat):cf p i=cf q i:=by have e:=Zfd (p:=Xp p (q.map λa=>(-1)*a)) (λx=>by rw [Zt,Zb,h x];push_cast;grind) i;rw [Qj,Yb]at e;omega
def Xn(p:List Int)(x:Rat):Za (tzl p) x=Za p x:=Xx x _ _ λi=>Py p i
theorem Zl(p q:List Int)(x:Rat):Za (Yj p q) x=Za p x*Za q x:=by rw [<-Zd];exact Xx x _ _ λi=>by rw [Pq,On,PS.mul_c];rfl
theorem Yp(c:Int)(x:Rat):Za [c] x=(c:Rat):=by show(c:Rat)+x*0=c;grind
def ld:List Int->List Int
 | []=>[]
 | _::p=>Xp p (0::ld p)
theorem Ff(c:Int)(p:List Int)(x:Rat):Za (ld (c::p)) x=Za p x+x*Za (ld p) x:=by rw [show ld (c::p)=Xp p (0::ld p)from rfl,Zt];show Za p x+(((0:Int):Rat)+x*Za (ld p) x)=_;push_cast;grind
theorem Ec:∀(p:List Int) (i:Nat),cf (ld p) i=cf p (i+1)*((i:Int)+1)
 | [],i=>by rw [He,show ld []=[]from rfl,He,cK]
 | c::p,0=>by rw [show ld (c::p)=Xp p (0::ld p)from rfl,Qj];show cf p 0+0=cf p 0*_;simp
 | c::p,i+1=>by have h:=Ec p i;rw [show ld (c::p)=Xp p (0::ld p)from rfl,Qj];show cf p (i+1)+cf (ld p) i=cf p (i+1)*_;rw [h];push_cast;grind
theorem Qh(p:List Int)(x:Rat):Za (Zv p) x=Za (ld p) x:=Xx x _ _ λi=>by rw [Zdq,Ec]
theorem Nr (p:List Int)(q:List Int)(h:∀x,Za p x=Za q x)(x:Rat):Za (ld p) x=Za (ld q) x:=Xx x _ _ λi=>by rw [Ec,Ec,Qa h]
theorem Zlx(p q:List Int)(x:Rat):Za (ld (Xp p q)) x=Za (ld p) x+Za (ld q) x:=by rw [<-Zt];exact Xx x _ _ λi=>by rw [Ec,Qj,Qj,Ec,Ec];grind
theorem Ln(c:Int)(p:List Int)(x:Rat):Za (ld (p.map λa=>c*a)) x=(c:Rat)*Za (ld p) x:=by rw [<-Zb];exact Xx x _ _ λi=>by rw [Ec,Yb,Yb,Ec];grind
theorem Mh(x:Rat):∀p q:List Int,Za (ld (lmul p q)) x=Za (ld p) x*Za q x+Za p x*Za (ld q) x
 | [],q=>by show(0:Rat)=0*Za q x+0*Za (ld q) x;grind
 | c::p,q=>by have h:=Mh x p q;rw [show lmul (c::p) q=Xp (q.map λa=>c*a) (0::lmul p q)from rfl,Zlx,Ln,Ff,Ff,h,Zd,show Za (c::p) x=(c:Rat)+x*Za p x from rfl];grind
def Ed(g a:List Int):Prop:=∃(k:Int) (s:List Int),k≠0/\∀x:Rat,(k:Rat)*Za a x=Za s x*Za g x
theorem Ed.refl(a:List Int):Ed a a:=⟨1,[1],O3,λx=>by rw [Yp]⟩
theorem Ed.nil(g:List Int):Ed g []:=⟨1,[],O3,λx=>by show(((1:Int)):Rat)*0=0*Za g x;grind⟩
theorem Ed.trans{c:List Int} : Ed a b->Ed b c->Ed a c:=λ⟨k,s,g,h⟩ ⟨m,u,j,e⟩=>
 ⟨k*m,lmul u s,aT g j,λx=>by have l:=h x;have f:=e x;rw [Zd];push_cast;have:(k:Rat)*m*Za c x=k*(m*Za c x):=O2;rw [this,f];grind⟩
theorem Ed.congr{g:List Int}(h:Ed g a)(e:∀x,Za a x=Za b x):Ed g b:=by obtain⟨k,s,f,h⟩:=h;exact⟨k,s,f,λx=>by rw [<-e x];exact h x⟩
theorem Ed.congr_l{g f:List Int}(h:Ed g a)(e:∀x,Za g x=Za f x):Ed f a:=by obtain⟨k,s,j,h⟩:=h;exact⟨k,s,j,λx=>by rw [<-e x];exact h x⟩
theorem Ed.sim{g:List Int}(h:Ed g a)(e:Sim a b):Ed g b:=by
 obtain⟨k,s,l,h⟩:=h;obtain⟨m,n,t,o,e⟩:=e;refine⟨k*n,s.map λc=>m*c,aT l o,λx=>?_⟩;have f:Za (a.map λc=>m*c) x=Za (b.map λc=>n*c) x:=Xx x _ _ λi=>by rw [Yb,Yb,e]
 rw [Zb,Zb]at f;rw [Zb];have:=h x;push_cast;have j:(k:Rat)*n*Za b x=k*(n*Za b x):=O2;rw [j,<-f];grind
theorem Ed.lin{g c:List Int}(o:Ed g a)(t:Ed g b)(s:List Int)(L:Int)(n:L≠0)(h:∀x,(L:Rat)*Za c x=Za s x*Za a x+Za b x):Ed g c:=by obtain⟨k,u,w,f⟩:=o;obtain⟨m,v,D,j⟩:=t;refine⟨L*(k*m),Xp ((lmul s u).map λc=>m*c) (v.map λc=>k*c),aT n (aT w D),λx=>?_⟩;have f:=f x;have j:=j x;have h:=h x;rw [Zt,Zb,Zb,Zd];push_cast;have e:(L:Rat)*(k*m)*Za c x=k*m*(L*Za c x):=O2;rw [e,h];have l:(k:Rat)*m*(Za s x*Za a x+Za b x)=m*Za s x*(k*Za a x)+k*(m*Za b x):=O2;rw [l,f,j];grind
theorem Zeo{g s:List Int}{k:Int}(M:k≠0)(I:Tr g)(H:Tr a)(G:a≠[])(h:∀x:Rat,(k:Rat)*Za a x=Za s x*Za g x):g≠[]/\tzl s≠[]/\(tzl s).length+g.length<=a.length+1:=by
 have n:∀i,k*cf a i=(ps (tzl s)*ps g).c i:=λi=>by have f:=Qa (p:=a.map λc=>k*c) (q:=lmul (tzl s) g) (λx=>by rw [Zb,Zd,Xn];exact h x) i;rw [Yb,On]at f;rw [f,PS.mul_c];rfl
 have F:∀i,k*cf a i=0->cf a i=0:=λi hi=>(dL.1 hi).resolve_left M;have j:=H.mem G;have f:tzl s≠[]:=λe=>j (F _ (by rw [n,e,Qc (λt=>Zr (aW _))]));have l:g≠[]:=λe=>j (F _ (by rw [n,e,PS.mul_comm',Qc (λt=>Zr (aW _))]));refine⟨l,f,?_⟩;have N:=aD.2 f;have P:=aD.2 l;have w:=Ld g (p:=tzl s) (a:=(tzl s).length-1) (b:=g.length-1) (λi hi=>Zr O) (λi hi=>Zr O);rw [<-n]at w;have o:=aT ((Xd s).mem f) (I.mem l);rcases bD ((tzl s).length-1+(g.length-1)) a.length with D|D
 .omega
 .rw [Zr D,cJ]at w;exact absurd w.symm o
theorem Ed.len{g:List Int}(h:Ed g a)(n:Tr g)(l:Tr a)(j:a≠[]):g≠[]/\g.length<=a.length:=by obtain⟨k,s,o,h⟩:=h;obtain⟨e,f,t⟩:=Zeo o n l j h;have:=aD.2 f;exact⟨e,O⟩
theorem Ed.same{g:List Int}(h:Ed g a)(w:Tr g)(o:Tr a)(n:a≠[])(G:g.length=a.length):Ed a g:=by
 obtain⟨k,s,D,h⟩:=h;obtain⟨F,f,l⟩:=Zeo D w o n h;have e:=aD.2 f
 match hs:tzl s,e,l with
 | [c],_,_=>
  have t:c≠0:=by have:=(Xd s).mem f;rw [hs]at this;exact this
  refine⟨c,[k],t,λx=>?_⟩;have j:=h x;rw [<-Xn s,hs,Yp]at j;rw [Yp];exact j.symm
 | c::d::r,_,h9=>simp at h9;omega
theorem Ai:∀(n:Nat) (a b:List Int),Tr a->Tr b->b.length<=n->∃g A B:List Int,Tr g/\Ed g a/\Ed g b/\∀x,Za g x=Za A x*Za a x+Za B x*Za b x
 | n,a,[],j,l,_=>⟨a,[1],[],j,Ed.refl a,Ed.nil a,λx=>by rw [Yp];show _=_+0*(0:Rat);push_cast;grind⟩
 | 0,a,c::r,_,_,hl=>absurd hl O6
 | n+1,a,c::b',j,l,hl=>by
  have f:(c::b')≠[]:=O6;generalize c::b'=b at *;obtain⟨k,s,hs⟩:=Kd a f;have w:=Qd (l.mem f) k;generalize cf b (b.length-1)^k=L at hs w;have I:=Yz a f;obtain⟨g,A,B,F,o,G,H⟩:=Ai n b (Yn a b) l (Qr _ j) O;have D:∀x,(L:Rat)*Za a x=Za s x*Za b x+Za (Yn a b) x:=λx=>by have:=Nf L (-1) a s b (Yn a b) (λt=>by rw [hs t];omega) x;push_cast at this;grind
  refine⟨g,B.map λc=>L*c,Xp A ((lmul B s).map λc=>(-1)*c),F,o.lin G s L w D,o,λx=>?_⟩;rw [Zb,Zt,Zb,Zd,H x];have:=D x;have e:Za (Yn a b) x=L*Za a x-Za s x*Za b x:=O2;rw [e];push_cast;grind
def Irr(q:List Int):Prop:=Tr q/\2<=q.length/\∀d,Tr d->Ed d q->d.length<=1\/d.length=q.length
theorem Ho(h:2<=q.length):q≠[]:=λe=>by rw [e]at h;simp at h
theorem Zjd:∀(n:Nat) (q:List Int),q.length<=n->Tr q->2<=q.length->∃p,Irr p/\Ed p q
 | 0,q,t,_,g=>O
 | n+1,q,t,k,g=>by
  by_cases h:Irr q
  .exact⟨q,h,Ed.refl q⟩
  .have:∃d,Tr d/\Ed d q/\¬(d.length<=1\/d.length=q.length):=by refine aP λo=>h ⟨k,g,λd e f=>aP λl=>o ⟨d,e,f,l⟩⟩
   obtain⟨d,e,f,D⟩:=this;have w:=(f.len e k (Ho g)).2;obtain⟨p,x,j⟩:=Zjd n d O e O;exact⟨p,x,j.trans f⟩
theorem Kj (f:List Int)(h:List Int)(m:List Int)(k:Int)(Q:Irr q)(P:k≠0)(e:∀x:Rat,(k:Rat)*(Za f x*Za h x)=Za m x*Za q x):Ed q f\/Ed q h:=by
 obtain⟨j,n,D⟩:=Q;obtain⟨g,A,B,l,o,G,t⟩:=Ai _ q (tzl f) j (Xd f) (aH _);have N:=(o.len l j (Ho n)).1;rcases D g l o with w|w
 .right
  match g,N,w,l,t with
  | [c],_,_,l,t=>
   have M:c≠0:=l.mem O6;refine⟨c*k,Xp ((lmul A h).map λc=>k*c) (lmul B m),aT M P,λx=>?_⟩;have F:=t x;have I:=e x;rw [Yp,Xn]at F;rw [Zt,Zb,Zd,Zd];push_cast;rw [F];have:(Za A x*Za q x+Za B x*Za f x)*k*Za h x=k*Za A x*Za q x*Za h x+Za B x*(k*(Za f x*Za h x)):=O2;rw [this,I];grind
  | c::d::r,_,h9,_,_=>simp at h9
 .left;have H:=o.same l j (Ho n) w;exact(H.trans G).congr λx=>Xn f x
def Px(q:List Int):Nat->List Int
 | 0=>[1]
 | n+1=>Yj q (Px q n)
theorem Kf{q:List Int}(j:Tr q)(f:2<=q.length):∀n,Tr (Px q n)/\n+1<=(Px q n).length
 | 0=>⟨.inr (show cf [1] 0≠0 by decide),aH _⟩
 | n+1=>by obtain⟨k,g⟩:=Kf j f n;refine⟨Yo,?_⟩;show n+1+1<=(Yj q (Px q n)).length;rw [Qb j k (Ho f) (λe=>by rw [e]at g;simp at g)];omega
def Oh(q:List Int)(n:Nat)(x:Rat):Za (Px q (n+1)) x=Za q x*Za (Px q n) x:=Zl _ _ _
theorem Zbi(q:List Int):∀(n:Nat) (x:Rat),Za (ld (Px q (n+1))) x=((n:Rat)+1)*(Za (Px q n) x*Za (ld q) x)
 | n,x=>by
  have e:Za (ld (Px q (n+1))) x=Za (ld (lmul q (Px q n))) x:=Nr _ _ (λy=>by rw [Oh,Zd]) x;rw [e,Mh]
  match n with
  | 0=>
   rw [show Za (ld (Px q 0)) x=0 from by rw [show Px q 0=[1]from rfl,Ff];show(0:Rat)+x*0=0;grind];simp;grind
  | n+1=>
   rw [Zbi q n x,Oh];push_cast;grind
theorem Zh2{s g u:List Int}{c:Int}{k:Nat}(H:∀x:Rat,Za p x=Za s x*Za g x)(G:∀d,Tr d->Ed d p->Ed d (ld p)->Ed d g)(hq:Irr q)(Z:Ed q s)(h2:Ed q (ld s))(hk:Ed (Px q k) g):Ed (Px q (k+1)) g:=by
 obtain⟨n,t,I⟩:=hq;obtain⟨l,f,k1,N⟩:=Z;obtain⟨w,s2,k2,W⟩:=h2;have V:∀x:Rat,(l:Rat)*Za (ld s) x=Za (ld f) x*Za q x+Za f x*Za (ld q) x:=λx=>by have:=Nr (s.map λa=>l*a) (lmul f q) (λy=>by rw [Zb,Zd];exact N y) x;rwa [Ln,Mh]at this
 have h3:Ed q f:=by
  rcases Kj f (ld q) (Xp (s2.map λa=>l*a) ((ld f).map λa=>(-w)*a)) _ ⟨n,t,I⟩ k2 (λx=>by have M:=V x;have Q:=W x;rw [Zt,Zb,Zb];push_cast;have:(w:Rat)*(Za f x*Za (ld q) x)=l*(w*Za (ld s) x)-w*(Za (ld f) x*Za q x):=O2;rw [this,Q];grind)with h9|h9
  .exact h9
  .exfalso;have h8:Ed q (Zv q):=h9.congr λx=>(Qh q x).symm;have P:=Qx q;have:=(h8.len n (Xz n) (λe=>by rw [e]at P;simp at P;omega)).2;omega
 obtain⟨o,j,k3,Y⟩:=h3;obtain⟨c,u,kc,eu⟩:=hk;have F:∀x:Rat,((l*o*c:Int):Rat)*Za p x=Za (lmul j u) x*Za (Px q (k+1+1)) x:=λx=>by rw [H x,Zd,Oh,Oh];push_cast;have M:=N x;have R:=Y x;have S:=eu x;have:(l:Rat)*o*c*(Za s x*Za g x)=o*(l*Za s x)*(c*Za g x):=O2;rw [this,M,S];have:(o:Rat)*(Za f x*Za q x)*(Za u x*Za (Px q k) x)=(o*Za f x)*Za q x*(Za u x*Za (Px q k) x):=O2;rw [this,R];grind
 have D:l*o*c≠0:=aT (aT k1 k3) kc;generalize l*o*c=C at F D;have hD:∀x:Rat,(C:Rat)*Za (ld p) x=Za (ld (lmul j u)) x*Za (Px q (k+1+1)) x+Za (lmul j u) x*((((k+1:Nat):Rat)+1)*(Za (Px q (k+1)) x*Za (ld q) x)):=λx=>by have:=Nr (p.map λa=>C*a) (lmul (lmul j u) (Px q (k+1+1))) (λy=>by rw [Zb,Zd];exact F y) x;rwa [Ln,Mh,Zbi]at this
 refine G _ (Kf n t _).1 ⟨C,lmul (lmul j u) q,D,λx=>?_⟩ ⟨C,Xp (lmul (ld (lmul j u)) q) ((lmul (lmul j u) (ld q)).map λa=>((k+2:Nat):Int)*a),D,λx=>?_⟩
 .rw [F x,Zd _ (lmul j u),Oh q (k+1)];grind
 .rw [hD x,Zt,Zb,Zd _ (ld (lmul j u)),Zd _ (lmul j u),Oh q (k+1)];push_cast;grind
theorem Zh4{s g:List Int}(j:∀x:Rat,Za p x=Za s x*Za g x)(F:Tr g)(t:g≠[])(f:∀d,Tr d->Ed d p->Ed d (ld p)->Ed d g)(G:Tr q)(w:Ed q s)(D:Ed q (ld s)):q.length<=1:=by
 refine aP λh=>?_;obtain⟨r,l,e⟩:=Zjd _ q (aH _) G O;have n:∀k,Ed (Px r k) g:=λk=>by
  induction k with
  | zero=>exact⟨1,g,O3,λx=>by rw [show Px r 0=[1]from rfl,Yp];push_cast;grind⟩
  | succ k H=>exact Zh2 (u:=[]) (c:=0) j f l (e.trans w) (e.trans D) H
 obtain⟨o,I⟩:=Kf l.1 l.2.1 g.length;have:=((n g.length).len o F t).2;omega
theorem Zmx{d:List Int}(o:Tr b)(f:b≠[])(g:Ed d a)(j:Ed d b):Ed d (Yn a b):=by
  obtain⟨k,s,hs⟩:=Kd a f;have n:=Qd (o.mem f) k;generalize cf b (b.length-1)^k=L at hs n;have w:∀x,(L:Rat)*Za a x=Za s x*Za b x+Za (Yn a b) x:=λx=>by have:=Nf L (-1) a s b (Yn a b) (λt=>by rw [hs t];omega) x;push_cast at this;grind
  have l:Ed d (a.map λc=>L*c):=by obtain⟨k,u,D,e⟩:=g;exact⟨k,u.map λc=>L*c,D,λx=>by rw [Zb,Zb];have:=e x;grind⟩
  exact j.lin l (s.map λc=>(-1)*c) 1 O3 λx=>by rw [Zb,Zb];push_cast;have:=w x;grind
theorem Zdg{d:List Int} : ∀(f:Nat) {a b:List Int},Tr a->Tr b->Ed d a->Ed d b->Ed d (eu f a b)
  | 0,a,b,_,_,e,_=>e
  | f+1,a,b,l,k,e,j=>by
    by_cases g:b=[]
    . rw [g,Ac];exact e
    . rw [show eu (f + 1) a b = eu f b (Zq (Yn a b)) by
          conv=>lhs;unfold eu
          rw [aG g]]
      have t1:=Qr b l;exact Zdg f k (Zs t1) j ((Zmx k g e j).sim (Ye t1).symm)
theorem Bg{F:Nat}{d:List Int}(e:Tr p)(f:Tr q)(g:Ed d p)(j:Ed d q):Ed d (Qg F p q):=by
  have k:=g.sim (Ye e).symm;have l:=j.sim (Ye f).symm;unfold Qg;refine Ed.sim ?_ (Qv _).symm;refine Zdg F (Ct e f) (Cr e f) ?_ ?_
  . unfold gA;split<;>assumption
  . unfold gB;split<;>assumption
theorem Gz{F:Nat}(j:Tr xs)(k:xs≠[])(e:eok F (gA (Zw xs) (Zv (Zw xs))) (gB (Zw xs) (Zv (Zw xs))))(o:Tr q)(l:Ed q (sqf F xs))(n:Ed q (Zv (sqf F xs))):q.length<=1:=by
  obtain⟨f1,f2,f3,f4,f5,f6⟩:=Xg F j k e;have hs:Tr (Zw xs):=Xm (Zs j);have f:Tr (Zv (Zw xs)):=Xz hs;refine Zh4 (p:=Zw xs) (s:=sqf F xs) (g:=Qg F (Zw xs) (Zv (Zw xs))) (λx=>?_) (Gx _ hs f) f5 (λd _ a b=>?_) o l (n.congr λx=>Qh _ x)
  . have:Za (Zw xs) x=Za (Yj (sqf F xs) (Qg F (Zw xs) (Zv (Zw xs)))) x:=by rw [<-f4]
    rw [this,Zl]
  . exact Bg hs f a (b.congr λx=>(Qh _ x).symm)
theorem Kl:∀(l:List Int) (n z:Int),(l.foldl Qn (n,z)).1=n+(l.foldl Qn (0,z)).1
 | [],n,z=>O6
 | x::l,n,z=>by
  simp only [fW];by_cases h:x=0
  .have e:∀n,Qn (n,z) x=(n,z):=λn=>by unfold Qn;rw [aK h]
   rw [e,e];exact Kl l n z
  .by_cases f:x=-z
   .have e:∀n,Qn (n,z) x=(n+1,x):=λn=>by unfold Qn;rw [aG h,aK (by dsimp only;exact f)]
    rw [e,e,Kl l (n+1) x,Kl l (0+1) x];omega
   .have e:∀n,Qn (n,z) x=(n,x):=λn=>by unfold Qn;rw [aG h,aG (by dsimp only;exact f)]
    rw [e,e];exact Kl l n x
theorem Znk{x y:Int}{l:List Int}(j:y≠0):chg (x::y::l)=chg (y::l)+(if x=-y then 1 else 0):=by
 unfold chg;simp only [fW];have f:Qn (0,0) y=(0,y):=by unfold Qn;rw [aG j,aG (by dsimp only;omega)]
 rw [f];by_cases g:x=0
 .have e:Qn (0,0) x=(0,0):=by unfold Qn;rw [aK g]
  rw [e,f,aG O];omega
 .have e:Qn (0,0) x=(0,x):=by unfold Qn;rw [aG g,aG (by dsimp only;omega)]
  rw [e];have k:Qn (0,x) y=(if x=-y then 1 else 0,y):=by
   unfold Qn;rw [aG j];by_cases h:x=-y
   .rw [aK (by dsimp only;omega),aK h];rfl
   .rw [aG (by dsimp only;omega),aG h]
  rw [k,Kl];omega
def An(f:Rat->Rat)(u v:Rat):Int:=if f u≠0/\f u*f v<=0 then 1 else 0
theorem Cg(s t:Rat):∀p:List Int,∃M:Rat,0<M/\∀x y,s<=x->x<=y->y<=t->
  -(M*(y-x)*(y-x))<=Za p y-Za p x-(y-x)*Za (ld p) x/\Za p y-Za p x-(y-x)*Za (ld p) x<=M*(y-x)*(y-x)
 | []=>⟨1,O3,λx y V W Y=>by have:=aC (a:=y-x) (b:=y-x) O2 O2;show -(1*(y-x)*(y-x))<=(0:Rat)-0-(y-x)*0/\(0:Rat)-0-(y-x)*0<=1*(y-x)*(y-x);constructor<;>grind⟩
 | c::p=>by obtain⟨M,H,I⟩:=Cg s t p;obtain⟨L,Z,G⟩:=Mg s t p;obtain⟨K,D,F⟩:=Zms s t;refine⟨L+K*M,by have:=aN D H;grind,λx y hs f k=>?_⟩;obtain⟨l,n⟩:=I x y hs f k;obtain⟨N,P⟩:=G x y hs f k;obtain⟨o,w⟩:=F x hs O2;have j:0<=y-x:=O2;obtain⟨f1,f2⟩:=Ig (q:=x) (Q:=K) (g:=Za p y-Za p x-(y-x)*Za (ld p) x) (e:=M*(y-x)*(y-x)) o w l n O2;have R:=aC (a:=y-x) (b:=L*(y-x)-(Za p y-Za p x)) j O2;have S:=aC (a:=y-x) (b:=L*(y-x)+(Za p y-Za p x)) j O2;rw [Ff,show Za (c::p) y=(c:Rat)+y*Za p y from rfl,show Za (c::p) x=(c:Rat)+x*Za p x from rfl];constructor<;>grind
theorem Zf8(w:Tr a)(hb:Tr b)(Y:a≠[])(hc:∀q,Tr q->Ed q a->Ed q b->q.length<=1)(s t:Rat):∃ε:Rat,0<ε/\∀x,s<=x->x<=t->Big ε x (Za a)\/Big ε x (Za b):=by
 obtain⟨g,A,B,e,l,W,f⟩:=Ai _ a b w hb (aH _);have hl:=hc g e l W;have hg:=(l.len e w Y).1
 match g,hg,hl,e,f with
 | [c],_,_,e,f=>
  have k:c≠0:=e.mem O6;obtain⟨P,p1,p2⟩:=Zcs s t A;obtain⟨Q,q1,q2⟩:=Zcs s t B;obtain⟨ε,V,e2,e3⟩:=Pg (show(0:Rat)<1 by decide) (show 0<(P+Q)+(P+Q) by grind) (show(0:Rat)<1 by decide);refine⟨ε,V,λx hs D=>?_⟩;by_cases n:Big ε x (Za a)
  .exact .inl n
  .by_cases o:Big ε x (Za b)
   .exact .inr o
   .exfalso;obtain⟨F,G⟩:=Hm n;obtain⟨H,I⟩:=Hm o;obtain⟨M,N⟩:=p2 x hs D;obtain⟨R,S⟩:=q2 x hs D;obtain⟨u1,u2⟩:=Ig M N F G O2;obtain⟨v1,v2⟩:=Ig R S H I O2;have Z:=f x;rw [Yp]at Z;have j:(c:Rat)<=-1\/1<=(c:Rat):=by
     rcases kP k with h|h
     .left;have:((c:Int):Rat)<=((-1:Int):Rat):=by exact_mod_cast (show c<=-1 by omega)
      rwa [show(((-1:Int)):Rat)=-1 from rfl]at this
     .right;have:1<=c:=O;exact_mod_cast this
    rcases j with j|j<;>grind
 | c::d::r,_,h9,_,_=>simp at h9
theorem Big.near{ε x y:Rat}{f:Rat->Rat}(h:Big ε x f)(e:f x-f y<=ε/2)(g:f y-f x<=ε/2):Big (ε/2) y f:=by unfold Big at *;grind
theorem De(x:Rat):Ot x=-1↔x<0:=by
 unfold Ot;by_cases h:x<0
 .rw [aK h];simp [h]
 .rw [aG h];by_cases e:x=0
  .rw [aK e];simp [h]
  .rw [aG e];simp [h]
theorem Zic(x:Rat):Ot (-x)=- Ot x:=by
 unfold Ot;by_cases h:x<0
 .rw [aK h,aG O2,aG O2];rfl
 .rw [aG h];by_cases e:x=0
  .rw [aK e,aG O2,aK O2];rfl
  .rw [aG e,aK O2]
theorem Az{f g:Rat->Rat}{r:List (Rat->Rat)}{x:Rat}(h:Ot (g x)≠0):Ip (f::g::r) x=Ip (g::r) x+(if Ot (f x)=- Ot (g x)then 1 else 0):=by unfold Ip;simp only [bK];exact Znk h
def Tay(s t M:Rat)(p:List Int):Prop:=∀x y,s<=x->x<=y->y<=t->-(M*(y-x)*(y-x))<=Za p y-Za p x-(y-x)*Za (ld p) x/\Za p y-Za p x-(y-x)*Za (ld p) x<=M*(y-x)*(y-x)
theorem Dc {t:Rat} {f:Nat}  (ha:Tr a) (hb:Tr b) (a0:cok f a b) {κ:Rat} (hκ:0<κ) (W:∀x,Za (ld a) x=κ*Za b x)
  {ε L L' M h:Rat} (e1:0<ε) (e2:∀x,s<=x->x<=t->Big ε x (Za a)\/Big ε x (Za b)) (l1:0<=L) (l2:Lip s t L (Za a)) (a8:0<=L') (I:Lip s t L' (Za b)) (m1:0<=M) (m2:Tay s t M a)
  (h5:0<h) (h3:h*(L+L')<=ε/2) (h7:h*M<=κ*ε/2) {u v:Rat} (hs:s<=u) (j:u<=v) (ht:v<=t) (hh:v-u<=h) :
  Ip ((Ql f a b).map Za) u-Ip ((Ql f a b).map Za) v=An (Za a) u v:=by
 have Q:∀w,u<=w->w<=v->L*(w-u)<=ε/2/\L'*(w-u)<=ε/2:=λw k n=>by have p1:=aC (a:=L) (b:=h-(w-u)) O2 O2;have p2:=aC (a:=L') (b:=h-(w-u)) O2 O2;have p3:=aC (a:=L) (b:=h) O2 O2;have p4:=aC (a:=L') (b:=h) O2 O2;constructor<;>grind
 by_cases D:Big ε u (Za a)
 .have hB:∀w,u<=w->w<=v->Big (ε/2) w (Za a):=λw k n=>by obtain⟨x1,x2⟩:=l2 u w hs k O2;have:=Q w k n;exact D.near O2 O2
  rw [Fb ha hb a0 j (show 0<ε/2 by grind) hB];have hv:=hB v j O2;have:An (Za a) u v=0:=by
   unfold An;refine aG λ⟨_,P⟩=>?_;obtain⟨x1,x2⟩:=l2 u v hs j ht;have a5:=Q v j O2;unfold Big at D hv;rcases D with hp|hp
   .have:0<Za a v:=O2;have:=aN (show 0<Za a u by grind) this;grind
   .have:0 < - Za a v:=O2;have:=aN (show 0 < - Za a u by grind) this;grind
  omega
 .have l:Big ε u (Za b):=(e2 u hs O2).resolve_left D;have hB:∀w,u<=w->w<=v->Big (ε/2) w (Za b):=λw k n=>by obtain⟨x1,x2⟩:=I u w hs k O2;have:=Q w k n;exact l.near O2 O2
  have a1:b≠[]:=λe=>by rw [e]at l;unfold Big at l;have:Za [] u=0:=rfl;rw [this]at l;grind
  obtain⟨g,hg,hd,a7,S,a3⟩:=Zdo a0 a1;have hT:=Fb hb (Iu ha) S j (show 0<ε/2 by grind) hB;obtain⟨r,hr,_,_,_⟩:=Zak u v g b (Pb a b) hb (Iu ha) S;rw [a3,hr];rw [hr]at hT;simp only [bK]at hT ⊢;have a4:∃σ:Rat,(σ=1\/σ=-1)/\ε<σ*Za b u/\∀w,u<=w->w<=v->0<σ*Za b w:=by
   unfold Big at l;rcases l with hp|hp
   .refine⟨1,.inl rfl,O2,λw k n=>?_⟩;obtain⟨x1,x2⟩:=I u w hs k O2;have:=Q w k n;grind
   .refine⟨-1,.inr rfl,O2,λw k n=>?_⟩;obtain⟨x1,x2⟩:=I u w hs k O2;have:=Q w k n;grind
  obtain⟨σ,hσ,a6,R⟩:=a4;have o:u<v->σ*Za a u<σ*Za a v:=λF=>by
   obtain⟨y1,y2⟩:=m2 u v hs j ht;rw [W u]at y1 y2;have hd:0<v-u:=O2;have z1:M*(v-u)<=κ*ε/2:=by have:=aC (a:=M) (b:=h-(v-u)) O2 O2;grind
   have z2:0<κ*(σ*Za b u)-M*(v-u):=by have:=aN hκ (show 0<σ*Za b u-ε by grind);have:=aN hκ e1;grind
   have z3:=aN hd z2;rcases hσ with rfl|rfl<;>grind
  have Z:∀w,u<=w->w<=v->Ot (Za b w)≠0:=λw k n=>by
   have:=R w k n;rcases hσ with rfl|rfl
   .rw [Lk O2];decide
   .rw [Ll O2];decide
  rw [Az (Z u O2 j),Az (Z v j O2),hT];have G:∀w,u<=w->w<=v->(Ot (Za a w)=- Ot (Za b w)↔σ*Za a w<0):=λw k n=>by
   have:=R w k n;rcases hσ with rfl|rfl
   .rw [Lk (x:=Za b w) O2,De];constructor<;>intro<;>grind
   .rw [Ll (x:=Za b w) O2,show(-(-1:Int))=- -1 from rfl];have P:=De (-(Za a w));rw [Zic]at P;constructor
    .intro h8;have:=P.1 O;grind
    .intro h8;have:=P.2 O2;omega
  rw [show(if Ot (Za a u)=- Ot (Za b u)then(1:Int)else 0)=if σ*Za a u<0 then 1 else 0 from by simp only [G u O2 j]];rw [show(if Ot (Za a v)=- Ot (Za b v)then(1:Int)else 0)=if σ*Za a v<0 then 1 else 0 from by simp only [G v j O2]];have V:An (Za a) u v=if σ*Za a u<0/\¬σ*Za a v<0 then 1 else 0:=by
   unfold An;have a2:Za a u*Za a v=(σ*Za a u)*(σ*Za a v):=by rcases hσ with rfl|rfl<;>grind
   have hz:Za a u≠0↔σ*Za a u≠0:=by rcases hσ with rfl|rfl<;>constructor<;>intro P h8<;>exact P O2
   have Y:(Za a u≠0/\Za a u*Za a v<=0)↔(σ*Za a u<0/\¬σ*Za a v<0):=by
    rw [a2,hz];generalize hp:σ*Za a u=p at *;generalize hq:σ*Za a v=q at *;constructor
    .intro ⟨n1,n2⟩;rcases(show u<v\/u=v by grind)with F|H
     .have:=o F;rcases(show p<0\/0<p by grind)with N|N
      .refine⟨N,λn4=>?_⟩;have:=aN (show 0 < -p by grind) (show 0 < -q by grind);grind
      .have:=aN N (show 0<q by grind);grind
     .exfalso;have:q=p:=by rw [<-hp,<-hq,H]
      rw [this]at n2;rcases(show p<0\/0<p by grind)with N|N
      .have:=aN (show 0 < -p by grind) (show 0 < -p by grind);grind
      .have:=aN N N;grind
    .intro ⟨n1,n2⟩;refine⟨O2,?_⟩;have:=aC (show 0<=-p by grind) (show 0<=q by grind);grind
   simp only [Y]
  rw [V];by_cases k1:σ*Za a u<0<;>by_cases k2:σ*Za a v<0
  .simp [k1,k2]
  .simp [k1,k2];omega
  .exfalso;rcases(show u<v\/u=v by grind)with F|H
   .have:=o F;grind
   .rw [H]at k1;exact k1 k2
  .simp [k1,k2]
theorem Cx (κ:Rat){t:Rat}{f:Nat}(w:Tr a)(D:Tr b)(H:a≠[])(g:cok f a b)(F:0<κ)(e:∀x,Za (ld a) x=κ*Za b x)(Q:∀q,Tr q->Ed q a->Ed q b->q.length<=1) :
  ∃h:Rat,0<h/\∀u v,s<=u->u<=v->v<=t->v-u<=h->Ip ((Ql f a b).map Za) u-Ip ((Ql f a b).map Za) v=An (Za a) u v:=by
 obtain⟨ε,n,G⟩:=Zf8 w D H Q s t;obtain⟨L,l1,W⟩:=Mg s t a;obtain⟨l,V,k⟩:=Mg s t b;obtain⟨M,Y,Z⟩:=Cg s t a;obtain⟨I,N,h3,h4⟩:=Pg (show(0:Rat)<1 by decide) (show 0<L+l by grind) (show 0<ε/2 by grind);obtain⟨h,o,h6,P⟩:=Pg N Y (show 0<κ*ε/2 by have:=aN F n;grind);refine⟨h,o,λu v hs j S R=>Dc w D g F e n G O2 W O2 k O2 Z o ?_ P hs j S R⟩;have:=aC (a:=L+l) (b:=I-h) O2 O2;grind
theorem Zjg:∀(n m:Nat) (f:Nat->Nat),(∀k,k<n->f k<m)->(∀a b,a<n->b<n->f a=f b->a=b)->n<=m
 | 0,_,_,_,_=>aW _
 | n+1,m,f,g,hi=>by
  have l:=g n O;have:=Zjg n (m-1) (λk=>if f n<f k then f k-1 else f k) (λk D=>by
   have o:=g k O;have j:f k≠f n:=λe=>by have:=hi k n O O e;omega
   split<;>omega) (λa b w x e=>by
   have j:f a≠f n:=λe=>by have:=hi a n O O e;omega
   have t:f b≠f n:=λe=>by have:=hi b n O O e;omega
   refine hi a b O O ?_;split at e<;>split at e<;>omega)
  omega
theorem php{n:Nat}{f:Nat->Nat}(h:m<n)(t:∀k,k<n->f k<m):∃a b,a<n/\b<n/\a≠b/\f a=f b:=by refine aP λj=>?_;have:=Zjg n m f t λa b l o e=>aP λg=>j ⟨a,b,l,o,g,e⟩;omega
def enc(B:Nat)(d:Nat->Nat):Nat->Nat
 | 0=>0
 | n+1=>enc B d n+d n*B^n
theorem Zb0{B:Nat}{d:Nat->Nat} : ∀n,(∀i,i<n->d i<B)->enc B d n<B^n
 | 0,_=>by simp [enc]
 | n+1,h=>by have g:=Zb0 n λi hi=>h i O;have e:=h n O;have f:(d n+1)*B^n<=B*B^n:=bI _ e;rw [dB,Nat.one_mul]at f;rw [dJ,dU (B^n) B];show enc B d n+d n*B^n<_;omega
theorem Zf3{B:Nat}{d e:Nat->Nat} : ∀n,(∀i,i<n->d i<B)->(∀i,i<n->e i<B)->enc B d n=enc B e n->∀i,i<n->d i=e i
 | 0,_,_,_,i,hi=>absurd hi (aZ i)
 | n+1,f,g,h,i,hi=>by
  have o:=Zb0 n λi hi=>f i O;have t:=Zb0 n λi hi=>g i O;have h:enc B d n+d n*B^n=enc B e n+e n*B^n:=h;have l:0<B^n:=O;have k:d n=e n:=by
   have w:(enc B d n+d n*B^n)/B^n=d n:=by rw [jM _ _ l,iX o,dK]
   have x:(enc B e n+e n*B^n)/B^n=e n:=by rw [jM _ _ l,iX t,dK]
   rw [<-w,<-x,h]
  rcases bD i n with j|j
  .exact Zf3 n (λi hi=>f i O) (λi hi=>g i O) (by rw [k]at h;omega) i j
  .rw [show i=n by omega];exact k
def dig(B k j:Nat):Nat:=k/B^j%B
theorem Zb1(B k:Nat):∀n,enc B (dig B k) n=k%B^n
 | 0=>by simp [enc,Nat.mod_one]
 | n+1=>by show enc B (dig B k) n+dig B k n*B^n=_;rw [Zb1 B k n,dJ,Nat.mod_mul];unfold dig;rw [dU]
theorem Cw (C:Int){f:Nat->Int} : ∀n,(∀i,i<n->-C<=f i/\f i<=C)->-((n:Int)*C)<=Zc f n/\Zc f n<=(n:Int)*C
 | 0,_=>by simp [Mu]
 | n+1,h=>by
  have g:=Cw _ n λi hi=>h i O;have j:=h n O;have e:((n+1:Nat):Int)*C=(n:Int)*C+C:=by push_cast;grind
  rw [Zf,e];omega
theorem Zad(f g:Nat->Int):∀n,Zc (λi=>f i-g i) n=Zc f n-Zc g n
 | 0=>by simp [Mu]
 | n+1=>by rw [Zf,Zf,Zf,Zad f g n];omega
theorem siegel{N M A:Nat}(a0:M<N)(hA:0<A)(c:Nat->Nat->Int)(hc:∀i j,i<M->j<N->(c i j).natAbs<=A) :
  ∃x:Nat->Int,(∃j,j<N/\x j≠0)/\(∀j,j<N->(x j).natAbs<=(2*N*A)^M)/\∀i,i<M->Zc (λj=>c i j*x j) N=0:=by
 generalize hX:(2*N*A)^M=X;generalize Y:N*(A*X)=W;let d:=λk j=>dig (X+1) k j;have G:∀k j,d k j<=X:=λk j=>Nat.le_of_lt_succ (gN _ (jD X));let y:=λk i=>Zc (λj=>c i j*(d k j:Int)) N;have Q:∀k i,i<M->-(W:Int)<=y k i/\y k i<=(W:Int):=λk i hi=>by
  have g:=Cw ((A*X:Nat):Int) (f:=λj=>c i j*(d k j:Int)) N λj I=>by
   have l:=hc i j hi I;have w:(c i j*(d k j:Int)).natAbs<=A*X:=by rw [cN,dD];exact bT l (G k j)
   omega
  have o:((N:Int)*((A*X:Nat):Int))=(W:Int):=by rw [<-Y];push_cast;rfl
  rw [o]at g;exact g
 let e:=λk=>enc (2*W+1) (λi=>(y k i+(W:Int)).toNat) M;have H:∀k i,i<M->(y k i+(W:Int)).toNat<2*W+1:=λk i hi=>by have:=Q k i hi;omega
 have P:(2*W+1)^M<(X+1)^N:=by
  have g:2*W+1<=(2*N*A)*(X+1):=by
   have:0<N*A:=eI O hA;have t:2*N*A*(X+1)=2*W+2*(N*A):=by rw [<-Y];grind
   omega
  have l:=hZ g M;rw [Nat.mul_pow,hX]at l;have w:(X+1)^(M+1)<=(X+1)^N:=dX O O;rw [dJ]at w;have o:0<(X+1)^M:=cF O;have h5:X*(X+1)^M<(X+1)^M*(X+1):=by rw [dU];exact fN O o
  omega
 obtain⟨a,b,ha,hb,F,hf⟩:=php (f:=e) P (λk _=>Zb0 M (H k));have R:=Zf3 M (H a) (H b) hf;refine⟨λj=>(d a j:Int)-(d b j:Int),?_,λj _=>?_,λi hi=>?_⟩
 .refine aP λh9=>F ?_;have h8:∀j,j<N->d a j=d b j:=λj I=>aP λD=>h9 ⟨j,I,λV=>D (by have V:(d a j:Int)-(d b j:Int)=0:=V;omega)⟩;have t:=Zb1 (X+1) a N;have S:=Zb1 (X+1) b N;rw [eX ha]at t;rw [eX hb]at S;have Z:∀n,n<=N->enc (X+1) (dig (X+1) a) n=enc (X+1) (dig (X+1) b) n:=λn=>by
   induction n with
   | zero=>intro _;rfl
   | succ n ih=>
    intro hn;have D:dig (X+1) a n=dig (X+1) b n:=h8 n O;show enc _ _ n+dig (X+1) a n*_=enc _ _ n+dig (X+1) b n*_;rw [ih O,D]
  rw [<-t,<-S];exact Z N (aH _)
 .have g:=G a j;have l:=G b j;dsimp only;omega
 .have g:Zc (λj=>c i j*((d a j:Int)-(d b j:Int))) N=y a i-y b i:=by rw [<-Zad];exact Zj λj _=>O2
  rw [g];have l:=R i hi;have w:=Q a i hi;have o:=Q b i hi;omega
theorem Db(f:Nat->Int)(p:Nat):∀q,Zc f (p+q)=Zc f p+Zc (λk=>f (p+k)) q
 | 0=>by simp [Mu]
 | q+1=>by rw [<-iT,Zf,Zf,Db f p q];omega
def sft(a:List Int)(t k:Nat):Int:=if k<=t then cf a (t-k)else 0
theorem Ae{U:List Int}{p:Nat}(h:U.length=p)(t:Nat):(ps U*ps a).c t=Zc (λk=>sft a t k*cf U k) p:=by rw [<-Zkz,<-h];refine Zj λk _=>?_;unfold sft;split<;>grind
theorem Hs{U:List Int}{p t:Nat}(h:U.length<=p)(g:p+a.length<=t+1):(ps U*ps a).c t=0:=by
 rw [PS.mul_c];refine Pn λk f=>?_;rw [Xc,Xc];rcases bD k U.length with e|e
 .rw [Zr (p:=a) O,cJ]
 .rw [Zr e,cK]
theorem Dd (a:List Int)(b:List Int)(e:Nat){p q A:Nat}(w:0<A)(D:∀i,(cf a i).natAbs<=A)(F:∀i,(cf b i).natAbs<=A)(H:0<p+q)(I:p+a.length<=p+q+e)(P:q+b.length<=p+q+e) :
  ∃U V:List Int,U.length=p/\V.length=q/\((∃i,cf U i≠0)\/∃i,cf V i≠0)/\(∀i,(cf U i).natAbs<=(2*(p+q)*A)^(p+q-1))/\(∀i,(cf V i).natAbs<=(2*(p+q)*A)^(p+q-1))/\
   ∀t,e<=t->(ps U*ps a).c t+(ps V*ps b).c t=0:=by
 obtain⟨x,⟨j,Q,f⟩,o,G⟩:=siegel (N:=p+q) (M:=p+q-1) (A:=A) O w (λi j=>if j<p then sft a (e+i) j else sft b (e+i) (j-p)) (λi j _ _=>by
  split<;>unfold sft<;>split
  .exact D _
  .simp
  .exact F _
  .simp)
 have cU:∀i,cf (mk p x) i=if i<p then x i else 0:=λi=>Le _ _ _
 have l:∀i,cf (mk q λk=>x (p+k)) i=if i<q then x (p+i)else 0:=λi=>Le _ _ _
 refine⟨mk p x,mk q λk=>x (p+k),Yh _ _,Yh _ _,?_,λi=>?_,λi=>?_,λt R=>?_⟩
 .rcases bD j p with h|h
  .exact .inl ⟨j,by rw [cU,aK h];exact f⟩
  .exact .inr ⟨j-p,by rw [l,aK O,show p+(j-p)=j by omega];exact f⟩
 .rw [cU];split
  .exact o i O
  .exact aW _
 .rw [l];split
  .exact o _ O
  .exact aW _
 .rcases bD (t-e) (p+q-1)with h|h
  .have n:=G (t-e) h;rw [show e+(t-e)=t by omega,Db]at n;rw [Ae (Yh _ _),Ae (Yh _ _),<-n];congr 1
   .exact Zj λk g=>by rw [aK g,cU,aK g]
   .exact Zj λk g=>by rw [aG O,l,aK g,show p+k-p=k by omega]
  .rw [Hs (lC (Yh _ _)) O,Hs (lC (Yh _ _)) O];rfl
theorem Zf9 (t:Nat){U:List Int}{p X A:Nat}(h:U.length=p)(j:∀i,(cf U i).natAbs<=X)(l:∀i,(cf a i).natAbs<=A):((ps U*ps a).c t).natAbs<=p*(X*A):=by
 rw [Ae h];have e:=Cw ((X*A:Nat):Int) (f:=λk=>sft a t k*cf U k) p λk _=>by
  have:(sft a t k*cf U k).natAbs<=X*A:=by
   rw [cN,dU];refine bT (j k) ?_;unfold sft;split
   .exact l _
   .simp
  omega
 have g:((p:Int)*((X*A:Nat):Int))=((p*(X*A):Nat):Int):=by push_cast;rfl
 rw [g]at e;omega
theorem Fi (w:List Int)(q:List Int)(y:List Int)(n:Nat)(h:∀x,Za w x=Za q x*Za y x)(t:Tr y)(j:y≠[])(o:∀i,n<=i->cf w i=0):tzl q=[]\/(tzl q).length+y.length<=n+1:=by
 by_cases f:tzl q=[]
 .exact .inl f
 .right;have l:∀i,cf w i=(ps (tzl q)*ps y).c i:=λi=>by rw [Qa (p:=w) (q:=lmul (tzl q) y) (λx=>by rw [Zd,Xn];exact h x) i,On,PS.mul_c];rfl
  have D:=aD.2 f;have F:=aD.2 j;have g:=Ld y (p:=tzl q) (a:=(tzl q).length-1) (b:=y.length-1) (λi hi=>Zr O) (λi hi=>Zr O);rw [<-l]at g;have e:=aT ((Xd q).mem f) (t.mem j);rcases bD ((tzl q).length-1+(y.length-1)) n with k|k
  .omega
  .rw [o _ k]at g;exact absurd g.symm e
theorem Ok (v:List Int){f:List Int}(j:tzl v≠[])(h:∀x,Za v x*Za f x=0)(x:Rat):Za f x=0:=by
 by_cases e:tzl f=[]
 .rw [<-Xn,e];rfl
 .exfalso;rcases Fi [] v (tzl f) 0 (λx=>by rw [Xn,h x];rfl) (Xd f) e (λi _=>He i)with g|g
  .exact j g
  .have:=aD.2 e;have:=aD.2 j;omega
structure Inv (a b x y:List Int):Prop where
 ex:∃(α β γ:Int) (u' v' u v:List Int),α≠0/\β≠0/\γ≠0/\
  (∀t:Rat,(α:Rat)*Za x t=Za u' t*Za a t+Za v' t*Za b t)/\(∀t:Rat,(β:Rat)*Za y t=Za u t*Za a t+Za v t*Za b t)/\
  (∀t:Rat,Za u' t*Za v t-Za u t*Za v' t=(γ:Rat))/\(tzl v).length<=a.length-x.length+1/\(tzl v').length<=a.length-x.length+1
 xl:x.length<=b.length
 yl:y.length<x.length
theorem Zfe{x:List Int}{L:Int}(f:Tr y)(e:y≠[])(g:z.length<=x.length)(h:∀t:Rat,(L:Rat)*Za x t=Za q t*Za y t+(c:Rat)*Za z t):tzl q=[]\/(tzl q).length+y.length<=x.length+1:=
 Fi (Xp (x.map λa=>L*a) (z.map λa=>(-c)*a)) _ _ x.length (λt=>by rw [Zt,Zb,Zb];have:=h t;push_cast;grind) f e λi hi=>by rw [Qj,Yb,Yb,Zr hi,Zr (p:=z) O];omega
theorem Lp{n:Nat}(g:(tzl p).length<=m)(j:(tzl q).length<=n)(i:Nat)(hi:m+n<=i+1):cf (lmul p q) i=0:=by have f:cf (lmul p q) i=cf (lmul (tzl p) (tzl q)) i:=Qa (λx=>by rw [Zd,Zd,Xn,Xn]) i;rw [f,On];have e:=Hs (U:=tzl p) (a:=tzl q) (p:=m) (t:=i) g O;rw [PS.mul_c]at e;exact e
def Za3{n:Nat}(h:∀i,n<=i->cf p i=0):(tzl p).length<=n:=Ks h
theorem Zgf{n:Nat}(h:(tzl p).length<=n)(hi:n<=i):cf p i=0:=by rw [<-Py];exact Zr O
theorem Inv.next{x z':List Int}{L:Int}(R:Inv a b x y)(V:b.length<=a.length)(hx:Tr x)(Z:Tr y)(P:y≠[])(S:L≠0)(h:∀t:Rat,(L:Rat)*Za x t=Za q t*Za y t+Za z' t)(hz:Sim z' z)(j:z.length<y.length):Inv a b y z:=by
 obtain⟨⟨α,β,γ,u',F,u,v,hα,k,hγ,M,o,N,l1,l2⟩,xl,yl⟩:=R;obtain⟨m,n,W,Y,hs⟩:=hz;have g:∀t:Rat,(m:Rat)*Za z' t=(n:Rat)*Za z t:=λt=>by
  have:=Xx t (z'.map λa=>m*a) (z.map λa=>n*a) λi=>by rw [Yb,Yb,hs]
  rwa [Zb,Zb]at this
 have w:∀t:Rat,((L*m:Int):Rat)*Za x t=Za (q.map λa=>m*a) t*Za y t+(n:Rat)*Za z t:=λt=>by rw [Zb];push_cast;have:=h t;have:=g t;grind
 have e:=Zfe Z P O w;have f:(tzl (q.map λa=>m*a)).length<=x.length-y.length+1:=by
  rcases e with D|D
  .rw [D];simp
  .omega
 generalize hQ:(q.map λa=>m*a)=Q at *;have l:∀t:Rat,((n*(α*β):Int):Rat)*Za z t=Za (Xp (u'.map λc=>(L*m*β)*c) ((lmul Q u).map λc=>(-α)*c)) t*Za a t+Za (Xp (F.map λc=>(L*m*β)*c) ((lmul Q v).map λc=>(-α)*c)) t*Za b t:=λt=>by rw [Zt,Zt,Zb,Zb,Zb,Zb,Zd,Zd];have G:=w t;have H:=M t;have I:=o t;push_cast at G ⊢;have:(n:Rat)*(α*β)*Za z t=α*β*(n*Za z t):=O2;rw [this,show(n:Rat)*Za z t=L*m*Za x t-Za Q t*Za y t by grind];have:(α:Rat)*β*(L*m*Za x t-Za Q t*Za y t)=L*m*β*(α*Za x t)-α*Za Q t*(β*Za y t):=O2;rw [this,H,I];grind
 refine⟨⟨β,n*(α*β),-(L*m*β*γ),u,v,_,_,k,aT Y (aT hα k),?_,o,l,λt=>?_,?_,?_⟩,O,j⟩
 .have:=aT (aT (aT S W) k) hγ;omega
 .rw [Zt,Zt,Zb,Zb,Zb,Zb,Zd,Zd];have:=N t;push_cast;grind
 .refine Za3 λi hi=>?_;rw [Qj,Yb,Yb,Zgf (p:=F) l2 O,Lp f l1 i O];omega
 .omega
theorem Inv.first{z':List Int}{L:Int}(x:b.length<=a.length)(M:Tr a)(D:Tr b)(o:b≠[])(w:L≠0)(h:∀t:Rat,(L:Rat)*Za a t=Za q t*Za b t+Za z' t)(H:Sim z' z)(j:z.length<b.length):Inv a b b z:=by
 obtain⟨m,n,F,G,hs⟩:=H;have g:∀t:Rat,(m:Rat)*Za z' t=(n:Rat)*Za z t:=λt=>by
  have:=Xx t (z'.map λa=>m*a) (z.map λa=>n*a) λi=>by rw [Yb,Yb,hs]
  rwa [Zb,Zb]at this
 have k:∀t:Rat,((L*m:Int):Rat)*Za a t=Za (q.map λa=>m*a) t*Za b t+(n:Rat)*Za z t:=λt=>by rw [Zb];push_cast;have:=h t;have:=g t;grind
 have e:=Zfe D o O k;have f:(tzl (q.map λa=>m*a)).length<=a.length-b.length+1:=by
  rcases e with l|l
  .rw [l];simp
  .omega
 generalize I:(q.map λa=>m*a)=Q at *;refine⟨⟨1,n,-(L*m),[],[1],[L*m],Q.map λc=>(-1)*c,O3,G,?_,λt=>?_,λt=>?_,λt=>?_,?_,?_⟩,aH _,j⟩
 .have:=aT w F;omega
 .rw [Yp];show _=(0:Rat)*_+_;grind
 .rw [Yp,Zb];have:=k t;push_cast at this ⊢;grind
 .rw [Yp,Yp];show(0:Rat)*_-_=_;push_cast;grind
 .refine Za3 λi hi=>?_;rw [Yb,Zgf f O];omega
 .refine aM Cq ?_;simp
def Ek{n:Nat}(h:Sz n a)(i:Nat):(cf a i).natAbs<=2^n:=bP ((Oo n _).1 (h i))
theorem Lm(h:tzl p=[])(x:Rat):Za p x=0:=by rw [<-Xn,h];rfl
def tzl_ne(h:cf p i≠0):tzl p≠[]:=λe=>h ((Xy p).1 e i)
def nn_eq{x a b:Nat}(e:x<=b)(f:b<=a):b-x+1+(a-x+1)=a+b-2*x+2:=O
theorem Inv.bound{x:List Int}{n s:Nat}(hI:Inv a b x y)(a6:b.length<=a.length)(ha:Tr a)(hx:Tr x)(hy:Tr y)(h0:y≠[])(hp:Zx y=1)(na:Sz n a)(nb:Sz n b)(hs:a.length+b.length-2*x.length+2<=2^s) :
  Kp y<=(s+1+n)*(a.length+b.length-2*x.length+2):=by
 obtain⟨⟨α,β,γ,u',P,u,v,hα,hβ,hγ,e1,Q,e3,l1,l2⟩,xl,yl⟩:=hI;have b3:=aD.2 h0;have b2:x≠[]:=λe=>by rw [e]at yl;simp at yl
 have M:a≠[]:=λe=>by
  have g:a.length=0:=by rw [e];rfl
  omega
 obtain⟨U,V,lU,lV,a9,bU,bV,hz⟩:=Dd a b (x.length-1) (p:=b.length-x.length+1) (q:=a.length-x.length+1) (A:=2^n) (cF O3) (Ek na) (Ek nb) O O O;have hv:a.length+1<=(tzl v).length+x.length:=by
  refine aP λg=>?_;have a8:∀i,cf (Xp (a.map λc=>γ*c) ((lmul y P).map λc=>β*c)) i=cf (lmul (tzl v) (x.map λc=>α*c)) i:=λi=>Qa (λt=>by
   rw [Zt,Zb,Zb,Zd,Zd,Zb,Xn];have Z:=e1 t;have H:=Q t;have a3:=e3 t;have:Za v t*(α*Za x t)=(Za u' t*Za v t-Za u t*Za P t)*Za a t+(Za u t*Za a t+Za v t*Za b t)*Za P t:=by rw [Z];grind
   rw [this,a3,<-H];grind) i
  have o:=a8 (a.length-1);rw [Qj,Yb,Yb,Lp (m:=y.length) (n:=a.length-x.length+1) Cq l2 _ O,On]at o;have S:=Hs (U:=tzl v) (a:=x.map λc=>α*c) (p:=(tzl v).length) (t:=a.length-1) (aH _) (by rw [cY];omega);rw [PS.mul_c]at S;have h3:Zc (λk=>cf (tzl v) k*cf (x.map λc=>α*c) (a.length-1-k)) (a.length-1+1)=0:=S;rw [h3]at o;have:=aT hγ (ha.mem M);omega
 have j:tzl v≠[]:=λe=>by rw [e]at hv;simp at hv;omega
 have cR:∀i,cf (Xp (lmul U a) (lmul V b)) i=(ps U*ps a).c i+(ps V*ps b).c i:=λi=>by rw [Qj,On,On,PS.mul_c,PS.mul_c];rfl
 generalize hR:Xp (lmul U a) (lmul V b)=R at cR;have rR:∀t,Za R t=Za U t*Za a t+Za V t*Za b t:=λt=>by rw [<-hR,Zt,Zd,Zd]
 have lR:(tzl R).length<=x.length-1:=Za3 λi hi=>by rw [cR];exact hz i hi
 have hf:tzl (Xp (lmul U v) ((lmul u V).map λc=>(-1)*c))=[]:=by
  rcases Fi (Xp (lmul R v) ((lmul y V).map λc=>(-β)*c)) (Xp (lmul U v) ((lmul u V).map λc=>(-1)*c)) a (a.length-1) (λt=>by
   rw [Zt,Zb,Zd,Zd,Zt,Zb,Zd,Zd,rR];have H:=Q t;push_cast;have:(-(β:Rat))*(Za y t*Za V t)=- (β*Za y t)*Za V t:=O2;rw [this,H];grind) ha M (λi hi=>by
   rw [Qj,Yb,Lp lR l1 i O,Lp (m:=y.length) (n:=a.length-x.length+1) Cq (aM Cq (lC lV)) i O];omega)with g|g
  .exact g
  .refine aP λh8=>?_;have:=aD.2 h8;omega
 have G:∀t,Za U t*Za v t=Za u t*Za V t:=λt=>by have:=Lm hf t;rw [Zt,Zb,Zd,Zd]at this;push_cast at this;grind
 have a4:∀t,Za R t*Za v t=β*Za y t*Za V t:=λt=>by rw [rR,Q t];have:=G t;grind
 have Y:∀t,(γ:Rat)*Za V t=Za v t*Za (Xp (lmul u' V) ((lmul P U).map λc=>(-1)*c)) t:=λt=>by rw [Zt,Zb,Zd,Zd,<-e3 t];have:=G t;push_cast;grind
 generalize Xp (lmul u' V) ((lmul P U).map λc=>(-1)*c)=w at Y;have hV:tzl V≠[]:=λe=>by
  rcases a9 with⟨i,hi⟩|⟨i,hi⟩
  .refine hi (Qa (p:=U) (q:=[]) (λt=>?_) i▸He i);exact Ok v (f:=U) j (λt=>by have:=G t;rw [Lm e]at this;grind) t
  .exact tzl_ne hi e
 have b1:∃c:Int,c≠0/\∀t,Za w t=(c:Rat):=by
  have l:tzl w≠[]:=λe=>hV ((Xy V).2 λi=>by have:=Qa (p:=V.map λc=>γ*c) (q:=[]) (λt=>by rw [Zb,Y t,Lm e];show _=(0:Rat);grind) i;rw [Yb,He]at this;exact(dL.1 this).resolve_left hγ)
  rcases Fi (V.map λc=>γ*c) w (tzl v) (a.length-x.length+1) (λt=>by rw [Zb,Xn,Y t];grind) (Xd v) j (λi hi=>by rw [Yb,Zr O];omega)with g|g
  .exact absurd g l
  .have h8:=aD.2 l;have h7:(tzl w).length=1:=O
   match W:tzl w,h7 with
   | [c],_=>
    refine⟨c,?_,λt=>by rw [<-Xn,W,Yp]⟩;have:=(Xd w).mem l;rw [W]at this;exact this
 obtain⟨c,a7,W⟩:=b1;have D:Sim R y:=by
  refine⟨γ,β*c,hγ,aT hβ a7,λi=>?_⟩;have:=Qa (p:=R.map λd=>γ*d) (q:=y.map λd=>(β*c)*d) (λt=>by
   rw [Zb,Zb];push_cast;have o:Za (Xp (R.map λd=>γ*d) (y.map λd=>(-(β*c))*d)) t=0:=Ok v j (λt=>by rw [Zt,Zb,Zb];push_cast;have Z:=a4 t;have H:=Y t;rw [W]at H;have:Za v t*(γ*Za R t + -(β*c:Rat)*Za y t)=γ*(Za R t*Za v t)-β*Za y t*(Za v t*c):=O2;rw [this,Z,<-H];grind) t
   rw [Zt,Zb,Zb]at o;push_cast at o;grind) i
  rwa [Yb,Yb]at this
 have b0:Sz ((s+1+n)*(a.length+b.length-2*x.length+2)) R:=λi=>by
  rw [cR];have c1:=Zf9 i lU bU (Ek na);have c2:=Zf9 i lV bV (Ek nb);have a0:b.length-x.length+1+(a.length-x.length+1)=a.length+b.length-2*x.length+2:=nn_eq xl a6;rw [<-a0]at hs ⊢;generalize hN:b.length-x.length+1+(a.length-x.length+1)=N at *;generalize I:(2*N*2^n)^(N-1)=X at *;have c3:((ps U*ps a).c i+(ps V*ps b).c i).natAbs<=N*(X*2^n):=by rw [<-hN,dB];have:=Int.natAbs_add_le ((ps U*ps a).c i) ((ps V*ps b).c i);omega
  refine(Oo _ _).2 (fE c3 ?_);have a5:0<X:=by rw [<-I];exact cF (eI O (cF O3))
  have c4:N*(X*2^n)<(2*N*2^n)^N:=by
   have e:(2*N*2^n)^N=X*(2*N*2^n):=by rw [<-I,<-dJ,Nat.succ_eq_add_one,show N-1+1=N by omega]
   rw [e];have:0<N*(X*2^n):=eI O (eI a5 (cF O3));have Q:X*(2*N*2^n)=2*(N*(X*2^n)):=O2;omega
  have c5:2*N*2^n<=2^(s+1+n):=by rw [eO,dJ];exact bI _ O
  have c6:=hZ c5 N;rw [<-Nat.pow_mul]at c6;exact cW c4 c6
 have o:tzl R≠[]:=λe=>by obtain⟨m,k,hm,hk,e9⟩:=D;have:=e9 (y.length-1);rw [(Xy R).1 e,cJ]at this;exact aT hk (hy.mem h0) this.symm
 have F:Sim (tzl R) y:=by obtain⟨m,k,hm,hk,e9⟩:=D;exact⟨m,k,hm,hk,λi=>by rw [Py];exact e9 i⟩
 have S:=(Ye (Xd R)).trans F;have h3:∀i,(cf y i).natAbs=(cf (Zq (tzl R)) i).natAbs:=λi=>by
  rcases Zcj (Zs (Xd R)) hy (λe=>o (aE (by rw [<-Zi,e];rfl))) (Pf (Xd R) o) hp S with g|g
  .rw [g]
  .rw [g i,Int.natAbs_neg]
 exact Ky λi=>by rw [h3];exact Lz b0.tzl i
def Zc2(f e K:Nat):Prop:=∀l,l<=e->(l+1)*(K*(f+e-2*l+2)+1)<=65536
def Zdr{e f l:Nat}(h:l<=m):K*(e+f-2*m+2)<=K*(e+f-2*l+2):=bO _ O
theorem Ea{x:List Int}{C:Nat}(e:y≠[])(k:y.length<x.length)(f:Kp x<=C)(g:Kp y<=C)(h:(x.length+1)*(C+1)<=65536):Zet x y=0:=by have l:=aD.2 e;unfold Zet;rw [aG O,aG O];have j:(x.length-y.length+1)*(Kp y+1)<=x.length*(C+1):=bT O O;rw [dB,Nat.one_mul]at h;rw [aG O]
theorem Zhc{x:List Int}(n:Inv a b x y)(f:b.length<=a.length)(j:Tr x)(l:Tr y)(e:y≠[]):Inv a b y (Zq (Yn x y)):=by
 obtain⟨k,s,hs⟩:=Kd x e;have g:=Qd (l.mem e) k;generalize cf y (y.length-1)^k=L at hs g;have o:∀t:Rat,(L:Rat)*Za x t=Za s t*Za y t+Za (Yn x y) t:=λt=>by have:=Nf L (-1) x s y (Yn x y) (λt=>by rw [hs t];omega) t;push_cast at this;grind
 exact n.next f j l e g o (Ye (Qr _ j)).symm (by rw [Zi];exact Yz x e)
theorem Fk(h:Tr p):Zq p=[]\/Zx (Zq p)=1:=by
 by_cases e:p=[]
 .left;rw [e];rfl
 .right;exact Pf h e
theorem Mj{x:List Int}(f:Tr x)(e:y≠[]):(Pb x y).length<y.length:=by rw [Zbq f];exact Yz x e
theorem Zhb{x:List Int}(n:Inv a b x y)(l:b.length<=a.length)(g:Tr x)(j:Tr y)(e:y≠[]):Inv a b y (Pb x y)/\(Pb x y=[]\/Zx (Pb x y)=1):=by
 have F:=aD.2 e;have D:=n.yl;obtain⟨r1,r2,k,u,w⟩:=Fd j e x.length x g O;have hs:=El x.length g j e O O;have f:Tr (Gl (Kb x.length x y)):=Qk;have o:Kw y^k≠0:=Qd (by have:=Fg j e;omega) _;constructor
 .refine n.next (z':=Kb x.length x y) (q:=u) l g j e o (λt=>?_) ?_ (Mj g e)
  .have:=Nf (Kw y^k) (-1) x u y (Kb x.length x y) (λt=>by rw [w t];omega) t;push_cast at this ⊢;grind
  .rw [<-hs];exact Sim.trans ⟨1,-1,O3,O3,λi=>by rw [Nj];omega⟩ (Ye f).symm
 .rw [<-hs];exact Fk f
theorem Zf2{a b:List Int}{n s K:Nat}(j:b.length<=a.length)(H:Tr a)(P:Sz n a)(Q:Sz n b)(hs:a.length+b.length<=2^s)(F:s+1+n<=K)(G:Zc2 a.length b.length K) :
  ∀(f:Nat) (x y:List Int),Inv a b x y->Tr x->Tr y->(y=[]\/Zx y=1)->Kp x<=K*(a.length+b.length-2*x.length+2)->y.length<=f->eok f x y/\Kp (eu f x y)<=K*(a.length+b.length)
 | 0,x,y,g,t,w,I,o,V=>by have l:=g.yl;refine⟨aE O,aM o (bO _ (by have:=g.xl;omega))⟩
 | f+1,x,y,g,t,w,I,o,V=>by
  have D:=g.yl;have l:=g.xl;by_cases e:y=[]
  .subst e;refine⟨.inl rfl,?_⟩;rw [Ac];exact aM o (bO _ O)
  .have W:=aD.2 e;have R:=g.bound j H t w e (I.resolve_left e) P Q (s:=s) O;have k:Kp y<=K*(a.length+b.length-2*x.length+2):=aM R (bI _ F);have S:=Ea e D o k (G x.length l);have M:=Qr y t;have N:=Zf2 j H P Q hs F G f y (Zq (Yn x y)) (Zhc g j t w e) w (Zs M) (Fk M) (aM k (Zdr O)) (by rw [Zi];have:=Yz x e;omega);refine⟨.inr ⟨S,N.1⟩,?_⟩;rw [show eu (f+1) x y=eu f y (Zq (Yn x y)) by
     conv=>lhs;unfold eu
     rw [aG e]]
   exact N.2
theorem Zga{a b:List Int}{n s K:Nat}(k:b.length<=a.length)(I:Tr a)(P:Sz n a)(Q:Sz n b)(hs:a.length+b.length<=2^s)(G:s+1+n<=K)(H:Zc2 a.length b.length K) :
  ∀(f:Nat) (x y:List Int),Inv a b x y->Tr x->Tr y->(y=[]\/Zx y=1)->Kp x<=K*(a.length+b.length-2*x.length+2)->y.length<=f->cok f x y/\∀p∈Ql f x y,Kp p<=K*(a.length+b.length)/\p.length<=a.length
 | 0,x,y,j,t,D,e,o,V=>by
  have w:=j.yl;have M:=j.xl;have g:y=[]:=aE O;refine⟨g,λp e=>?_⟩;have:p=x:=by unfold Ql at e;simpa using e
  rw [this];exact⟨aM o (bO _ O),O⟩
 | f+1,x,y,j,t,D,e,o,V=>by
  have F:=j.yl;have w:=j.xl;by_cases g:y=[]
  .subst g;refine⟨.inl rfl,λp e=>?_⟩;rw [Kt]at e;have:p=x:=by simpa using e
   rw [this];exact⟨aM o (bO _ O),O⟩
  .have Z:=aD.2 g;have R:=j.bound k I t D g (e.resolve_left g) P Q (s:=s) O;have l:Kp y<=K*(a.length+b.length-2*x.length+2):=aM R (bI _ G);have S:=Ea g F o l (H x.length w);obtain⟨W,Y⟩:=Zhb j k t D g;have N:=Zga k I P Q hs G H f y (Pb x y) W D (Iu t) Y (aM l (Zdr O)) (by have:=Mj t g;omega);refine⟨.inr ⟨S,O,N.1⟩,λp e=>?_⟩;unfold Ql at e;rw [aG g]at e;rcases dA.1 e with rfl|e
   .exact⟨aM o (bO _ O),O⟩
   .exact N.2 p e
theorem Zmt{n s f:Nat}(l:b.length<a.length)(j:Tr a)(o:Tr b)(G:Sz n a)(H:Sz n b)(hs:a.length+b.length<=2^s)(M:s+1+n<=K)(P:Zc2 a.length b.length K)(Q:(a.length+1)*(n+1)<=65536)(W:b.length<=f) :
  eok f a b/\Kp (eu f a b)<=K*(a.length+b.length):=by
 have S:=Ky G;have V:=Ky H;have Z:0<a.length:=O;have N:n<=K*(a.length+b.length):=aM (by omega:n<=K*1) (bO _ O);by_cases e:b=[]
 .subst e;cases f with
  | zero=>exact⟨rfl,by rw [Ac];omega⟩
  | succ f=>exact⟨.inl rfl,by rw [Ac];omega⟩
 .have Y:=aD.2 e;obtain⟨g,rfl⟩:∃g,f=g+1:=⟨f-1,O⟩;have w:=Qr b j;obtain⟨k,q,D⟩:=Kd a e;have x:=Qd (o.mem e) k;generalize cf b (b.length-1)^k=L at D x;have R:∀t:Rat,(L:Rat)*Za a t=Za q t*Za b t+Za (Yn a b) t:=λt=>by have:=Nf L (-1) a q b (Yn a b) (λt=>by rw [D t];omega) t;push_cast at this;grind
  have I:Inv a b b (Zq (Yn a b)):=Inv.first O j o e x R (Ye w).symm (by rw [Zi];exact Yz a e);have F:=Zf2 O j G H hs M P g b (Zq (Yn a b)) I o (Zs w) (Fk w) (aM (by omega:Kp b<=K*1) (bO _ O)) (by rw [Zi];have:=Yz a e;omega);refine⟨.inr ⟨Ea e l S V Q,F.1⟩,?_⟩;rw [show eu (g+1) a b=eu g b (Zq (Yn a b)) by
    conv=>lhs;unfold eu
    rw [aG e]]
  exact F.2
theorem Znc{n s f:Nat}(G:b.length<a.length)(o:Tr a)(w:Tr b)(I:Sz n a)(M:Sz n b)(hs:a.length+b.length<=2^s)(P:s+1+n<=K)(R:Zc2 a.length b.length K)(S:(a.length+1)*(n+1)<=65536)(Z:b.length<=f) :
  cok f a b/\∀p∈Ql f a b,Kp p<=K*(a.length+b.length)/\p.length<=a.length:=by
 have W:=Ky I;have Y:=Ky M;have la:0<a.length:=O;have Q:n<=K*(a.length+b.length):=aM (by omega:n<=K*1) (bO _ O);by_cases e:b=[]
 .subst e;have l:∀p∈Ql f a [],Kp p<=K*(a.length+([]:List Int).length)/\p.length<=a.length:=λp j=>by
   rw [Kt]at j;have:p=a:=by simpa using j
   rw [this];exact⟨O,aH _⟩
  cases f with
  | zero=>exact⟨rfl,l⟩
  | succ f=>exact⟨.inl rfl,l⟩
 .have l0:=aD.2 e;obtain⟨g,rfl⟩:∃g,f=g+1:=⟨f-1,O⟩;obtain⟨r1,r2,k,u,V⟩:=Fd w e a.length a o O;have x:=El a.length o w e O O;have D:Tr (Gl (Kb a.length a b)):=Qk;have F:Kw b^k≠0:=Qd (by have:=Fg w e;omega) _;have N:Inv a b b (Pb a b):=by
   refine Inv.first (z':=Kb a.length a b) (q:=u) O o w e F (λt=>?_) ?_ (Mj o e)
   .have:=Nf (Kw b^k) (-1) a u b (Kb a.length a b) (λt=>by rw [V t];omega) t;push_cast at this ⊢;grind
   .rw [<-x];exact Sim.trans ⟨1,-1,O3,O3,λi=>by rw [Nj];omega⟩ (Ye D).symm
  have j:Pb a b=[]\/Zx (Pb a b)=1:=by rw [<-x];exact Fk D
  have H:=Zga O o I M hs P R g b (Pb a b) N w (Iu o) j (aM (by omega:Kp b<=K*1) (bO _ O)) (by have:=Mj o e;omega);refine⟨.inr ⟨Ea e G W Y S,O,H.1⟩,λp j=>?_⟩;unfold Ql at j;rw [aG e]at j;rcases dA.1 j with rfl|j
  .exact⟨O,aH _⟩
  .exact H.2 p j
def al:List Int->List Int->List Int
 | [],g=>g
 | a::f,[]=>a::f
 | a::f,b::g=>(a+b)::al f g
def Li(c:Int)(f:List Int):List Int:=f.map (c*·)
def Aw(k:Nat):List Int->List Int
 | []=>[]
 | b::g=>(k:Int)*b::Aw (k+1) g
def dl(f:List Int):List Int:=Aw 1 f.tail
def xl:List Int->List Int
 | []=>[]
 | a::f=>0::a::f
def fc:Nat->Int
 | 0=>1
 | k+1=>((k:Int)+1)*fc k
def Pj:Nat->List Int->List Int->Int
 | k,a::f,b::g=>fc k*(a*b)+Pj (k+1) f g
 | _,_,_=>0
theorem Bu(k:Nat)(f:List Int):Pj k f []=0:=by cases f<;>rfl
theorem Zkw(f:List Int):al f []=f:=by cases f<;>rfl
theorem Zgq:∀f g:List Int,al f g=al g f
 | [],g=>(Zkw g).symm
 | a::f,[]=>rfl
 | a::f,b::g=>by show(a+b)::al f g=(b+a)::al g f;rw [Zgq f g,Int.add_comm]
theorem Zdv:∀f g h:List Int,al (al f g) h=al f (al g h)
 | [],g,h=>rfl
 | a::f,[],h=>rfl
 | a::f,b::g,[]=>rfl
 | a::f,b::g,c::h=>by show(a+b+c)::al (al f g) h=(a+(b+c))::al f (al g h);rw [Zdv f g h,Int.add_assoc]
instance:Std.Commutative al:=⟨Zgq⟩
instance:Std.Associative al:=⟨Zdv⟩
theorem Zh7(c:Int):∀f g,Li c (al f g)=al (Li c f) (Li c g)
 | [],g=>rfl
 | a::f,[]=>rfl
 | a::f,b::g=>by show c*(a+b)::Li c (al f g)=(c*a+c*b)::al (Li c f) (Li c g);rw [Zh7 c f g,iN]
theorem Ze9(c d:Int):∀f,Li (c+d) f=al (Li c f) (Li d f)
 | []=>rfl
 | a::f=>by show(c+d)*a::Li (c+d) f=(c*a+d*a)::al (Li c f) (Li d f);rw [Ze9 c d f,gU]
theorem Ce:∀f,Li 1 f=f
 | []=>rfl
 | a::f=>by show 1*a::Li 1 f=a::f;rw [Ce f,fB]
theorem Zj3:∀k f g,Aw k (al f g)=al (Aw k f) (Aw k g)
 | k,[],g=>rfl
 | k,a::f,[]=>rfl
 | k,a::f,b::g=>by show(k:Int)*(a+b)::Aw (k+1) (al f g)=((k:Int)*a+(k:Int)*b)::al (Aw (k+1) f) (Aw (k+1) g);rw [Zj3 (k+1) f g,iN]
theorem Zf6(c:Int):∀k f,Aw k (Li c f)=Li c (Aw k f)
 | k,[]=>rfl
 | k,a::f=>by show(k:Int)*(c*a)::Aw (k+1) (Li c f)=c*((k:Int)*a)::Li c (Aw (k+1) f);rw [Zf6 c (k+1) f,iO]
theorem Zdm:∀k f,Aw (k+1) f=al f (Aw k f)
 | k,[]=>rfl
 | k,a::f=>by show((k+1:Nat):Int)*a::Aw (k+1+1) f=(a+(k:Int)*a)::al f (Aw (k+1) f);rw [Zdm (k+1) f];congr 1;push_cast;grind
def dl_al:∀f g,dl (al f g)=al (dl f) (dl g)
 | [],g=>rfl
 | a::f,[]=>(Zkw _).symm
 | a::f,b::g=>Zj3 1 f g
def dl_scl(c:Int):∀f,dl (Li c f)=Li c (dl f)
 | []=>rfl
 | a::f=>Zf6 c 1 f
theorem dl_x:∀f,dl (xl f)=al f (xl (dl f))
 | []=>rfl
 | [a]=>by show(((1:Nat):Int)*a::[])=[a];rw [show((1:Nat):Int)=1 from rfl,fB]
 | a::b::f=>by show((1:Nat):Int)*a::Aw (1+1) (b::f)=(a+0)::al (b::f) (Aw 1 (b::f));rw [Zdm 1 (b::f),show((1:Nat):Int)=1 from rfl,fB,fG]
def xl_al:∀f g,xl (al f g)=al (xl f) (xl g)
 | [],g=>rfl
 | a::f,[]=>rfl
 | a::f,b::g=>rfl
theorem xl_scl(c:Int):∀f,xl (Li c f)=Li c (xl f)
 | []=>rfl
 | a::f=>by show 0::c*a::Li c f=c*0::c*a::Li c f;rw [cJ]
theorem Om:∀k f g,Pj k f g=Pj k g f
 | k,[],g=>(Bu k g).symm
 | k,a::f,[]=>rfl
 | k,a::f,b::g=>by show fc k*(a*b)+Pj (k+1) f g=fc k*(b*a)+Pj (k+1) g f;rw [Om (k+1) f g,dC a b]
theorem Bz:∀k f g h,Pj k (al f g) h=Pj k f h+Pj k g h
 | k,[],g,h=>by show Pj k g h=0+Pj k g h;rw [iB]
 | k,a::f,[],h=>(fG _).symm
 | k,a::f,b::g,[]=>rfl
 | k,a::f,b::g,c::h=>by show fc k*((a+b)*c)+Pj (k+1) (al f g) h=fc k*(a*c)+Pj (k+1) f h+(fc k*(b*c)+Pj (k+1) g h);rw [Bz (k+1) f g h];grind
theorem Bw(k:Nat)(h f g:List Int):Pj k h (al f g)=Pj k h f+Pj k h g:=by rw [Om,Bz,Om k f,Om k g]
theorem Fv(c:Int):∀k f g,Pj k (Li c f) g=c*Pj k f g
 | k,[],g=>(cJ c).symm
 | k,a::f,[]=>(cJ c).symm
 | k,a::f,b::g=>by show fc k*(c*a*b)+Pj (k+1) (Li c f) g=c*(fc k*(a*b)+Pj (k+1) f g);rw [Fv c (k+1) f g];grind
theorem Zbw(c:Int)(k:Nat)(f g:List Int):Pj k f (Li c g)=c*Pj k f g:=by rw [Om,Fv,Om]
theorem Zjr:∀k f g,Pj (k+1) f g=Pj k f (Aw (k+1) g)
 | k,[],g=>rfl
 | k,a::f,[]=>rfl
 | k,a::f,b::g=>by show((k:Int)+1)*fc k*(a*b)+Pj (k+1+1) f g=fc k*(a*(((k+1:Nat):Int)*b))+Pj (k+1) f (Aw (k+1+1) g);rw [Zjr (k+1) f g];push_cast;grind
theorem fip_x:∀f g,Pj 0 (xl f) g=Pj 0 f (dl g)
 | [],g=>rfl
 | a::f,[]=>rfl
 | a::f,b::g=>by show fc 0*(0*b)+Pj 1 (a::f) g=Pj 0 (a::f) (Aw 1 g);rw [cK,cJ,iB];exact Zjr 0 (a::f) g
theorem Zjo(f g:List Int):Pj 0 f (xl g)=Pj 0 (dl f) g:=by rw [Om,fip_x,Om]
def Mq:List Int->Nat->List Int->List Int
 | [],_,_=>[]
 | c::q,0,g=>al (Li c g) (xl (Mq q 0 g))
 | c::q,j+1,g=>al (xl (Mq q (j+1) g)) (Mq q j g)
def Hq:List Int->Nat->List Int->List Int
 | [],_,_=>[]
 | c::p,0,f=>al (Li c f) (Hq p 0 (dl f))
 | c::p,k+1,f=>al (Hq p (k+1) (dl f)) (Hq p k f)
theorem Zf5:∀q j g,dl (Mq q j g)=al (Mq q j (dl g)) (Li ((j:Int)+1) (Mq q (j+1) g))
 | [],j,g=>rfl
 | c::q,0,g=>by
  show dl (al (Li c g) (xl (Mq q 0 g)))=al (al (Li c (dl g)) (xl (Mq q 0 (dl g)))) (Li (((0:Nat):Int)+1) (al (xl (Mq q (0+1) g)) (Mq q 0 g)));rw [dl_al,dl_scl,dl_x,Zf5 q 0 g,xl_al];rw [show((0:Nat):Int)+1=1 from rfl,Ce,Ce]
  ac_rfl
 | c::q,j+1,g=>by
  show dl (al (xl (Mq q (j+1) g)) (Mq q j g))=al (al (xl (Mq q (j+1) (dl g))) (Mq q j (dl g))) (Li (((j+1:Nat):Int)+1) (al (xl (Mq q (j+1+1) g)) (Mq q (j+1) g)));rw [dl_al,dl_x,Zf5 q (j+1) g,Zf5 q j g,xl_al,xl_scl,Zh7];rw [show Li (((j+1:Nat):Int)+1) (Mq q (j+1) g)=al (Li ((j:Int)+1) (Mq q (j+1) g)) (Mq q (j+1) g) by rw [Ze9,Ce];rfl]
  ac_rfl
theorem Cj:∀q j f g,Pj 0 f (Mq q j g)=Pj 0 (Hq q j f) g
 | [],j,f,g=>Bu 0 f
 | c::q,0,f,g=>by show Pj 0 f (al (Li c g) (xl (Mq q 0 g)))=Pj 0 (al (Li c f) (Hq q 0 (dl f))) g;rw [Bw,Bz,Zbw,Fv,Zjo,Cj q 0 (dl f) g]
 | c::q,j+1,f,g=>by show Pj 0 f (al (xl (Mq q (j+1) g)) (Mq q j g))=Pj 0 (al (Hq q (j+1) (dl f)) (Hq q j f)) g;rw [Bw,Bz,Zjo,Cj q (j+1) (dl f) g,Cj q j f g]
def wfa:Nat->Nat->Int
 | j,0=>1
 | j,k+1=>((j:Int)+1)*wfa (j+1) k
theorem Za2:∀k j,0<wfa j k
 | 0,j=>by show(0:Int)<1;decide
 | k+1,j=>fZ O (Za2 k (j+1))
theorem Bv:∀(p q:List Int) (j:Nat) (f g:List Int) (K:Nat),p.length<=K->Pj 0 (Mq p 0 f) (Mq q j g)=Zc (λk=>wfa j k*Pj 0 (Hq q (j+k) f) (Hq p k g)) K
 | [],q,j,f,g,K,_=>by rw [Pn (λk o=>by show wfa j k*Pj 0 (Hq q (j+k) f) []=0;rw [Bu,cJ])];rfl
 | c::p,q,j,f,g,K,hK=>by
  obtain⟨e,rfl⟩:∃e,K=e+1:=⟨K-1,by simp at hK;omega⟩;have t:p.length<=e:=by simpa using hK
  have w:=Bv p q j f (dl g) (e+1) O;have x:=Bv p q (j+1) f g e t;show Pj 0 (al (Li c f) (xl (Mq p 0 f))) (Mq q j g)=_;rw [Bz,Fv,fip_x,Zf5,Bw,Zbw,w,x,Cj];rw [Qo,Qo (λk=>wfa j k*Pj 0 (Hq q (j+k) f) (Hq (c::p) k g))];have l:Pj 0 (Hq q (j+0) f) (Hq (c::p) 0 g)=c*Pj 0 (Hq q j f) g+Pj 0 (Hq q j f) (Hq p 0 (dl g)):=by show Pj 0 (Hq q j f) (al (Li c g) (Hq p 0 (dl g)))=_;rw [Bw,Zbw]
  have n:Zc (λk=>wfa j (k+1)*Pj 0 (Hq q (j+(k+1)) f) (Hq (c::p) (k+1) g)) e=Zc (λk=>wfa j (k+1)*Pj 0 (Hq q (j+(k+1)) f) (Hq p (k+1) (dl g))) e+((j:Int)+1)*Zc (λk=>wfa (j+1) k*Pj 0 (Hq q (j+1+k) f) (Hq p k g)) e:=by rw [<-Xl,<-Po];refine Zj λk o=>?_;show _*Pj 0 _ (al (Hq p (k+1) (dl g)) (Hq p k g))=_;rw [Bw,show j+1+k=j+(k+1) by omega];show((j:Int)+1)*wfa (j+1) k*_=((j:Int)+1)*wfa (j+1) k*_+_;grind
  rw [l,n];show _=(1:Int)*_+_;show _*_+((1:Int)*_+_+_)=_;rw [show j+0=j from rfl];grind
theorem Za9(a:Int):0<=a*a:=by
 rcases Int.le_total 0 a with h|h
 .exact cI h h
 .have:=cI (show 0<=-a by omega) (show 0<=-a by omega);rwa [Int.neg_mul_neg]at this
theorem Ey:∀k,1<=fc k
 | 0=>by show(1:Int)<=1;decide
 | k+1=>by have h:=Ey k;show 1<=((k:Int)+1)*fc k;have e:=jZ (show(1:Int)<=(k:Int)+1 by omega) h O3 O;omega
theorem Zjs(k:Nat)(f:List Int)(b:Int)(g:List Int):Pj k f (b::g)=fc k*(cf f 0*b)+Pj (k+1) f.tail g:=by
 cases f with
 | nil=>show(0:Int)=fc k*(0*b)+Pj (k+1) [] g;rw [cK,cJ];rfl
 | cons a f=>rfl
theorem Zke(f:List Int)(i:Nat):cf f.tail i=cf f (i+1):=by cases f<;>rfl
theorem Zby:∀k (f e g:List Int),(∀i,cf f i=cf e i)->Pj k f g=Pj k e g
 | k,f,e,[],h=>by rw [Bu,Bu]
 | k,f,e,b::g,h=>by rw [Zjs,Zjs,h 0,Zby (k+1) f.tail e.tail g λi=>by rw [Zke,Zke,h]]
theorem Zbx:∀k f,0<=Pj k f f
 | k,[]=>cL _
 | k,a::f=>by show 0<=fc k*(a*a)+Pj (k+1) f f;have e:=Zbx (k+1) f;have g:=cI (show 0<=fc k by have:=Ey k;omega) (Za9 a);omega
theorem Zjq:∀k f i,cf f i*cf f i<=Pj k f f
 | k,[],i=>by rw [Zr O6];exact cL _
 | k,a::f,0=>by show a*a<=fc k*(a*a)+Pj (k+1) f f;have e:=Zbx (k+1) f;have g:=cH (Ey k) (Za9 a);omega
 | k,a::f,i+1=>by show cf f i*cf f i<=fc k*(a*a)+Pj (k+1) f f;have e:=Zjq (k+1) f i;have g:=cI (show 0<=fc k by have:=Ey k;omega) (Za9 a);omega
def fcs:Nat->Nat->Int
 | k,0=>0
 | k,n+1=>fc k+fcs (k+1) n
theorem Zjt:∀n k,0<=fcs k n
 | 0,k=>cL _
 | n+1,k=>by have h:=Zjt n (k+1);have:=Ey k;show 0<=fc k+fcs (k+1) n;omega
theorem Zjp:∀n k (f:List Int) (A:Int),f.length<=n->(∀x∈f,x*x<=A)->0<=A->Pj k f f<=fcs k n*A
 | n,k,[],A,_,_,e=>cI (Zjt n k) e
 | 0,k,a::f,A,h,_,_=>by simp at h
 | n+1,k,a::f,A,h,hx,e=>by have j:=Zjp n (k+1) f A (by simpa using h) (λx g=>hx x (bC _ g)) e;have l:=gV (hx a (bM ..)) (show 0<=fc k by have:=Ey k;omega);show fc k*(a*a)+Pj (k+1) f f<=(fc k+fcs (k+1) n)*A;rw [gU];omega
theorem Ze3:∀p k f,p.length<=k->Hq p k f=[]
 | [],k,f,_=>by cases k<;>rfl
 | c::p,0,f,h=>by simp at h
 | c::p,k+1,f,h=>by
  show al (Hq p (k+1) (dl f)) (Hq p k f)=[];have e:p.length<=k:=by simpa using h
  rw [Ze3 p (k+1) _ O,Ze3 p k _ e];rfl
theorem Zk1:∀p k f,p.length=k+1->Hq p k f=Li (cf p k) f
 | [],k,f,h=>by simp at h
 | [c],0,f,h=>Zkw _
 | c::d::p,0,f,h=>by simp at h
 | c::p,k+1,f,h=>by
  have e:p.length=k+1:=by simpa using h
  show al (Hq p (k+1) (dl f)) (Hq p k f)=Li (cf p k) f;rw [Ze3 p (k+1) _ O,Zk1 p k f e];rfl
theorem Zkj:∀f g i,cf (al f g) i=cf f i+cf g i
 | [],g,i=>by rw [Zr (p:=[]) O6,iB];rfl
 | a::f,[],i=>by rw [Zr (p:=[]) O6,fG];rfl
 | a::f,b::g,0=>rfl
 | a::f,b::g,i+1=>Zkj f g i
def Zkh(c:Int)(f:List Int)(i:Nat):cf (Li c f) i=c*cf f i:=Gw (p:=f) (f:=(c*·)) (cJ c) i
theorem cf_xl0(f:List Int):cf (xl f) 0=0:=by cases f<;>rfl
theorem cf_xl(f:List Int)(i:Nat):cf (xl f) (i+1)=cf f i:=by cases f<;>rfl
theorem cf_Mq:∀p f i,cf (Mq p 0 f) i=(ps p*ps f).c i
 | [],f,i=>by rw [PS.mul_c,Pn (λk _=>by rw [Xc,Zr O6,cK])];exact Zr (by simp [Mq])
 | c::p,f,0=>by show cf (al (Li c f) (xl (Mq p 0 f))) 0=_;rw [Zkj,Zkh,cf_xl0,PS.mul_c,Qo,fG];exact(fG _).symm
 | c::p,f,i+1=>by show cf (al (Li c f) (xl (Mq p 0 f))) (i+1)=_;rw [Zkj,Zkh,cf_xl,cf_Mq p f i,PS.mul_c,PS.mul_c,Qo _ (i+1)];refine aU (c*cf f (i+1)+·) (Zj λk e=>?_);show cf p k*cf f (i-k)=cf p k*cf f (i+1-(k+1));rw [show i+1-(k+1)=i-k by omega]
theorem Zhg{s:List Int}{n L e:Nat}(hu:Tr u)(o:Tr v)(hs:Sz n s)(N:s≠[])(hl:s.length<=L)(W:fcs 0 L<=2^e*2^e)(h:s=Yj u v):Sz (n+e) u:=by
 have w:v≠[]:=λe=>N (by rw [h,e,Bf]);obtain⟨m,I⟩:∃m,v.length=m+1:=⟨v.length-1,by have:=aD.2 w;omega⟩;have f:cf v m≠0:=by
  rcases o with o|o
  .exact absurd o w
  .rwa [I]at o
 have l:∀i,cf (Mq v 0 u) i=cf s i:=λi=>by rw [cf_Mq,h,Kg,Pq]
 have g:=Bv v v 0 u u (m+1) O;rw [Zby 0 _ s _ l,Om,Zby 0 _ s _ l,Zf,dK,Zk1 v m u I,Fv,Zbw]at g;have j:∀t,0<=Zc (λk=>wfa 0 k*Pj 0 (Hq v (0+k) u) (Hq v k u)) t:=λt=>by
  induction t with
  | zero=>exact cL _
  | succ t ih=>
   rw [Zf,dK];have:=cI (show 0<=wfa 0 t by have:=Za2 t 0;omega) (Zbx 0 (Hq v t u));omega
 have hr:=j m;have V:1<=cf v m*cf v m:=by
  have h1:=Za9 (cf v m);have h2:cf v m*cf v m≠0:=λe=>by rcases dL.1 e with q|q<;>exact f q
  omega
 have Z:=Zbx 0 u;have h3:Pj 0 u u<=cf v m*(cf v m*Pj 0 u u):=by have:=cH V Z;rw [eU]at this;omega
 have h4:Pj 0 u u<=wfa 0 m*(cf v m*(cf v m*Pj 0 u u)):=by have:=cH (show 1<=wfa 0 m from Za2 m 0) (show 0<=cf v m*(cf v m*Pj 0 u u) by omega);omega
 intro i;rw [Oo];have h5:=Zjq 0 u i;have R:∀x∈s,x*x<=(2^n-1)*(2^n-1):=λx hx=>by
  have hb:x.natAbs<2^n:=(Oo n _).1 (hs.mem hx);have S:((2^n:Nat):Int)=2^n:=by push_cast;rfl
  have p1:x<=2^n-1:=O;have p2:-(2^n-1)<=x:=O;generalize (2:Int)^n-1=y at *;have:=cI (show 0<=y-x by omega) (show 0<=y+x by omega);grind
 have hp:(1:Int)<=2^n:=by exact_mod_cast cF (n:=n) (show 0<2 by decide)
 have M:(1:Int)<=2^e:=by exact_mod_cast cF (n:=e) (show 0<2 by decide)
 have h6:=Zjp L 0 s _ hl R (cI O O);have h7:cf u i*cf u i<=(2^e*2^e)*((2^n-1)*(2^n-1)):=by have:=cH W (show(0:Int)<=(2^n-1)*(2^n-1)from cI O O);omega
 rcases bD (cf u i).natAbs (2^(n+e))with G|F
 .exact G
 .exfalso;have H:(2^n*2^e:Int)<=((cf u i).natAbs:Int):=by rw [<-Int.pow_add];exact_mod_cast F
  have Q:((cf u i).natAbs:Int)*((cf u i).natAbs:Int)=cf u i*cf u i:=kE;have D:(2^n*2^e:Int)*(2^n*2^e)<=((cf u i).natAbs:Int)*((cf u i).natAbs:Int):=jZ H H (cI O O) O;rw [Q]at D;generalize (2:Int)^n=X at *;generalize (2:Int)^e=Y at *;have P:(Y*Y)*((X-1)*(X-1))<(Y*Y)*(X*X):=by have hy:=jZ M M O3 O;refine Int.mul_lt_mul_of_pos_left ?_ O;grind
  grind
def kkR(R:Nat):Nat->Nat
 | 0=>0
 | d+1=>2*(R+1)*kkR R d+1
def Ia (L:Nat)(R:Nat){s:List Int}{n e:Nat}(l:Tr u)(o:Tr v)(hs:Sz n s)(f:s≠[])(k:Tr s)(j:s.length<=L)(t:2*L<=R+2)(g:fcs 0 L<=2^e*2^e)(h:s=Yj u v):Sz (n+e) u:=Zhg l o hs f j g h
theorem num13{e f:Nat}(k:e<=13)(n:f+1=e)(j:K<=600):Zc2 e f K:=λl o=>by have g:∀l,l<=12->(l+1)*(600*(27-2*l)+1)<=65536:=O3;refine aM (bO _ (Nat.succ_le_succ (bT j O))) (g l O)
theorem chH{n:Nat}(F:Nat)(t:Tr xs)(w:xs≠[])(hs:Sz n xs)(hn:n<=350)(hl:xs.length<=13)(hb:(xs.length+2)*(xs.length+2)*(n+13)<=65536)(hF:xs.length<=F+1) :
  Km F xs/\Sz (n+15) (sqf F xs)/\(sqf F xs).length<=xs.length/\∀p∈Gu F xs,Kp p<=(n+26)*25/\p.length<=xs.length:=by
 have e:=Zd2 hs;have Y:=Yx t;have k:Tr (Zw xs):=Xm (Zs t);have R:=Cu e O;have W:=Qx (Zw xs);have l:Tr (Zv (Zw xs)):=Xz k;have m1:=Ky e;have m2:=Ky R;have l0:=aD.2 w;have D:gA (Zw xs) (Zv (Zw xs))=Zq (Zw xs):=aG O;have G:gB (Zw xs) (Zv (Zw xs))=Zq (Zv (Zw xs)):=aG O;have j:eok F (gA (Zw xs) (Zv (Zw xs))) (gB (Zw xs) (Zv (Zw xs))):=by
  rw [D,G];refine(Zmt (n:=n+5) (s:=5) (K:=n+11) (by rw [Zi,Zi];omega) (Zs k) (Zs l) (Lz (e.mono O)) (Lz R) ?_ O ?_ ?_ ?_).1
  .rw [Zi,Zi];omega
  .rw [Zi,Zi];exact num13 O O O
  .rw [Zi];exact aM (bT (show(Zw xs).length+1<=14 by omega) (show n+5+1<=400 by omega)) O3
  .rw [Zi];omega
 obtain⟨f1,f2,f3,f4,f5,f6⟩:=Xg F t w j;have x:=Gx F k l;have g:=Bk t w;have P:fcs 0 13<=2^15*2^15:=O5;have o:=Ia 13 24 f2 x e g k O O3 P f4;have H:=Ia 13 24 x f2 e g k O O3 P (by rw [Kg];exact f4);have I:=Qb f2 x f3 f5;rw [<-f4]at I;have lg:=aD.2 f5;have lq:=aD.2 f3;have mg:=Ky H;have N:(sqf F xs).length<=xs.length:=O;have M:=Cu o O;have S:=Qx (sqf F xs);have Q:=Znc (a:=sqf F xs) (b:=Zq (Zv (sqf F xs))) (n:=n+15+5) (s:=5) (K:=n+26) (f:=F) (by rw [Zi];omega) f2 (Zs (Xz f2)) (o.mono O) (Lz M) (by rw [Zi];omega) O (by rw [Zi];exact num13 O O O) (aM (bT (show(sqf F xs).length+1<=14 by omega) (show n+15+5+1<=500 by omega)) O3) (by rw [Zi];omega);refine⟨⟨⟨λi _=>aM (Zeu e O i) O,?_,j,?_,f1⟩,λi _=>aM (Zeu o O i) O,Q.1⟩,o,N,λp Z=>?_⟩
 .intro h;have h3:(max (Zw xs).length (Zv (Zw xs)).length+2)*(max (Zw xs).length (Zv (Zw xs)).length+2)*(max (Kp (Zw xs)) (Kp (Zv (Zw xs)))+8)<=(xs.length+2)*(xs.length+2)*(n+13):=bT (bT O O) O;have:=h.2.2;omega
 .unfold Zet;rw [aG O];split
  .rfl
  .have:((Zw xs).length-(Qg F (Zw xs) (Zv (Zw xs))).length+1)*(Kp (Qg F (Zw xs) (Zv (Zw xs)))+1)<=14*500:=bT O O;rw [aG O]
 .obtain⟨V,a2⟩:=Q.2 p Z;refine⟨aM V (bO _ ?_),O⟩;rw [Zi];omega
theorem chG{n:Nat}(F:Nat)(j:Tr xs)(e:xs≠[])(hs:Sz n xs)(g:n<=350)(k:xs.length<=11)(f:xs.length<=F+1) :
  Km F xs/\Sz (n+15) (sqf F xs)/\(sqf F xs).length<=xs.length/\∀p∈Gu F xs,Kp p<=(n+26)*25/\p.length<=xs.length:=
 chH F j e hs g O (aM (bT (bT (show _<=13 by omega) (show _<=13 by omega)) (show _<=363 by omega)) O3) f
theorem Dv.ed{g:List Int}(h:Dv g a):Ed g a:=by obtain⟨k,s,e,h⟩:=h;refine⟨k,s,e,λx=>?_⟩;have:=Nf k 0 a s g [] (λt=>by rw [h t];omega) x;push_cast at this;grind
theorem Ag{F:Nat}(n:Tr xs)(g:xs≠[])(j:Km F xs)(s t:Rat) :
  ∃h:Rat,0<h/\∀u v,s<=u->u<=v->v<=t->v-u<=h->Ip ((Gu F xs).map Za) u-Ip ((Gu F xs).map Za) v=An (Za (sqf F xs)) u v:=by
 have f:=j.1.2.2.1;obtain⟨f1,f2,f3,f4,f5,f6⟩:=Xg F n g f;have e:=Xz f2;by_cases o:Zv (sqf F xs)=[]
 .refine Cx 1 f2 (Zs e) f3 j.2.2 O3 (λx=>?_) λq l a b=>?_
  .rw [<-Qh,o];show(0:Rat)=1*0;grind
  .exact Gz n g f l a (b.sim (Ye e))
 .have k:0<Zx (Zv (sqf F xs)):=by have w:=Kh e o;have D:=Xo (Zv (sqf F xs));omega
  refine Cx (Zx (Zv (sqf F xs)):Rat) f2 (Zs e) f3 j.2.2 (by exact_mod_cast k) (λx=>?_) λq l a b=>?_
  .rw [<-Qh,<-Zb];exact Xx x _ _ λi=>by rw [Yb,dC,Oe]
  .exact Gz n g f l a (b.sim (Ye e))
theorem Zmo{s g:List Int}(D:∀x:Rat,Za p x=Za s x*Za g x)(hg:Tr g)(g0:g≠[])(M:Ed g (ld p))(o:Irr q)(P:Ed q p):Ed q s:=by
 refine aP λt=>?_;have j:=o.1;have n:=o.2.1;have N:¬Ed q (ld q):=λh=>by have W:Ed q (Zv q):=h.congr λx=>(Qh q x).symm;have Y:=Qx q;have:=(W.len j (Xz j) (λe=>by rw [e]at Y;simp at Y;omega)).2;omega
 obtain⟨c1,m1,k1,e1⟩:=P;obtain⟨f,m,k2,e2⟩:=M;have R:∀k,Ed (Px q k) g:=λk=>by
  induction k with
  | zero=>exact⟨1,g,O3,λx=>by rw [show Px q 0=[1]from rfl,Yp];push_cast;grind⟩
  | succ k ih=>
   cases k with
   | zero=>
    have I:Ed q g:=(Kj s g m1 _ o k1 (λx=>by rw [<-D x];exact e1 x)).resolve_left t;exact I.congr_l λx=>by rw [Oh,show Px q 0=[1]from rfl,Yp];push_cast;grind
   | succ k=>
    obtain⟨c,u,kc,eu⟩:=ih;have hd:∀x:Rat,(c:Rat)*Za (ld g) x=Za (ld u) x*Za (Px q (k+1)) x+Za u x*(((k:Rat)+1)*(Za (Px q k) x*Za (ld q) x)):=λx=>by have:=Nr (g.map λa=>c*a) (lmul u (Px q (k+1))) (λy=>by rw [Zb,Zd];exact eu y) x;rwa [Ln,Mh,Zbi]at this
    have hp:∀x:Rat,Za (ld p) x=Za (ld s) x*Za g x+Za s x*Za (ld g) x:=λx=>by have:=Nr p (lmul s g) (λy=>by rw [Zd];exact D y) x;rwa [Mh]at this
    have hz:∀x:Rat,Za (Xp ((lmul (lmul s u) (ld q)).map λa=>(f*((k:Int)+1))*a) ((lmul (Xp ((lmul s (ld u)).map λa=>f*a) ((lmul (Xp m ((ld s).map λa=>(-f)*a)) u).map λa=>(-1)*a)) q))) x=0:=λx=>by
     refine Ok (Px q k) (λe=>?_) (λx=>?_) x
     .rw [Ej (Kf j n k).1]at e;have:=(Kf j n k).2;rw [e]at this;simp at this
     .rw [Zt,Zb,Zd,Zd,Zd,Zt,Zb,Zd,Zb,Zd,Zt,Zb];have G:=e2 x;have S:=hp x;have V:=hd x;have F:=eu x;rw [Oh]at V F;push_cast;have b1:(f:Rat)*Za s x*(c*Za (ld g) x)=(Za m x-f*Za (ld s) x)*(c*Za g x):=by
       have:(f:Rat)*Za s x*(c*Za (ld g) x)=c*(f*(Za (ld p) x-Za (ld s) x*Za g x)):=by rw [S];grind
       rw [this];have:(c:Rat)*(f*(Za (ld p) x-Za (ld s) x*Za g x))=c*(f*Za (ld p) x)-c*f*Za (ld s) x*Za g x:=O2;rw [this,G];grind
      rw [V,F]at b1;grind
    have I:=Kj (lmul s u) (ld q) (Xp ((lmul (Xp m ((ld s).map λa=>(-f)*a)) u)) ((lmul s (ld u)).map λa=>(-f)*a)) (f*((k:Int)+1)) o (aT k2 O) (λx=>by have:=hz x;rw [Zt,Zb,Zd,Zd,Zd,Zt,Zb,Zd,Zb,Zd,Zt,Zb]at this;rw [Zd,Zt,Zd,Zt,Zb,Zb,Zd];push_cast at this ⊢;grind)
    have W:=Kj s u [] 1 o O3;have h7:Ed q u:=by obtain⟨l,w,Q,H⟩:=I.resolve_right N;exact(Kj s u w l o Q (λx=>by have:=H x;rwa [Zd]at this)).resolve_left t
    obtain⟨l,w,Q,H⟩:=h7;refine⟨l*c,w,aT Q kc,λx=>?_⟩;have F:=eu x;have Z:=H x;rw [Oh q (k+1)];push_cast;have:(l:Rat)*c*Za g x=l*(c*Za g x):=O2;rw [this,F];have:(l:Rat)*(Za u x*Za (Px q (k+1)) x)=(l*Za u x)*Za (Px q (k+1)) x:=O2;rw [this,Z];grind
 obtain⟨G,S⟩:=Kf j n g.length;have:=((R g.length).len G hg g0).2;omega
theorem Zmh(f:d≠0):Irr [-r,d]:=by have e:Tr [-r,d]:= .inr f;refine⟨e,O6,λq j g=>?_⟩;have:=(g.len j e O6).2;simp at this ⊢;omega
theorem Ch(r d:Int)(x:Rat):Za [-r,d] x=(d:Rat)*x-r:=by show((-r:Int):Rat)+x*((d:Rat)+x*0)=_;push_cast;grind
theorem Zlr(D:Tr p)(g:d≠0)(h:Za p ((r:Rat)/d)=0):Ed [-r,d] p:=by
 have l:(d:Rat)≠0:=by exact_mod_cast g
 have o:Tr [-r,d]:= .inr g;obtain⟨k,s,hs⟩:=Kd p (q:=[-r,d]) O6;have f:=Qd (o.mem O6) k;generalize cf [-r,d] ([-r,d].length-1)^k=L at hs f;have j:∀x,(L:Rat)*Za p x=Za s x*Za [-r,d] x+Za (Yn p [-r,d]) x:=λx=>by have:=Nf L (-1) p s [-r,d] (Yn p [-r,d]) (λt=>by rw [hs t];omega) x;push_cast at this;grind
 have n:=Yz p (q:=[-r,d]) O6;have w:∀x,Za (Yn p [-r,d]) x=0:=λx=>by
  have e:=j ((r:Rat)/d);rw [h,Ch]at e
  match hr:Yn p [-r,d],n with
  | [],_=>rfl
  | [c],_=>
   rw [hr,Yp]at e;rw [Yp];have:(d:Rat)*(r/d)=r:=O2;rw [this]at e;grind
 exact⟨L,s,f,λx=>by rw [j x,w x];grind⟩
theorem Ed.root(f:d≠0)(h:Ed [-r,d] p):Za p ((r:Rat)/d)=0:=by
 obtain⟨k,s,j,h⟩:=h;have g:(d:Rat)≠0:=by exact_mod_cast f
 have l:(k:Rat)≠0:=by exact_mod_cast j
 have e:=h ((r:Rat)/d);rw [Ch]at e;have:(d:Rat)*(r/d)=r:=O2;rw [this]at e;grind
theorem Zh3{F:Nat}(g:Tr xs)(k:xs≠[])(f:eok F (gA (Zw xs) (Zv (Zw xs))) (gB (Zw xs) (Zv (Zw xs))))(j:d≠0)(h:Za xs ((r:Rat)/d)=0):Za (sqf F xs) ((r:Rat)/d)=0:=by
 obtain⟨f1,f2,f3,f4,f5,f6⟩:=Xg F g k f;have hs:Tr (Zw xs):=Xm (Zs g);have e:Tr (Zv (Zw xs)):=Xz hs;have l:Ed [-r,d] (Zw xs):=(Zlr g j h).sim ((Ye g).symm.trans (Qv _).symm);have n:∀x:Rat,Za (Zw xs) x=Za (sqf F xs) x*Za (Qg F (Zw xs) (Zv (Zw xs))) x:=λx=>by
  have:Za (Zw xs) x=Za (Yj (sqf F xs) (Qg F (Zw xs) (Zv (Zw xs)))) x:=by rw [<-f4]
  rw [this,Zl]
 have o:Ed (Qg F (Zw xs) (Zv (Zw xs))) (ld (Zw xs)):=((Hk hs e f).2.ed).congr λx=>Qh _ x;exact(Zmo n (Gx _ hs e) f5 o (Zmh j) l).root j
def Away(s t:Rat)(f:Rat->Rat):Prop:=∃δ:Rat,0<δ/\∀x,s<=x->x<=t->δ<=f x\/f x<=-δ
theorem Away.mul{t:Rat}{f g:Rat->Rat}(G:Away s t f)(H:Away s t g)(e:∀x,h x=f x*g x):Away s t h:=by
 obtain⟨a,l,n⟩:=G;obtain⟨b,o,w⟩:=H;refine⟨a*b,aN l o,λx j k=>?_⟩;rw [e x];rcases n x j k with D|D<;>rcases w x j k with F|F
 .left;have:=aC (a:=f x-a) (b:=g x) O2 O2;have:=aC (a:=a) (b:=g x-b) O2 O2;grind
 .right;have:=aC (a:=f x-a) (b:=- g x) O2 O2;have:=aC (a:=a) (b:=- g x-b) O2 O2;grind
 .right;have:=aC (a:=- f x-a) (b:=g x) O2 O2;have:=aC (a:=a) (b:=g x-b) O2 O2;grind
 .left;have:=aC (a:=- f x-a) (b:=- g x) O2 O2;have:=aC (a:=a) (b:=- g x-b) O2 O2;grind
theorem Away.lin{t:Rat}(g:0<d)(h:(r:Rat)<d*s\/(d:Rat)*t<r):Away s t (Za [-r,d]):=by
 have j:(0:Rat)<(d:Rat):=by exact_mod_cast g
 rcases h with h|h
 .refine⟨d*s-r,O2,λx e f=> .inl ?_⟩;rw [Ch];have:=aC (a:=(d:Rat)) (b:=x-s) O2 O2;grind
 .refine⟨r-d*t,O2,λx e f=> .inr ?_⟩;rw [Ch];have:=aC (a:=(d:Rat)) (b:=t-x) O2 O2;grind
theorem Away.sq(s t:Rat):Away s t (Za [1,0,1]):=⟨1,O3,λx _ _=>by
 left;show(1:Rat)<=((1:Int):Rat)+x*(((0:Int):Rat)+x*(((1:Int):Rat)+x*0));have:0<=x*x:=by
  rcases(show 0<=x\/x<0 by grind)with h|h
  .exact aC h h
  .have:=aC (a:=-x) (b:=-x) O2 O2;grind
 push_cast;grind⟩
theorem Away.one(s t:Rat):Away s t (Za [1]):=⟨1,O3,λx _ _=>by left;rw [Yp];exact gC⟩
def cntP(P:Int->Prop)[DecidablePred P](m:Int):Nat->Int
 | 0=>0
 | n+1=>cntP P m n+(if P (m+n+1)then 1 else 0)
def eB(K C:Nat):Nat->Nat
 | 0=>0
 | n+1=>C+K*eB K C n
def eL(K C:Nat):Nat->Nat
 | 0=>0
 | n+1=>K*eL K C n+eB K C n
def eM(K C:Nat):Nat->Nat
 | 0=>0
 | n+1=>eL K C n+K*eM K C n
theorem Pt{a b:Nat}(h:a<=b):(a:Rat)<=(b:Rat):=by exact_mod_cast h
theorem Zki{C:Nat}(h:c.natAbs<=C):-(C:Rat)<=(c:Rat)/\(c:Rat)<=(C:Rat):=by
 have e:((-(C:Int):Int):Rat)<=(c:Rat):=by exact_mod_cast (show -(C:Int)<=c by omega)
 have f:(c:Rat)<=(((C:Nat):Int):Rat):=by exact_mod_cast (show c<=(C:Int) by omega)
 push_cast at e f;constructor<;>grind
def Zb5{C:Nat}(h:∀i,(cf (c::p) i).natAbs<=C):c.natAbs<=C/\∀i,(cf p i).natAbs<=C:=⟨h 0,λi=>h (i+1)⟩
theorem Zbg{K C:Nat} : ∀(n:Nat) (p:List Int),p.length<=n->(∀i,(cf p i).natAbs<=C)->∀x:Rat,-(K:Rat)<=x->x<=(K:Rat)->-(eB K C n:Rat)<=Za p x/\Za p x<=(eB K C n:Rat)
 | n,[],_,_,x,_,_=>by have h:(0:Rat)<=(eB K C n:Rat):=Pt (aW _);show -(eB K C n:Rat)<=0/\(0:Rat)<=(eB K C n:Rat);constructor<;>grind
 | 0,c::p,hl,_,_,_,_=>absurd hl O6
 | n+1,c::p,hl,hc,x,h1,h2=>by
  obtain⟨f,g⟩:=Zb5 hc;obtain⟨j,k⟩:=Zbg n p (by simpa using hl) g x h1 h2;obtain⟨o,t⟩:=Zki f;have l:(0:Rat)<=(K:Rat):=Pt (aW _);obtain⟨f1,f2⟩:=Ig h1 h2 j k l;have e:((eB K C (n+1):Nat):Rat)=(C:Rat)+(K:Rat)*(eB K C n:Rat):=by show((C+K*eB K C n:Nat):Rat)=_;push_cast;rfl
  rw [e,show Za (c::p) x=(c:Rat)+x*Za p x from rfl];constructor<;>grind
theorem Zbf{K C:Nat} : ∀(n:Nat) (p:List Int),p.length<=n->(∀i,(cf p i).natAbs<=C)->Lip (-(K:Rat)) (K:Rat) (eL K C n:Rat) (Za p)
 | n,[],_,_,x,y,_,j,_=>by have h:(0:Rat)<=(eL K C n:Rat):=Pt (aW _);have:=aC (a:=(eL K C n:Rat)) (b:=y-x) h O2;show(0:Rat)-0<=_/\(0:Rat)-0<=_;constructor<;>grind
 | 0,c::p,hl,_,_,_,_,_,_=>absurd hl O6
 | n+1,c::p,hl,hc,x,y,h1,j,h2=>by
  obtain⟨l,f⟩:=Zb5 hc;obtain⟨o,t⟩:=Zbf n p (by simpa using hl) f x y h1 j h2;obtain⟨w,D⟩:=Zbg n p (by simpa using hl) f y O2 h2;have k:(0:Rat)<=(K:Rat):=Pt (aW _);obtain⟨f1,f2⟩:=Ig (q:=x) (g:=Za p x-Za p y) (e:=(eL K C n:Rat)*(y-x)) h1 O2 O2 O2 k;have F:=aC (a:=(eB K C n:Rat)-Za p y) (b:=y-x) O2 O2;have G:=aC (a:=(eB K C n:Rat)+Za p y) (b:=y-x) O2 O2;have e:((eL K C (n+1):Nat):Rat)=(K:Rat)*(eL K C n:Rat)+(eB K C n:Rat):=by show((K*eL K C n+eB K C n:Nat):Rat)=_;push_cast;rfl
  rw [e,show Za (c::p) x=(c:Rat)+x*Za p x from rfl,show Za (c::p) y=(c:Rat)+y*Za p y from rfl];constructor<;>grind
theorem Zig{K C:Nat} : ∀(n:Nat) (p:List Int),p.length<=n->(∀i,(cf p i).natAbs<=C)->Tay (-(K:Rat)) (K:Rat) (eM K C n:Rat) p
 | n,[],_,_,x,y,_,f,_=>by have h:(0:Rat)<=(eM K C n:Rat):=Pt (aW _);have t:=aC (a:=y-x) (b:=y-x) O2 O2;have:=aC h t;show -((eM K C n:Rat)*(y-x)*(y-x))<=(0:Rat)-0-(y-x)*0/\(0:Rat)-0-(y-x)*0<=(eM K C n:Rat)*(y-x)*(y-x);constructor<;>grind
 | 0,c::p,hl,_,_,_,_,_,_=>absurd hl O6
 | n+1,c::p,hl,hc,x,y,hs,f,ht=>by
  obtain⟨D,j⟩:=Zb5 hc;obtain⟨l,o⟩:=Zig n p (by simpa using hl) j x y hs f ht;obtain⟨F,G⟩:=Zbf n p (by simpa using hl) j x y hs f ht;have w:(0:Rat)<=(K:Rat):=Pt (aW _);have k:0<=y-x:=O2;obtain⟨f1,f2⟩:=Ig (q:=x) (Q:=(K:Rat)) (g:=Za p y-Za p x-(y-x)*Za (ld p) x) (e:=(eM K C n:Rat)*(y-x)*(y-x)) hs O2 l o w;have H:=aC (a:=y-x) (b:=(eL K C n:Rat)*(y-x)-(Za p y-Za p x)) k O2;have I:=aC (a:=y-x) (b:=(eL K C n:Rat)*(y-x)+(Za p y-Za p x)) k O2;have e:((eM K C (n+1):Nat):Rat)=(eL K C n:Rat)+(K:Rat)*(eM K C n:Rat):=by show((eL K C n+K*eM K C n:Nat):Rat)=_;push_cast;rfl
  rw [e,Ff,show Za (c::p) y=(c:Rat)+y*Za p y from rfl,show Za (c::p) x=(c:Rat)+x*Za p x from rfl];constructor<;>grind
theorem Zex{A:Nat}(w:Tr a)(hb:Tr b)(Z:2<=a.length)(lb:b.length+1=a.length)(hA:0<A)(na:∀i,(cf a i).natAbs<=A)(nb:∀i,(cf b i).natAbs<=A)(hc:∀q,Tr q->Ed q a->Ed q b->q.length<=1) :
  ∃(U V:List Int) (c:Int),c≠0/\U.length+2=a.length/\V.length+1=a.length/\(∀i,(cf U i).natAbs<=(2*(2*a.length-3)*A)^(2*a.length-4))/\(∀i,(cf V i).natAbs<=(2*(2*a.length-3)*A)^(2*a.length-4))/\
   ∀x,(c:Rat)=Za U x*Za a x+Za V x*Za b x:=by
 obtain⟨U,V,lU,lV,k,D,F,hz⟩:=Dd a b 1 (p:=a.length-2) (q:=a.length-1) hA na nb O O O;have l:¬(tzl U=[]/\tzl V=[]):=λ⟨h1,h2⟩=>by
  rcases k with⟨i,hi⟩|⟨i,hi⟩
  .exact hi ((Xy U).1 h1 i)
  .exact hi ((Xy V).1 h2 i)
 clear k;rw [show a.length-2+(a.length-1)=2*a.length-3 by omega]at D F;rw [show 2*a.length-3-1=2*a.length-4 by omega]at D F;have j:a≠[]:=λe=>by rw [e]at Z;simp at Z
 have N:∀i,cf (Xp (lmul U a) (lmul V b)) i=(ps U*ps a).c i+(ps V*ps b).c i:=λi=>by rw [Qj,On,On,PS.mul_c,PS.mul_c];rfl
 have M:∀t,Za (Xp (lmul U a) (lmul V b)) t=Za U t*Za a t+Za V t*Za b t:=λt=>by rw [Zt,Zd,Zd]
 generalize Xp (lmul U a) (lmul V b)=R at N M;have Y:∀t,Za R t=(cf R 0:Rat):=λt=>by
  rw [<-Yp (cf R 0) t];refine Xx t _ _ λi=>?_
  match i with
  | 0=>rfl
  | i+1=>rw [N,hz (i+1) O,Zr O6]
 refine⟨U,V,cf R 0,λh0=>?_,O,O,D,F,λx=>by rw [<-M,Y]⟩;have n:∀t,Za U t*Za a t+Za V t*Za b t=0:=λt=>by rw [<-M,Y,h0];rfl
 obtain⟨g,P,Q,f,S,g3,G⟩:=Ai _ a b w hb (aH _);have hl:=hc g f S g3;have hg:=(S.len f w j).1;have o:tzl V=[]:=by
  refine aP λo=>?_
  match g,hg,hl,f,G with
  | [c],_,_,f,G=>
   have I:c≠0:=f.mem O6;have hd:Ed a (tzl V):=⟨c,Xp (lmul P V) ((lmul Q U).map λz=>(-1)*z),I,λx=>by have W:=G x;rw [Yp]at W;rw [Xn,Zt,Zb,Zd,Zd,W];have:=n x;have e:Za V x*Za b x=- (Za U x*Za a x):=O2;have:(Za P x*Za a x+Za Q x*Za b x)*Za V x=Za P x*Za V x*Za a x+Za Q x*(Za V x*Za b x):=O2;rw [this,e];push_cast;grind⟩
   have:=(hd.len w (Xd V) o).2;have:=Cq (p:=V);omega
  | c::d::r,_,h9,_,_=>simp at h9
 have H:tzl U=[]:=by
  refine aP λH=>?_;have:∀t,Za a t=0:=Ok U H λt=>by have:=n t;rw [Lm o]at this;grind
  exact w.mem j (Zfd this _)
 exact l ⟨H,o⟩
def Ze8(K A n e:Nat):Bool:=
 let X:=(2*(2*n-3)*A)^(2*n-4);let W:=eB K X (n-1)
 Nat.ble (2*(2*W+1)*(2*eL K A n)) (2^e) && Nat.ble (2*(2*W+1)*eM K A n) (2^e)
theorem big_or  {A n e:Nat} (hK:0<K) (S:0<A) (Y:Tr a) (Z:Tr b) (hn:a.length=n) (h2:2<=n) (lb:b.length+1=a.length) (na:∀i,(cf a i).natAbs<=A) (nb:∀i,(cf b i).natAbs<=A) (hc:∀q,Tr q->Ed q a->Ed q b->q.length<=1)
  (x:Rat) (t:-(K:Rat)<=x) (w:x<=(K:Rat)):Big (1/((2*eB K ((2*(2*n-3)*A)^(2*n-4)) (n-1)+1:Nat):Rat)) x (Za a)\/Big (1/((2*eB K ((2*(2*n-3)*A)^(2*n-4)) (n-1)+1:Nat):Rat)) x (Za b):=by
 obtain⟨U,V,c,R,lU,lV,l,o,j⟩:=Zex Y Z O lb S na nb hc;rw [hn]at l o;generalize (2*(2*n-3)*A)^(2*n-4)=X at *;obtain⟨u1,u2⟩:=Zbg (n-1) U O l x t w;obtain⟨v1,v2⟩:=Zbg (n-1) V O o x t w;generalize eB K X (n-1)=W at *;have F:(0:Rat)<=(W:Rat):=Pt (aW _);have D:(0:Rat)<((2*W+1:Nat):Rat):=by
   have:(((0:Nat)):Rat)<((2*W+1:Nat):Rat):=by exact_mod_cast jD _
   exact this
 have f:((2*W+1:Nat):Rat)=2*(W:Rat)+1:=by push_cast;rfl
 generalize G:1/((2*W+1:Nat):Rat)=ε;have k:ε*(2*(W:Rat)+1)=1:=by rw [<-G,f];rw [f]at D;grind
 have a0:0<=ε:=by rw [<-G];have:=dW.2 D;rw [fO];grind
 by_cases H:Big ε x (Za a)
 .exact .inl H
 .by_cases I:Big ε x (Za b)
  .exact .inr I
  .exfalso;obtain⟨M,N⟩:=Hm H;obtain⟨P,Q⟩:=Hm I;obtain⟨q1,q2⟩:=Ig u1 u2 M N F;obtain⟨r1,r2⟩:=Ig v1 v2 P Q F;have h4:=j x;have g:(c:Rat)<=-1\/1<=(c:Rat):=by
    rcases kP R with h|h
    .left;have:((c:Int):Rat)<=((-1:Int):Rat):=by exact_mod_cast (show c<=-1 by omega)
     rwa [show(((-1:Int)):Rat)=-1 from rfl]at this
    .right;have:1<=c:=O;exact_mod_cast this
   have a3:0<ε:=by
    rcases(show ε=0\/0<ε by grind)with h|h
    .rw [h]at k;grind
    .exact h
   rcases g with g|g<;>grind
theorem two_pow_pos(e:Nat):(0:Rat)<((2^e:Nat):Rat):=by have:0<2^e:=cF O3;exact_mod_cast this
theorem Znj  {F A n e:Nat} (hx:Tr xs) (h0:xs≠[]) (hC:Km F xs) (hK:0<K) (hA:0<A) (hn:(sqf F xs).length=n) (h2:2<=n) (Y:∀i,(cf (sqf F xs) i).natAbs<=A) (nb:∀i,(cf (Zv (sqf F xs)) i).natAbs<=A) (hs:Ze8 K A n e=true)
  {u v:Rat} (h1:-(K:Rat)<=u) (V:u<=v) (h3:v<=(K:Rat)) (hh:v-u<=1/((2^e:Nat):Rat)) :
  Ip ((Gu F xs).map Za) u-Ip ((Gu F xs).map Za) v=An (Za (sqf F xs)) u v:=by
 have G:=hC.1.2.2.1;obtain⟨f1,f2,f3,f4,f5,f6⟩:=Xg F hx h0 G;have f:=Xz f2;have w:=Qx (sqf F xs);have hd:Zv (sqf F xs)≠[]:=λe=>by rw [e]at w;simp at w;omega
 have S:1<=Zx (Zv (sqf F xs)):=by have h1:=Kh f hd;have h2:=Xo (Zv (sqf F xs));omega
 have a1:(1:Rat)<=(Zx (Zv (sqf F xs)):Rat):=by exact_mod_cast S
 have H:∀i,(cf (Zq (Zv (sqf F xs))) i).natAbs<=A:=λi=>by have h5:=Oe (Zv (sqf F xs)) i;have h6:=nb i;rw [<-h5,cN]at h6;have:(cf (Zq (Zv (sqf F xs))) i).natAbs*1<=(cf (Zq (Zv (sqf F xs))) i).natAbs*(Zx (Zv (sqf F xs))).natAbs:=bO _ O;omega
 have k:∀q,Tr q->Ed q (sqf F xs)->Ed q (Zq (Zv (sqf F xs)))->q.length<=1:=λq hq a b=>Gz hx h0 G hq a (b.sim (Ye f));have R:(Zq (Zv (sqf F xs))).length+1=(sqf F xs).length:=by rw [Zi];omega
 have g:=big_or (e:=e) hK hA f2 (Zs f) hn h2 R Y H k;unfold Ze8 at hs;simp only [bH,Nat.ble_eq]at hs;obtain⟨s1,s2⟩:=hs;generalize (2*(2*n-3)*A)^(2*n-4)=X at *;generalize eB K X (n-1)=W at *;have hD:(0:Rat)<((2*W+1:Nat):Rat):=by
   have:(((0:Nat)):Rat)<((2*W+1:Nat):Rat):=by exact_mod_cast jD _
   exact this
 have hP:=two_pow_pos e;have Z:=Pt s1;have a0:=Pt s2;have c1:((2*(2*W+1)*(2*eL K A n):Nat):Rat)=2*((2*W+1:Nat):Rat)*(2*(eL K A n:Rat)):=by push_cast;rfl
 have c2:((2*(2*W+1)*eM K A n:Nat):Rat)=2*((2*W+1:Nat):Rat)*(eM K A n:Rat):=by push_cast;rfl
 rw [c1]at Z;rw [c2]at a0;have hi:=dW.2 hD;have Q:=dW.2 hP;have l:((2*W+1:Nat):Rat)*((2*W+1:Nat):Rat)⁻¹=1:=O2;have o:((2^e:Nat):Rat)*((2^e:Nat):Rat)⁻¹=1:=O2;rw [fO,lJ]at hh;simp only [fO,lJ]at g;generalize ((2*W+1:Nat):Rat)=D at *;generalize ((2^e:Nat):Rat)=P at *;have j:(0:Rat)<=(eL K A n:Rat):=Pt (aW _);have N:(0:Rat)<=(eM K A n:Rat):=Pt (aW _);refine Dc (s:=-(K:Rat)) (t:=(K:Rat)) (κ:=(Zx (Zv (sqf F xs)):Rat)) (ε:=D⁻¹) (L:=(eL K A n:Rat)) (L':=(eL K A n:Rat)) (M:=(eM K A n:Rat)) (h:=P⁻¹) f2 (Zs f) hC.2.2 O2 (λx=>?_) hi g j (Zbf n _ O Y) j (Zbf n _ O H) N (Zig n _ O Y) Q ?_ ?_ h1 V h3 hh
 .rw [<-Qh,<-Zb];exact Xx x _ _ λi=>by rw [Yb,dC,Oe]
 .-- P⁻¹ * (2 L) ≤ D⁻¹ / 2
  have t1:=aC (a:=P⁻¹*D⁻¹) (b:=P-2*D*(2*(eL K A n:Rat))) (by have:=aN Q hi;grind) O2;have I:P⁻¹*D⁻¹*(P-2*D*(2*(eL K A n:Rat)))=D⁻¹*(P*P⁻¹)-2*P⁻¹*(D*D⁻¹)*(2*(eL K A n:Rat)):=O2;rw [I,l,o]at t1;grind
 .have t1:=aC (a:=P⁻¹*D⁻¹) (b:=P-2*D*(eM K A n:Rat)) (by have:=aN Q hi;grind) O2;have I:P⁻¹*D⁻¹*(P-2*D*(eM K A n:Rat))=D⁻¹*(P*P⁻¹)-2*P⁻¹*(D*D⁻¹)*(eM K A n:Rat):=O2;rw [I,l,o]at t1;have t2:=aC (a:=(Zx (Zv (sqf F xs)):Rat)-1) (b:=D⁻¹) O2 O2;grind
theorem Ah{F:Nat}(R:Tr xs)(I:xs≠[])(P:Km F xs){t:Rat}(o:s<=t):Ip ((Gu F xs).map Za) t<=Ip ((Gu F xs).map Za) s:=by
 obtain⟨h,M,x⟩:=Ag R I P s t;have G:∀f u v,0<=An f u v:=λf u v=>by unfold An;split<;>decide
 have w:∀n:Nat,∀y,s<=y->y<=t->y-s<=(n:Rat)*h->Ip ((Gu F xs).map Za) y<=Ip ((Gu F xs).map Za) s:=λn=>by
  induction n with
  | zero=>
    intro y e g j;have:y=s:=by simp at j;grind
    rw [this];exact cL _
  | succ n H=>
   intro y e g j;have D:((n+1:Nat):Rat)*h=(n:Rat)*h+h:=by push_cast;grind
   rcases(show y-s<=(n:Rat)*h\/(n:Rat)*h<y-s by grind)with k|k
   .exact H y e g k
   .have N:(0:Rat)<=(n:Rat)*h:=aC (by exact_mod_cast aW n) O2;rcases(show s<=y-h\/y-h<s by grind)with l|l
    .have a:=H (y-h) l O2 O2;have b:=x (y-h) y l O2 g O2;have c:=G (Za (sqf F xs)) (y-h) y;omega
    .have b:=x s y O2 e g O2;have c:=G (Za (sqf F xs)) s y;omega
 have e:∃n:Nat,t-s<=(n:Rat)*h:=by
  have g:0<h⁻¹:=dW.2 M;refine⟨((t-s)*h⁻¹).ceil.toNat,?_⟩;have j:=@lI ((t-s)*h⁻¹);have D:((((t-s)*h⁻¹).ceil:Int):Rat)<=((((t-s)*h⁻¹).ceil.toNat:Nat):Rat):=by have:((t-s)*h⁻¹).ceil<=((((t-s)*h⁻¹).ceil.toNat:Nat):Int):=iM _;exact_mod_cast this
  have k:=bX (kZ j D) (show 0<=h by grind);have N:(t-s)*h⁻¹*h=t-s:=O2;grind
 obtain⟨n,Q⟩:=e;exact w n t o O2 Q
def qv(z:R2):Rat:=(z.1:Rat)/(z.2:Rat)
theorem Zdn{x y X Y g:Nat}(f:g=Nat.gcd x y)(N:0<y)(P:0<Y)(h:x*Y=X*y):y/g∣Y/\x/g<=X:=by
 have j:0<g:=by rw [f];exact Nat.gcd_pos_of_pos_right _ N
 have M:Nat.Coprime (x/g) (y/g):=by rw [f];exact Nat.coprime_div_gcd_div_gcd (by rw [<-f];exact j)
 have t:x/g*g=x:=kQ (by rw [f];exact jA _ _);have l:y/g*g=y:=kQ (by rw [f];exact kY _ _);have n:x/g*Y=X*(y/g):=by refine iD j ?_;have G:x/g*Y*g=x/g*g*Y:=O2;have H:X*(y/g)*g=X*(y/g*g):=O2;rw [G,H,t,l,h]
 have D:y/g∣Y:=M.symm.dvd_of_dvd_mul_left (by rw [n];exact Nat.dvd_mul_left _ _);refine⟨D,?_⟩;obtain⟨k,F⟩:=D;have o:0<k:=kR λe=>by rw [e,Nat.mul_zero]at F;omega
 have w:0<y/g:=kR λe=>by rw [e,iA]at l;omega
 rw [F]at n;have I:x/g*k=X:=by refine iD w ?_;have:x/g*k*(y/g)=x/g*(y/g*k):=O2;rw [this,n]
 rw [<-I];exact iZ _ o
theorem Zbp{x y X Y:Int}(H:0<y)(M:0<Y)(h:x*Y=X*y)(F:bl X.natAbs<=B)(e:bl Y.natAbs<=B)(I:B<=65536) :
  ¬Np x y/\Nq x y∣Y/\0<Nq x y/\bl (Me x y).natAbs<=B/\bl (Nq x y).natAbs<=B/\Me x y*y=x*Nq x y:=by
 have N:Ol x y=(Nat.gcd x.natAbs y.natAbs:Int):=by rw [Zmi O];rfl
 have G:x.natAbs*Y.natAbs=X.natAbs*y.natAbs:=by rw [<-cN,<-cN,h]
 obtain⟨k,w⟩:=Zdn (g:=Nat.gcd x.natAbs y.natAbs) rfl (by omega:0<y.natAbs) (by omega:0<Y.natAbs) G;have l:(y/Ol x y).natAbs=y.natAbs/Nat.gcd x.natAbs y.natAbs:=by rw [jE (Bo x y),Zc7]
 have D:(x/Ol x y).natAbs=x.natAbs/Nat.gcd x.natAbs y.natAbs:=by rw [jE (Zc6 x y),Zc7]
 have o:bl (y/Ol x y).natAbs<=B:=aM (Cm (by rw [l];exact iU O k)) e;have t:bl (x/Ol x y).natAbs<=B:=aM (Cm (by rw [D];exact w)) F;have f:¬Np x y:=λh=>by unfold Np at h;omega
 obtain⟨n,j,-⟩:=Zbn f;refine⟨f,?_,Ziu f H,by rw [n];exact t,by rw [j];exact o,?_⟩
 .rw [j];refine dM.1 ?_;rw [l];exact k
 .rw [n,j];exact Zi9 x y
structure En (K Q:Nat) (d:Nat) (z:R2):Prop where
 pos:0<z.2
 dv:z.2∣((Q*2^d:Nat):Int)
 lo:-(K:Rat)<=qv z
 hi:qv z<=(K:Rat)
theorem En.up{Q d:Nat}{z:R2}(h:En K Q d z):En K Q (d+1) z:=by
 obtain⟨e,f,g,j⟩:=h;refine⟨e,?_,g,j⟩;have:((Q*2^(d+1):Nat):Int)=((Q*2^d:Nat):Int)*2:=by rw [dJ];push_cast;grind
 rw [this];exact eV f (fK _ _)
theorem canc{N p s Y X D:Int}(k:p≠0)(g:N*p=s*D)(j:s*Y=X*p):N*Y=X*D:=by refine Int.eq_of_mul_eq_mul_right k ?_;have e:N*Y*p=(N*p)*Y:=O2;have f:X*D*p=(X*p)*D:=O2;rw [e,f,g,<-j];grind
theorem Oi{z:Int}(h:0<z):(0:Rat)<(z:Rat):=by exact_mod_cast h
def Hh{n:Nat}(h:n<2^m):bl n<=m:=(Oo m n).2 h
theorem mid_en{Q d:Nat}{a b:R2}(ha:En K Q d a)(hb:En K Q d b)(hQ:0<Q)(a3:Q*2^(d+1)<2^B)(a4:2*K*(Q*2^d)<2^B)(hB:B<=65536) :
  Dk a b/\En K Q (d+1) (Yv a b)/\qv (Yv a b)=(qv a+qv b)/2/\bl (Yv a b).1.natAbs<=B/\bl (Yv a b).2.natAbs<=B:=by
 obtain⟨pa,⟨f,da⟩,la,ua⟩:=ha;obtain⟨pb,⟨g,db⟩,lb,ub⟩:=hb;generalize M:((Q*2^d:Nat):Int)=Y at *;have S:0<Q*2^d:=eI hQ (cF O3);have l:0<Y:=by rw [<-M];exact_mod_cast S
 have a6:=Oi pa;have a7:=Oi pb;have rY:=Oi l;have G:0<a.2*b.2:=fZ pa pb;have j:(a.1*b.2+b.1*a.2)*Y=(a.1*f+b.1*g)*(a.2*b.2):=by have N:(a.1*f+b.1*g)*(a.2*b.2)=a.1*b.2*(a.2*f)+b.1*a.2*(b.2*g):=O2;rw [N,<-da,<-db];grind
 have a0:(a.1:Rat)*f=qv a*Y:=by
  unfold qv;have:(Y:Rat)=(a.2:Rat)*f:=by rw [da];push_cast;rfl
  rw [this];grind
 have a1:(b.1:Rat)*g=qv b*Y:=by
  unfold qv;have:(Y:Rat)=(b.2:Rat)*g:=by rw [db];push_cast;rfl
  rw [this];grind
 have V:((a.1*f+b.1*g:Int):Rat)=(qv a+qv b)*Y:=by push_cast;rw [a0,a1];grind
 have a5:(a.1*f+b.1*g).natAbs<=2*K*(Q*2^d):=by
  have k:((2*K*(Q*2^d):Nat):Rat)=2*(K:Rat)*(Y:Rat):=by rw [<-M];push_cast;grind
  have t1:=aC (a:=2*(K:Rat)-(qv a+qv b)) (b:=(Y:Rat)) O2 O2;have t2:=aC (a:=2*(K:Rat)+(qv a+qv b)) (b:=(Y:Rat)) O2 O2;have u1:((a.1*f+b.1*g:Int):Rat)<=(((2*K*(Q*2^d):Nat):Int):Rat):=by rw [V];push_cast at k ⊢;grind
  have u2:((-((2*K*(Q*2^d):Nat):Int):Int):Rat)<=((a.1*f+b.1*g:Int):Rat):=by rw [V];push_cast at k ⊢;grind
  have v1:a.1*f+b.1*g<=((2*K*(Q*2^d):Nat):Int):=by exact_mod_cast u1
  have v2:-((2*K*(Q*2^d):Nat):Int)<=a.1*f+b.1*g:=by exact_mod_cast u2
  omega
 have o:Y.natAbs=Q*2^d:=by rw [<-M];rfl
 have R:Q*2^(d+1)=2*(Q*2^d):=by rw [dJ];grind
 have W:bl Y.natAbs<=B:=Hh (by rw [o];omega);have t:bl (a.1*f+b.1*g).natAbs<=B:=Hh O;obtain⟨f1,f2,f3,f4,f5,f6⟩:=Zbp G l j t W hB;have a2:=canc (Int.ne_of_gt G) f6 j;have w:bl (2*Y).natAbs<=B:=Hh (by rw [cN,o];show 2*(Q*2^d)<_;omega);have H:Me (a.1*b.2+b.1*a.2) (a.2*b.2)*1*(2*Y)=(a.1*f+b.1*g)*(Nq (a.1*b.2+b.1*a.2) (a.2*b.2)*2):=by rw [lH];have N:Me (a.1*b.2+b.1*a.2) (a.2*b.2)*(2*Y)=2*(Me (a.1*b.2+b.1*a.2) (a.2*b.2)*Y):=O2;rw [N,a2];grind
 have F:0<Nq (a.1*b.2+b.1*a.2) (a.2*b.2)*2:=O;obtain⟨g1,g2,P,g4,g5,g6⟩:=Zbp F (by omega:0<2*Y) H t w hB;have I:=canc (Int.ne_of_gt F) g6 H;have x:(Yv a b).1=Me (Me (a.1*b.2+b.1*a.2) (a.2*b.2)*1) (Nq (a.1*b.2+b.1*a.2) (a.2*b.2)*2):=rfl;have D:(Yv a b).2=Nq (Me (a.1*b.2+b.1*a.2) (a.2*b.2)*1) (Nq (a.1*b.2+b.1*a.2) (a.2*b.2)*2):=rfl;rw [<-x,<-D]at I;rw [<-D]at g2 P g5;rw [<-x]at g4;have Z:qv (Yv a b)=(qv a+qv b)/2:=by
  have h1:(((Yv a b).1:Int):Rat)*(2*(Y:Rat))=((a.1*f+b.1*g:Int):Rat)*(((Yv a b).2:Int):Rat):=by
   have:(((Yv a b).1*(2*Y):Int):Rat)=(((a.1*f+b.1*g)*(Yv a b).2:Int):Rat):=by rw [I]
   push_cast at this ⊢;grind
  rw [V]at h1;have rd:=Oi P;unfold qv at *;generalize (((Yv a b).1:Int):Rat)=n at *;generalize (((Yv a b).2:Int):Rat)=m at *;generalize (a.1:Rat)/(a.2:Rat)=p at *;generalize (b.1:Rat)/(b.2:Rat)=q at *;generalize (Y:Rat)=y at *;grind
 refine⟨⟨f1,g1⟩,⟨P,?_,by rw [Z];grind,by rw [Z];grind⟩,Z,g4,g5⟩;have e:((Q*2^(d+1):Nat):Int)=2*Y:=by rw [R,<-M];push_cast;rfl
 rw [e];exact g2
end Go.Sky

