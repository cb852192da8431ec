/- Rules, arithmetic and contracts: part 6. No conditions but those that each theorem names. -/
import Derived.Test.YteikicbnfbgpnaaGreatDe04
set_option linter.all false
namespace Go.Sky
variable{p q a b s u xs x y v z:List Int}{c k d r:Int}{f m F i K B:Nat}{t κ:Rat}
theorem Zx4(t:Int):∀p:List Int,Zb p (t:Rat)=((ev1 p t:Int):Rat)
 | []=>rfl
 | c::p=>by have h:=Zx4 t p;rw [show Zb (c::p) (t:Rat)=(c:Rat)+(t:Rat)*Zb p (t:Rat)from rfl,show ev1 (c::p) t=c+t*ev1 p t from rfl,h];push_cast;rfl
theorem Zn7(h:∀x:Rat,Zb p x=0)(i:Nat):cf p i=0:=by
 by_cases j:cf p i=0
 .exact j
 .exfalso;have:=Zrh p.length p ((List.range p.length).map λn:Nat=>(n:Int)) rfl ⟨i,j⟩ (by
   refine List.Pairwise.map _ (λa b g=>?_) List.nodup_range;intro e;exact g (by exact_mod_cast e)) (λt o=>by
   have l:=Zx4 t p;rw [h]at l;exact_mod_cast l.symm)
  simp at this
theorem On(h:∀x:Rat,Zb p x=Zb q x)(i:Nat):cf p i=cf q i:=by have e:=Zn7 (p:=Nr p (q.map λa=>(-1)*a)) (λx=>by rw [Yx,Zh,h x];push_cast;grind) i;rw [Nu,Xs]at e;omega
def Np(p:List Int)(x:Rat):Zb (tzl p) x=Zb p x:=Oa x _ _ λi=>Ky p i
theorem Ya(p q:List Int)(x:Rat):Zb (Qg p q) x=Zb p x*Zb q x:=by rw [<-Zs];exact Oa x _ _ λi=>by rw [Iq,Fs,PS.mul_c];rfl
theorem Qu(c:Int)(x:Rat):Zb [c] x=(c:Rat):=by show(c:Rat)+x*0=c;grind
def ld:List Int->List Int
 | []=>[]
 | _::p=>Nr p (0::ld p)
theorem Zfb(c:Int)(p:List Int)(x:Rat):Zb (ld (c::p)) x=Zb p x+x*Zb (ld p) x:=by rw [show ld (c::p)=Nr p (0::ld p)from rfl,Yx];show Zb p x+(((0:Int):Rat)+x*Zb (ld p) x)=_;push_cast;grind
theorem Zga:∀(p:List Int) (i:Nat),cf (ld p) i=cf p (i+1)*((i:Int)+1)
 | [],i=>by rw [Za3,show ld []=[]from rfl,Za3,dB]
 | c::p,0=>by rw [show ld (c::p)=Nr p (0::ld p)from rfl,Nu];show cf p 0+0=cf p 0*_;simp
 | c::p,i+1=>by have h:=Zga p i;rw [show ld (c::p)=Nr p (0::ld p)from rfl,Nu];show cf p (i+1)+cf (ld p) i=cf p (i+1)*_;rw [h];push_cast;grind
theorem Ly(p:List Int)(x:Rat):Zb (Yu p) x=Zb (ld p) x:=Oa x _ _ λi=>by rw [Zf9,Zga]
theorem Dg(h:∀x,Zb p x=Zb q x)(x:Rat):Zb (ld p) x=Zb (ld q) x:=Oa x _ _ λi=>by rw [Zga,Zga,On h]
theorem Yj6(p q:List Int)(x:Rat):Zb (ld (Nr p q)) x=Zb (ld p) x+Zb (ld q) x:=by rw [<-Yx];exact Oa x _ _ λi=>by rw [Zga,Nu,Nu,Zga,Zga];grind
theorem Bk(c:Int)(p:List Int)(x:Rat):Zb (ld (p.map λa=>c*a)) x=(c:Rat)*Zb (ld p) x:=by rw [<-Zh];exact Oa x _ _ λi=>by rw [Zga,Xs,Xs,Zga];grind
theorem Dz(x:Rat):∀p q:List Int,Zb (ld (lmul p q)) x=Zb (ld p) x*Zb q x+Zb p x*Zb (ld q) x
 | [],q=>by show(0:Rat)=0*Zb q x+0*Zb (ld q) x;grind
 | c::p,q=>by have h:=Dz x p q;rw [show lmul (c::p) q=Nr (q.map λa=>c*a) (0::lmul p q)from rfl,Yj6,Bk,Zfb,Zfb,h,Zs,show Zb (c::p) x=(c:Rat)+x*Zb p x from rfl];grind
def Ed(g a:List Int):Prop:=∃(k:Int) (s:List Int),k≠0/\∀x:Rat,(k:Rat)*Zb a x=Zb s x*Zb g x
theorem Ed.refl(a:List Int):Ed a a:=⟨1,[1],O4,λx=>by rw [Qu]⟩
theorem Ed.nil(g:List Int):Ed g []:=⟨1,[],O4,λx=>by show(((1:Int)):Rat)*0=0*Zb g x;grind⟩
theorem Ed.trans{c:List Int} : Ed a b->Ed b c->Ed a c:=λ⟨k,s,j,h⟩ ⟨m,u,l,e⟩=>
 ⟨k*m,lmul u s,bH j l,λx=>by have n:=h x;have g:=e x;rw [Zs];push_cast;have:(k:Rat)*m*Zb c x=k*(m*Zb c x):=O5;rw [this,g];grind⟩
theorem Ed.congr{g:List Int}(h:Ed g a)(e:∀x,Zb a x=Zb b x):Ed g b:=by obtain⟨k,s,j,h⟩:=h;exact⟨k,s,j,λx=>by rw [<-e x];exact h x⟩
theorem Ed.congr_l{g j:List Int}(h:Ed g a)(e:∀x,Zb g x=Zb j x):Ed j a:=by obtain⟨k,s,l,h⟩:=h;exact⟨k,s,l,λx=>by rw [<-e x];exact h x⟩
theorem Ed.sim{g:List Int}(h:Ed g a)(e:Sim a b):Ed g b:=by
 obtain⟨k,s,o,h⟩:=h;obtain⟨m,n,D,w,e⟩:=e;refine⟨k*n,s.map λc=>m*c,bH o w,λx=>?_⟩;have j:Zb (a.map λc=>m*c) x=Zb (b.map λc=>n*c) x:=Oa x _ _ λi=>by rw [Xs,Xs,e]
 rw [Zh,Zh]at j;rw [Zh];have:=h x;push_cast;have l:(k:Rat)*n*Zb b x=k*(n*Zb b x):=O5;rw [l,<-j];grind
theorem Ed.lin{g c:List Int}(w:Ed g a)(D:Ed g b)(s:List Int)(L:Int)(o:L≠0)(h:∀x,(L:Rat)*Zb c x=Zb s x*Zb a x+Zb b x):Ed g c:=by obtain⟨k,u,G,j⟩:=w;obtain⟨m,v,H,l⟩:=D;refine⟨L*(k*m),Nr ((lmul s u).map λc=>m*c) (v.map λc=>k*c),bH o (bH G H),λx=>?_⟩;have j:=j x;have l:=l x;have h:=h x;rw [Yx,Zh,Zh,Zs];push_cast;have e:(L:Rat)*(k*m)*Zb c x=k*m*(L*Zb c x):=O5;rw [e,h];have n:(k:Rat)*m*(Zb s x*Zb a x+Zb b x)=m*Zb s x*(k*Zb a x)+k*(m*Zb b x):=O5;rw [n,j,l];grind
theorem Zu9{g:List Int}(P:k≠0)(N:Tr g)(M:Tr a)(I:a≠[])(h:∀x:Rat,(k:Rat)*Zb a x=Zb s x*Zb g x):g≠[]/\tzl s≠[]/\(tzl s).length+g.length<=a.length+1:=by
 have o:∀i,k*cf a i=(ps (tzl s)*ps g).c i:=λi=>by have j:=On (p:=a.map λc=>k*c) (q:=lmul (tzl s) g) (λx=>by rw [Zh,Zs,Np];exact h x) i;rw [Xs,Fs]at j;rw [j,PS.mul_c];rfl
 have H:∀i,k*cf a i=0->cf a i=0:=λi hi=>(eX.1 hi).resolve_left P;have l:=M.mem I;have j:tzl s≠[]:=λe=>l (H _ (by rw [o,e,Lr (λt=>Yk (bG _))]));have n:g≠[]:=λe=>l (H _ (by rw [o,e,PS.mul_comm',Lr (λt=>Yk (bG _))]));refine⟨n,j,?_⟩;have Q:=aC.2 j;have R:=aC.2 n;have D:=Cz (p:=tzl s) (q:=g) (a:=(tzl s).length-1) (b:=g.length-1) (λi hi=>Yk O1) (λi hi=>Yk O1);rw [<-o]at D;have w:=bH ((Qh s).mem j) (N.mem n);rcases bC ((tzl s).length-1+(g.length-1)) a.length with G|G
 .omega
 .rw [Yk G,dP]at D;exact absurd D.symm w
theorem Ed.len{g:List Int}(h:Ed g a)(o:Tr g)(n:Tr a)(l:a≠[]):g≠[]/\g.length<=a.length:=by obtain⟨k,s,w,h⟩:=h;obtain⟨e,j,D⟩:=Zu9 w o n l h;have:=aC.2 j;exact⟨e,O1⟩
theorem Ed.same{g:List Int}(h:Ed g a)(G:Tr g)(w:Tr a)(o:a≠[])(M:g.length=a.length):Ed a g:=by
 obtain⟨k,s,H,h⟩:=h;obtain⟨I,j,n⟩:=Zu9 H G w o h;have e:=aC.2 j
 match hs:tzl s,e,n with
 | [c],_,_=>
  have D:c≠0:=by have:=(Qh s).mem j;rw [hs]at this;exact this
  refine⟨c,[k],D,λx=>?_⟩;have l:=h x;rw [<-Np s,hs,Qu]at l;rw [Qu];exact l.symm
 | c::d::r,_,h9=>simp at h9;omega
theorem Zlo:∀(n:Nat) (a b:List Int),Tr a->Tr b->b.length<=n->∃g A B:List Int,Tr g/\Ed g a/\Ed g b/\∀x,Zb g x=Zb A x*Zb a x+Zb B x*Zb b x
 | n,a,[],j,l,_=>⟨a,[1],[],j,Ed.refl a,Ed.nil a,λx=>by rw [Qu];show _=_+0*(0:Rat);push_cast;grind⟩
 | 0,a,c::r,_,_,hl=>absurd hl O7
 | n+1,a,c::b',j,l,hl=>by
  have h:(c::b')≠[]:=O7;generalize c::b'=b at *;obtain⟨k,s,hs⟩:=Av a h;have w:=Lu (l.mem h) k;generalize cf b (b.length-1)^k=L at hs w;have M:=Po a h;obtain⟨g,A,B,G,o,H,I⟩:=Zlo n b (Qb a b) l (Ib j) O1;have D:∀x,(L:Rat)*Zb a x=Zb s x*Zb b x+Zb (Qb a b) x:=λx=>by have:=Ew (a:=L) (c:=-1) (x:=a) (s:=s) (y:=b) (z:=Qb a b) (λt=>by rw [hs t];omega) x;push_cast at this;grind
  refine⟨g,B.map λc=>L*c,Nr A ((lmul B s).map λc=>(-1)*c),G,o.lin H s L w D,o,λx=>?_⟩;rw [Zh,Yx,Zh,Zs,I x];have:=D x;have e:Zb (Qb a b) x=L*Zb a x-Zb s x*Zb b x:=O5;rw [e];push_cast;grind
def Irr(q:List Int):Prop:=Tr q/\2<=q.length/\∀d,Tr d->Ed d q->d.length<=1\/d.length=q.length
theorem Zc2(h:2<=q.length):q≠[]:=λe=>by rw [e]at h;simp at h
theorem Yfb:∀(n:Nat) (q:List Int),q.length<=n->Tr q->2<=q.length->∃p,Irr p/\Ed p q
 | 0,q,G,_,j=>O1
 | n+1,q,G,o,j=>by
  by_cases h:Irr q
  .exact⟨q,h,Ed.refl q⟩
  .have:∃d,Tr d/\Ed d q/\¬(d.length<=1\/d.length=q.length):=by refine bE λD=>h ⟨o,j,λd e g=>bE λw=>D ⟨d,e,g,w⟩⟩
   obtain⟨d,e,g,M⟩:=this;have H:=(g.len e o (Zc2 j)).2;obtain⟨p,I,l⟩:=Yfb n d O1 e O1;exact⟨p,I,l.trans g⟩
theorem Zaa{f h m:List Int}(S:Irr q)(R:k≠0)(e:∀x:Rat,(k:Rat)*(Zb f x*Zb h x)=Zb m x*Zb q x):Ed q f\/Ed q h:=by
 obtain⟨j,n,G⟩:=S;obtain⟨g,A,B,l,o,I,w⟩:=Zlo _ q (tzl f) j (Qh f) (aI _);have Q:=(o.len l j (Zc2 n)).1;rcases G g l o with D|D
 .right
  match g,Q,D,l,w with
  | [c],_,_,l,w=>
   have P:c≠0:=l.mem O7;refine⟨c*k,Nr ((lmul A h).map λc=>k*c) (lmul B m),bH P R,λx=>?_⟩;have H:=w x;have N:=e x;rw [Qu,Np]at H;rw [Yx,Zh,Zs,Zs];push_cast;rw [H];have:(Zb A x*Zb q x+Zb B x*Zb f x)*k*Zb h x=k*Zb A x*Zb q x*Zb h x+Zb B x*(k*(Zb f x*Zb h x)):=O5;rw [this,N];grind
  | c::d::r,_,h9,_,_=>simp at h9
 .left;have M:=o.same l j (Zc2 n) D;exact(M.trans I).congr λx=>Np f x
def Gn(q:List Int):Nat->List Int
 | 0=>[1]
 | n+1=>Qg q (Gn q n)
theorem Aw{q:List Int}(j:Tr q)(g:2<=q.length):∀n,Tr (Gn q n)/\n+1<=(Gn q n).length
 | 0=>⟨.inr (show cf [1] 0≠0 by decide),aI _⟩
 | n+1=>by obtain⟨l,h⟩:=Aw j g n;refine⟨Xt _ _,?_⟩;show n+1+1<=(Qg q (Gn q n)).length;rw [Oe j l (Zc2 g) (λe=>by rw [e]at h;simp at h)];omega
def Fi(q:List Int)(n:Nat)(x:Rat):Zb (Gn q (n+1)) x=Zb q x*Zb (Gn q n) x:=Ya _ _ _
theorem Zn8(q:List Int):∀(n:Nat) (x:Rat),Zb (ld (Gn q (n+1))) x=((n:Rat)+1)*(Zb (Gn q n) x*Zb (ld q) x)
 | n,x=>by
  have e:Zb (ld (Gn q (n+1))) x=Zb (ld (lmul q (Gn q n))) x:=Dg (λy=>by rw [Fi,Zs]) x;rw [e,Dz]
  match n with
  | 0=>
   rw [show Zb (ld (Gn q 0)) x=0 from by rw [show Gn q 0=[1]from rfl,Zfb];show(0:Rat)+x*0=0;grind];simp;grind
  | n+1=>
   rw [Zn8 q n x,Fi];push_cast;grind
theorem Ycl{g u:List Int}{c:Int}{k:Nat}(N:∀x:Rat,Zb p x=Zb s x*Zb g x)(M:∀d,Tr d->Ed d p->Ed d (ld p)->Ed d g)(hq:Irr q)(h1:Ed q s)(h2:Ed q (ld s))(hk:Ed (Gn q k) g):Ed (Gn q (k+1)) g:=by
 obtain⟨o,D,P⟩:=hq;obtain⟨n,j,k1,R⟩:=h1;obtain⟨G,s2,k2,e2⟩:=h2;have Z:∀x:Rat,(n:Rat)*Zb (ld s) x=Zb (ld j) x*Zb q x+Zb j x*Zb (ld q) x:=λx=>by have:=Dg (p:=s.map λa=>n*a) (q:=lmul j q) (λy=>by rw [Zh,Zs];exact R y) x;rwa [Bk,Dz]at this
 have h3:Ed q j:=by
  rcases Zaa (f:=j) (h:=ld q) (m:=Nr (s2.map λa=>n*a) ((ld j).map λa=>(-G)*a)) ⟨o,D,P⟩ k2 (λx=>by have Q:=Z x;have V:=e2 x;rw [Yx,Zh,Zh];push_cast;have:(G:Rat)*(Zb j x*Zb (ld q) x)=n*(G*Zb (ld s) x)-G*(Zb (ld j) x*Zb q x):=O5;rw [this,V];grind)with h9|h9
  .exact h9
  .exfalso;have h8:Ed q (Yu q):=h9.congr λx=>(Ly q x).symm;have S:=Nl q;have:=(h8.len o (Md o) (λe=>by rw [e]at S;simp at S;omega)).2;omega
 obtain⟨w,l,k3,e3⟩:=h3;obtain⟨c,u,kc,eu⟩:=hk;have I:∀x:Rat,((n*w*c:Int):Rat)*Zb p x=Zb (lmul l u) x*Zb (Gn q (k+1+1)) x:=λx=>by rw [N x,Zs,Fi,Fi];push_cast;have Q:=R x;have W:=e3 x;have Y:=eu x;have:(n:Rat)*w*c*(Zb s x*Zb g x)=w*(n*Zb s x)*(c*Zb g x):=O5;rw [this,Q,Y];have:(w:Rat)*(Zb j x*Zb q x)*(Zb u x*Zb (Gn q k) x)=(w*Zb j x)*Zb q x*(Zb u x*Zb (Gn q k) x):=O5;rw [this,W];grind
 have H:n*w*c≠0:=bH (bH k1 k3) kc;generalize n*w*c=C at I H;have hD:∀x:Rat,(C:Rat)*Zb (ld p) x=Zb (ld (lmul l u)) x*Zb (Gn q (k+1+1)) x+Zb (lmul l u) x*((((k+1:Nat):Rat)+1)*(Zb (Gn q (k+1)) x*Zb (ld q) x)):=λx=>by have:=Dg (p:=p.map λa=>C*a) (q:=lmul (lmul l u) (Gn q (k+1+1))) (λy=>by rw [Zh,Zs];exact I y) x;rwa [Bk,Dz,Zn8]at this
 refine M _ (Aw o D _).1 ⟨C,lmul (lmul l u) q,H,λx=>?_⟩ ⟨C,Nr (lmul (ld (lmul l u)) q) ((lmul (lmul l u) (ld q)).map λa=>((k+2:Nat):Int)*a),H,λx=>?_⟩
 .rw [I x,Zs _ (lmul l u),Fi q (k+1)];grind
 .rw [hD x,Yx,Zh,Zs _ (ld (lmul l u)),Zs _ (lmul l u),Fi q (k+1)];push_cast;grind
theorem Ycn{g:List Int}(l:∀x:Rat,Zb p x=Zb s x*Zb g x)(I:Tr g)(D:g≠[])(j:∀d,Tr d->Ed d p->Ed d (ld p)->Ed d g)(M:Tr q)(G:Ed q s)(H:Ed q (ld s)):q.length<=1:=by
 refine bE λh=>?_;obtain⟨r,n,e⟩:=Yfb _ q (aI _) M O1;have o:∀k,Ed (Gn r k) g:=λk=>by
  induction k with
  | zero=>exact⟨1,g,O4,λx=>by rw [show Gn r 0=[1]from rfl,Qu];push_cast;grind⟩
  | succ k N=>exact Ycl (u:=[]) (c:=0) l j n (e.trans G) (e.trans H) N
 obtain⟨w,P⟩:=Aw n.1 n.2.1 g.length;have:=((o g.length).len w I D).2;omega
theorem Yli{d:List Int}(o:Tr b)(g:b≠[])(h:Ed d a)(j:Ed d b):Ed d (Qb a b):=by
  obtain⟨k,s,hs⟩:=Av a g;have n:=Lu (o.mem g) k;generalize cf b (b.length-1)^k=L at hs n;have w:∀x,(L:Rat)*Zb a x=Zb s x*Zb b x+Zb (Qb a b) x:=λx=>by have:=Ew (a:=L) (c:=-1) (x:=a) (s:=s) (y:=b) (z:=Qb a b) (λt=>by rw [hs t];omega) x;push_cast at this;grind
  have l:Ed d (a.map λc=>L*c):=by obtain⟨k,u,D,e⟩:=h;exact⟨k,u.map λc=>L*c,D,λx=>by rw [Zh,Zh];have:=e x;grind⟩
  exact j.lin l (s.map λc=>(-1)*c) 1 O4 λx=>by rw [Zh,Zh];push_cast;have:=w x;grind
theorem Zst{d:List Int} : ∀(f:Nat) {a b:List Int},Tr a->Tr b->Ed d a->Ed d b->Ed d (eu f a b)
  | 0,a,b,_,_,e,_=>e
  | f+1,a,b,l,j,e,h=>by
    by_cases g:b=[]
    . rw [g,Zg6];exact e
    . rw [show eu (f + 1) a b = eu f b (Zu (Qb a b)) by
          conv=>lhs;unfold eu
          rw [aE g]]
      have t1:=Ib (q:=b) l;exact Zst f j (Yr t1) h ((Yli j g e h).sim (Qf t1).symm)
theorem Zj8{d:List Int}(e:Tr p)(g:Tr q)(h:Ed d p)(j:Ed d q):Ed d (Ny F p q):=by
  have l:=h.sim (Qf e).symm;have n:=j.sim (Qf g).symm;unfold Ny;refine Ed.sim ?_ (Ik _).symm;refine Zst F (Zja e g) (Zi9 e g) ?_ ?_
  . unfold gA;split<;>assumption
  . unfold gB;split<;>assumption
theorem Ze2(j:Tr xs)(l:xs≠[])(e:eok F (gA (Yw xs) (Yu (Yw xs))) (gB (Yw xs) (Yu (Yw xs))))(w:Tr q)(n:Ed q (sqf F xs))(o:Ed q (Yu (sqf F xs))):q.length<=1:=by
  obtain⟨f1,f2,f3,f4,f5,f6⟩:=Pz (F:=F) j l e;have hs:Tr (Yw xs):=Ol (Yr j);have h:Tr (Yu (Yw xs)):=Md hs;refine Ycn (p:=Yw xs) (s:=sqf F xs) (g:=Ny F (Yw xs) (Yu (Yw xs))) (λx=>?_) (Zez hs h) f5 (λd _ a b=>?_) w n (o.congr λx=>Ly _ x)
  . have:Zb (Yw xs) x=Zb (Qg (sqf F xs) (Ny F (Yw xs) (Yu (Yw xs)))) x:=by rw [<-f4]
    rw [this,Ya]
  . exact Zj8 hs h a (b.congr λx=>(Ly _ x).symm)
theorem Zah:∀(l:List Int) (n z:Int),(l.foldl Mc (n,z)).1=n+(l.foldl Mc (0,z)).1
 | [],n,z=>O7
 | x::l,n,z=>by
  simp only [gY];by_cases h:x=0
  .have e:∀n,Mc (n,z) x=(n,z):=λn=>by unfold Mc;rw [aH h]
   rw [e,e];exact Zah l n z
  .by_cases g:x=-z
   .have e:∀n,Mc (n,z) x=(n+1,x):=λn=>by unfold Mc;rw [aE h,aH (by dsimp only;exact g)]
    rw [e,e,Zah l (n+1) x,Zah l (0+1) x];omega
   .have e:∀n,Mc (n,z) x=(n,x):=λn=>by unfold Mc;rw [aE h,aE (by dsimp only;exact g)]
    rw [e,e];exact Zah l n x
theorem Yme{x y:Int}(l:List Int)(n:y≠0):chg (x::y::l)=chg (y::l)+(if x=-y then 1 else 0):=by
 unfold chg;simp only [gY];have g:Mc (0,0) y=(0,y):=by unfold Mc;rw [aE n,aE O10]
 rw [g];by_cases j:x=0
 .have e:Mc (0,0) x=(0,0):=by unfold Mc;rw [aH j]
  rw [e,g,aE O1];omega
 .have e:Mc (0,0) x=(0,x):=by unfold Mc;rw [aE j,aE O10]
  rw [e];have o:Mc (0,x) y=(if x=-y then 1 else 0,y):=by
   unfold Mc;rw [aE n];by_cases h:x=-y
   .rw [aH O10,aH h];rfl
   .rw [aE O10,aE h]
  rw [o,Zah];omega
def crs(f:Rat->Rat)(u v:Rat):Int:=if f u≠0/\f u*f v<=0 then 1 else 0
theorem Zii(s t:Rat):∀p:List Int,∃M:Rat,0<M/\∀x y,s<=x->x<=y->y<=t->
  -(M*(y-x)*(y-x))<=Zb p y-Zb p x-(y-x)*Zb (ld p) x/\Zb p y-Zb p x-(y-x)*Zb (ld p) x<=M*(y-x)*(y-x)
 | []=>⟨1,O4,λx y Y Z h3=>by have:=aG (a:=y-x) (b:=y-x) O5 O5;show -(1*(y-x)*(y-x))<=(0:Rat)-0-(y-x)*0/\(0:Rat)-0-(y-x)*0<=1*(y-x)*(y-x);constructor<;>grind⟩
 | c::p=>by obtain⟨M,N,P⟩:=Zii s t p;obtain⟨L,l1,I⟩:=Dy s t p;obtain⟨K,G,H⟩:=Yle s t;refine⟨L+K*M,by have:=aT G N;grind,λx y hs h l=>?_⟩;obtain⟨n,o⟩:=P x y hs h l;obtain⟨R,S⟩:=I x y hs h l;obtain⟨w,D⟩:=H x hs O5;have j:0<=y-x:=O5;obtain⟨f1,f2⟩:=Za8 (q:=x) (Q:=K) (g:=Zb p y-Zb p x-(y-x)*Zb (ld p) x) (e:=M*(y-x)*(y-x)) w D n o O5;have V:=aG (a:=y-x) (b:=L*(y-x)-(Zb p y-Zb p x)) j O5;have W:=aG (a:=y-x) (b:=L*(y-x)+(Zb p y-Zb p x)) j O5;rw [Zfb,show Zb (c::p) y=(c:Rat)+y*Zb p y from rfl,show Zb (c::p) x=(c:Rat)+x*Zb p x from rfl];constructor<;>grind
theorem Zyt(G:Tr a)(hb:Tr b)(h0:a≠[])(hc:∀q,Tr q->Ed q a->Ed q b->q.length<=1)(s t:Rat):∃ε:Rat,0<ε/\∀x,s<=x->x<=t->Big ε x (Zb a)\/Big ε x (Zb b):=by
 obtain⟨g,A,B,e,o,g3,j⟩:=Zlo _ a b G hb (aI _);have hl:=hc g e o g3;have hg:=(o.len e G h0).1
 match g,hg,hl,e,j with
 | [c],_,_,e,j=>
  have n:c≠0:=e.mem O7;obtain⟨P,p1,p2⟩:=Zrl s t A;obtain⟨Q,q1,q2⟩:=Zrl s t B;obtain⟨ε,Z,e2,e3⟩:=He (show(0:Rat)<1 by decide) (show 0<(P+Q)+(P+Q) by grind) (show(0:Rat)<1 by decide);refine⟨ε,Z,λx hs H=>?_⟩;by_cases w:Big ε x (Zb a)
  .exact .inl w
  .by_cases D:Big ε x (Zb b)
   .exact .inr D
   .exfalso;obtain⟨I,M⟩:=Zc0 w;obtain⟨N,R⟩:=Zc0 D;obtain⟨S,V⟩:=p2 x hs H;obtain⟨W,Y⟩:=q2 x hs H;obtain⟨u1,u2⟩:=Za8 S V I M O5;obtain⟨v1,v2⟩:=Za8 W Y N R O5;have h4:=j x;rw [Qu]at h4;have l:(c:Rat)<=-1\/1<=(c:Rat):=by
     rcases nW n with h|h
     .left;have:((c:Int):Rat)<=((-1:Int):Rat):=by exact_mod_cast (show c<=-1 by omega)
      rwa [show(((-1:Int)):Rat)=-1 from rfl]at this
     .right;have:1<=c:=O1;exact_mod_cast this
    rcases l with l|l<;>grind
 | c::d::r,_,h9,_,_=>simp at h9
theorem Big.near{ε x y:Rat}{f:Rat->Rat}(h:Big ε x f)(e:f x-f y<=ε/2)(g:f y-f x<=ε/2):Big (ε/2) y f:=by unfold Big at *;grind
theorem Zhn(x:Rat):Fx x=-1↔x<0:=by
 unfold Fx;by_cases h:x<0
 .rw [aH h];simp [h]
 .rw [aE h];by_cases e:x=0
  .rw [aH e];simp [h]
  .rw [aE e];simp [h]
theorem Ydh(x:Rat):Fx (-x)=- Fx x:=by
 unfold Fx;by_cases h:x<0
 .rw [aH h,aE O5,aE O5];rfl
 .rw [aE h];by_cases e:x=0
  .rw [aH e,aE O5,aH O5];rfl
  .rw [aE e,aH O5]
theorem Zmb{f g:Rat->Rat}(r:List (Rat->Rat)){x:Rat}(h:Fx (g x)≠0):vat (f::g::r) x=vat (g::r) x+(if Fx (f x)=- Fx (g x)then 1 else 0):=by unfold vat;simp only [cP];exact Yme _ h
def Tay(s t M:Rat)(p:List Int):Prop:=∀x y,s<=x->x<=y->y<=t->-(M*(y-x)*(y-x))<=Zb p y-Zb p x-(y-x)*Zb (ld p) x/\Zb p y-Zb p x-(y-x)*Zb (ld p) x<=M*(y-x)*(y-x)
theorem Zhi {s:Rat}   (ha:Tr a) (hb:Tr b) (a2:cok f a b)  (hκ:0<κ) (Z:∀x,Zb (ld a) x=κ*Zb b x)
  {ε L L' M h:Rat} (e1:0<ε) (e2:∀x,s<=x->x<=t->Big ε x (Zb a)\/Big ε x (Zb b)) (l1:0<=L) (l2:Lip s t L (Zb a)) (b0:0<=L') (P:Lip s t L' (Zb b)) (m1:0<=M) (m2:Tay s t M a)
  (h5:0<h) (h3:h*(L+L')<=ε/2) (h7:h*M<=κ*ε/2) {u v:Rat} (hs:s<=u) (j:u<=v) (ht:v<=t) (hh:v-u<=h) :
  vat ((Mi f a b).map Zb) u-vat ((Mi f a b).map Zb) v=crs (Zb a) u v:=by
 have S:∀w,u<=w->w<=v->L*(w-u)<=ε/2/\L'*(w-u)<=ε/2:=λw l o=>by have p1:=aG (a:=L) (b:=h-(w-u)) O5 O5;have p2:=aG (a:=L') (b:=h-(w-u)) O5 O5;have p3:=aG (a:=L) (b:=h) O5 O5;have p4:=aG (a:=L') (b:=h) O5 O5;constructor<;>grind
 by_cases G:Big ε u (Zb a)
 .have hB:∀w,u<=w->w<=v->Big (ε/2) w (Zb a):=λw l o=>by obtain⟨x1,x2⟩:=l2 u w hs l O5;have:=S w l o;exact G.near O5 O5
  rw [Ze6 ha hb a2 j (show 0<ε/2 by grind) hB];have hv:=hB v j O5;have:crs (Zb a) u v=0:=by
   unfold crs;refine aE λ⟨_,R⟩=>?_;obtain⟨x1,x2⟩:=l2 u v hs j ht;have a7:=S v j O5;unfold Big at G hv;rcases G with hp|hp
   .have:0<Zb a v:=O5;have:=aT (show 0<Zb a u by grind) this;grind
   .have:0 < - Zb a v:=O5;have:=aT (show 0 < - Zb a u by grind) this;grind
  omega
 .have n:Big ε u (Zb b):=(e2 u hs O5).resolve_left G;have hB:∀w,u<=w->w<=v->Big (ε/2) w (Zb b):=λw l o=>by obtain⟨x1,x2⟩:=P u w hs l O5;have:=S w l o;exact n.near O5 O5
  have a3:b≠[]:=λe=>by rw [e]at n;unfold Big at n;have:Zb [] u=0:=rfl;rw [this]at n;grind
  obtain⟨g,hg,hd,a9,W,a5⟩:=Zle a2 a3;have hT:=Ze6 hb (Zbh ha) W j (show 0<ε/2 by grind) hB;obtain⟨r,hr,_,_,_⟩:=Zmt (s:=u) (t:=v) g b (Nb a b) hb (Zbh ha) W;rw [a5,hr];rw [hr]at hT;simp only [cP]at hT ⊢;have a6:∃σ:Rat,(σ=1\/σ=-1)/\ε<σ*Zb b u/\∀w,u<=w->w<=v->0<σ*Zb b w:=by
   unfold Big at n;rcases n with hp|hp
   .refine⟨1,.inl rfl,O5,λw l o=>?_⟩;obtain⟨x1,x2⟩:=P u w hs l O5;have:=S w l o;grind
   .refine⟨-1,.inr rfl,O5,λw l o=>?_⟩;obtain⟨x1,x2⟩:=P u w hs l O5;have:=S w l o;grind
  obtain⟨σ,hσ,a8,V⟩:=a6;have D:u<v->σ*Zb a u<σ*Zb a v:=λH=>by
   obtain⟨y1,y2⟩:=m2 u v hs j ht;rw [Z u]at y1 y2;have hd:0<v-u:=O5;have z1:M*(v-u)<=κ*ε/2:=by have:=aG (a:=M) (b:=h-(v-u)) O5 O5;grind
   have z2:0<κ*(σ*Zb b u)-M*(v-u):=by have:=aT hκ (show 0<σ*Zb b u-ε by grind);have:=aT hκ e1;grind
   have z3:=aT hd z2;rcases hσ with rfl|rfl<;>grind
  have a1:∀w,u<=w->w<=v->Fx (Zb b w)≠0:=λw l o=>by
   have:=V w l o;rcases hσ with rfl|rfl
   .rw [Bh O5];decide
   .rw [Bi O5];decide
  rw [Zmb _ (a1 u O5 j),Zmb _ (a1 v j O5),hT];have I:∀w,u<=w->w<=v->(Fx (Zb a w)=- Fx (Zb b w)↔σ*Zb a w<0):=λw l o=>by
   have:=V w l o;rcases hσ with rfl|rfl
   .rw [Bh (x:=Zb b w) O5,Zhn];constructor<;>intro<;>grind
   .rw [Bi (x:=Zb b w) O5,show(-(-1:Int))=- -1 from rfl];have R:=Zhn (-(Zb a w));rw [Ydh]at R;constructor
    .intro h8;have:=R.1 O1;grind
    .intro h8;have:=R.2 O5;omega
  rw [show(if Fx (Zb a u)=- Fx (Zb b u)then(1:Int)else 0)=if σ*Zb a u<0 then 1 else 0 from by simp only [I u O5 j]];rw [show(if Fx (Zb a v)=- Fx (Zb b v)then(1:Int)else 0)=if σ*Zb a v<0 then 1 else 0 from by simp only [I v j O5]];have Y:crs (Zb a) u v=if σ*Zb a u<0/\¬σ*Zb a v<0 then 1 else 0:=by
   unfold crs;have a4:Zb a u*Zb a v=(σ*Zb a u)*(σ*Zb a v):=by rcases hσ with rfl|rfl<;>grind
   have hz:Zb a u≠0↔σ*Zb a u≠0:=by rcases hσ with rfl|rfl<;>constructor<;>intro R h8<;>exact R O5
   have a0:(Zb a u≠0/\Zb a u*Zb a v<=0)↔(σ*Zb a u<0/\¬σ*Zb a v<0):=by
    rw [a4,hz];generalize hp:σ*Zb a u=p at *;generalize hq:σ*Zb a v=q at *;constructor
    .intro ⟨n1,n2⟩;rcases(show u<v\/u=v by grind)with H|N
     .have:=D H;rcases(show p<0\/0<p by grind)with Q|Q
      .refine⟨Q,λn4=>?_⟩;have:=aT (show 0 < -p by grind) (show 0 < -q by grind);grind
      .have:=aT Q (show 0<q by grind);grind
     .exfalso;have:q=p:=by rw [<-hp,<-hq,N]
      rw [this]at n2;rcases(show p<0\/0<p by grind)with Q|Q
      .have:=aT (show 0 < -p by grind) (show 0 < -p by grind);grind
      .have:=aT Q Q;grind
    .intro ⟨n1,n2⟩;refine⟨O5,?_⟩;have:=aG (show 0<=-p by grind) (show 0<=q by grind);grind
   simp only [a0]
  rw [Y];by_cases k1:σ*Zb a u<0<;>by_cases k2:σ*Zb a v<0
  .simp [k1,k2]
  .simp [k1,k2];omega
  .exfalso;rcases(show u<v\/u=v by grind)with H|N
   .have:=D H;grind
   .rw [N]at k1;exact k1 k2
  .simp [k1,k2]
theorem Zjh{s:Rat}(D:Tr a)(G:Tr b)(N:a≠[])(g:cok f a b)(H:0<κ)(e:∀x,Zb (ld a) x=κ*Zb b x)(S:∀q,Tr q->Ed q a->Ed q b->q.length<=1) :
  ∃h:Rat,0<h/\∀u v,s<=u->u<=v->v<=t->v-u<=h->vat ((Mi f a b).map Zb) u-vat ((Mi f a b).map Zb) v=crs (Zb a) u v:=by
 obtain⟨ε,o,I⟩:=Zyt D G N S s t;obtain⟨L,l1,Z⟩:=Dy s t a;obtain⟨n,Y,l⟩:=Dy s t b;obtain⟨M,m1,m2⟩:=Zii s t a;obtain⟨P,Q,h3,h4⟩:=He (show(0:Rat)<1 by decide) (show 0<L+n by grind) (show 0<ε/2 by grind);obtain⟨h,w,h6,R⟩:=He Q m1 (show 0<κ*ε/2 by have:=aT H o;grind);refine⟨h,w,λu v hs j W V=>Zhi D G g H e o I O5 Z O5 l O5 m2 w ?_ R hs j W V⟩;have:=aG (a:=L+n) (b:=P-h) O5 O5;grind
theorem Yfe:∀(n m:Nat) (f:Nat->Nat),(∀k,k<n->f k<m)->(∀a b,a<n->b<n->f a=f b->a=b)->n<=m
 | 0,_,_,_,_=>bG _
 | n+1,m,f,g,hi=>by
  have j:=g n O1;have:=Yfe n (m-1) (λk=>if f n<f k then f k-1 else f k) (λk G=>by
   have l:=g k O1;have h:f k≠f n:=λe=>by have:=hi k n O1 O1 e;omega
   split<;>omega) (λa b w D e=>by
   have h:f a≠f n:=λe=>by have:=hi a n O1 O1 e;omega
   have o:f b≠f n:=λe=>by have:=hi b n O1 O1 e;omega
   refine hi a b O1 O1 ?_;split at e<;>split at e<;>omega)
  omega
theorem php{n:Nat}{f:Nat->Nat}(h:m<n)(w:∀k,k<n->f k<m):∃a b,a<n/\b<n/\a≠b/\f a=f b:=by refine bE λj=>?_;have:=Yfe n m f w λa b l o e=>bE λg=>j ⟨a,b,l,o,g,e⟩;omega
def enc(B:Nat)(d:Nat->Nat):Nat->Nat
 | 0=>0
 | n+1=>enc B d n+d n*B^n
theorem Zpo{B:Nat}{d:Nat->Nat} : ∀n,(∀i,i<n->d i<B)->enc B d n<B^n
 | 0,_=>by simp [enc]
 | n+1,h=>by have j:=Zpo n λi hi=>h i O1;have e:=h n O1;have g:(d n+1)*B^n<=B*B^n:=aN _ e;rw [bK,nK]at g;rw [bX,aP (B^n) B];show enc B d n+d n*B^n<_;omega
theorem Zx9{B:Nat}{d e:Nat->Nat} : ∀n,(∀i,i<n->d i<B)->(∀i,i<n->e i<B)->enc B d n=enc B e n->∀i,i<n->d i=e i
 | 0,_,_,_,i,hi=>absurd hi (cI i)
 | n+1,g,j,h,i,hi=>by
  have D:=Zpo n λi hi=>g i O1;have G:=Zpo n λi hi=>j i O1;have h:enc B d n+d n*B^n=enc B e n+e n*B^n:=h;have w:0<B^n:=O1;have o:d n=e n:=by
   have H:(enc B d n+d n*B^n)/B^n=d n:=by rw [nB _ _ w,cS D,bW]
   have I:(enc B e n+e n*B^n)/B^n=e n:=by rw [nB _ _ w,cS G,bW]
   rw [<-H,<-I,h]
  rcases bC i n with l|l
  .exact Zx9 n (λi hi=>g i O1) (λi hi=>j i O1) (by rw [o]at h;omega) i l
  .rw [show i=n by omega];exact o
def dig(B k j:Nat):Nat:=k/B^j%B
theorem Zpp(B k:Nat):∀n,enc B (dig B k) n=k%B^n
 | 0=>by simp [enc,nF]
 | n+1=>by show enc B (dig B k) n+dig B k n*B^n=_;rw [Zpp B k n,bX,nG];unfold dig;rw [aP]
theorem Zjg{f:Nat->Int}{C:Int} : ∀n,(∀i,i<n->-C<=f i/\f i<=C)->-((n:Int)*C)<=Yd f n/\Yd f n<=(n:Int)*C
 | 0,_=>by simp [Mz]
 | n+1,h=>by
  have g:=Zjg n λi hi=>h i O1;have j:=h n O1;have e:((n+1:Nat):Int)*C=(n:Int)*C+C:=by push_cast;grind
  rw [Yf,e];omega
theorem Zmj(f g:Nat->Int):∀n,Yd (λi=>f i-g i) n=Yd f n-Yd g n
 | 0=>by simp [Mz]
 | n+1=>by rw [Yf,Yf,Yf,Zmj f g n];omega
theorem siegel{N M A:Nat}(a0:M<N)(hA:0<A)(c:Nat->Nat->Int)(hc:∀i j,i<M->j<N->(c i j).natAbs<=A) :
  ∃x:Nat->Int,(∃j,j<N/\x j≠0)/\(∀j,j<N->(x j).natAbs<=(2*N*A)^M)/\∀i,i<M->Yd (λj=>c i j*x j) N=0:=by
 generalize hX:(2*N*A)^M=X;generalize Z:N*(A*X)=W;let d:=λk j=>dig (X+1) k j;have H:∀k j,d k j<=X:=λk j=>oE (bN _ (kK X));let y:=λk i=>Yd (λj=>c i j*(d k j:Int)) N;have R:∀k i,i<M->-(W:Int)<=y k i/\y k i<=(W:Int):=λk i hi=>by
  have g:=Zjg (f:=λj=>c i j*(d k j:Int)) (C:=((A*X:Nat):Int)) N λj P=>by
   have h:=hc i j hi P;have w:(c i j*(d k j:Int)).natAbs<=A*X:=by rw [cF,dC];exact aQ h (H k j)
   omega
  have l:((N:Int)*((A*X:Nat):Int))=(W:Int):=by rw [<-Z];push_cast;rfl
  rw [l]at g;exact g
 let e:=λk=>enc (2*W+1) (λi=>(y k i+(W:Int)).toNat) M;have I:∀k i,i<M->(y k i+(W:Int)).toNat<2*W+1:=λk i hi=>by have:=R k i hi;omega
 have Q:(2*W+1)^M<(X+1)^N:=by
  have g:2*W+1<=(2*N*A)*(X+1):=by
   have:0<N*A:=gD O1 hA;have o:2*N*A*(X+1)=2*W+2*(N*A):=by rw [<-Z];grind
   omega
  have h:=fT g M;rw [Nat.mul_pow,hX]at h;have w:(X+1)^(M+1)<=(X+1)^N:=dE O1 O1;rw [bX]at w;have l:0<(X+1)^M:=cD O1;have h5:X*(X+1)^M<(X+1)^M*(X+1):=by rw [aP];exact gV O1 l
  omega
 obtain⟨a,b,ha,hb,G,hf⟩:=php (f:=e) Q (λk _=>Zpo M (I k));have S:=Zx9 M (I a) (I b) hf;refine⟨λj=>(d a j:Int)-(d b j:Int),?_,λj _=>?_,λi hi=>?_⟩
 .refine bE λh9=>G ?_;have h8:∀j,j<N->d a j=d b j:=λj P=>bE λD=>h9 ⟨j,P,λY=>D (by have Y:(d a j:Int)-(d b j:Int)=0:=Y;omega)⟩;have o:=Zpp (X+1) a N;have V:=Zpp (X+1) b N;rw [aS ha]at o;rw [aS hb]at V;have e3:∀n,n<=N->enc (X+1) (dig (X+1) a) n=enc (X+1) (dig (X+1) b) n:=λn=>by
   induction n with
   | zero=>intro _;rfl
   | succ n ih=>
    intro hn;have D:dig (X+1) a n=dig (X+1) b n:=h8 n O1;show enc _ _ n+dig (X+1) a n*_=enc _ _ n+dig (X+1) b n*_;rw [ih O1,D]
  rw [<-o,<-V];exact e3 N (aI _)
 .have g:=H a j;have h:=H b j;dsimp only;omega
 .have g:Yd (λj=>c i j*((d a j:Int)-(d b j:Int))) N=y a i-y b i:=by rw [<-Zmj];exact Yp λj _=>O5
  rw [g];have h:=S i hi;have w:=R a i hi;have l:=R b i hi;omega
theorem Zhg(f:Nat->Int)(p:Nat):∀q,Yd f (p+q)=Yd f p+Yd (λk=>f (p+k)) q
 | 0=>by simp [Mz]
 | q+1=>by rw [<-fX,Yf,Yf,Zhg f p q];omega
def sft(a:List Int)(t k:Nat):Int:=if k<=t then cf a (t-k)else 0
theorem Zld{U:List Int}{p:Nat}(h:U.length=p)(t:Nat):(ps U*ps a).c t=Yd (λk=>sft a t k*cf U k) p:=by rw [<-Ztu,<-h];refine Yp λk _=>?_;unfold sft;split<;>grind
theorem Zdc{U:List Int}{p t:Nat}(h:U.length<=p)(j:p+a.length<=t+1):(ps U*ps a).c t=0:=by
 rw [PS.mul_c];refine Fe λk g=>?_;rw [Nc,Nc];rcases bC k U.length with e|e
 .rw [Yk (p:=a) O1,dP]
 .rw [Yk e,dB]
theorem Zhk{p q lo A:Nat}(D:0<A)(G:∀i,(cf a i).natAbs<=A)(H:∀i,(cf b i).natAbs<=A)(P:0<p+q)(Q:p+a.length<=p+q+lo)(R:q+b.length<=p+q+lo) :
  ∃U V:List Int,U.length=p/\V.length=q/\((∃i,cf U i≠0)\/∃i,cf V i≠0)/\(∀i,(cf U i).natAbs<=(2*(p+q)*A)^(p+q-1))/\(∀i,(cf V i).natAbs<=(2*(p+q)*A)^(p+q-1))/\
   ∀t,lo<=t->(ps U*ps a).c t+(ps V*ps b).c t=0:=by
 obtain⟨x,⟨j,S,e⟩,w,I⟩:=siegel (N:=p+q) (M:=p+q-1) (A:=A) O1 D (λi j=>if j<p then sft a (lo+i) j else sft b (lo+i) (j-p)) (λi j _ _=>by
  split<;>unfold sft<;>split
  .exact G _
  .simp
  .exact H _
  .simp)
 have l:∀i,cf (mk p x) i=if i<p then x i else 0:=λi=>Ng _ _ _
 have n:∀i,cf (mk q λk=>x (p+k)) i=if i<q then x (p+i)else 0:=λi=>Ng _ _ _
 refine⟨mk p x,mk q λk=>x (p+k),Yj _ _,Yj _ _,?_,λi=>?_,λi=>?_,λt W=>?_⟩
 .rcases bC j p with h|h
  .exact .inl ⟨j,by rw [l,aH h];exact e⟩
  .exact .inr ⟨j-p,by rw [n,aH O1,show p+(j-p)=j by omega];exact e⟩
 .rw [l];split
  .exact w i O1
  .exact bG _
 .rw [n];split
  .exact w _ O1
  .exact bG _
 .rcases bC (t-lo) (p+q-1)with h|h
  .have o:=I (t-lo) h;rw [show lo+(t-lo)=t by omega,Zhg]at o;rw [Zld (Yj _ _),Zld (Yj _ _),<-o];congr 1
   .exact Yp λk g=>by rw [aH g,l,aH g]
   .exact Yp λk g=>by rw [aE O1,n,aH g,show p+k-p=k by omega]
  .rw [Zdc (oI (Yj _ _)) O1,Zdc (oI (Yj _ _)) O1];rfl
theorem Zyu{U:List Int}{p t X A:Nat}(h:U.length=p)(j:∀i,(cf U i).natAbs<=X)(l:∀i,(cf a i).natAbs<=A):((ps U*ps a).c t).natAbs<=p*(X*A):=by
 rw [Zld h];have e:=Zjg (f:=λk=>sft a t k*cf U k) (C:=((X*A:Nat):Int)) p λk _=>by
  have:(sft a t k*cf U k).natAbs<=X*A:=by
   rw [cF,aP];refine aQ (j k) ?_;unfold sft;split
   .exact l _
   .simp
  omega
 have g:((p:Int)*((X*A:Nat):Int))=((p*(X*A):Nat):Int):=by push_cast;rfl
 rw [g]at e;omega
theorem Zff{w:List Int}{n:Nat}(h:∀x,Zb w x=Zb q x*Zb y x)(H:Tr y)(l:y≠[])(G:∀i,n<=i->cf w i=0):tzl q=[]\/(tzl q).length+y.length<=n+1:=by
 by_cases g:tzl q=[]
 .exact .inl g
 .right;have D:∀i,cf w i=(ps (tzl q)*ps y).c i:=λi=>by rw [On (p:=w) (q:=lmul (tzl q) y) (λx=>by rw [Zs,Np];exact h x) i,Fs,PS.mul_c];rfl
  have I:=aC.2 g;have M:=aC.2 l;have j:=Cz (p:=tzl q) (q:=y) (a:=(tzl q).length-1) (b:=y.length-1) (λi hi=>Yk O1) (λi hi=>Yk O1);rw [<-D]at j;have e:=bH ((Qh q).mem g) (H.mem l);rcases bC ((tzl q).length-1+(y.length-1)) n with o|o
  .omega
  .rw [G _ o]at j;exact absurd j.symm e
theorem Fl{f:List Int}(j:tzl v≠[])(h:∀x,Zb v x*Zb f x=0)(x:Rat):Zb f x=0:=by
 by_cases e:tzl f=[]
 .rw [<-Np,e];rfl
 .exfalso;rcases Zff (w:=[]) (q:=v) (y:=tzl f) (n:=0) (λx=>by rw [Np,h x];rfl) (Qh f) e (λi _=>Za3 i)with g|g
  .exact j g
  .have:=aC.2 e;have:=aC.2 j;omega
structure Inv (a b x y:List Int):Prop where
 ex:∃(α β γ:Int) (u' v' u v:List Int),α≠0/\β≠0/\γ≠0/\
  (∀t:Rat,(α:Rat)*Zb x t=Zb u' t*Zb a t+Zb v' t*Zb b t)/\(∀t:Rat,(β:Rat)*Zb y t=Zb u t*Zb a t+Zb v t*Zb b t)/\
  (∀t:Rat,Zb u' t*Zb v t-Zb u t*Zb v' t=(γ:Rat))/\(tzl v).length<=a.length-x.length+1/\(tzl v').length<=a.length-x.length+1
 xl:x.length<=b.length
 yl:y.length<x.length
theorem Zw5{L:Int}(g:Tr y)(e:y≠[])(j:z.length<=x.length)(h:∀t:Rat,(L:Rat)*Zb x t=Zb q t*Zb y t+(c:Rat)*Zb z t):tzl q=[]\/(tzl q).length+y.length<=x.length+1:=
 Zff (w:=Nr (x.map λa=>L*a) (z.map λa=>(-c)*a)) (n:=x.length) (λt=>by rw [Yx,Zh,Zh];have:=h t;push_cast;grind) g e λi hi=>by rw [Nu,Xs,Xs,Yk hi,Yk (p:=z) O1];omega
theorem Bp{n:Nat}(h:(tzl p).length<=m)(j:(tzl q).length<=n)(i:Nat)(hi:m+n<=i+1):cf (lmul p q) i=0:=by have g:cf (lmul p q) i=cf (lmul (tzl p) (tzl q)) i:=On (λx=>by rw [Zs,Zs,Np,Np]) i;rw [g,Fs];have e:=Zdc (U:=tzl p) (a:=tzl q) (p:=m) (t:=i) h O1;rw [PS.mul_c]at e;exact e
def Zno{n:Nat}(h:∀i,n<=i->cf p i=0):(tzl p).length<=n:=Zap h
theorem Zy4{n:Nat}(h:(tzl p).length<=n)(hi:n<=i):cf p i=0:=by rw [<-Ky];exact Yk O1
theorem Inv.next{z':List Int}{L:Int}(W:Inv a b x y)(Z:b.length<=a.length)(hx:Tr x)(hy:Tr y)(V:y≠[])(Y:L≠0)(h:∀t:Rat,(L:Rat)*Zb x t=Zb q t*Zb y t+Zb z' t)(hz:Sim z' z)(l:z.length<y.length):Inv a b y z:=by
 obtain⟨⟨α,β,γ,u',I,u,v,hα,o,hγ,R,D,S,l1,l2⟩,xl,yl⟩:=W;obtain⟨m,n,hm,hn,hs⟩:=hz;have j:∀t:Rat,(m:Rat)*Zb z' t=(n:Rat)*Zb z t:=λt=>by
  have:=Oa t (z'.map λa=>m*a) (z.map λa=>n*a) λi=>by rw [Xs,Xs,hs]
  rwa [Zh,Zh]at this
 have G:∀t:Rat,((L*m:Int):Rat)*Zb x t=Zb (q.map λa=>m*a) t*Zb y t+(n:Rat)*Zb z t:=λt=>by rw [Zh];push_cast;have:=h t;have:=j t;grind
 have e:=Zw5 hy V O1 G;have g:(tzl (q.map λa=>m*a)).length<=x.length-y.length+1:=by
  rcases e with H|H
  .rw [H];simp
  .omega
 generalize hQ:(q.map λa=>m*a)=Q at *;have w:∀t:Rat,((n*(α*β):Int):Rat)*Zb z t=Zb (Nr (u'.map λc=>(L*m*β)*c) ((lmul Q u).map λc=>(-α)*c)) t*Zb a t+Zb (Nr (I.map λc=>(L*m*β)*c) ((lmul Q v).map λc=>(-α)*c)) t*Zb b t:=λt=>by rw [Yx,Yx,Zh,Zh,Zh,Zh,Zs,Zs];have M:=G t;have N:=R t;have P:=D t;push_cast at M ⊢;have:(n:Rat)*(α*β)*Zb z t=α*β*(n*Zb z t):=O5;rw [this,show(n:Rat)*Zb z t=L*m*Zb x t-Zb Q t*Zb y t by grind];have:(α:Rat)*β*(L*m*Zb x t-Zb Q t*Zb y t)=L*m*β*(α*Zb x t)-α*Zb Q t*(β*Zb y t):=O5;rw [this,N,P];grind
 refine⟨⟨β,n*(α*β),-(L*m*β*γ),u,v,_,_,o,bH hn (bH hα o),?_,D,w,λt=>?_,?_,?_⟩,O1,l⟩
 .have:=bH (bH (bH Y hm) o) hγ;omega
 .rw [Yx,Yx,Zh,Zh,Zh,Zh,Zs,Zs];have:=S t;push_cast;grind
 .refine Zno λi hi=>?_;rw [Nu,Xs,Xs,Zy4 (p:=I) l2 O1,Bp g l1 i O1];omega
 .omega
theorem Inv.first{z':List Int}{L:Int}(H:b.length<=a.length)(S:Tr a)(I:Tr b)(D:b≠[])(G:L≠0)(h:∀t:Rat,(L:Rat)*Zb a t=Zb q t*Zb b t+Zb z' t)(P:Sim z' z)(l:z.length<b.length):Inv a b b z:=by
 obtain⟨m,n,M,N,hs⟩:=P;have j:∀t:Rat,(m:Rat)*Zb z' t=(n:Rat)*Zb z t:=λt=>by
  have:=Oa t (z'.map λa=>m*a) (z.map λa=>n*a) λi=>by rw [Xs,Xs,hs]
  rwa [Zh,Zh]at this
 have o:∀t:Rat,((L*m:Int):Rat)*Zb a t=Zb (q.map λa=>m*a) t*Zb b t+(n:Rat)*Zb z t:=λt=>by rw [Zh];push_cast;have:=h t;have:=j t;grind
 have e:=Zw5 I D O1 o;have g:(tzl (q.map λa=>m*a)).length<=a.length-b.length+1:=by
  rcases e with w|w
  .rw [w];simp
  .omega
 generalize R:(q.map λa=>m*a)=Q at *;refine⟨⟨1,n,-(L*m),[],[1],[L*m],Q.map λc=>(-1)*c,O4,N,?_,λt=>?_,λt=>?_,λt=>?_,?_,?_⟩,aI _,l⟩
 .have:=bH G M;omega
 .rw [Qu];show _=(0:Rat)*_+_;grind
 .rw [Qu,Zh];have:=o t;push_cast at this ⊢;grind
 .rw [Qu,Qu];show(0:Rat)*_-_=_;push_cast;grind
 .refine Zno λi hi=>?_;rw [Xs,Zy4 g O1];omega
 .refine aB (Iu _) ?_;simp
def Zgm{n:Nat}(h:Sz n a)(i:Nat):(cf a i).natAbs<=2^n:=dS ((Xz n _).1 (h i))
theorem Bj(h:tzl p=[])(x:Rat):Zb p x=0:=by rw [<-Np,h];rfl
def tzl_ne(h:cf p i≠0):tzl p≠[]:=λe=>h ((Lh p).1 e i)
def nn_eq{x a b:Nat}(e:x<=b)(g:b<=a):b-x+1+(a-x+1)=a+b-2*x+2:=O1
theorem Inv.bound{n s:Nat}(hI:Inv a b x y)(a6:b.length<=a.length)(ha:Tr a)(hx:Tr x)(hy:Tr y)(h0:y≠[])(hp:Ys y=1)(na:Sz n a)(nb:Sz n b)(hs:a.length+b.length-2*x.length+2<=2^s) :
  Qm y<=(s+1+n)*(a.length+b.length-2*x.length+2):=by
 obtain⟨⟨α,β,γ,u',P,u,v,hα,hβ,hγ,e1,Q,e3,l1,l2⟩,xl,yl⟩:=hI;have b3:=aC.2 h0;have b2:x≠[]:=λe=>by rw [e]at yl;simp at yl
 have M:a≠[]:=λe=>by
  have g:a.length=0:=by rw [e];rfl
  omega
 obtain⟨U,V,lU,lV,a9,bU,bV,hz⟩:=Zhk (a:=a) (b:=b) (p:=b.length-x.length+1) (q:=a.length-x.length+1) (lo:=x.length-1) (A:=2^n) (cD O4) (Zgm na) (Zgm nb) O1 O1 O1;have hv:a.length+1<=(tzl v).length+x.length:=by
  refine bE λg=>?_;have a8:∀i,cf (Nr (a.map λc=>γ*c) ((lmul y P).map λc=>β*c)) i=cf (lmul (tzl v) (x.map λc=>α*c)) i:=λi=>On (λt=>by
   rw [Yx,Zh,Zh,Zs,Zs,Zh,Np];have Z:=e1 t;have H:=Q t;have a3:=e3 t;have:Zb v t*(α*Zb x t)=(Zb u' t*Zb v t-Zb u t*Zb P t)*Zb a t+(Zb u t*Zb a t+Zb v t*Zb b t)*Zb P t:=by rw [Z];grind
   rw [this,a3,<-H];grind) i
  have l:=a8 (a.length-1);rw [Nu,Xs,Xs,Bp (m:=y.length) (n:=a.length-x.length+1) (Iu _) l2 _ O1,Fs]at l;have S:=Zdc (U:=tzl v) (a:=x.map λc=>α*c) (p:=(tzl v).length) (t:=a.length-1) (aI _) (by rw [aW];omega);rw [PS.mul_c]at S;have h3:Yd (λk=>cf (tzl v) k*cf (x.map λc=>α*c) (a.length-1-k)) (a.length-1+1)=0:=S;rw [h3]at l;have:=bH hγ (ha.mem M);omega
 have h:tzl v≠[]:=λe=>by rw [e]at hv;simp at hv;omega
 have cR:∀i,cf (Nr (lmul U a) (lmul V b)) i=(ps U*ps a).c i+(ps V*ps b).c i:=λi=>by rw [Nu,Fs,Fs,PS.mul_c,PS.mul_c];rfl
 generalize hR:Nr (lmul U a) (lmul V b)=R at cR;have rR:∀t,Zb R t=Zb U t*Zb a t+Zb V t*Zb b t:=λt=>by rw [<-hR,Yx,Zs,Zs]
 have lR:(tzl R).length<=x.length-1:=Zno λi hi=>by rw [cR];exact hz i hi
 have hf:tzl (Nr (lmul U v) ((lmul u V).map λc=>(-1)*c))=[]:=by
  rcases Zff (w:=Nr (lmul R v) ((lmul y V).map λc=>(-β)*c)) (q:=Nr (lmul U v) ((lmul u V).map λc=>(-1)*c)) (y:=a) (n:=a.length-1) (λt=>by
   rw [Yx,Zh,Zs,Zs,Yx,Zh,Zs,Zs,rR];have H:=Q t;push_cast;have:(-(β:Rat))*(Zb y t*Zb V t)=- (β*Zb y t)*Zb V t:=O5;rw [this,H];grind) ha M (λi hi=>by
   rw [Nu,Xs,Bp lR l1 i O1,Bp (m:=y.length) (n:=a.length-x.length+1) (Iu _) (aB (Iu _) (oI lV)) i O1];omega)with g|g
  .exact g
  .refine bE λh8=>?_;have:=aC.2 h8;omega
 have G:∀t,Zb U t*Zb v t=Zb u t*Zb V t:=λt=>by have:=Bj hf t;rw [Yx,Zh,Zs,Zs]at this;push_cast at this;grind
 have a4:∀t,Zb R t*Zb v t=β*Zb y t*Zb V t:=λt=>by rw [rR,Q t];have:=G t;grind
 have Y:∀t,(γ:Rat)*Zb V t=Zb v t*Zb (Nr (lmul u' V) ((lmul P U).map λc=>(-1)*c)) t:=λt=>by rw [Yx,Zh,Zs,Zs,<-e3 t];have:=G t;push_cast;grind
 generalize Nr (lmul u' V) ((lmul P U).map λc=>(-1)*c)=w at Y;have hV:tzl V≠[]:=λe=>by
  rcases a9 with⟨i,hi⟩|⟨i,hi⟩
  .refine hi (On (p:=U) (q:=[]) (λt=>?_) i▸Za3 i);exact Fl (v:=v) (f:=U) h (λt=>by have:=G t;rw [Bj e]at this;grind) t
  .exact tzl_ne hi e
 have b1:∃c:Int,c≠0/\∀t,Zb w t=(c:Rat):=by
  have j:tzl w≠[]:=λe=>hV ((Lh V).2 λi=>by have:=On (p:=V.map λc=>γ*c) (q:=[]) (λt=>by rw [Zh,Y t,Bj e];show _=(0:Rat);grind) i;rw [Xs,Za3]at this;exact(eX.1 this).resolve_left hγ)
  rcases Zff (w:=V.map λc=>γ*c) (q:=w) (y:=tzl v) (n:=a.length-x.length+1) (λt=>by rw [Zh,Np,Y t];grind) (Qh v) h (λi hi=>by rw [Xs,Yk O1];omega)with g|g
  .exact absurd g j
  .have h8:=aC.2 j;have h7:(tzl w).length=1:=O1
   match W:tzl w,h7 with
   | [c],_=>
    refine⟨c,?_,λt=>by rw [<-Np,W,Qu]⟩;have:=(Qh w).mem j;rw [W]at this;exact this
 obtain⟨c,a7,W⟩:=b1;have o:Sim R y:=by
  refine⟨γ,β*c,hγ,bH hβ a7,λi=>?_⟩;have:=On (p:=R.map λd=>γ*d) (q:=y.map λd=>(β*c)*d) (λt=>by
   rw [Zh,Zh];push_cast;have l:Zb (Nr (R.map λd=>γ*d) (y.map λd=>(-(β*c))*d)) t=0:=Fl (v:=v) h (λt=>by rw [Yx,Zh,Zh];push_cast;have Z:=a4 t;have H:=Y t;rw [W]at H;have:Zb v t*(γ*Zb R t + -(β*c:Rat)*Zb y t)=γ*(Zb R t*Zb v t)-β*Zb y t*(Zb v t*c):=O5;rw [this,Z,<-H];grind) t
   rw [Yx,Zh,Zh]at l;push_cast at l;grind) i
  rwa [Xs,Xs]at this
 have b0:Sz ((s+1+n)*(a.length+b.length-2*x.length+2)) R:=λi=>by
  rw [cR];have c1:=Zyu (t:=i) lU bU (Zgm na);have c2:=Zyu (t:=i) lV bV (Zgm nb);have a0:b.length-x.length+1+(a.length-x.length+1)=a.length+b.length-2*x.length+2:=nn_eq xl a6;rw [<-a0]at hs ⊢;generalize hN:b.length-x.length+1+(a.length-x.length+1)=N at *;generalize I:(2*N*2^n)^(N-1)=X at *;have c3:((ps U*ps a).c i+(ps V*ps b).c i).natAbs<=N*(X*2^n):=by rw [<-hN,bK];have:=lX ((ps U*ps a).c i) ((ps V*ps b).c i);omega
  refine(Xz _ _).2 (aZ c3 ?_);have a5:0<X:=by rw [<-I];exact cD (gD O1 (cD O4))
  have c4:N*(X*2^n)<(2*N*2^n)^N:=by
   have e:(2*N*2^n)^N=X*(2*N*2^n):=by rw [<-I,<-bX,Nat.succ_eq_add_one,show N-1+1=N by omega]
   rw [e];have:0<N*(X*2^n):=gD O1 (gD a5 (cD O4));have Q:X*(2*N*2^n)=2*(N*(X*2^n)):=O5;omega
  have c5:2*N*2^n<=2^(s+1+n):=by rw [bR,bX];exact aN _ O1
  have c6:=fT c5 N;rw [<-kC]at c6;exact cZ c4 c6
 have l:tzl R≠[]:=λe=>by obtain⟨m,k,hm,hk,e9⟩:=o;have:=e9 (y.length-1);rw [(Lh R).1 e,dP]at this;exact bH hk (hy.mem h0) this.symm
 have D:Sim (tzl R) y:=by obtain⟨m,k,hm,hk,e9⟩:=o;exact⟨m,k,hm,hk,λi=>by rw [Ky];exact e9 i⟩
 have S:=(Qf (Qh R)).trans D;have h3:∀i,(cf y i).natAbs=(cf (Zu (tzl R)) i).natAbs:=λi=>by
  rcases Zjk (Yr (Qh R)) hy (λe=>l (aD (by rw [<-Zv,e];rfl))) (Ll (Qh R) l) hp S with g|g
  .rw [g]
  .rw [g i,eC]
 exact Pm λi=>by rw [h3];exact Fd b0.tzl i
def Zr3(g e K:Nat):Prop:=∀l,l<=e->(l+1)*(K*(g+e-2*l+2)+1)<=65536
def Ztk{e g l:Nat}(h:l<=m):K*(e+g-2*m+2)<=K*(e+g-2*l+2):=bI _ O1
theorem Zf7{C:Nat}(e:y≠[])(n:y.length<x.length)(g:Qm x<=C)(j:Qm y<=C)(h:(x.length+1)*(C+1)<=65536):Cg x y=0:=by have o:=aC.2 e;unfold Cg;rw [aE O1,aE O1];have l:(x.length-y.length+1)*(Qm y+1)<=x.length*(C+1):=aQ O1 O1;rw [bK,nK]at h;rw [aE O1]
theorem Ya1(n:Inv a b x y)(g:b.length<=a.length)(j:Tr x)(l:Tr y)(e:y≠[]):Inv a b y (Zu (Qb x y)):=by
 obtain⟨k,s,hs⟩:=Av x e;have h:=Lu (l.mem e) k;generalize cf y (y.length-1)^k=L at hs h;have o:∀t:Rat,(L:Rat)*Zb x t=Zb s t*Zb y t+Zb (Qb x y) t:=λt=>by have:=Ew (a:=L) (c:=-1) (x:=x) (s:=s) (y:=y) (z:=Qb x y) (λt=>by rw [hs t];omega) t;push_cast at this;grind
 exact n.next g j l e h o (Qf (Ib j)).symm (by rw [Zv];exact Po x e)
theorem Zfj(h:Tr p):Zu p=[]\/Ys (Zu p)=1:=by
 by_cases e:p=[]
 .left;rw [e];rfl
 .right;exact Ll h e
theorem Cd(g:Tr x)(e:y≠[]):(Nb x y).length<y.length:=by rw [Zax g];exact Po x e
theorem Ya0(n:Inv a b x y)(l:b.length<=a.length)(h:Tr x)(j:Tr y)(e:y≠[]):Inv a b y (Nb x y)/\(Nb x y=[]\/Ys (Nb x y)=1):=by
 have G:=aC.2 e;have D:=n.yl;obtain⟨r1,r2,k,u,w⟩:=Ze7 j e x.length x h O1;have hs:=Zgo (f:=x.length) h j e O1 O1;have g:Tr (Zea (Aq x.length x y)):=Xx _ _;have o:Zat y^k≠0:=Lu (by have:=Zfd j e;omega) _;constructor
 .refine n.next (z':=Aq x.length x y) (q:=u) l h j e o (λt=>?_) ?_ (Cd h e)
  .have:=Ew (a:=Zat y^k) (c:=-1) (x:=x) (s:=u) (y:=y) (z:=Aq x.length x y) (λt=>by rw [w t];omega) t;push_cast at this ⊢;grind
  .rw [<-hs];exact Sim.trans ⟨1,-1,O4,O4,λi=>by rw [Ez];omega⟩ (Qf g).symm
 .rw [<-hs];exact Zfj g
theorem Zx8{a b:List Int}{n s K:Nat}(h:b.length<=a.length)(M:Tr a)(R:Sz n a)(S:Sz n b)(hs:a.length+b.length<=2^s)(H:s+1+n<=K)(I:Zr3 a.length b.length K) :
  ∀(f:Nat) (x y:List Int),Inv a b x y->Tr x->Tr y->(y=[]\/Ys y=1)->Qm x<=K*(a.length+b.length-2*x.length+2)->y.length<=f->eok f x y/\Qm (eu f x y)<=K*(a.length+b.length)
 | 0,x,y,g,w,D,N,o,Y=>by have l:=g.yl;refine⟨aD O1,aB o (bI _ (by have:=g.xl;omega))⟩
 | f+1,x,y,g,w,D,N,o,Y=>by
  have G:=g.yl;have l:=g.xl;by_cases e:y=[]
  .subst e;refine⟨.inl rfl,?_⟩;rw [Zg6];exact aB o (bI _ O1)
  .have Z:=aC.2 e;have V:=g.bound h M w D e (N.resolve_left e) R S (s:=s) O1;have j:Qm y<=K*(a.length+b.length-2*x.length+2):=aB V (aN _ H);have W:=Zf7 e G o j (I x.length l);have P:=Ib (q:=y) w;have Q:=Zx8 h M R S hs H I f y (Zu (Qb x y)) (Ya1 g h w D e) D (Yr P) (Zfj P) (aB j (Ztk O1)) (by rw [Zv];have:=Po x e;omega);refine⟨.inr ⟨W,Q.1⟩,?_⟩;rw [show eu (f+1) x y=eu f y (Zu (Qb x y)) by
     conv=>lhs;unfold eu
     rw [aE e]]
   exact Q.2
theorem Zyv{a b:List Int}{n s K:Nat}(j:b.length<=a.length)(N:Tr a)(R:Sz n a)(S:Sz n b)(hs:a.length+b.length<=2^s)(I:s+1+n<=K)(M:Zr3 a.length b.length K) :
  ∀(f:Nat) (x y:List Int),Inv a b x y->Tr x->Tr y->(y=[]\/Ys y=1)->Qm x<=K*(a.length+b.length-2*x.length+2)->y.length<=f->cok f x y/\∀p∈Mi f x y,Qm p<=K*(a.length+b.length)/\p.length<=a.length
 | 0,x,y,h,w,G,e,o,Y=>by
  have D:=h.yl;have P:=h.xl;have g:y=[]:=aD O1;refine⟨g,λp e=>?_⟩;have:p=x:=by unfold Mi at e;simpa using e
  rw [this];exact⟨aB o (bI _ O1),O1⟩
 | f+1,x,y,h,w,G,e,o,Y=>by
  have H:=h.yl;have D:=h.xl;by_cases g:y=[]
  .subst g;refine⟨.inl rfl,λp e=>?_⟩;rw [Ct]at e;have:p=x:=by simpa using e
   rw [this];exact⟨aB o (bI _ O1),O1⟩
  .have l0:=aC.2 g;have V:=h.bound j N w G g (e.resolve_left g) R S (s:=s) O1;have l:Qm y<=K*(a.length+b.length-2*x.length+2):=aB V (aN _ I);have W:=Zf7 g H o l (M x.length D);obtain⟨Z,i2⟩:=Ya0 h j w G g;have Q:=Zyv j N R S hs I M f y (Nb x y) Z G (Zbh w) i2 (aB l (Ztk O1)) (by have:=Cd w g;omega);refine⟨.inr ⟨W,O1,Q.1⟩,λp e=>?_⟩;unfold Mi at e;rw [aE g]at e;rcases bJ.1 e with rfl|e
   .exact⟨aB o (bI _ O1),O1⟩
   .exact Q.2 p e
theorem Ylh{n s:Nat}(j:b.length<a.length)(h:Tr a)(l:Tr b)(H:Sz n a)(I:Sz n b)(hs:a.length+b.length<=2^s)(N:s+1+n<=K)(Q:Zr3 a.length b.length K)(R:(a.length+1)*(n+1)<=65536)(Y:b.length<=f) :
  eok f a b/\Qm (eu f a b)<=K*(a.length+b.length):=by
 have V:=Pm H;have W:=Pm I;have la:0<a.length:=O1;have P:n<=K*(a.length+b.length):=aB (by omega:n<=K*1) (bI _ O1);by_cases e:b=[]
 .subst e;cases f with
  | zero=>exact⟨rfl,by rw [Zg6];omega⟩
  | succ f=>exact⟨.inl rfl,by rw [Zg6];omega⟩
 .have Z:=aC.2 e;obtain⟨g,rfl⟩:∃g,f=g+1:=⟨f-1,O1⟩;have o:=Ib (q:=b) h;obtain⟨k,q,D⟩:=Av a e;have w:=Lu (l.mem e) k;generalize cf b (b.length-1)^k=L at D w;have S:∀t:Rat,(L:Rat)*Zb a t=Zb q t*Zb b t+Zb (Qb a b) t:=λt=>by have:=Ew (a:=L) (c:=-1) (x:=a) (s:=q) (y:=b) (z:=Qb a b) (λt=>by rw [D t];omega) t;push_cast at this;grind
  have M:Inv a b b (Zu (Qb a b)):=Inv.first O1 h l e w S (Qf o).symm (by rw [Zv];exact Po a e);have G:=Zx8 O1 h H I hs N Q g b (Zu (Qb a b)) M l (Yr o) (Zfj o) (aB (by omega:Qm b<=K*1) (bI _ O1)) (by rw [Zv];have:=Po a e;omega);refine⟨.inr ⟨Zf7 e j V W R,G.1⟩,?_⟩;rw [show eu (g+1) a b=eu g b (Zu (Qb a b)) by
    conv=>lhs;unfold eu
    rw [aE e]]
  exact G.2
theorem Ylx{n s:Nat}(H:b.length<a.length)(l:Tr a)(o:Tr b)(M:Sz n a)(N:Sz n b)(hs:a.length+b.length<=2^s)(Q:s+1+n<=K)(S:Zr3 a.length b.length K)(V:(a.length+1)*(n+1)<=65536)(hf:b.length<=f) :
  cok f a b/\∀p∈Mi f a b,Qm p<=K*(a.length+b.length)/\p.length<=a.length:=by
 have Y:=Pm M;have Z:=Pm N;have la:0<a.length:=O1;have R:n<=K*(a.length+b.length):=aB (by omega:n<=K*1) (bI _ O1);by_cases e:b=[]
 .subst e;have j:∀p∈Mi f a [],Qm p<=K*(a.length+([]:List Int).length)/\p.length<=a.length:=λp h=>by
   rw [Ct]at h;have:p=a:=by simpa using h
   rw [this];exact⟨O1,aI _⟩
  cases f with
  | zero=>exact⟨rfl,j⟩
  | succ f=>exact⟨.inl rfl,j⟩
 .have l0:=aC.2 e;obtain⟨g,rfl⟩:∃g,f=g+1:=⟨f-1,O1⟩;obtain⟨r1,r2,k,u,W⟩:=Ze7 o e a.length a l O1;have w:=Zgo (f:=a.length) l o e O1 O1;have D:Tr (Zea (Aq a.length a b)):=Xx _ _;have G:Zat b^k≠0:=Lu (by have:=Zfd o e;omega) _;have P:Inv a b b (Nb a b):=by
   refine Inv.first (z':=Aq a.length a b) (q:=u) O1 l o e G (λt=>?_) ?_ (Cd l e)
   .have:=Ew (a:=Zat b^k) (c:=-1) (x:=a) (s:=u) (y:=b) (z:=Aq a.length a b) (λt=>by rw [W t];omega) t;push_cast at this ⊢;grind
   .rw [<-w];exact Sim.trans ⟨1,-1,O4,O4,λi=>by rw [Ez];omega⟩ (Qf D).symm
  have h:Nb a b=[]\/Ys (Nb a b)=1:=by rw [<-w];exact Zfj D
  have I:=Zyv O1 l M N hs Q S g b (Nb a b) P o (Zbh l) h (aB (by omega:Qm b<=K*1) (bI _ O1)) (by have:=Cd l e;omega);refine⟨.inr ⟨Zf7 e H Y Z V,O1,I.1⟩,λp h=>?_⟩;unfold Mi at h;rw [aE e]at h;rcases bJ.1 h with rfl|h
  .exact⟨O1,aI _⟩
  .exact I.2 p h
def al:List Int->List Int->List Int
 | [],g=>g
 | a::f,[]=>a::f
 | a::f,b::g=>(a+b)::al f g
def Be(c:Int)(f:List Int):List Int:=f.map (c*·)
def ddl(k:Nat):List Int->List Int
 | []=>[]
 | b::g=>(k:Int)*b::ddl (k+1) g
def dl(f:List Int):List Int:=ddl 1 f.tail
def xl:List Int->List Int
 | []=>[]
 | a::f=>0::a::f
def fc:Nat->Int
 | 0=>1
 | k+1=>((k:Int)+1)*fc k
def Hh:Nat->List Int->List Int->Int
 | k,a::f,b::g=>fc k*(a*b)+Hh (k+1) f g
 | _,_,_=>0
theorem Zk2(k:Nat)(f:List Int):Hh k f []=0:=by cases f<;>rfl
theorem Yia(f:List Int):al f []=f:=by cases f<;>rfl
theorem Zzo:∀f g:List Int,al f g=al g f
 | [],g=>(Yia g).symm
 | a::f,[]=>rfl
 | a::f,b::g=>by show(a+b)::al f g=(b+a)::al g f;rw [Zzo f g,jJ]
theorem Ztt:∀f g h:List Int,al (al f g) h=al f (al g h)
 | [],g,h=>rfl
 | a::f,[],h=>rfl
 | a::f,b::g,[]=>rfl
 | a::f,b::g,c::h=>by show(a+b+c)::al (al f g) h=(a+(b+c))::al f (al g h);rw [Ztt f g h,Int.add_assoc]
instance:Std.Commutative al:=⟨Zzo⟩
instance:Std.Associative al:=⟨Ztt⟩
theorem Ydc(c:Int):∀f g,Be c (al f g)=al (Be c f) (Be c g)
 | [],g=>rfl
 | a::f,[]=>rfl
 | a::f,b::g=>by show c*(a+b)::Be c (al f g)=(c*a+c*b)::al (Be c f) (Be c g);rw [Ydc c f g,lW]
theorem Zws(c d:Int):∀f,Be (c+d) f=al (Be c f) (Be d f)
 | []=>rfl
 | a::f=>by show(c+d)*a::Be (c+d) f=(c*a+d*a)::al (Be c f) (Be d f);rw [Zws c d f,lY]
theorem Zig:∀f,Be 1 f=f
 | []=>rfl
 | a::f=>by show 1*a::Be 1 f=a::f;rw [Zig f,fF]
theorem Ygu:∀k f g,ddl k (al f g)=al (ddl k f) (ddl k g)
 | k,[],g=>rfl
 | k,a::f,[]=>rfl
 | k,a::f,b::g=>by show(k:Int)*(a+b)::ddl (k+1) (al f g)=((k:Int)*a+(k:Int)*b)::al (ddl (k+1) f) (ddl (k+1) g);rw [Ygu (k+1) f g,lW]
theorem Zyi(c:Int):∀k f,ddl k (Be c f)=Be c (ddl k f)
 | k,[]=>rfl
 | k,a::f=>by show(k:Int)*(c*a)::ddl (k+1) (Be c f)=c*((k:Int)*a)::Be c (ddl (k+1) f);rw [Zyi c (k+1) f,mB]
theorem Zs4:∀k f,ddl (k+1) f=al f (ddl k f)
 | k,[]=>rfl
 | k,a::f=>by show((k+1:Nat):Int)*a::ddl (k+1+1) f=(a+(k:Int)*a)::al f (ddl (k+1) f);rw [Zs4 (k+1) f];congr 1;push_cast;grind
def dl_al:∀f g,dl (al f g)=al (dl f) (dl g)
 | [],g=>rfl
 | a::f,[]=>(Yia _).symm
 | a::f,b::g=>Ygu 1 f g
def dl_scl(c:Int):∀f,dl (Be c f)=Be c (dl f)
 | []=>rfl
 | a::f=>Zyi c 1 f
theorem dl_x:∀f,dl (xl f)=al f (xl (dl f))
 | []=>rfl
 | [a]=>by show(((1:Nat):Int)*a::[])=[a];rw [show((1:Nat):Int)=1 from rfl,fF]
 | a::b::f=>by show((1:Nat):Int)*a::ddl (1+1) (b::f)=(a+0)::al (b::f) (ddl 1 (b::f));rw [Zs4 1 (b::f),show((1:Nat):Int)=1 from rfl,fF,fR]
def xl_al:∀f g,xl (al f g)=al (xl f) (xl g)
 | [],g=>rfl
 | a::f,[]=>rfl
 | a::f,b::g=>rfl
theorem xl_scl(c:Int):∀f,xl (Be c f)=Be c (xl f)
 | []=>rfl
 | a::f=>by show 0::c*a::Be c f=c*0::c*a::Be c f;rw [dP]
theorem Fn:∀k f g,Hh k f g=Hh k g f
 | k,[],g=>(Zk2 k g).symm
 | k,a::f,[]=>rfl
 | k,a::f,b::g=>by show fc k*(a*b)+Hh (k+1) f g=fc k*(b*a)+Hh (k+1) g f;rw [Fn (k+1) f g,cY a b]
theorem Zk5:∀k f g h,Hh k (al f g) h=Hh k f h+Hh k g h
 | k,[],g,h=>by show Hh k g h=0+Hh k g h;rw [lH]
 | k,a::f,[],h=>(fR _).symm
 | k,a::f,b::g,[]=>rfl
 | k,a::f,b::g,c::h=>by show fc k*((a+b)*c)+Hh (k+1) (al f g) h=fc k*(a*c)+Hh (k+1) f h+(fc k*(b*c)+Hh (k+1) g h);rw [Zk5 (k+1) f g h];grind
theorem Zk4(k:Nat)(h f g:List Int):Hh k h (al f g)=Hh k h f+Hh k h g:=by rw [Fn,Zk5,Fn k f,Fn k g]
theorem Zfy(c:Int):∀k f g,Hh k (Be c f) g=c*Hh k f g
 | k,[],g=>(dP c).symm
 | k,a::f,[]=>(dP c).symm
 | k,a::f,b::g=>by show fc k*(c*a*b)+Hh (k+1) (Be c f) g=c*(fc k*(a*b)+Hh (k+1) f g);rw [Zfy c (k+1) f g];grind
theorem Zpd(c:Int)(k:Nat)(f g:List Int):Hh k f (Be c g)=c*Hh k f g:=by rw [Fn,Zfy,Fn]
theorem Yfy:∀k f g,Hh (k+1) f g=Hh k f (ddl (k+1) g)
 | k,[],g=>rfl
 | k,a::f,[]=>rfl
 | k,a::f,b::g=>by show((k:Int)+1)*fc k*(a*b)+Hh (k+1+1) f g=fc k*(a*(((k+1:Nat):Int)*b))+Hh (k+1) f (ddl (k+1+1) g);rw [Yfy (k+1) f g];push_cast;grind
theorem fip_x:∀f g,Hh 0 (xl f) g=Hh 0 f (dl g)
 | [],g=>rfl
 | a::f,[]=>rfl
 | a::f,b::g=>by show fc 0*(0*b)+Hh 1 (a::f) g=Hh 0 (a::f) (ddl 1 g);rw [dB,dP,lH];exact Yfy 0 (a::f) g
theorem Yfv(f g:List Int):Hh 0 f (xl g)=Hh 0 (dl f) g:=by rw [Fn,fip_x,Fn]
def Mq:List Int->Nat->List Int->List Int
 | [],_,_=>[]
 | c::q,0,g=>al (Be c g) (xl (Mq q 0 g))
 | c::q,j+1,g=>al (xl (Mq q (j+1) g)) (Mq q j g)
def Hq:List Int->Nat->List Int->List Int
 | [],_,_=>[]
 | c::p,0,f=>al (Be c f) (Hq p 0 (dl f))
 | c::p,k+1,f=>al (Hq p (k+1) (dl f)) (Hq p k f)
theorem Zyg:∀q j g,dl (Mq q j g)=al (Mq q j (dl g)) (Be ((j:Int)+1) (Mq q (j+1) g))
 | [],j,g=>rfl
 | c::q,0,g=>by
  show dl (al (Be c g) (xl (Mq q 0 g)))=al (al (Be c (dl g)) (xl (Mq q 0 (dl g)))) (Be (((0:Nat):Int)+1) (al (xl (Mq q (0+1) g)) (Mq q 0 g)));rw [dl_al,dl_scl,dl_x,Zyg q 0 g,xl_al];rw [show((0:Nat):Int)+1=1 from rfl,Zig,Zig]
  ac_rfl
 | c::q,j+1,g=>by
  show dl (al (xl (Mq q (j+1) g)) (Mq q j g))=al (al (xl (Mq q (j+1) (dl g))) (Mq q j (dl g))) (Be (((j+1:Nat):Int)+1) (al (xl (Mq q (j+1+1) g)) (Mq q (j+1) g)));rw [dl_al,dl_x,Zyg q (j+1) g,Zyg q j g,xl_al,xl_scl,Ydc];rw [show Be (((j+1:Nat):Int)+1) (Mq q (j+1) g)=al (Be ((j:Int)+1) (Mq q (j+1) g)) (Mq q (j+1) g) by rw [Zws,Zig];rfl]
  ac_rfl
theorem Ziq:∀q j f g,Hh 0 f (Mq q j g)=Hh 0 (Hq q j f) g
 | [],j,f,g=>Zk2 0 f
 | c::q,0,f,g=>by show Hh 0 f (al (Be c g) (xl (Mq q 0 g)))=Hh 0 (al (Be c f) (Hq q 0 (dl f))) g;rw [Zk4,Zk5,Zpd,Zfy,Yfv,Ziq q 0 (dl f) g]
 | c::q,j+1,f,g=>by show Hh 0 f (al (xl (Mq q (j+1) g)) (Mq q j g))=Hh 0 (al (Hq q (j+1) (dl f)) (Hq q j f)) g;rw [Zk4,Zk5,Yfv,Ziq q (j+1) (dl f) g,Ziq q j f g]
def wfa:Nat->Nat->Int
 | j,0=>1
 | j,k+1=>((j:Int)+1)*wfa (j+1) k
theorem Znn:∀k j,0<wfa j k
 | 0,j=>by show(0:Int)<1;decide
 | k+1,j=>gO O1 (Znn k (j+1))
theorem Zk3:∀(p q:List Int) (j:Nat) (f g:List Int) (K:Nat),p.length<=K->Hh 0 (Mq p 0 f) (Mq q j g)=Yd (λk=>wfa j k*Hh 0 (Hq q (j+k) f) (Hq p k g)) K
 | [],q,j,f,g,K,_=>by rw [Fe (λk n=>by show wfa j k*Hh 0 (Hq q (j+k) f) []=0;rw [Zk2,dP])];rfl
 | c::p,q,j,f,g,K,hK=>by
  obtain⟨e,rfl⟩:∃e,K=e+1:=⟨K-1,by simp at hK;omega⟩;have o:p.length<=e:=by simpa using hK
  have w:=Zk3 p q j f (dl g) (e+1) O1;have D:=Zk3 p q (j+1) f g e o;show Hh 0 (al (Be c f) (xl (Mq p 0 f))) (Mq q j g)=_;rw [Zk5,Zfy,fip_x,Zyg,Zk4,Zpd,w,D,Ziq];rw [Mt,Mt (λk=>wfa j k*Hh 0 (Hq q (j+k) f) (Hq (c::p) k g))];have h:Hh 0 (Hq q (j+0) f) (Hq (c::p) 0 g)=c*Hh 0 (Hq q j f) g+Hh 0 (Hq q j f) (Hq p 0 (dl g)):=by show Hh 0 (Hq q j f) (al (Be c g) (Hq p 0 (dl g)))=_;rw [Zk4,Zpd]
  have l:Yd (λk=>wfa j (k+1)*Hh 0 (Hq q (j+(k+1)) f) (Hq (c::p) (k+1) g)) e=Yd (λk=>wfa j (k+1)*Hh 0 (Hq q (j+(k+1)) f) (Hq p (k+1) (dl g))) e+((j:Int)+1)*Yd (λk=>wfa (j+1) k*Hh 0 (Hq q (j+1+k) f) (Hq p k g)) e:=by rw [<-Me,<-Eg];refine Yp λk n=>?_;show _*Hh 0 _ (al (Hq p (k+1) (dl g)) (Hq p k g))=_;rw [Zk4,show j+1+k=j+(k+1) by omega];show((j:Int)+1)*wfa (j+1) k*_=((j:Int)+1)*wfa (j+1) k*_+_;grind
  rw [h,l];show _=(1:Int)*_+_;show _*_+((1:Int)*_+_+_)=_;rw [show j+0=j from rfl];grind
theorem Znw(a:Int):0<=a*a:=by
 rcases Int.le_total 0 a with h|h
 .exact eA h h
 .have:=eA (show 0<=-a by omega) (show 0<=-a by omega);rwa [Int.neg_mul_neg]at this
theorem Zg5:∀k,1<=fc k
 | 0=>by show(1:Int)<=1;decide
 | k+1=>by have h:=Zg5 k;show 1<=((k:Int)+1)*fc k;have e:=kJ (show(1:Int)<=(k:Int)+1 by omega) h O4 O1;omega
theorem Yfz(k:Nat)(f:List Int)(b:Int)(g:List Int):Hh k f (b::g)=fc k*(cf f 0*b)+Hh (k+1) f.tail g:=by
 cases f with
 | nil=>show(0:Int)=fc k*(0*b)+Hh (k+1) [] g;rw [dB,dP];rfl
 | cons a f=>rfl
theorem Yhk(f:List Int)(i:Nat):cf f.tail i=cf f (i+1):=by cases f<;>rfl
theorem Zpf:∀k (f e g:List Int),(∀i,cf f i=cf e i)->Hh k f g=Hh k e g
 | k,f,e,[],h=>by rw [Zk2,Zk2]
 | k,f,e,b::g,h=>by rw [Yfz,Yfz,h 0,Zpf (k+1) f.tail e.tail g λi=>by rw [Yhk,Yhk,h]]
theorem Zpe:∀k f,0<=Hh k f f
 | k,[]=>eO _
 | k,a::f=>by show 0<=fc k*(a*a)+Hh (k+1) f f;have e:=Zpe (k+1) f;have g:=eA (show 0<=fc k by have:=Zg5 k;omega) (Znw a);omega
theorem Yfx:∀k f i,cf f i*cf f i<=Hh k f f
 | k,[],i=>by rw [Yk O7];exact eO _
 | k,a::f,0=>by show a*a<=fc k*(a*a)+Hh (k+1) f f;have e:=Zpe (k+1) f;have g:=fA (Zg5 k) (Znw a);omega
 | k,a::f,i+1=>by show cf f i*cf f i<=fc k*(a*a)+Hh (k+1) f f;have e:=Yfx (k+1) f i;have g:=eA (show 0<=fc k by have:=Zg5 k;omega) (Znw a);omega
def fcs:Nat->Nat->Int
 | k,0=>0
 | k,n+1=>fc k+fcs (k+1) n
theorem Yf1:∀n k,0<=fcs k n
 | 0,k=>eO _
 | n+1,k=>by have h:=Yf1 n (k+1);have:=Zg5 k;show 0<=fc k+fcs (k+1) n;omega
theorem Yfw:∀n k (f:List Int) (A:Int),f.length<=n->(∀x∈f,x*x<=A)->0<=A->Hh k f f<=fcs k n*A
 | n,k,[],A,_,_,e=>eA (Yf1 n k) e
 | 0,k,a::f,A,h,_,_=>by simp at h
 | n+1,k,a::f,A,h,hx,e=>by have j:=Yfw n (k+1) f A (by simpa using h) (λx g=>hx x (bF _ g)) e;have l:=iQ (hx a (bT ..)) (show 0<=fc k by have:=Zg5 k;omega);show fc k*(a*a)+Hh (k+1) f f<=(fc k+fcs (k+1) n)*A;rw [lY];omega
theorem Zv5:∀p k f,p.length<=k->Hq p k f=[]
 | [],k,f,_=>by cases k<;>rfl
 | c::p,0,f,h=>by simp at h
 | c::p,k+1,f,h=>by
  show al (Hq p (k+1) (dl f)) (Hq p k f)=[];have e:p.length<=k:=by simpa using h
  rw [Zv5 p (k+1) _ O1,Zv5 p k _ e];rfl
theorem Yii:∀p k f,p.length=k+1->Hq p k f=Be (cf p k) f
 | [],k,f,h=>by simp at h
 | [c],0,f,h=>Yia _
 | c::d::p,0,f,h=>by simp at h
 | c::p,k+1,f,h=>by
  have e:p.length=k+1:=by simpa using h
  show al (Hq p (k+1) (dl f)) (Hq p k f)=Be (cf p k) f;rw [Zv5 p (k+1) _ O1,Yii p k f e];rfl
theorem Yhp:∀f g i,cf (al f g) i=cf f i+cf g i
 | [],g,i=>by rw [Yk (p:=[]) O7,lH];rfl
 | a::f,[],i=>by rw [Yk (p:=[]) O7,fR];rfl
 | a::f,b::g,0=>rfl
 | a::f,b::g,i+1=>Yhp f g i
def Yhn(c:Int)(f:List Int)(i:Nat):cf (Be c f) i=c*cf f i:=Zcd f (c*·) (dP c) i
theorem cf_xl0(f:List Int):cf (xl f) 0=0:=by cases f<;>rfl
theorem cf_xl(f:List Int)(i:Nat):cf (xl f) (i+1)=cf f i:=by cases f<;>rfl
theorem cf_Mq:∀p f i,cf (Mq p 0 f) i=(ps p*ps f).c i
 | [],f,i=>by rw [PS.mul_c,Fe (λk _=>by rw [Nc,Yk O7,dB])];exact Yk (by simp [Mq])
 | c::p,f,0=>by show cf (al (Be c f) (xl (Mq p 0 f))) 0=_;rw [Yhp,Yhn,cf_xl0,PS.mul_c,Mt,fR];exact(fR _).symm
 | c::p,f,i+1=>by show cf (al (Be c f) (xl (Mq p 0 f))) (i+1)=_;rw [Yhp,Yhn,cf_xl,cf_Mq p f i,PS.mul_c,PS.mul_c,Mt _ (i+1)];refine aK (c*cf f (i+1)+·) (Yp λk e=>?_);show cf p k*cf f (i-k)=cf p k*cf f (i+1-(k+1));rw [show i+1-(k+1)=i-k by omega]
theorem Ya5{n L e:Nat}(hu:Tr u)(w:Tr v)(hs:Sz n s)(Q:s≠[])(hl:s.length<=L)(he:fcs 0 L<=2^e*2^e)(h:s=Qg u v):Sz (n+e) u:=by
 have D:v≠[]:=λe=>Q (by rw [h,e,Zav]);obtain⟨m,N⟩:∃m,v.length=m+1:=⟨v.length-1,by have:=aC.2 D;omega⟩;have g:cf v m≠0:=by
  rcases w with w|w
  .exact absurd w D
  .rwa [N]at w
 have o:∀i,cf (Mq v 0 u) i=cf s i:=λi=>by rw [cf_Mq,h,Cm,Iq]
 have j:=Zk3 v v 0 u u (m+1) O1;rw [Zpf 0 _ s _ o,Fn,Zpf 0 _ s _ o,Yf,bW,Yii v m u N,Zfy,Zpd]at j;have l:∀t,0<=Yd (λk=>wfa 0 k*Hh 0 (Hq v (0+k) u) (Hq v k u)) t:=λt=>by
  induction t with
  | zero=>exact eO _
  | succ t ih=>
   rw [Yf,bW];have:=eA (show 0<=wfa 0 t by have:=Znn t 0;omega) (Zpe 0 (Hq v t u));omega
 have hr:=l m;have Z:1<=cf v m*cf v m:=by
  have h1:=Znw (cf v m);have h2:cf v m*cf v m≠0:=λe=>by rcases eX.1 e with q|q<;>exact g q
  omega
 have hf:=Zpe 0 u;have h3:Hh 0 u u<=cf v m*(cf v m*Hh 0 u u):=by have:=fA Z hf;rw [eU]at this;omega
 have h4:Hh 0 u u<=wfa 0 m*(cf v m*(cf v m*Hh 0 u u)):=by have:=fA (show 1<=wfa 0 m from Znn m 0) (show 0<=cf v m*(cf v m*Hh 0 u u) by omega);omega
 intro i;rw [Xz];have h5:=Yfx 0 u i;have V:∀x∈s,x*x<=(2^n-1)*(2^n-1):=λx hx=>by
  have hb:x.natAbs<2^n:=(Xz n _).1 (hs.mem hx);have W:((2^n:Nat):Int)=2^n:=by push_cast;rfl
  have p1:x<=2^n-1:=O1;have p2:-(2^n-1)<=x:=O1;generalize (2:Int)^n-1=y at *;have:=eA (show 0<=y-x by omega) (show 0<=y+x by omega);grind
 have hp:(1:Int)<=2^n:=by exact_mod_cast cD (n:=n) (show 0<2 by decide)
 have P:(1:Int)<=2^e:=by exact_mod_cast cD (n:=e) (show 0<2 by decide)
 have h6:=Yfw L 0 s _ hl V (eA O1 O1);have h7:cf u i*cf u i<=(2^e*2^e)*((2^n-1)*(2^n-1)):=by have:=fA he (show(0:Int)<=(2^n-1)*(2^n-1)from eA O1 O1);omega
 rcases bC (cf u i).natAbs (2^(n+e))with I|H
 .exact I
 .exfalso;have M:(2^n*2^e:Int)<=((cf u i).natAbs:Int):=by rw [<-Int.pow_add];exact_mod_cast H
  have S:((cf u i).natAbs:Int)*((cf u i).natAbs:Int)=cf u i*cf u i:=Int.natAbs_mul_self;have G:(2^n*2^e:Int)*(2^n*2^e)<=((cf u i).natAbs:Int)*((cf u i).natAbs:Int):=kJ M M (eA O1 O1) O1;rw [S]at G;generalize (2:Int)^n=X at *;generalize (2:Int)^e=Y at *;have R:(Y*Y)*((X-1)*(X-1))<(Y*Y)*(X*X):=by have hy:=kJ P P O4 O1;refine Int.mul_lt_mul_of_pos_left ?_ O1;grind
  grind
def kkR(R:Nat):Nat->Nat
 | 0=>0
 | d+1=>2*(R+1)*kkR R d+1
def Em{n L R e:Nat}(w:Tr u)(D:Tr v)(hs:Sz n s)(g:s≠[])(o:Tr s)(l:s.length<=L)(G:2*L<=R+2)(j:fcs 0 L<=2^e*2^e)(h:s=Qg u v):Sz (n+e) u:=Ya5 w D hs g l j h
theorem num13{e g:Nat}(n:e<=13)(o:g+1=e)(j:K<=600):Zr3 e g K:=λl w=>by have h:∀l,l<=12->(l+1)*(600*(27-2*l)+1)<=65536:=O4;refine aB (bI _ (Nat.succ_le_succ (aQ j O1))) (h l O1)
theorem chH{n:Nat}(F:Nat)(D:Tr xs)(G:xs≠[])(hs:Sz n xs)(hn:n<=350)(hl:xs.length<=13)(hb:(xs.length+2)*(xs.length+2)*(n+13)<=65536)(hF:xs.length<=F+1) :
  Bg F xs/\Sz (n+15) (sqf F xs)/\(sqf F xs).length<=xs.length/\∀p∈chn F xs,Qm p<=(n+26)*25/\p.length<=xs.length:=by
 have e:=Zt2 hs;have a3:=Qz D;have l:Tr (Yw xs):=Ol (Yr D);have Y:=Am e O1;have a0:=Nl (Yw xs);have o:Tr (Yu (Yw xs)):=Md l;have m1:=Pm e;have m2:=Pm Y;have l0:=aC.2 G;have I:gA (Yw xs) (Yu (Yw xs))=Zu (Yw xs):=aE O1;have M:gB (Yw xs) (Yu (Yw xs))=Zu (Yu (Yw xs)):=aE O1;have j:eok F (gA (Yw xs) (Yu (Yw xs))) (gB (Yw xs) (Yu (Yw xs))):=by
  rw [I,M];refine(Ylh (n:=n+5) (s:=5) (K:=n+11) (by rw [Zv,Zv];omega) (Yr l) (Yr o) (Fd (e.mono O1)) (Fd Y) ?_ O1 ?_ ?_ ?_).1
  .rw [Zv,Zv];omega
  .rw [Zv,Zv];exact num13 O1 O1 O1
  .rw [Zv];exact aB (aQ (show(Yw xs).length+1<=14 by omega) (show n+5+1<=400 by omega)) O4
  .rw [Zv];omega
 obtain⟨f1,f2,f3,f4,f5,f6⟩:=Pz (F:=F) D G j;have H:=Zez (F:=F) l o;have g:=Zkd D G;have V:fcs 0 13<=2^15*2^15:=O8;have w:=Em (L:=13) (R:=24) f2 H e g l O1 O4 V f4;have N:=Em (L:=13) (R:=24) H f2 e g l O1 O4 V (by rw [Cm];exact f4);have P:=Oe f2 H f3 f5;rw [<-f4]at P;have lg:=aC.2 f5;have lq:=aC.2 f3;have mg:=Pm N;have S:(sqf F xs).length<=xs.length:=O1;have Q:=Am w O1;have Z:=Nl (sqf F xs);have W:=Ylx (a:=sqf F xs) (b:=Zu (Yu (sqf F xs))) (n:=n+15+5) (s:=5) (K:=n+26) (f:=F) (by rw [Zv];omega) f2 (Yr (Md f2)) (w.mono O1) (Fd Q) (by rw [Zv];omega) O1 (by rw [Zv];exact num13 O1 O1 O1) (aB (aQ (show(sqf F xs).length+1<=14 by omega) (show n+15+5+1<=500 by omega)) O4) (by rw [Zv];omega);refine⟨⟨⟨λi _=>aB (Zvc e O1 i) O1,?_,j,?_,f1⟩,λi _=>aB (Zvc w O1 i) O1,W.1⟩,w,S,λp hp=>?_⟩
 .intro h;have h3:(max (Yw xs).length (Yu (Yw xs)).length+2)*(max (Yw xs).length (Yu (Yw xs)).length+2)*(max (Qm (Yw xs)) (Qm (Yu (Yw xs)))+8)<=(xs.length+2)*(xs.length+2)*(n+13):=aQ (aQ O1 O1) O1;have:=h.2.2;omega
 .unfold Cg;rw [aE O1];split
  .rfl
  .have:((Yw xs).length-(Ny F (Yw xs) (Yu (Yw xs))).length+1)*(Qm (Ny F (Yw xs) (Yu (Yw xs)))+1)<=14*500:=aQ O1 O1;rw [aE O1]
 .obtain⟨a1,a2⟩:=W.2 p hp;refine⟨aB a1 (bI _ ?_),O1⟩;rw [Zv];omega
theorem chG{n:Nat}(F:Nat)(j:Tr xs)(e:xs≠[])(hs:Sz n xs)(h:n<=350)(l:xs.length<=11)(g:xs.length<=F+1) :
  Bg F xs/\Sz (n+15) (sqf F xs)/\(sqf F xs).length<=xs.length/\∀p∈chn F xs,Qm p<=(n+26)*25/\p.length<=xs.length:=
 chH F j e hs h O1 (aB (aQ (aQ (show _<=13 by omega) (show _<=13 by omega)) (show _<=363 by omega)) O4) g
theorem Dv.ed{g:List Int}(h:Dv g a):Ed g a:=by obtain⟨k,s,e,h⟩:=h;refine⟨k,s,e,λx=>?_⟩;have:=Ew (a:=k) (c:=0) (x:=a) (s:=s) (y:=g) (z:=[]) (λt=>by rw [h t];omega) x;push_cast at this;grind
theorem Zlg(w:Tr xs)(j:xs≠[])(l:Bg F xs)(s t:Rat) :
  ∃h:Rat,0<h/\∀u v,s<=u->u<=v->v<=t->v-u<=h->vat ((chn F xs).map Zb) u-vat ((chn F xs).map Zb) v=crs (Zb (sqf F xs)) u v:=by
 have g:=l.1.2.2.1;obtain⟨f1,f2,f3,f4,f5,f6⟩:=Pz (F:=F) w j g;have e:=Md f2;by_cases D:Yu (sqf F xs)=[]
 .refine Zjh (κ:=1) f2 (Yr e) f3 l.2.2 O4 (λx=>?_) λq o a b=>?_
  .rw [<-Ly,D];show(0:Rat)=1*0;grind
  .exact Ze2 w j g o a (b.sim (Qf e))
 .have n:0<Ys (Yu (sqf F xs)):=by have G:=Cx e D;have H:=Oq (Yu (sqf F xs));omega
  refine Zjh (κ:=(Ys (Yu (sqf F xs)):Rat)) f2 (Yr e) f3 l.2.2 (by exact_mod_cast n) (λx=>?_) λq o a b=>?_
  .rw [<-Ly,<-Zh];exact Oa x _ _ λi=>by rw [Xs,cY,Hk]
  .exact Ze2 w j g o a (b.sim (Qf e))
theorem Yk3{g:List Int}(H:∀x:Rat,Zb p x=Zb s x*Zb g x)(hg:Tr g)(g0:g≠[])(Q:Ed g (ld p))(D:Irr q)(S:Ed q p):Ed q s:=by
 refine bE λG=>?_;have l:=D.1;have o:=D.2.1;have R:¬Ed q (ld q):=λh=>by have h8:Ed q (Yu q):=h.congr λx=>(Ly q x).symm;have hl:=Nl q;have:=(h8.len l (Md l) (λe=>by rw [e]at hl;simp at hl;omega)).2;omega
 obtain⟨c1,m1,k1,e1⟩:=S;obtain⟨j,m,k2,e2⟩:=Q;have W:∀k,Ed (Gn q k) g:=λk=>by
  induction k with
  | zero=>exact⟨1,g,O4,λx=>by rw [show Gn q 0=[1]from rfl,Qu];push_cast;grind⟩
  | succ k ih=>
   cases k with
   | zero=>
    have P:Ed q g:=(Zaa (f:=s) (h:=g) (m:=m1) D k1 (λx=>by rw [<-H x];exact e1 x)).resolve_left G;exact P.congr_l λx=>by rw [Fi,show Gn q 0=[1]from rfl,Qu];push_cast;grind
   | succ k=>
    obtain⟨c,u,kc,eu⟩:=ih;have hd:∀x:Rat,(c:Rat)*Zb (ld g) x=Zb (ld u) x*Zb (Gn q (k+1)) x+Zb u x*(((k:Rat)+1)*(Zb (Gn q k) x*Zb (ld q) x)):=λx=>by have:=Dg (p:=g.map λa=>c*a) (q:=lmul u (Gn q (k+1))) (λy=>by rw [Zh,Zs];exact eu y) x;rwa [Bk,Dz,Zn8]at this
    have hp:∀x:Rat,Zb (ld p) x=Zb (ld s) x*Zb g x+Zb s x*Zb (ld g) x:=λx=>by have:=Dg (p:=p) (q:=lmul s g) (λy=>by rw [Zs];exact H y) x;rwa [Dz]at this
    have hz:∀x:Rat,Zb (Nr ((lmul (lmul s u) (ld q)).map λa=>(j*((k:Int)+1))*a) ((lmul (Nr ((lmul s (ld u)).map λa=>j*a) ((lmul (Nr m ((ld s).map λa=>(-j)*a)) u).map λa=>(-1)*a)) q))) x=0:=λx=>by
     refine Fl (v:=Gn q k) (λe=>?_) (λx=>?_) x
     .rw [Ac (Aw l o k).1]at e;have:=(Aw l o k).2;rw [e]at this;simp at this
     .rw [Yx,Zh,Zs,Zs,Zs,Yx,Zh,Zs,Zh,Zs,Yx,Zh];have M:=e2 x;have Y:=hp x;have Z:=hd x;have I:=eu x;rw [Fi]at Z I;push_cast;have b1:(j:Rat)*Zb s x*(c*Zb (ld g) x)=(Zb m x-j*Zb (ld s) x)*(c*Zb g x):=by
       have:(j:Rat)*Zb s x*(c*Zb (ld g) x)=c*(j*(Zb (ld p) x-Zb (ld s) x*Zb g x)):=by rw [Y];grind
       rw [this];have:(c:Rat)*(j*(Zb (ld p) x-Zb (ld s) x*Zb g x))=c*(j*Zb (ld p) x)-c*j*Zb (ld s) x*Zb g x:=O5;rw [this,M];grind
      rw [Z,I]at b1;grind
    have P:=Zaa (f:=lmul s u) (h:=ld q) (k:=j*((k:Int)+1)) (m:=Nr ((lmul (Nr m ((ld s).map λa=>(-j)*a)) u)) ((lmul s (ld u)).map λa=>(-j)*a)) D (bH k2 O1) (λx=>by have:=hz x;rw [Yx,Zh,Zs,Zs,Zs,Yx,Zh,Zs,Zh,Zs,Yx,Zh]at this;rw [Zs,Yx,Zs,Yx,Zh,Zh,Zs];push_cast at this ⊢;grind)
    have h8:=Zaa (f:=s) (h:=u) (k:=1) (m:=[]) D O4;have h7:Ed q u:=by obtain⟨n,w,V,N⟩:=P.resolve_right R;exact(Zaa (f:=s) (h:=u) (k:=n) (m:=w) D V (λx=>by have:=N x;rwa [Zs]at this)).resolve_left G
    obtain⟨n,w,V,N⟩:=h7;refine⟨n*c,w,bH V kc,λx=>?_⟩;have I:=eu x;have a5:=N x;rw [Fi q (k+1)];push_cast;have:(n:Rat)*c*Zb g x=n*(c*Zb g x):=O5;rw [this,I];have:(n:Rat)*(Zb u x*Zb (Gn q (k+1)) x)=(n*Zb u x)*Zb (Gn q (k+1)) x:=O5;rw [this,a5];grind
 obtain⟨M,Y⟩:=Aw l o g.length;have:=((W g.length).len M hg g0).2;omega
theorem Yks(g:d≠0):Irr [-r,d]:=by have e:Tr [-r,d]:= .inr g;refine⟨e,O7,λq j h=>?_⟩;have:=(h.len j e O7).2;simp at this ⊢;omega
theorem Zij(r d:Int)(x:Rat):Zb [-r,d] x=(d:Rat)*x-r:=by show((-r:Int):Rat)+x*((d:Rat)+x*0)=_;push_cast;grind
theorem Yjx(G:Tr p)(j:d≠0)(h:Zb p ((r:Rat)/d)=0):Ed [-r,d] p:=by
 have n:(d:Rat)≠0:=by exact_mod_cast j
 have w:Tr [-r,d]:= .inr j;obtain⟨k,s,hs⟩:=Av p (q:=[-r,d]) O7;have g:=Lu (w.mem O7) k;generalize cf [-r,d] ([-r,d].length-1)^k=L at hs g;have l:∀x,(L:Rat)*Zb p x=Zb s x*Zb [-r,d] x+Zb (Qb p [-r,d]) x:=λx=>by have:=Ew (a:=L) (c:=-1) (x:=p) (s:=s) (y:=[-r,d]) (z:=Qb p [-r,d]) (λt=>by rw [hs t];omega) x;push_cast at this;grind
 have o:=Po p (q:=[-r,d]) O7;have D:∀x,Zb (Qb p [-r,d]) x=0:=λx=>by
  have e:=l ((r:Rat)/d);rw [h,Zij]at e
  match hr:Qb p [-r,d],o with
  | [],_=>rfl
  | [c],_=>
   rw [hr,Qu]at e;rw [Qu];have:(d:Rat)*(r/d)=r:=O5;rw [this]at e;grind
 exact⟨L,s,g,λx=>by rw [l x,D x];grind⟩
theorem Ed.root(g:d≠0)(h:Ed [-r,d] p):Zb p ((r:Rat)/d)=0:=by
 obtain⟨k,s,l,h⟩:=h;have j:(d:Rat)≠0:=by exact_mod_cast g
 have n:(k:Rat)≠0:=by exact_mod_cast l
 have e:=h ((r:Rat)/d);rw [Zij]at e;have:(d:Rat)*(r/d)=r:=O5;rw [this]at e;grind
theorem Ycm(j:Tr xs)(n:xs≠[])(g:eok F (gA (Yw xs) (Yu (Yw xs))) (gB (Yw xs) (Yu (Yw xs))))(l:d≠0)(h:Zb xs ((r:Rat)/d)=0):Zb (sqf F xs) ((r:Rat)/d)=0:=by
 obtain⟨f1,f2,f3,f4,f5,f6⟩:=Pz (F:=F) j n g;have hs:Tr (Yw xs):=Ol (Yr j);have e:Tr (Yu (Yw xs)):=Md hs;have o:Ed [-r,d] (Yw xs):=(Yjx j l h).sim ((Qf j).symm.trans (Ik _).symm);have w:∀x:Rat,Zb (Yw xs) x=Zb (sqf F xs) x*Zb (Ny F (Yw xs) (Yu (Yw xs))) x:=λx=>by
  have:Zb (Yw xs) x=Zb (Qg (sqf F xs) (Ny F (Yw xs) (Yu (Yw xs)))) x:=by rw [<-f4]
  rw [this,Ya]
 have D:Ed (Ny F (Yw xs) (Yu (Yw xs))) (ld (Yw xs)):=((Zcx hs e g).2.ed).congr λx=>Ly _ x;exact(Yk3 w (Zez hs e) f5 D (Yks l) o).root l
def Away(s t:Rat)(f:Rat->Rat):Prop:=∃δ:Rat,0<δ/\∀x,s<=x->x<=t->δ<=f x\/f x<=-δ
theorem Away.mul{s:Rat}{f g h:Rat->Rat}(I:Away s t f)(M:Away s t g)(e:∀x,h x=f x*g x):Away s t h:=by
 obtain⟨a,n,o⟩:=I;obtain⟨b,w,D⟩:=M;refine⟨a*b,aT n w,λx j l=>?_⟩;rw [e x];rcases o x j l with G|G<;>rcases D x j l with H|H
 .left;have:=aG (a:=f x-a) (b:=g x) O5 O5;have:=aG (a:=a) (b:=g x-b) O5 O5;grind
 .right;have:=aG (a:=f x-a) (b:=- g x) O5 O5;have:=aG (a:=a) (b:=- g x-b) O5 O5;grind
 .right;have:=aG (a:=- f x-a) (b:=g x) O5 O5;have:=aG (a:=a) (b:=g x-b) O5 O5;grind
 .left;have:=aG (a:=- f x-a) (b:=- g x) O5 O5;have:=aG (a:=a) (b:=- g x-b) O5 O5;grind
theorem Away.lin{s:Rat}(j:0<d)(h:(r:Rat)<d*s\/(d:Rat)*t<r):Away s t (Zb [-r,d]):=by
 have l:(0:Rat)<(d:Rat):=by exact_mod_cast j
 rcases h with h|h
 .refine⟨d*s-r,O5,λx e g=> .inl ?_⟩;rw [Zij];have:=aG (a:=(d:Rat)) (b:=x-s) O5 O5;grind
 .refine⟨r-d*t,O5,λx e g=> .inr ?_⟩;rw [Zij];have:=aG (a:=(d:Rat)) (b:=t-x) O5 O5;grind
theorem Away.sq(s t:Rat):Away s t (Zb [1,0,1]):=⟨1,O4,λx _ _=>by
 left;show(1:Rat)<=((1:Int):Rat)+x*(((0:Int):Rat)+x*(((1:Int):Rat)+x*0));have:0<=x*x:=by
  rcases(show 0<=x\/x<0 by grind)with h|h
  .exact aG h h
  .have:=aG (a:=-x) (b:=-x) O5 O5;grind
 push_cast;grind⟩
theorem Away.one(s t:Rat):Away s t (Zb [1]):=⟨1,O4,λx _ _=>by left;rw [Qu];exact iH⟩
def cntP(P:Int->Prop)[DecidablePred P](m:Int):Nat->Int
 | 0=>0
 | n+1=>cntP P m n+(if P (m+n+1)then 1 else 0)
def eB(K C:Nat):Nat->Nat
 | 0=>0
 | n+1=>C+K*eB K C n
def eL(K C:Nat):Nat->Nat
 | 0=>0
 | n+1=>K*eL K C n+eB K C n
def eM(K C:Nat):Nat->Nat
 | 0=>0
 | n+1=>eL K C n+K*eM K C n
theorem Gh{a b:Nat}(h:a<=b):(a:Rat)<=(b:Rat):=by exact_mod_cast h
theorem Yho{C:Nat}(h:c.natAbs<=C):-(C:Rat)<=(c:Rat)/\(c:Rat)<=(C:Rat):=by
 have e:((-(C:Int):Int):Rat)<=(c:Rat):=by exact_mod_cast (show -(C:Int)<=c by omega)
 have g:(c:Rat)<=(((C:Nat):Int):Rat):=by exact_mod_cast (show c<=(C:Int) by omega)
 push_cast at e g;constructor<;>grind
def Zp4{C:Nat}(h:∀i,(cf (c::p) i).natAbs<=C):c.natAbs<=C/\∀i,(cf p i).natAbs<=C:=⟨h 0,λi=>h (i+1)⟩
theorem Zn5{K C:Nat} : ∀(n:Nat) (p:List Int),p.length<=n->(∀i,(cf p i).natAbs<=C)->∀x:Rat,-(K:Rat)<=x->x<=(K:Rat)->-(eB K C n:Rat)<=Zb p x/\Zb p x<=(eB K C n:Rat)
 | n,[],_,_,x,_,_=>by have h:(0:Rat)<=(eB K C n:Rat):=Gh (bG _);show -(eB K C n:Rat)<=0/\(0:Rat)<=(eB K C n:Rat);constructor<;>grind
 | 0,c::p,hl,_,_,_,_=>absurd hl O7
 | n+1,c::p,hl,hc,x,h1,h2=>by
  obtain⟨g,j⟩:=Zp4 hc;obtain⟨l,o⟩:=Zn5 n p (by simpa using hl) j x h1 h2;obtain⟨D,G⟩:=Yho g;have w:(0:Rat)<=(K:Rat):=Gh (bG _);obtain⟨f1,f2⟩:=Za8 h1 h2 l o w;have e:((eB K C (n+1):Nat):Rat)=(C:Rat)+(K:Rat)*(eB K C n:Rat):=by show((C+K*eB K C n:Nat):Rat)=_;push_cast;rfl
  rw [e,show Zb (c::p) x=(c:Rat)+x*Zb p x from rfl];constructor<;>grind
theorem Zn4{K C:Nat} : ∀(n:Nat) (p:List Int),p.length<=n->(∀i,(cf p i).natAbs<=C)->Lip (-(K:Rat)) (K:Rat) (eL K C n:Rat) (Zb p)
 | n,[],_,_,x,y,_,l,_=>by have h:(0:Rat)<=(eL K C n:Rat):=Gh (bG _);have:=aG (a:=(eL K C n:Rat)) (b:=y-x) h O5;show(0:Rat)-0<=_/\(0:Rat)-0<=_;constructor<;>grind
 | 0,c::p,hl,_,_,_,_,_,_=>absurd hl O7
 | n+1,c::p,hl,hc,x,y,h1,l,h2=>by
  obtain⟨w,j⟩:=Zp4 hc;obtain⟨D,G⟩:=Zn4 n p (by simpa using hl) j x y h1 l h2;obtain⟨H,I⟩:=Zn5 n p (by simpa using hl) j y O5 h2;have o:(0:Rat)<=(K:Rat):=Gh (bG _);obtain⟨f1,f2⟩:=Za8 (q:=x) (g:=Zb p x-Zb p y) (e:=(eL K C n:Rat)*(y-x)) h1 O5 O5 O5 o;have M:=aG (a:=(eB K C n:Rat)-Zb p y) (b:=y-x) O5 O5;have N:=aG (a:=(eB K C n:Rat)+Zb p y) (b:=y-x) O5 O5;have e:((eL K C (n+1):Nat):Rat)=(K:Rat)*(eL K C n:Rat)+(eB K C n:Rat):=by show((K*eL K C n+eB K C n:Nat):Rat)=_;push_cast;rfl
  rw [e,show Zb (c::p) x=(c:Rat)+x*Zb p x from rfl,show Zb (c::p) y=(c:Rat)+y*Zb p y from rfl];constructor<;>grind
theorem Ydm{K C:Nat} : ∀(n:Nat) (p:List Int),p.length<=n->(∀i,(cf p i).natAbs<=C)->Tay (-(K:Rat)) (K:Rat) (eM K C n:Rat) p
 | n,[],_,_,x,y,_,j,_=>by have h:(0:Rat)<=(eM K C n:Rat):=Gh (bG _);have G:=aG (a:=y-x) (b:=y-x) O5 O5;have:=aG h G;show -((eM K C n:Rat)*(y-x)*(y-x))<=(0:Rat)-0-(y-x)*0/\(0:Rat)-0-(y-x)*0<=(eM K C n:Rat)*(y-x)*(y-x);constructor<;>grind
 | 0,c::p,hl,_,_,_,_,_,_=>absurd hl O7
 | n+1,c::p,hl,hc,x,y,hs,j,ht=>by
  obtain⟨I,l⟩:=Zp4 hc;obtain⟨w,D⟩:=Ydm n p (by simpa using hl) l x y hs j ht;obtain⟨M,N⟩:=Zn4 n p (by simpa using hl) l x y hs j ht;have H:(0:Rat)<=(K:Rat):=Gh (bG _);have o:0<=y-x:=O5;obtain⟨f1,f2⟩:=Za8 (q:=x) (Q:=(K:Rat)) (g:=Zb p y-Zb p x-(y-x)*Zb (ld p) x) (e:=(eM K C n:Rat)*(y-x)*(y-x)) hs O5 w D H;have P:=aG (a:=y-x) (b:=(eL K C n:Rat)*(y-x)-(Zb p y-Zb p x)) o O5;have R:=aG (a:=y-x) (b:=(eL K C n:Rat)*(y-x)+(Zb p y-Zb p x)) o O5;have e:((eM K C (n+1):Nat):Rat)=(eL K C n:Rat)+(K:Rat)*(eM K C n:Rat):=by show((eL K C n+K*eM K C n:Nat):Rat)=_;push_cast;rfl
  rw [e,Zfb,show Zb (c::p) y=(c:Rat)+y*Zb p y from rfl,show Zb (c::p) x=(c:Rat)+x*Zb p x from rfl];constructor<;>grind
theorem Zvh{A:Nat}(D:Tr a)(hb:Tr b)(la:2<=a.length)(lb:b.length+1=a.length)(hA:0<A)(na:∀i,(cf a i).natAbs<=A)(nb:∀i,(cf b i).natAbs<=A)(hc:∀q,Tr q->Ed q a->Ed q b->q.length<=1) :
  ∃(U V:List Int) (c:Int),c≠0/\U.length+2=a.length/\V.length+1=a.length/\(∀i,(cf U i).natAbs<=(2*(2*a.length-3)*A)^(2*a.length-4))/\(∀i,(cf V i).natAbs<=(2*(2*a.length-3)*A)^(2*a.length-4))/\
   ∀x,(c:Rat)=Zb U x*Zb a x+Zb V x*Zb b x:=by
 obtain⟨U,V,lU,lV,l,G,H,hz⟩:=Zhk (a:=a) (b:=b) (p:=a.length-2) (q:=a.length-1) (lo:=1) hA na nb O1 O1 O1;have n:¬(tzl U=[]/\tzl V=[]):=λ⟨h1,h2⟩=>by
  rcases l with⟨i,hi⟩|⟨i,hi⟩
  .exact hi ((Lh U).1 h1 i)
  .exact hi ((Lh V).1 h2 i)
 clear l;rw [show a.length-2+(a.length-1)=2*a.length-3 by omega]at G H;rw [show 2*a.length-3-1=2*a.length-4 by omega]at G H;have j:a≠[]:=λe=>by rw [e]at la;simp at la
 have W:∀i,cf (Nr (lmul U a) (lmul V b)) i=(ps U*ps a).c i+(ps V*ps b).c i:=λi=>by rw [Nu,Fs,Fs,PS.mul_c,PS.mul_c];rfl
 have S:∀t,Zb (Nr (lmul U a) (lmul V b)) t=Zb U t*Zb a t+Zb V t*Zb b t:=λt=>by rw [Yx,Zs,Zs]
 generalize Nr (lmul U a) (lmul V b)=R at W S;have hR:∀t,Zb R t=(cf R 0:Rat):=λt=>by
  rw [<-Qu (cf R 0) t];refine Oa t _ _ λi=>?_
  match i with
  | 0=>rfl
  | i+1=>rw [W,hz (i+1) O1,Yk O7]
 refine⟨U,V,cf R 0,λh0=>?_,O1,O1,G,H,λx=>by rw [<-S,hR]⟩;have o:∀t,Zb U t*Zb a t+Zb V t*Zb b t=0:=λt=>by rw [<-S,hR,h0];rfl
 obtain⟨g,P,Q,h,Y,g3,I⟩:=Zlo _ a b D hb (aI _);have hl:=hc g h Y g3;have hg:=(Y.len h D j).1;have w:tzl V=[]:=by
  refine bE λw=>?_
  match g,hg,hl,h,I with
  | [c],_,_,h,I=>
   have N:c≠0:=h.mem O7;have hd:Ed a (tzl V):=⟨c,Nr (lmul P V) ((lmul Q U).map λz=>(-1)*z),N,λx=>by have Z:=I x;rw [Qu]at Z;rw [Np,Yx,Zh,Zs,Zs,Z];have:=o x;have e:Zb V x*Zb b x=- (Zb U x*Zb a x):=O5;have:(Zb P x*Zb a x+Zb Q x*Zb b x)*Zb V x=Zb P x*Zb V x*Zb a x+Zb Q x*(Zb V x*Zb b x):=O5;rw [this,e];push_cast;grind⟩
   have:=(hd.len D (Qh V) w).2;have:=Iu V;omega
  | c::d::r,_,h9,_,_=>simp at h9
 have M:tzl U=[]:=by
  refine bE λM=>?_;have:∀t,Zb a t=0:=Fl (v:=U) M λt=>by have:=o t;rw [Bj w]at this;grind
  exact D.mem j (Zn7 this _)
 exact n ⟨M,w⟩
def Zwr(K A n e:Nat):Bool:=
 let X:=(2*(2*n-3)*A)^(2*n-4);let W:=eB K X (n-1)
 Nat.ble (2*(2*W+1)*(2*eL K A n)) (2^e) && Nat.ble (2*(2*W+1)*eM K A n) (2^e)
theorem big_or  {A n e:Nat} (hK:0<K) (hA:0<A) (ha:Tr a) (hb:Tr b) (hn:a.length=n) (h2:2<=n) (lb:b.length+1=a.length) (na:∀i,(cf a i).natAbs<=A) (nb:∀i,(cf b i).natAbs<=A) (hc:∀q,Tr q->Ed q a->Ed q b->q.length<=1)
  (x:Rat) (G:-(K:Rat)<=x) (H:x<=(K:Rat)):Big (1/((2*eB K ((2*(2*n-3)*A)^(2*n-4)) (n-1)+1:Nat):Rat)) x (Zb a)\/Big (1/((2*eB K ((2*(2*n-3)*A)^(2*n-4)) (n-1)+1:Nat):Rat)) x (Zb b):=by
 obtain⟨U,V,c,c0,lU,lV,w,D,l⟩:=Zvh ha hb O1 lb hA na nb hc;rw [hn]at w D;generalize (2*(2*n-3)*A)^(2*n-4)=X at *;obtain⟨u1,u2⟩:=Zn5 (n-1) U O1 w x G H;obtain⟨v1,v2⟩:=Zn5 (n-1) V O1 D x G H;generalize eB K X (n-1)=W at *;have M:(0:Rat)<=(W:Rat):=Gh (bG _);have I:(0:Rat)<((2*W+1:Nat):Rat):=by
   have:(((0:Nat)):Rat)<((2*W+1:Nat):Rat):=by exact_mod_cast kK _
   exact this
 have g:((2*W+1:Nat):Rat)=2*(W:Rat)+1:=by push_cast;rfl
 generalize N:1/((2*W+1:Nat):Rat)=ε;have o:ε*(2*(W:Rat)+1)=1:=by rw [<-N,g];rw [g]at I;grind
 have a0:0<=ε:=by rw [<-N];have:=gG.2 I;rw [iI];grind
 by_cases P:Big ε x (Zb a)
 .exact .inl P
 .by_cases Q:Big ε x (Zb b)
  .exact .inr Q
  .exfalso;obtain⟨R,S⟩:=Zc0 P;obtain⟨Y,Z⟩:=Zc0 Q;obtain⟨q1,q2⟩:=Za8 u1 u2 R S M;obtain⟨r1,r2⟩:=Za8 v1 v2 Y Z M;have h4:=l x;have j:(c:Rat)<=-1\/1<=(c:Rat):=by
    rcases nW c0 with h|h
    .left;have:((c:Int):Rat)<=((-1:Int):Rat):=by exact_mod_cast (show c<=-1 by omega)
     rwa [show(((-1:Int)):Rat)=-1 from rfl]at this
    .right;have:1<=c:=O1;exact_mod_cast this
   have a3:0<ε:=by
    rcases(show ε=0\/0<ε by grind)with h|h
    .rw [h]at o;grind
    .exact h
   rcases j with j|j<;>grind
theorem two_pow_pos(e:Nat):(0:Rat)<((2^e:Nat):Rat):=by have:0<2^e:=cD O4;exact_mod_cast this
theorem Ymc  {A n e:Nat} (hx:Tr xs) (h0:xs≠[]) (hC:Bg F xs) (hK:0<K) (hA:0<A) (hn:(sqf F xs).length=n) (h2:2<=n) (na:∀i,(cf (sqf F xs) i).natAbs<=A) (nb:∀i,(cf (Yu (sqf F xs)) i).natAbs<=A) (hs:Zwr K A n e=true)
  {u v:Rat} (h1:-(K:Rat)<=u) (Z:u<=v) (h3:v<=(K:Rat)) (hh:v-u<=1/((2^e:Nat):Rat)) :
  vat ((chn F xs).map Zb) u-vat ((chn F xs).map Zb) v=crs (Zb (sqf F xs)) u v:=by
 have I:=hC.1.2.2.1;obtain⟨f1,f2,f3,f4,f5,f6⟩:=Pz (F:=F) hx h0 I;have g:=Md f2;have H:=Nl (sqf F xs);have hd:Yu (sqf F xs)≠[]:=λe=>by rw [e]at H;simp at H;omega
 have Y:1<=Ys (Yu (sqf F xs)):=by have h1:=Cx g hd;have h2:=Oq (Yu (sqf F xs));omega
 have a2:(1:Rat)<=(Ys (Yu (sqf F xs)):Rat):=by exact_mod_cast Y
 have N:∀i,(cf (Zu (Yu (sqf F xs))) i).natAbs<=A:=λi=>by have h5:=Hk (Yu (sqf F xs)) i;have h6:=nb i;rw [<-h5,cF]at h6;have:(cf (Zu (Yu (sqf F xs))) i).natAbs*1<=(cf (Zu (Yu (sqf F xs))) i).natAbs*(Ys (Yu (sqf F xs))).natAbs:=bI _ O1;omega
 have o:∀q,Tr q->Ed q (sqf F xs)->Ed q (Zu (Yu (sqf F xs)))->q.length<=1:=λq hq a b=>Ze2 hx h0 I hq a (b.sim (Qf g));have V:(Zu (Yu (sqf F xs))).length+1=(sqf F xs).length:=by rw [Zv];omega
 have j:=big_or (e:=e) hK hA f2 (Yr g) hn h2 V na N o;unfold Zwr at hs;simp only [aO,Nat.ble_eq]at hs;obtain⟨s1,s2⟩:=hs;generalize (2*(2*n-3)*A)^(2*n-4)=X at *;generalize eB K X (n-1)=W at *;have hD:(0:Rat)<((2*W+1:Nat):Rat):=by
   have:(((0:Nat)):Rat)<((2*W+1:Nat):Rat):=by exact_mod_cast kK _
   exact this
 have hP:=two_pow_pos e;have a0:=Gh s1;have a1:=Gh s2;have c1:((2*(2*W+1)*(2*eL K A n):Nat):Rat)=2*((2*W+1:Nat):Rat)*(2*(eL K A n:Rat)):=by push_cast;rfl
 have c2:((2*(2*W+1)*eM K A n:Nat):Rat)=2*((2*W+1:Nat):Rat)*(eM K A n:Rat):=by push_cast;rfl
 rw [c1]at a0;rw [c2]at a1;have hi:=gG.2 hD;have S:=gG.2 hP;have w:((2*W+1:Nat):Rat)*((2*W+1:Nat):Rat)⁻¹=1:=O5;have G:((2^e:Nat):Rat)*((2^e:Nat):Rat)⁻¹=1:=O5;rw [iI,oO]at hh;simp only [iI,oO]at j;generalize ((2*W+1:Nat):Rat)=D at *;generalize ((2^e:Nat):Rat)=P at *;have l:(0:Rat)<=(eL K A n:Rat):=Gh (bG _);have R:(0:Rat)<=(eM K A n:Rat):=Gh (bG _);refine Zhi (s:=-(K:Rat)) (t:=(K:Rat)) (κ:=(Ys (Yu (sqf F xs)):Rat)) (ε:=D⁻¹) (L:=(eL K A n:Rat)) (L':=(eL K A n:Rat)) (M:=(eM K A n:Rat)) (h:=P⁻¹) f2 (Yr g) hC.2.2 O5 (λx=>?_) hi j l (Zn4 n _ O1 na) l (Zn4 n _ O1 N) R (Ydm n _ O1 na) S ?_ ?_ h1 Z h3 hh
 .rw [<-Ly,<-Zh];exact Oa x _ _ λi=>by rw [Xs,cY,Hk]
 .-- P⁻¹ * (2 L) ≤ D⁻¹ / 2
  have t1:=aG (a:=P⁻¹*D⁻¹) (b:=P-2*D*(2*(eL K A n:Rat))) (by have:=aT S hi;grind) O5;have Q:P⁻¹*D⁻¹*(P-2*D*(2*(eL K A n:Rat)))=D⁻¹*(P*P⁻¹)-2*P⁻¹*(D*D⁻¹)*(2*(eL K A n:Rat)):=O5;rw [Q,w,G]at t1;grind
 .have t1:=aG (a:=P⁻¹*D⁻¹) (b:=P-2*D*(eM K A n:Rat)) (by have:=aT S hi;grind) O5;have Q:P⁻¹*D⁻¹*(P-2*D*(eM K A n:Rat))=D⁻¹*(P*P⁻¹)-2*P⁻¹*(D*D⁻¹)*(eM K A n:Rat):=O5;rw [Q,w,G]at t1;have t2:=aG (a:=(Ys (Yu (sqf F xs)):Rat)-1) (b:=D⁻¹) O5 O5;grind
theorem Zlh(V:Tr xs)(N:xs≠[])(R:Bg F xs){s:Rat}(w:s<=t):vat ((chn F xs).map Zb) t<=vat ((chn F xs).map Zb) s:=by
 obtain⟨h,P,G⟩:=Zlg V N R s t;have I:∀f u v,0<=crs f u v:=λf u v=>by unfold crs;split<;>decide
 have D:∀n:Nat,∀y,s<=y->y<=t->y-s<=(n:Rat)*h->vat ((chn F xs).map Zb) y<=vat ((chn F xs).map Zb) s:=λn=>by
  induction n with
  | zero=>
    intro y e g j;have:y=s:=by simp at j;grind
    rw [this];exact eO _
  | succ n M=>
   intro y e g j;have H:((n+1:Nat):Rat)*h=(n:Rat)*h+h:=by push_cast;grind
   rcases(show y-s<=(n:Rat)*h\/(n:Rat)*h<y-s by grind)with l|l
   .exact M y e g l
   .have Q:(0:Rat)<=(n:Rat)*h:=aG (by exact_mod_cast bG n) O5;rcases(show s<=y-h\/y-h<s by grind)with o|o
    .have a:=M (y-h) o O5 O5;have b:=G (y-h) y o O5 g O5;have c:=I (Zb (sqf F xs)) (y-h) y;omega
    .have b:=G s y O5 e g O5;have c:=I (Zb (sqf F xs)) s y;omega
 have e:∃n:Nat,t-s<=(n:Rat)*h:=by
  have g:0<h⁻¹:=gG.2 P;refine⟨((t-s)*h⁻¹).ceil.toNat,?_⟩;have j:=@oN ((t-s)*h⁻¹);have H:((((t-s)*h⁻¹).ceil:Int):Rat)<=((((t-s)*h⁻¹).ceil.toNat:Nat):Rat):=by have:((t-s)*h⁻¹).ceil<=((((t-s)*h⁻¹).ceil.toNat:Nat):Int):=mA _;exact_mod_cast this
  have l:=dI (mN j H) (show 0<=h by grind);have Q:(t-s)*h⁻¹*h=t-s:=O5;grind
 obtain⟨n,S⟩:=e;exact D n t w O5 S
def qv(z:R2):Rat:=(z.1:Rat)/(z.2:Rat)
theorem Zs7{x y X Y g:Nat}(j:g=Nat.gcd x y)(R:0<y)(S:0<Y)(h:x*Y=X*y):y/g∣Y/\x/g<=X:=by
 have l:0<g:=by rw [j];exact Nat.gcd_pos_of_pos_right _ R
 have Q:Nat.Coprime (x/g) (y/g):=by rw [j];exact Nat.coprime_div_gcd_div_gcd (by rw [<-j];exact l)
 have D:x/g*g=x:=nX (by rw [j];exact mJ _ _);have n:y/g*g=y:=nX (by rw [j];exact oH _ _);have o:x/g*Y=X*(y/g):=by refine lN l ?_;have M:x/g*Y*g=x/g*g*Y:=O5;have N:X*(y/g)*g=X*(y/g*g):=O5;rw [M,N,D,n,h]
 have H:y/g∣Y:=Q.symm.dvd_of_dvd_mul_left (by rw [o];exact Nat.dvd_mul_left _ _);refine⟨H,?_⟩;obtain⟨k,I⟩:=H;have w:0<k:=nY λe=>by rw [e,iD]at I;omega
 have G:0<y/g:=nY λe=>by rw [e,gM]at n;omega
 rw [I]at o;have P:x/g*k=X:=by refine lN G ?_;have:x/g*k*(y/g)=x/g*(y/g*k):=O5;rw [this,o]
 rw [<-P];exact dU _ w
theorem Zox{x y X Y:Int}(P:0<y)(R:0<Y)(h:x*Y=X*y)(M:bl X.natAbs<=B)(e:bl Y.natAbs<=B)(Q:B<=65536) :
  ¬Kc x y/\Fj x y∣Y/\0<Fj x y/\bl (Eh x y).natAbs<=B/\bl (Fj x y).natAbs<=B/\Eh x y*y=x*Fj x y:=by
 have S:Lb x y=(Nat.gcd x.natAbs y.natAbs:Int):=by rw [Yku O1];rfl
 have N:x.natAbs*Y.natAbs=X.natAbs*y.natAbs:=by rw [<-cF,<-cF,h]
 obtain⟨n,H⟩:=Zs7 (g:=Nat.gcd x.natAbs y.natAbs) rfl (by omega:0<y.natAbs) (by omega:0<Y.natAbs) N;have o:(y/Lb x y).natAbs=y.natAbs/Nat.gcd x.natAbs y.natAbs:=by rw [mO (Zkn x y),Zbx]
 have I:(x/Lb x y).natAbs=x.natAbs/Nat.gcd x.natAbs y.natAbs:=by rw [mO (Zsb x y),Zbx]
 have D:bl (y/Lb x y).natAbs<=B:=aB (Pu (by rw [o];exact mC O1 n)) e;have G:bl (x/Lb x y).natAbs<=B:=aB (Pu (by rw [I];exact H)) M;have j:¬Kc x y:=λh=>by unfold Kc at h;omega
 obtain⟨w,l,-⟩:=Zeb j;refine⟨j,?_,Zuo j P,by rw [w];exact G,by rw [l];exact D,?_⟩
 .rw [l];refine fV.1 ?_;rw [o];exact n
 .rw [w,l];exact Ye8 x y
structure En (K Q:Nat) (d:Nat) (z:R2):Prop where
 pos:0<z.2
 dv:z.2∣((Q*2^d:Nat):Int)
 lo:-(K:Rat)<=qv z
 hi:qv z<=(K:Rat)
theorem En.up{Q d:Nat}{z:R2}(h:En K Q d z):En K Q (d+1) z:=by
 obtain⟨e,g,j,l⟩:=h;refine⟨e,?_,j,l⟩;have:((Q*2^(d+1):Nat):Int)=((Q*2^d:Nat):Int)*2:=by rw [bX];push_cast;grind
 rw [this];exact fO g (jF _ _)
theorem canc{N p s Y X D:Int}(l:p≠0)(h:N*p=s*D)(j:s*Y=X*p):N*Y=X*D:=by refine Int.eq_of_mul_eq_mul_right l ?_;have e:N*Y*p=(N*p)*Y:=O5;have g:X*D*p=(X*p)*D:=O5;rw [e,g,h,<-j];grind
theorem Hj{z:Int}(h:0<z):(0:Rat)<(z:Rat):=by exact_mod_cast h
def Zci{n:Nat}(h:n<2^m):bl n<=m:=(Xz m n).2 h
theorem mid_en{Q d:Nat}{a b:R2}(ha:En K Q d a)(hb:En K Q d b)(hQ:0<Q)(a5:Q*2^(d+1)<2^B)(a6:2*K*(Q*2^d)<2^B)(hB:B<=65536) :
  Zdp a b/\En K Q (d+1) (Pf a b)/\qv (Pf a b)=(qv a+qv b)/2/\bl (Pf a b).1.natAbs<=B/\bl (Pf a b).2.natAbs<=B:=by
 obtain⟨pa,⟨g,da⟩,la,ua⟩:=ha;obtain⟨pb,⟨h,db⟩,lb,ub⟩:=hb;generalize S:((Q*2^d:Nat):Int)=Y at *;have a0:0<Q*2^d:=gD hQ (cD O4);have o:0<Y:=by rw [<-S];exact_mod_cast a0
 have a8:=Hj pa;have a9:=Hj pb;have rY:=Hj o;have N:0<a.2*b.2:=gO pa pb;have j:(a.1*b.2+b.1*a.2)*Y=(a.1*g+b.1*h)*(a.2*b.2):=by have V:(a.1*g+b.1*h)*(a.2*b.2)=a.1*b.2*(a.2*g)+b.1*a.2*(b.2*h):=O5;rw [V,<-da,<-db];grind
 have a2:(a.1:Rat)*g=qv a*Y:=by
  unfold qv;have:(Y:Rat)=(a.2:Rat)*g:=by rw [da];push_cast;rfl
  rw [this];grind
 have a3:(b.1:Rat)*h=qv b*Y:=by
  unfold qv;have:(Y:Rat)=(b.2:Rat)*h:=by rw [db];push_cast;rfl
  rw [this];grind
 have hX:((a.1*g+b.1*h:Int):Rat)=(qv a+qv b)*Y:=by push_cast;rw [a2,a3];grind
 have a7:(a.1*g+b.1*h).natAbs<=2*K*(Q*2^d):=by
  have l:((2*K*(Q*2^d):Nat):Rat)=2*(K:Rat)*(Y:Rat):=by rw [<-S];push_cast;grind
  have t1:=aG (a:=2*(K:Rat)-(qv a+qv b)) (b:=(Y:Rat)) O5 O5;have t2:=aG (a:=2*(K:Rat)+(qv a+qv b)) (b:=(Y:Rat)) O5 O5;have u1:((a.1*g+b.1*h:Int):Rat)<=(((2*K*(Q*2^d):Nat):Int):Rat):=by rw [hX];push_cast at l ⊢;grind
  have u2:((-((2*K*(Q*2^d):Nat):Int):Int):Rat)<=((a.1*g+b.1*h:Int):Rat):=by rw [hX];push_cast at l ⊢;grind
  have v1:a.1*g+b.1*h<=((2*K*(Q*2^d):Nat):Int):=by exact_mod_cast u1
  have v2:-((2*K*(Q*2^d):Nat):Int)<=a.1*g+b.1*h:=by exact_mod_cast u2
  omega
 have w:Y.natAbs=Q*2^d:=by rw [<-S];rfl
 have Z:Q*2^(d+1)=2*(Q*2^d):=by rw [bX];grind
 have a1:bl Y.natAbs<=B:=Zci (by rw [w];omega);have D:bl (a.1*g+b.1*h).natAbs<=B:=Zci O1;obtain⟨f1,f2,f3,f4,f5,f6⟩:=Zox N o j D a1 hB;have a4:=canc (Int.ne_of_gt N) f6 j;have G:bl (2*Y).natAbs<=B:=Zci (by rw [cF,w];show 2*(Q*2^d)<_;omega);have P:Eh (a.1*b.2+b.1*a.2) (a.2*b.2)*1*(2*Y)=(a.1*g+b.1*h)*(Fj (a.1*b.2+b.1*a.2) (a.2*b.2)*2):=by rw [iF];have V:Eh (a.1*b.2+b.1*a.2) (a.2*b.2)*(2*Y)=2*(Eh (a.1*b.2+b.1*a.2) (a.2*b.2)*Y):=O5;rw [V,a4];grind
 have M:0<Fj (a.1*b.2+b.1*a.2) (a.2*b.2)*2:=O1;obtain⟨g1,g2,W,g4,g5,g6⟩:=Zox M (by omega:0<2*Y) P D G hB;have R:=canc (Int.ne_of_gt M) g6 P;have H:(Pf a b).1=Eh (Eh (a.1*b.2+b.1*a.2) (a.2*b.2)*1) (Fj (a.1*b.2+b.1*a.2) (a.2*b.2)*2):=rfl;have I:(Pf a b).2=Fj (Eh (a.1*b.2+b.1*a.2) (a.2*b.2)*1) (Fj (a.1*b.2+b.1*a.2) (a.2*b.2)*2):=rfl;rw [<-H,<-I]at R;rw [<-I]at g2 W g5;rw [<-H]at g4;have hq:qv (Pf a b)=(qv a+qv b)/2:=by
  have h1:(((Pf a b).1:Int):Rat)*(2*(Y:Rat))=((a.1*g+b.1*h:Int):Rat)*(((Pf a b).2:Int):Rat):=by
   have:(((Pf a b).1*(2*Y):Int):Rat)=(((a.1*g+b.1*h)*(Pf a b).2:Int):Rat):=by rw [R]
   push_cast at this ⊢;grind
  rw [hX]at h1;have rd:=Hj W;unfold qv at *;generalize (((Pf a b).1:Int):Rat)=n at *;generalize (((Pf a b).2:Int):Rat)=m at *;generalize (a.1:Rat)/(a.2:Rat)=p at *;generalize (b.1:Rat)/(b.2:Rat)=q at *;generalize (Y:Rat)=y at *;grind
 refine⟨⟨f1,g1⟩,⟨W,?_,by rw [hq];grind,by rw [hq];grind⟩,hq,g4,g5⟩;have e:((Q*2^(d+1):Nat):Int)=2*Y:=by rw [Z,<-S];push_cast;rfl
 rw [e];exact g2
end Go.Sky

